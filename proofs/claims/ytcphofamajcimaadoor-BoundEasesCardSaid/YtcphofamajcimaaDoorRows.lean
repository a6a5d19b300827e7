/-
  NARROWER THAN 'FOR EVERY INPUT', by the rows' own cells (each row's printed sentence says how): BoundEases: laid · BoundStill: laid.
  DERIVED. THE GIVEN ROWS OF THIS SEAT. 2 by the template 'for every input the law returns true; each argument reads behind the call as it read before'; 0 by the template 'total and deterministic' (their statements: YtcphofamajcimaaDoorTotals.lean).
  GIVEN WITH THE SEED: the statements are not yours to turn. If you find one false, say at which input.
  Laid BY PROGRAM, IN A SANDBOX (cutbox-rows.mjs): the forced cells as the released guide's own fill.sh prints them over the translation a323a512b51efe84… (all of the seat's roots in one cut). By AI agents, Wed Nov 11 2026. No macro, syntax, notation, axiom, sorry.
-/
import Derived.Test.YtcphofamajcimaaDoorChecked
import GoSem.Claim
import GoSem.ClaimJoined
import GoSem.ClaimMapViews
import Derived.JoinedTies
import Derived.KernelRfl
namespace Go.Proofs.YtcphofamajcimaaDoor
/- THE CELL 'sum', in the pinned program and in every row, IS THE sha256 OF THE DUMP (.gsa) THAT YtcphofamajcimaaDoorProg.lean LOADS. Nothing in Lean hashes anything: it is a label: what it is worth is what the hold of that sum in a sandbox is worth. -/
noncomputable def Tryd.pinned : Pinned := { name := "ytcphofamajcimaadoor", sum := "a323a512b51efe842b6b22fab32e4d10ac46057a48736d4f3e3fb6d737a72b22", checked := Tryd.checked }
namespace Rows
def none {H : Type} : Left H := { results := [], args := [] }

/- WHAT THE LISTED PACKAGE-LEVEL VARIABLES READ AS WHEN THE CALL BEGINS. Each datum BY PROGRAM (the guide's laid-datum.mjs) off the statement by which the dump's own 'gosem.cut.vars' lays the variable. In a bare row this is a premise. The card (YtcphofamajcimaaDoorCards.lean) ties it to the program's text. -/
def laid_packhorse_wire_heads {H : Type} : DataW H := .agg [.lit (.int .u8 176), .lit (.int .u8 177), .lit (.int .u8 178), .lit (.int .u8 180), .lit (.int .u8 181), .lit (.int .u8 182)]
def laid_packhorse_script_uses {H : Type} : DataW H := .agg [.agg [.lit (.string []), .lit (.bool false), .lit (.bool false), .lit (.int .i64 0), .lit (.int .i64 0), .lit (.int .i64 0), .lit (.int .i64 0), .lit (.bool false)], .agg [.lit (.string [115, 117, 98, 109, 105, 116]), .lit (.bool true), .lit (.bool false), .lit (.int .i64 0), .lit (.int .i64 (-1)), .lit (.int .i64 (-1)), .lit (.int .i64 (-1)), .lit (.bool true)], .agg [.lit (.string [111, 112, 101, 110]), .lit (.bool true), .lit (.bool true), .lit (.int .i64 0), .lit (.int .i64 (-1)), .lit (.int .i64 (-1)), .lit (.int .i64 (-1)), .lit (.bool false)], .agg [.lit (.string [99, 108, 111, 115, 101]), .lit (.bool true), .lit (.bool true), .lit (.int .i64 0), .lit (.int .i64 (-1)), .lit (.int .i64 (-1)), .lit (.int .i64 (-1)), .lit (.bool false)], .agg [.lit (.string [116, 105, 99, 107]), .lit (.bool false), .lit (.bool false), .lit (.int .i64 1), .lit (.int .i64 1000), .lit (.int .i64 (-1)), .lit (.int .i64 (-1)), .lit (.bool false)], .agg [.lit (.string [100, 101, 108, 105, 118, 101, 114]), .lit (.bool true), .lit (.bool true), .lit (.int .i64 0), .lit (.int .i64 63), .lit (.int .i64 (-1)), .lit (.int .i64 (-1)), .lit (.bool false)], .agg [.lit (.string [108, 111, 115, 101]), .lit (.bool true), .lit (.bool true), .lit (.int .i64 0), .lit (.int .i64 63), .lit (.int .i64 (-1)), .lit (.int .i64 (-1)), .lit (.bool false)], .agg [.lit (.string [100, 111, 117, 98, 108, 101]), .lit (.bool true), .lit (.bool true), .lit (.int .i64 0), .lit (.int .i64 63), .lit (.int .i64 (-1)), .lit (.int .i64 (-1)), .lit (.bool false)], .agg [.lit (.string [115, 119, 97, 112]), .lit (.bool true), .lit (.bool true), .lit (.int .i64 0), .lit (.int .i64 63), .lit (.int .i64 63), .lit (.int .i64 (-1)), .lit (.bool false)], .agg [.lit (.string [115, 112, 111, 105, 108]), .lit (.bool true), .lit (.bool true), .lit (.int .i64 0), .lit (.int .i64 63), .lit (.int .i64 1199), .lit (.int .i64 255), .lit (.bool false)], .agg [.lit (.string [99, 117, 116]), .lit (.bool true), .lit (.bool true), .lit (.int .i64 0), .lit (.int .i64 63), .lit (.int .i64 1199), .lit (.int .i64 (-1)), .lit (.bool false)], .agg [.lit (.string [99, 114, 97, 115, 104]), .lit (.bool true), .lit (.bool false), .lit (.int .i64 0), .lit (.int .i64 (-1)), .lit (.int .i64 (-1)), .lit (.int .i64 (-1)), .lit (.bool false)], .agg [.lit (.string [116, 114, 105, 112]), .lit (.bool true), .lit (.bool false), .lit (.int .i64 0), .lit (.int .i64 1000), .lit (.int .i64 262144), .lit (.int .i64 (-1)), .lit (.bool false)], .agg [.lit (.string [114, 101, 115, 116, 97, 114, 116]), .lit (.bool true), .lit (.bool false), .lit (.int .i64 0), .lit (.int .i64 (-1)), .lit (.int .i64 (-1)), .lit (.int .i64 (-1)), .lit (.bool false)], .agg [.lit (.string [100, 114, 97, 105, 110]), .lit (.bool false), .lit (.bool false), .lit (.int .i64 1), .lit (.int .i64 1000), .lit (.int .i64 (-1)), .lit (.int .i64 (-1)), .lit (.bool false)]]

/-- 'packhorselaw42.BoundEases': WHATEVER THE INPUT: true; the input reads as it did. -/
def boundEasesSpec : ChangeSpec := { name := "boundEases", fn := fun _ => fun
  | [d1, d2, d3] => { results := [.lit (.bool true)], args := [d1, d2, d3] }
  | _ => none }
def boundEasesRow : OpenClaim := { program := "ytcphofamajcimaadoor", sum := "a323a512b51efe842b6b22fab32e4d10ac46057a48736d4f3e3fb6d737a72b22", func := "packhorse/packhorselaw42.BoundEases", spec := "boundEases", unfollowed := true, recurses := true, named := ["packhorse/script.uses", "packhorse/wire.heads"], plainKeys := false, apart := false, laid := [("packhorse/wire.heads", laid_packhorse_wire_heads), ("packhorse/script.uses", laid_packhorse_script_uses)] }
def BoundEasesSaid : Prop := boundEasesRow.holds Tryd.pinned (OpenSpec.ofChange boundEasesSpec)

/-- ITS FALSE NEIGHBOUR: 'it returns false'. Refute it at one input. -/
def boundEasesWrong : ChangeSpec := { name := "boundEases", fn := fun _ => fun
  | [d1, d2, d3] => { results := [.lit (.bool false)], args := [d1, d2, d3] }
  | _ => none }
def BoundEasesWrongFalsely : Prop := boundEasesRow.holds Tryd.pinned (OpenSpec.ofChange boundEasesWrong)

/-- 'packhorselaw42.BoundStill': WHATEVER THE INPUT: true; the input reads as it did. -/
def boundStillSpec : ChangeSpec := { name := "boundStill", fn := fun _ => fun
  | [d] => { results := [.lit (.bool true)], args := [d] }
  | _ => none }
def boundStillRow : OpenClaim := { program := "ytcphofamajcimaadoor", sum := "a323a512b51efe842b6b22fab32e4d10ac46057a48736d4f3e3fb6d737a72b22", func := "packhorse/packhorselaw42.BoundStill", spec := "boundStill", unfollowed := true, recurses := true, named := ["packhorse/script.uses", "packhorse/wire.heads"], plainKeys := false, apart := false, laid := [("packhorse/wire.heads", laid_packhorse_wire_heads), ("packhorse/script.uses", laid_packhorse_script_uses)] }
def BoundStillSaid : Prop := boundStillRow.holds Tryd.pinned (OpenSpec.ofChange boundStillSpec)

/-- ITS FALSE NEIGHBOUR: 'it returns false'. Refute it at one input. -/
def boundStillWrong : ChangeSpec := { name := "boundStill", fn := fun _ => fun
  | [d] => { results := [.lit (.bool false)], args := [d] }
  | _ => none }
def BoundStillWrongFalsely : Prop := boundStillRow.holds Tryd.pinned (OpenSpec.ofChange boundStillWrong)

/- THE SECOND FORM. 'bulk': how many values and letters a reading holds, each counted each time it is reached (what is shared counts as often as it is met; a slice's spare places count too). A statement '..UptoSaid' is the law's where the arguments, and the package variables that the reading takes, are together of bulk at most 1048576: NARROWER than '..Said'. Prove '..Said' where nothing that the law and all that it calls make is longer than what came in: it says more and counts as full. Else prove '..UptoSaid'. A law counts once. -/
mutual
def uptoBulk {H : Type} : DataW H → Nat
  | .lit (.string bytes) => bytes.length + 1
  | .lit _ => 1
  | .nil => 1
  | .ptr d => uptoBulk d + 1
  | .slice elems spare => uptoBulkAll elems + uptoBulkAll spare + 1
  | .agg parts => uptoBulkAll parts + 1
  | .iface _ d => uptoBulk d + 1
  | .map entries => uptoBulkEntries entries + 1
  | .held _ => 1
def uptoBulkAll {H : Type} : List (DataW H) → Nat
  | [] => 0
  | d :: r => uptoBulk d + uptoBulkAll r
def uptoBulkEntries {H : Type} : List (Lit × DataW H) → Nat
  | [] => 0
  | x :: r => uptoBulkEntry x + uptoBulkEntries r
def uptoBulkEntry {H : Type} : Lit × DataW H → Nat
  | (.string bytes, d) => bytes.length + uptoBulk d + 1
  | (_, d) => uptoBulk d + 1
 end
def uptoSmall : (H : Type) → List (DataW H) → Bool := fun _ ds => decide (uptoBulkAll ds ≤ 1048576)
def OpenSpec.upto (s : _root_.Go.ChangeSpec) : _root_.Go.OpenSpec := { _root_.Go.OpenSpec.ofChange s with cond := some uptoSmall }

/-- 'packhorselaw42.BoundEases', WHERE WHAT IT READS IS OF BULK AT MOST 1048576: true; the input reads as it did. -/
def boundEasesUptoRow : OpenClaim := { program := "ytcphofamajcimaadoor", sum := "a323a512b51efe842b6b22fab32e4d10ac46057a48736d4f3e3fb6d737a72b22", func := "packhorse/packhorselaw42.BoundEases", spec := "boundEases", unfollowed := true, recurses := true, named := ["packhorse/script.uses", "packhorse/wire.heads"], plainKeys := false, apart := false, laid := [("packhorse/wire.heads", laid_packhorse_wire_heads), ("packhorse/script.uses", laid_packhorse_script_uses)], narrowed := true }
def BoundEasesUptoSaid : Prop := boundEasesUptoRow.holds Tryd.pinned (OpenSpec.upto boundEasesSpec)

/-- 'packhorselaw42.BoundStill', WHERE WHAT IT READS IS OF BULK AT MOST 1048576: true; the input reads as it did. -/
def boundStillUptoRow : OpenClaim := { program := "ytcphofamajcimaadoor", sum := "a323a512b51efe842b6b22fab32e4d10ac46057a48736d4f3e3fb6d737a72b22", func := "packhorse/packhorselaw42.BoundStill", spec := "boundStill", unfollowed := true, recurses := true, named := ["packhorse/script.uses", "packhorse/wire.heads"], plainKeys := false, apart := false, laid := [("packhorse/wire.heads", laid_packhorse_wire_heads), ("packhorse/script.uses", laid_packhorse_script_uses)], narrowed := true }
def BoundStillUptoSaid : Prop := boundStillUptoRow.holds Tryd.pinned (OpenSpec.upto boundStillSpec)

end Rows
end Go.Proofs.YtcphofamajcimaaDoor
