/-
  NARROWER THAN 'FOR EVERY INPUT', by the rows' own cells (each row's printed sentence says how): BoundLooks: laid.
  DERIVED. THE GIVEN ROWS OF THIS SEAT. 1 by the template 'for every input the law returns true; each argument reads behind the call as it read before'; 0 by the template 'total and deterministic' (their statements: YtdmofemokgboeaaGreatDoorTotals.lean).
  GIVEN WITH THE SEED: the statements are not yours to turn. If you find one false, say at which input.
  Laid BY PROGRAM, IN A SANDBOX (cutbox-rows.mjs): the forced cells as the released guide's own fill.sh prints them over the translation 516b823f9e78debc… (all of the seat's roots in one cut). By AI agents, Wed Nov 11 2026. No macro, syntax, notation, axiom, sorry.
-/
import Derived.Test.YtdmofemokgboeaaGreatDoorChecked
import GoSem.Claim
import GoSem.ClaimJoined
import GoSem.ClaimMapViews
import Derived.JoinedTies
import Derived.KernelRfl
namespace Go.Proofs.YtdmofemokgboeaaGreatDoor
/- THE CELL 'sum', in the pinned program and in every row, IS THE sha256 OF THE DUMP (.gsa) THAT YtdmofemokgboeaaGreatDoorProg.lean LOADS. Nothing in Lean hashes anything: it is a label: what it is worth is what the hold of that sum in a sandbox is worth. -/
noncomputable def Tryz.pinned : Pinned := { name := "ytdmofemokgboeaagreatdoor", sum := "516b823f9e78debcf3a348f1bb12a2dc88861547374eb54ccbba711d11854795", checked := Tryz.checked }
namespace Rows
def none {H : Type} : Left H := { results := [], args := [] }

/- WHAT THE LISTED PACKAGE-LEVEL VARIABLES READ AS WHEN THE CALL BEGINS. Each datum BY PROGRAM (the guide's laid-datum.mjs) off the statement by which the dump's own 'gosem.cut.vars' lays the variable. In a bare row this is a premise. The card (YtdmofemokgboeaaGreatDoorCards.lean) ties it to the program's text. -/
def laid_packhorse_wire_heads {H : Type} : DataW H := .agg [.lit (.int .u8 176), .lit (.int .u8 177), .lit (.int .u8 178), .lit (.int .u8 180), .lit (.int .u8 181), .lit (.int .u8 182)]
def laid_packhorse_script_uses {H : Type} : DataW H := .agg [.agg [.lit (.string []), .lit (.bool false), .lit (.bool false), .lit (.int .i64 0), .lit (.int .i64 0), .lit (.int .i64 0), .lit (.int .i64 0), .lit (.bool false)], .agg [.lit (.string [115, 117, 98, 109, 105, 116]), .lit (.bool true), .lit (.bool false), .lit (.int .i64 0), .lit (.int .i64 (-1)), .lit (.int .i64 (-1)), .lit (.int .i64 (-1)), .lit (.bool true)], .agg [.lit (.string [111, 112, 101, 110]), .lit (.bool true), .lit (.bool true), .lit (.int .i64 0), .lit (.int .i64 (-1)), .lit (.int .i64 (-1)), .lit (.int .i64 (-1)), .lit (.bool false)], .agg [.lit (.string [99, 108, 111, 115, 101]), .lit (.bool true), .lit (.bool true), .lit (.int .i64 0), .lit (.int .i64 (-1)), .lit (.int .i64 (-1)), .lit (.int .i64 (-1)), .lit (.bool false)], .agg [.lit (.string [116, 105, 99, 107]), .lit (.bool false), .lit (.bool false), .lit (.int .i64 1), .lit (.int .i64 1000), .lit (.int .i64 (-1)), .lit (.int .i64 (-1)), .lit (.bool false)], .agg [.lit (.string [100, 101, 108, 105, 118, 101, 114]), .lit (.bool true), .lit (.bool true), .lit (.int .i64 0), .lit (.int .i64 63), .lit (.int .i64 (-1)), .lit (.int .i64 (-1)), .lit (.bool false)], .agg [.lit (.string [108, 111, 115, 101]), .lit (.bool true), .lit (.bool true), .lit (.int .i64 0), .lit (.int .i64 63), .lit (.int .i64 (-1)), .lit (.int .i64 (-1)), .lit (.bool false)], .agg [.lit (.string [100, 111, 117, 98, 108, 101]), .lit (.bool true), .lit (.bool true), .lit (.int .i64 0), .lit (.int .i64 63), .lit (.int .i64 (-1)), .lit (.int .i64 (-1)), .lit (.bool false)], .agg [.lit (.string [115, 119, 97, 112]), .lit (.bool true), .lit (.bool true), .lit (.int .i64 0), .lit (.int .i64 63), .lit (.int .i64 63), .lit (.int .i64 (-1)), .lit (.bool false)], .agg [.lit (.string [115, 112, 111, 105, 108]), .lit (.bool true), .lit (.bool true), .lit (.int .i64 0), .lit (.int .i64 63), .lit (.int .i64 1199), .lit (.int .i64 255), .lit (.bool false)], .agg [.lit (.string [99, 117, 116]), .lit (.bool true), .lit (.bool true), .lit (.int .i64 0), .lit (.int .i64 63), .lit (.int .i64 1199), .lit (.int .i64 (-1)), .lit (.bool false)], .agg [.lit (.string [99, 114, 97, 115, 104]), .lit (.bool true), .lit (.bool false), .lit (.int .i64 0), .lit (.int .i64 (-1)), .lit (.int .i64 (-1)), .lit (.int .i64 (-1)), .lit (.bool false)], .agg [.lit (.string [116, 114, 105, 112]), .lit (.bool true), .lit (.bool false), .lit (.int .i64 0), .lit (.int .i64 1000), .lit (.int .i64 262144), .lit (.int .i64 (-1)), .lit (.bool false)], .agg [.lit (.string [114, 101, 115, 116, 97, 114, 116]), .lit (.bool true), .lit (.bool false), .lit (.int .i64 0), .lit (.int .i64 (-1)), .lit (.int .i64 (-1)), .lit (.int .i64 (-1)), .lit (.bool false)], .agg [.lit (.string [100, 114, 97, 105, 110]), .lit (.bool false), .lit (.bool false), .lit (.int .i64 1), .lit (.int .i64 1000), .lit (.int .i64 (-1)), .lit (.int .i64 (-1)), .lit (.bool false)]]

/-- 'packhorselaw42.BoundLooks': WHATEVER THE INPUT: true; the input reads as it did. -/
def boundLooksSpec : ChangeSpec := { name := "boundLooks", fn := fun _ => fun
  | [d] => { results := [.lit (.bool true)], args := [d] }
  | _ => none }
def boundLooksRow : OpenClaim := { program := "ytdmofemokgboeaagreatdoor", sum := "516b823f9e78debcf3a348f1bb12a2dc88861547374eb54ccbba711d11854795", func := "packhorse/packhorselaw42.BoundLooks", spec := "boundLooks", unfollowed := true, recurses := true, named := ["packhorse/script.uses", "packhorse/wire.heads"], plainKeys := false, apart := false, laid := [("packhorse/wire.heads", laid_packhorse_wire_heads), ("packhorse/script.uses", laid_packhorse_script_uses)] }
def BoundLooksSaid : Prop := boundLooksRow.holds Tryz.pinned (OpenSpec.ofChange boundLooksSpec)

/-- ITS FALSE NEIGHBOUR: 'it returns false'. Refute it at one input. -/
def boundLooksWrong : ChangeSpec := { name := "boundLooks", fn := fun _ => fun
  | [d] => { results := [.lit (.bool false)], args := [d] }
  | _ => none }
def BoundLooksWrongFalsely : Prop := boundLooksRow.holds Tryz.pinned (OpenSpec.ofChange boundLooksWrong)

/- THE SECOND FORM. 'bulk': how many values and letters a reading holds, each counted each time it is reached (what is shared counts as often as it is met; a slice's spare places count too). A statement '..UptoSaid' is the law's where the arguments, and the package variables that the reading takes, are together of bulk at most 1048576: NARROWER than '..Said'. Prove '..Said' where nothing that the law and all that it calls make is longer than what came in: it says more and counts as full. Else prove '..UptoSaid'. A law counts once. -/
mutual
def uptoBulk {H : Type} : DataW H → Nat
  | .lit (.string bytes) => bytes.length + 1
  | .lit _ => 1
  | .nil => 1
  | .ptr d => uptoBulk d + 1
  | .slice elems spare => uptoBulkAll elems + uptoBulkAll spare + 1
  | .agg parts => uptoBulkAll parts + 1
  | .iface _ d => uptoBulk d + 1
  | .map entries => uptoBulkEntries entries + 1
  | .held _ => 1
def uptoBulkAll {H : Type} : List (DataW H) → Nat
  | [] => 0
  | d :: r => uptoBulk d + uptoBulkAll r
def uptoBulkEntries {H : Type} : List (Lit × DataW H) → Nat
  | [] => 0
  | x :: r => uptoBulkEntry x + uptoBulkEntries r
def uptoBulkEntry {H : Type} : Lit × DataW H → Nat
  | (.string bytes, d) => bytes.length + uptoBulk d + 1
  | (_, d) => uptoBulk d + 1
 end
def uptoSmall : (H : Type) → List (DataW H) → Bool := fun _ ds => decide (uptoBulkAll ds ≤ 1048576)
def OpenSpec.upto (s : _root_.Go.ChangeSpec) : _root_.Go.OpenSpec := { _root_.Go.OpenSpec.ofChange s with cond := some uptoSmall }

/-- 'packhorselaw42.BoundLooks', WHERE WHAT IT READS IS OF BULK AT MOST 1048576: true; the input reads as it did. -/
def boundLooksUptoRow : OpenClaim := { program := "ytdmofemokgboeaagreatdoor", sum := "516b823f9e78debcf3a348f1bb12a2dc88861547374eb54ccbba711d11854795", func := "packhorse/packhorselaw42.BoundLooks", spec := "boundLooks", unfollowed := true, recurses := true, named := ["packhorse/script.uses", "packhorse/wire.heads"], plainKeys := false, apart := false, laid := [("packhorse/wire.heads", laid_packhorse_wire_heads), ("packhorse/script.uses", laid_packhorse_script_uses)], narrowed := true }
def BoundLooksUptoSaid : Prop := boundLooksUptoRow.holds Tryz.pinned (OpenSpec.upto boundLooksSpec)

end Rows
end Go.Proofs.YtdmofemokgboeaaGreatDoor
