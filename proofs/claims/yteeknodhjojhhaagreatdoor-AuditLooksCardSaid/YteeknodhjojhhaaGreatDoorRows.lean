/-
  NARROWER THAN 'FOR EVERY INPUT', by the rows' own cells (each row's printed sentence says how): AuditLooks: laid.
  DERIVED. THE GIVEN ROWS OF THIS SEAT. 1 by the template 'for every input the law returns true; each argument reads behind the call as it read before'; 0 by the template 'total and deterministic' (their statements: YteeknodhjojhhaaGreatDoorTotals.lean).
  GIVEN WITH THE SEED: the statements are not yours to turn. If you find one false, say at which input.
  Laid BY PROGRAM, IN A SANDBOX (cutbox-rows.mjs): the forced cells as the released guide's own fill.sh prints them over the translation 256dad523207994b… (all of the seat's roots in one cut). By AI agents, Wed Nov 11 2026. No macro, syntax, notation, axiom, sorry.
-/
import Derived.Test.YteeknodhjojhhaaGreatDoorChecked
import GoSem.Claim
import GoSem.ClaimJoined
import GoSem.ClaimMapViews
import Derived.JoinedTies
import Derived.KernelRfl
namespace Go.Proofs.YteeknodhjojhhaaGreatDoor
/- THE CELL 'sum', in the pinned program and in every row, IS THE sha256 OF THE DUMP (.gsa) THAT YteeknodhjojhhaaGreatDoorProg.lean LOADS. Nothing in Lean hashes anything: it is a label: what it is worth is what the hold of that sum in a sandbox is worth. -/
noncomputable def Tryz.pinned : Pinned := { name := "yteeknodhjojhhaagreatdoor", sum := "256dad523207994b7cd39ac28d9d7991035115a349c495543d9afe80f0a8eb6b", checked := Tryz.checked }
namespace Rows
def none {H : Type} : Left H := { results := [], args := [] }

/- WHAT THE LISTED PACKAGE-LEVEL VARIABLES READ AS WHEN THE CALL BEGINS. Each datum BY PROGRAM (the guide's laid-datum.mjs) off the statement by which the dump's own 'gosem.cut.vars' lays the variable. In a bare row this is a premise. The card (YteeknodhjojhhaaGreatDoorCards.lean) ties it to the program's text. -/
def laid_packhorse_sum_table {H : Type} : DataW H := .agg [.lit (.int .u32 0), .lit (.int .u32 274646895), .lit (.int .u32 549293790), .lit (.int .u32 820201905), .lit (.int .u32 1098587580), .lit (.int .u32 1361435347), .lit (.int .u32 1640403810), .lit (.int .u32 1905808397), .lit (.int .u32 2197175160), .lit (.int .u32 2460548119), .lit (.int .u32 2722870694), .lit (.int .u32 2987750089), .lit (.int .u32 3280807620), .lit (.int .u32 3553878443), .lit (.int .u32 3811616794), .lit (.int .u32 4084100981)]
def laid_packhorse_wire_heads {H : Type} : DataW H := .agg [.lit (.int .u8 176), .lit (.int .u8 177), .lit (.int .u8 178), .lit (.int .u8 180), .lit (.int .u8 181), .lit (.int .u8 182)]

/-- 'packhorselaw41.AuditLooks': WHATEVER THE INPUT: true; the input reads as it did. -/
def auditLooksSpec : ChangeSpec := { name := "auditLooks", fn := fun _ => fun
  | [d1, d2, d3] => { results := [.lit (.bool true)], args := [d1, d2, d3] }
  | _ => none }
def auditLooksRow : OpenClaim := { program := "yteeknodhjojhhaagreatdoor", sum := "256dad523207994b7cd39ac28d9d7991035115a349c495543d9afe80f0a8eb6b", func := "packhorse/packhorselaw41.AuditLooks", spec := "auditLooks", inPlace := ["math/bits.Add64"], unfollowed := true, recurses := true, named := ["packhorse/wire.heads", "packhorse/sum.table"], plainKeys := false, apart := false, laid := [("packhorse/sum.table", laid_packhorse_sum_table), ("packhorse/wire.heads", laid_packhorse_wire_heads)] }
def AuditLooksSaid : Prop := auditLooksRow.holds Tryz.pinned (OpenSpec.ofChange auditLooksSpec)

/-- ITS FALSE NEIGHBOUR: 'it returns false'. Refute it at one input. -/
def auditLooksWrong : ChangeSpec := { name := "auditLooks", fn := fun _ => fun
  | [d1, d2, d3] => { results := [.lit (.bool false)], args := [d1, d2, d3] }
  | _ => none }
def AuditLooksWrongFalsely : Prop := auditLooksRow.holds Tryz.pinned (OpenSpec.ofChange auditLooksWrong)

/- THE SECOND FORM. 'bulk': how many values and letters a reading holds, each counted each time it is reached (what is shared counts as often as it is met; a slice's spare places count too). A statement '..UptoSaid' is the law's where the arguments, and the package variables that the reading takes, are together of bulk at most 1048576: NARROWER than '..Said'. Prove '..Said' where nothing that the law and all that it calls make is longer than what came in: it says more and counts as full. Else prove '..UptoSaid'. A law counts once. -/
mutual
def uptoBulk {H : Type} : DataW H → Nat
  | .lit (.string bytes) => bytes.length + 1
  | .lit _ => 1
  | .nil => 1
  | .ptr d => uptoBulk d + 1
  | .slice elems spare => uptoBulkAll elems + uptoBulkAll spare + 1
  | .agg parts => uptoBulkAll parts + 1
  | .iface _ d => uptoBulk d + 1
  | .map entries => uptoBulkEntries entries + 1
  | .held _ => 1
def uptoBulkAll {H : Type} : List (DataW H) → Nat
  | [] => 0
  | d :: r => uptoBulk d + uptoBulkAll r
def uptoBulkEntries {H : Type} : List (Lit × DataW H) → Nat
  | [] => 0
  | x :: r => uptoBulkEntry x + uptoBulkEntries r
def uptoBulkEntry {H : Type} : Lit × DataW H → Nat
  | (.string bytes, d) => bytes.length + uptoBulk d + 1
  | (_, d) => uptoBulk d + 1
 end
def uptoSmall : (H : Type) → List (DataW H) → Bool := fun _ ds => decide (uptoBulkAll ds ≤ 1048576)
def OpenSpec.upto (s : _root_.Go.ChangeSpec) : _root_.Go.OpenSpec := { _root_.Go.OpenSpec.ofChange s with cond := some uptoSmall }

/-- 'packhorselaw41.AuditLooks', WHERE WHAT IT READS IS OF BULK AT MOST 1048576: true; the input reads as it did. -/
def auditLooksUptoRow : OpenClaim := { program := "yteeknodhjojhhaagreatdoor", sum := "256dad523207994b7cd39ac28d9d7991035115a349c495543d9afe80f0a8eb6b", func := "packhorse/packhorselaw41.AuditLooks", spec := "auditLooks", inPlace := ["math/bits.Add64"], unfollowed := true, recurses := true, named := ["packhorse/wire.heads", "packhorse/sum.table"], plainKeys := false, apart := false, laid := [("packhorse/sum.table", laid_packhorse_sum_table), ("packhorse/wire.heads", laid_packhorse_wire_heads)], narrowed := true }
def AuditLooksUptoSaid : Prop := auditLooksUptoRow.holds Tryz.pinned (OpenSpec.upto auditLooksSpec)

end Rows
end Go.Proofs.YteeknodhjojhhaaGreatDoor
