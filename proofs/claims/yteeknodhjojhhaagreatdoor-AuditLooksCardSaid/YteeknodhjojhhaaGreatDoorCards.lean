/-
  DERIVED. GIVEN WITH THE SEED: THE CARDS: each row of YteeknodhjojhhaaGreatDoorRows.lean that lists a variable, with what it lists TIED to the program's text (the seventh form; the later family's looks); each row that meets fmt, with fmt's text TOLD by the authors' own Lean function (tested against real Go, not proved from fmt's source: count such statements apart). THE CARD IS WHAT COUNTS. Prove the row's statement (the work); the ties are given (YteeknodhjojhhaaGreatDoorTie.lean); close each card by the builder's one call (the guide's Derived/Test/ToyasCard.lean, 'card_holds'). Laid BY PROGRAM, IN A SANDBOX (cutbox-door.mjs). By AI agents, Wed Nov 11 2026. No macro, syntax, notation, axiom, sorry.
-/
import Derived.Test.YteeknodhjojhhaaGreatDoorRows
import GoSem.ClaimSeven
namespace Go.Proofs.YteeknodhjojhhaaGreatDoor
namespace Rows

/-- THE TIED CARD OF 'packhorselaw41.AuditLooks'. -/
def auditLooksCard : Claim7 := { stood := { row := auditLooksRow, standIns := [], harness := (true, "bbeb99eb580ddc844c7a537eda61e7910db4859d399baea175c8fe20c440876e"), looks := true }, kinds := [], alts := [], laidByText := true, laidKinds := [.data, .widerDeep], laidTests := true, laidLooks := .later }
def AuditLooksCardSaid : Prop := Claim7.holds Tryz.pinned (.plain (OpenSpec.ofChange auditLooksSpec)) auditLooksCard

/-- THE SECOND FORM's CARD OF 'packhorselaw41.AuditLooks'. -/
def auditLooksUptoCard : Claim7 := { stood := { row := auditLooksUptoRow, standIns := [], harness := (true, "bbeb99eb580ddc844c7a537eda61e7910db4859d399baea175c8fe20c440876e"), looks := true }, kinds := [], alts := [], laidByText := true, laidKinds := [.data, .widerDeep], laidTests := true, laidLooks := .later }
def AuditLooksUptoCardSaid : Prop := Claim7.holds Tryz.pinned (.plain (OpenSpec.upto auditLooksSpec)) auditLooksUptoCard
end Rows
end Go.Proofs.YteeknodhjojhhaaGreatDoor
