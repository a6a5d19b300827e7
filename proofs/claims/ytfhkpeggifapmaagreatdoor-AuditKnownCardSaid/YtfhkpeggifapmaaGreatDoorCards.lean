/-
  DERIVED. GIVEN WITH THE SEED: THE CARDS: each row of YtfhkpeggifapmaaGreatDoorRows.lean that lists a variable, with what it lists TIED to the program's text (the seventh form; the later family's looks); each row that meets fmt, with fmt's text TOLD by the authors' own Lean function (tested against real Go, not proved from fmt's source: count such statements apart). THE CARD IS WHAT COUNTS. Prove the row's statement (the work); the ties are given (YtfhkpeggifapmaaGreatDoorTie.lean); close each card by the builder's one call (the guide's Derived/Test/ToyasCard.lean, 'card_holds'). Laid BY PROGRAM, IN A SANDBOX (cutbox-door.mjs). By AI agents, Wed Nov 11 2026. No macro, syntax, notation, axiom, sorry.
-/
import Derived.Test.YtfhkpeggifapmaaGreatDoorRows
import GoSem.ClaimSeven
namespace Go.Proofs.YtfhkpeggifapmaaGreatDoor
namespace Rows

/-- THE TIED CARD OF 'packhorselaw41.AuditKnown'. -/
def auditKnownCard : Claim7 := { stood := { row := auditKnownRow, standIns := [], harness := (true, "1382de5e258ffd51917a615c195748adcf23848457cd42c1721f48ec1d162e75"), looks := true }, kinds := [], alts := [], laidByText := true, laidKinds := [.widerDeep], laidTests := true, laidLooks := .later }
def AuditKnownCardSaid : Prop := Claim7.holds Tryz.pinned (.plain (OpenSpec.ofChange auditKnownSpec)) auditKnownCard

/-- THE SECOND FORM's CARD OF 'packhorselaw41.AuditKnown'. -/
def auditKnownUptoCard : Claim7 := { stood := { row := auditKnownUptoRow, standIns := [], harness := (true, "1382de5e258ffd51917a615c195748adcf23848457cd42c1721f48ec1d162e75"), looks := true }, kinds := [], alts := [], laidByText := true, laidKinds := [.widerDeep], laidTests := true, laidLooks := .later }
def AuditKnownUptoCardSaid : Prop := Claim7.holds Tryz.pinned (.plain (OpenSpec.upto auditKnownSpec)) auditKnownUptoCard
end Rows
end Go.Proofs.YtfhkpeggifapmaaGreatDoor
