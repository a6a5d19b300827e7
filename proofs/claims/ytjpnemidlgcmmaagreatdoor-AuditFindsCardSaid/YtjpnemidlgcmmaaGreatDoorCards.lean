/-
  DERIVED. GIVEN WITH THE SEED: THE CARDS: each row of YtjpnemidlgcmmaaGreatDoorRows.lean that lists a variable, with what it lists TIED to the program's text (the seventh form; the later family's looks); each row that meets fmt, with fmt's text TOLD by the authors' own Lean function (tested against real Go, not proved from fmt's source: count such statements apart). THE CARD IS WHAT COUNTS. Prove the row's statement (the work); the ties are given (YtjpnemidlgcmmaaGreatDoorTie.lean); close each card by the builder's one call (the guide's Derived/Test/ToyasCard.lean, 'card_holds'). Laid BY PROGRAM, IN A SANDBOX (cutbox-door.mjs). By AI agents, Wed Nov 11 2026. No macro, syntax, notation, axiom, sorry.
-/
import Derived.Test.YtjpnemidlgcmmaaGreatDoorRows
import GoSem.ClaimSeven
namespace Go.Proofs.YtjpnemidlgcmmaaGreatDoor
namespace Rows

/-- THE TIED CARD OF 'packhorselaw41.AuditFinds'. -/
def auditFindsCard : Claim7 := { stood := { row := auditFindsRow, standIns := [], harness := (true, "0ff024be8c7ce1e4bb488ec427ca3594cc27fdb0edbd9ed000169682a5dd1270"), looks := false }, kinds := [], alts := [], laidByText := true, laidKinds := [.widerDeep], laidTests := true, laidLooks := .later }
def AuditFindsCardSaid : Prop := Claim7.holds Tryz.pinned (.plain (OpenSpec.ofChange auditFindsSpec)) auditFindsCard

/-- THE SECOND FORM's CARD OF 'packhorselaw41.AuditFinds'. -/
def auditFindsUptoCard : Claim7 := { stood := { row := auditFindsUptoRow, standIns := [], harness := (true, "0ff024be8c7ce1e4bb488ec427ca3594cc27fdb0edbd9ed000169682a5dd1270"), looks := false }, kinds := [], alts := [], laidByText := true, laidKinds := [.widerDeep], laidTests := true, laidLooks := .later }
def AuditFindsUptoCardSaid : Prop := Claim7.holds Tryz.pinned (.plain (OpenSpec.upto auditFindsSpec)) auditFindsUptoCard
end Rows
end Go.Proofs.YtjpnemidlgcmmaaGreatDoor
