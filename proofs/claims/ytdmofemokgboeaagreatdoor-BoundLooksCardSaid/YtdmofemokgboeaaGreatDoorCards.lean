/-
  DERIVED. GIVEN WITH THE SEED: THE CARDS: each row of YtdmofemokgboeaaGreatDoorRows.lean that lists a variable, with what it lists TIED to the program's text (the seventh form; the later family's looks); each row that meets fmt, with fmt's text TOLD by the authors' own Lean function (tested against real Go, not proved from fmt's source: count such statements apart). THE CARD IS WHAT COUNTS. Prove the row's statement (the work); the ties are given (YtdmofemokgboeaaGreatDoorTie.lean); close each card by the builder's one call (the guide's Derived/Test/ToyasCard.lean, 'card_holds'). Laid BY PROGRAM, IN A SANDBOX (cutbox-door.mjs). By AI agents, Wed Nov 11 2026. No macro, syntax, notation, axiom, sorry.
-/
import Derived.Test.YtdmofemokgboeaaGreatDoorRows
import GoSem.ClaimSeven
namespace Go.Proofs.YtdmofemokgboeaaGreatDoor
namespace Rows

/-- THE TIED CARD OF 'packhorselaw42.BoundLooks'. -/
def boundLooksCard : Claim7 := { stood := { row := boundLooksRow, standIns := [], harness := (true, "d5aa1b0e236f30213d9127073ae2148ead60ecceca12d936bb3b2beee94b624a"), looks := true }, kinds := [], alts := [], laidByText := true, laidKinds := [.widerDeep, .widerDeep], laidTests := true, laidLooks := .later }
def BoundLooksCardSaid : Prop := Claim7.holds Tryz.pinned (.plain (OpenSpec.ofChange boundLooksSpec)) boundLooksCard

/-- THE SECOND FORM's CARD OF 'packhorselaw42.BoundLooks'. -/
def boundLooksUptoCard : Claim7 := { stood := { row := boundLooksUptoRow, standIns := [], harness := (true, "d5aa1b0e236f30213d9127073ae2148ead60ecceca12d936bb3b2beee94b624a"), looks := true }, kinds := [], alts := [], laidByText := true, laidKinds := [.widerDeep, .widerDeep], laidTests := true, laidLooks := .later }
def BoundLooksUptoCardSaid : Prop := Claim7.holds Tryz.pinned (.plain (OpenSpec.upto boundLooksSpec)) boundLooksUptoCard
end Rows
end Go.Proofs.YtdmofemokgboeaaGreatDoor
