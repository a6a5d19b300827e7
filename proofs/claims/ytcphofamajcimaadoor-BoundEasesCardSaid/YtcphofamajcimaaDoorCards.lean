/-
  DERIVED. GIVEN WITH THE SEED: THE CARDS: each row of YtcphofamajcimaaDoorRows.lean that lists a variable, with what it lists TIED to the program's text (the seventh form; the later family's looks); each row that meets fmt, with fmt's text TOLD by the authors' own Lean function (tested against real Go, not proved from fmt's source: count such statements apart). THE CARD IS WHAT COUNTS. Prove the row's statement (the work); the ties are given (YtcphofamajcimaaDoorTie.lean); close each card by the builder's one call (the guide's Derived/Test/ToyasCard.lean, 'card_holds'). Laid BY PROGRAM, IN A SANDBOX (cutbox-door.mjs). By AI agents, Wed Nov 11 2026. No macro, syntax, notation, axiom, sorry.
-/
import Derived.Test.YtcphofamajcimaaDoorRows
import GoSem.ClaimSeven
namespace Go.Proofs.YtcphofamajcimaaDoor
namespace Rows

/-- THE TIED CARD OF 'packhorselaw42.BoundEases'. -/
def boundEasesCard : Claim7 := { stood := { row := boundEasesRow, standIns := [], harness := (true, "77e008c617d421a78ca104aef978385238a8160c9575ebfa826b49b711fdb451"), looks := true }, kinds := [], alts := [], laidByText := true, laidKinds := [.widerDeep, .widerDeep], laidTests := true, laidLooks := .later }
def BoundEasesCardSaid : Prop := Claim7.holds Tryd.pinned (.plain (OpenSpec.ofChange boundEasesSpec)) boundEasesCard

/-- THE TIED CARD OF 'packhorselaw42.BoundStill'. -/
def boundStillCard : Claim7 := { stood := { row := boundStillRow, standIns := [], harness := (true, "77e008c617d421a78ca104aef978385238a8160c9575ebfa826b49b711fdb451"), looks := true }, kinds := [], alts := [], laidByText := true, laidKinds := [.widerDeep, .widerDeep], laidTests := true, laidLooks := .later }
def BoundStillCardSaid : Prop := Claim7.holds Tryd.pinned (.plain (OpenSpec.ofChange boundStillSpec)) boundStillCard

/-- THE SECOND FORM's CARD OF 'packhorselaw42.BoundEases'. -/
def boundEasesUptoCard : Claim7 := { stood := { row := boundEasesUptoRow, standIns := [], harness := (true, "77e008c617d421a78ca104aef978385238a8160c9575ebfa826b49b711fdb451"), looks := true }, kinds := [], alts := [], laidByText := true, laidKinds := [.widerDeep, .widerDeep], laidTests := true, laidLooks := .later }
def BoundEasesUptoCardSaid : Prop := Claim7.holds Tryd.pinned (.plain (OpenSpec.upto boundEasesSpec)) boundEasesUptoCard

/-- THE SECOND FORM's CARD OF 'packhorselaw42.BoundStill'. -/
def boundStillUptoCard : Claim7 := { stood := { row := boundStillUptoRow, standIns := [], harness := (true, "77e008c617d421a78ca104aef978385238a8160c9575ebfa826b49b711fdb451"), looks := true }, kinds := [], alts := [], laidByText := true, laidKinds := [.widerDeep, .widerDeep], laidTests := true, laidLooks := .later }
def BoundStillUptoCardSaid : Prop := Claim7.holds Tryd.pinned (.plain (OpenSpec.upto boundStillSpec)) boundStillUptoCard
end Rows
end Go.Proofs.YtcphofamajcimaaDoor
