/- The law BoundEases returns true for every list of numbers and any two numbers, and leaves them as they were: the tied card.
   Conditions: those that the given card says. -/
import Derived.Test.YtcphofamajcimaaDoorProofs
import Derived.Test.YtcphofamajcimaaDoorCards
import Derived.Test.YtcphofamajcimaaDoorTie
import Derived.SevenTiedAt
set_option linter.unusedSimpArgs false
set_option linter.unusedVariables false
namespace Go.Proofs.YtcphofamajcimaaDoor
open Go

theorem boundEases_card_holds : Rows.BoundEasesCardSaid :=
  Claim7.holds_tied_plain_at .later [] [.widerDeep, .widerDeep] true Rows.boundEasesCard.stood.harness true
    boundEases_holds (fun _ h => by cases h) (by kernel_rfl) (fun _ h => by cases h) boundEases_row_tie rfl ⟨rfl, rfl⟩ (by kernel_rfl) rfl
    (fun f fn hf hfn => by
      obtain rfl : f = 3 := Option.some.inj ((show Tryd.prog.funcNamed Rows.boundEasesRow.func = some 3 by kernel_rfl).symm.trans hf) |>.symm
      obtain rfl : fn = Tryd.f3 := (Option.some.inj (Tryd.func3.symm.trans hfn)).symm
      exact ⟨by kernel_rfl, fun j t ht => by
        rw [Tryd.params3] at ht
        have hm : t ∈ [22, 3, 3] := by simpa using Array.mem_of_getElem? ht
        have hall : ([22, 3, 3].all fun u => !Tryd.prog.wantsStandIn u) = true := by kernel_rfl
        exact (show Tryd.prog.wantsStandIn t = false by simpa using List.all_eq_true.1 hall t hm)⟩)
    (by kernel_rfl)
#print axioms boundEases_card_holds
end Go.Proofs.YtcphofamajcimaaDoor
