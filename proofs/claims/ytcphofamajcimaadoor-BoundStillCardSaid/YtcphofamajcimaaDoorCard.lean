/- The law BoundStill returns true for every snapshot, and leaves it as it was: the tied card.
   Conditions: those that the given card says. -/
import Derived.Test.YtcphofamajcimaaDoorProofs
import Derived.Test.YtcphofamajcimaaDoorCards
import Derived.Test.YtcphofamajcimaaDoorTie
import Derived.SevenTiedAt
namespace Go.Proofs.YtcphofamajcimaaDoor
open Go

theorem boundStill_card_holds : Rows.BoundStillCardSaid :=
  Claim7.holds_tied_plain_at .later [] [.widerDeep, .widerDeep] true Rows.boundStillCard.stood.harness true
    boundStill_holds (fun _ h => by cases h) (by kernel_rfl) (fun _ h => by cases h) boundStill_row_tie rfl ⟨rfl, rfl⟩ (by kernel_rfl) rfl
    (fun f fn hf hfn => by
      obtain rfl : f = 4 := Option.some.inj ((show Tryd.prog.funcNamed Rows.boundStillRow.func = some 4 by kernel_rfl).symm.trans hf) |>.symm
      obtain rfl : fn = Tryd.f4 := (Option.some.inj (Tryd.func4.symm.trans hfn)).symm
      exact ⟨by kernel_rfl, fun j t ht => by
        rw [Tryd.params4] at ht
        have hm : t ∈ [41] := by simpa using Array.mem_of_getElem? ht
        have hall : ([41].all fun u => !Tryd.prog.wantsStandIn u) = true := by kernel_rfl
        exact (show Tryd.prog.wantsStandIn t = false by simpa using List.all_eq_true.1 hall t hm)⟩)
    (by kernel_rfl)
#print axioms boundStill_card_holds
end Go.Proofs.YtcphofamajcimaaDoor
