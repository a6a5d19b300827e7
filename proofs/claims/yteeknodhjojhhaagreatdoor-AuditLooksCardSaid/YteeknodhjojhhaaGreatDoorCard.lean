/- The law AuditLooks returns true for every snapshot, every identifier and every plan, and leaves them as they were: the tied card.
   Conditions: those that the given card says. -/
import Derived.Test.YteeknodhjojhhaaGreatDoorHolds
import Derived.Test.YteeknodhjojhhaaGreatDoorKc
import Derived.Test.YteeknodhjojhhaaGreatDoorCards
import Derived.Test.YteeknodhjojhhaaGreatDoorTie
import Derived.SevenTiedAt
namespace Go.Proofs.YteeknodhjojhhaaGreatDoor
open Go

theorem auditLooks_card_holds : Rows.AuditLooksCardSaid :=
  Claim7.holds_tied_plain_at .later [] [.data, .widerDeep] true Rows.auditLooksCard.stood.harness true
    auditLooks_holds (fun _ h => by cases h) (by as_aux_lemma => kernel_rfl) (fun _ h => by cases h) auditLooks_row_tie rfl ⟨rfl, rfl⟩ (by as_aux_lemma => kernel_rfl) rfl
    (fun f fn hf hfn => by
      obtain rfl : f = 3 := Option.some.inj ((show Tryz.prog.funcNamed Rows.auditLooksRow.func = some 3 by as_aux_lemma => kernel_rfl).symm.trans hf) |>.symm
      obtain rfl : fn = Tryz.f3 := (Option.some.inj (Tryz.func3.symm.trans hfn)).symm
      exact ⟨by as_aux_lemma => kernel_rfl, fun j t ht => by
        rw [Tryz.params3] at ht
        have hm : t ∈ [25, 28, 29] := by simpa using Array.mem_of_getElem? ht
        have hall : ([25, 28, 29].all fun u => !Tryz.prog.wantsStandIn u) = true := by as_aux_lemma => kernel_rfl
        exact (show Tryz.prog.wantsStandIn t = false by simpa using List.all_eq_true.1 hall t hm)⟩)
    kg
#print axioms auditLooks_card_holds
end Go.Proofs.YteeknodhjojhhaaGreatDoor
