/- The law AuditLooks returns true for every snapshot, every identifier and every plan, and leaves them as they were: the given row.
   Conditions: those of the given row. -/
import Derived.Test.YteeknodhjojhhaaGreatDoorProofs
import Derived.Test.YteeknodhjojhhaaGreatDoorHc
namespace Go.Proofs.YteeknodhjojhhaaGreatDoor
open Go.ChangeShapes Go.WideShapes Go.ChangeAt Go.RowKit Go.Abs
set_option maxRecDepth 100000
theorem auditLooks_holds : Rows.AuditLooksSaid :=
  OpenClaim.holds_of_wide 3 Tryz.f3 rfl rfl rfl rfl rfl rfl rfl ⟨rfl, rfl, rfl, rfl, rfl⟩ rfl rfl rfl rfl rfl (by as_aux_lemma => kernel_rfl) Tryz.func3 jc
    (of_decide_eq_true (by as_aux_lemma => kernel_rfl)) (by unfold Func.isWrapper; first | (rw [if_pos (by decide +kernel)]; kernel_rfl) | (rw [if_neg (by decide +kernel)]; exact ⟨rfl, rfl⟩))
    (fun os started H enc _ => lifted os started H enc)
#print axioms auditLooks_holds
end Go.Proofs.YteeknodhjojhhaaGreatDoor
