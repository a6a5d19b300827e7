/- Closed facts about the program that the given row asks for.
   Conditions: none. -/
import Derived.Test.YteeknodhjojhhaaGreatDoorRows
import Derived.ProofKit
import Derived.JoinedOf
import Derived.KernelRfl
namespace Go.Proofs.YteeknodhjojhhaaGreatDoor
set_option maxRecDepth 100000
set_option maxHeartbeats 16000000
theorem b2 {a b : Bool} (x : a = true) (y : b = true) : (a && b) = true := by rw [x, y]; rfl
theorem jc : joinedFacts Tryz.prog 3 Tryz.f3 Rows.auditLooksSpec Rows.auditLooksRow = true := by
  unfold joinedFacts
  refine (b2 (b2 (b2 (b2 (b2 (b2 (b2 (b2 (b2 (b2 (b2 (b2 (b2 (b2 (b2 (b2 (b2 (b2 (b2 (b2 (b2 (b2 (b2 (b2 (b2 (b2 (b2 (b2 (b2 (b2 (b2 ?_ ?_) ?_) ?_) ?_) ?_) ?_) ?_) ?_) ?_) ?_) ?_) ?_) ?_) ?_) ?_) ?_) ?_) ?_) ?_) ?_) ?_) ?_) ?_) ?_) ?_) ?_) ?_) ?_) ?_) ?_) ?_)
  all_goals as_aux_lemma => kernel_rfl
end Go.Proofs.YteeknodhjojhhaaGreatDoor
