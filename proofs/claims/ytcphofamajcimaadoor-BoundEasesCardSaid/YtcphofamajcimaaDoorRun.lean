/- The evaluator's run of the examples: it ends with true.
   Conditions: none. -/
import Derived.Test.YtcphofamajcimaaDoorFok
import Derived.KernelRfl
set_option linter.unusedSimpArgs false
set_option linter.unusedVariables false
noncomputable section
namespace Go.Proofs.YtcphofamajcimaaDoor
open Go Go.Abs
set_option maxRecDepth 100000
def isT : Option (AV × Mem) → Bool
  | some (.bool true, _) => true
  | _ => false
theorem isT_some {x : Option (AV × Mem)} (h : isT x = true) : ∃ m, x = some (.bool true, m) := by
  unfold isT at h
  split at h
  · exact ⟨_, rfl⟩
  · cases h
def start : Mem := { blks := blksOf tabs ⟨0, .e⟩ }
theorem run : isT (acall F (cmeth Tryd.prog) noSum 400 (.fn 9) [] start) = true := by kernel_rfl
end Go.Proofs.YtcphofamajcimaaDoor
end
