/- The evaluator's run of the law: it ends with true.
   Conditions: none. -/
import Derived.Test.YtfhkpeggifapmaaGreatDoorFok
import Derived.KernelRfl
noncomputable section
namespace Go.Proofs.YtfhkpeggifapmaaGreatDoor
open Go Go.Abs
set_option maxRecDepth 100000
def isT : Option (AV × Mem) → Bool
  | some (.bool true, _) => true
  | _ => false
theorem isT_some {x : Option (AV × Mem)} (h : isT x = true) : ∃ m, x = some (.bool true, m) := by
  unfold isT at h
  split at h
  · exact ⟨_, rfl⟩
  · cases h
def start : Mem := { blks := blksOf tabs ⟨0, .e⟩ }
theorem run : isT (acall F (cmeth Tryz.prog) 400 (.fn 3) [] start) = true := by kernel_rfl
end Go.Proofs.YtfhkpeggifapmaaGreatDoor
end
