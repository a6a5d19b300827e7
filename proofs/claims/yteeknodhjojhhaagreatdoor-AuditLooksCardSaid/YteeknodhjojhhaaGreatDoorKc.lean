/- A closed fact about the program that the card asks for: no function of it starts a goroutine.
   Conditions: none. -/
import Derived.Test.YteeknodhjojhhaaGreatDoorCards
import Derived.SevenTiedAt
import Derived.KernelRfl
namespace Go.Proofs.YteeknodhjojhhaaGreatDoor
open Go
set_option maxRecDepth 100000
theorem kga {P : Program} (h : P.funcs.any Func.goes = false) (f : FuncId) : P.goes f = false := by
  have k : ∀ g : Nat, (P.funcs[g]?).any Func.goes = false := fun g => by
    cases e : P.funcs[g]? with
    | none => rfl
    | some x =>
      rw [Array.any_eq_false] at h
      obtain ⟨i, e⟩ := Array.getElem?_eq_some_iff.1 e
      subst e
      simpa using h g i
  unfold Program.goes
  rw [h, Bool.and_false, Bool.or_false, List.any_eq_false]
  intro g _
  simp [k g]
theorem kgf : Tryz.prog.funcs.any Func.goes = false := by kernel_rfl
theorem kg : false = Rows.auditLooksRow.goesBy Tryz.prog := by
  unfold OpenClaim.goesBy Program.goesAt Program.goesFrom
  cases Tryz.prog.funcNamed Rows.auditLooksRow.func with
  | none => rfl
  | some f => rw [Option.any_some, kga kgf]; rfl
end Go.Proofs.YteeknodhjojhhaaGreatDoor
