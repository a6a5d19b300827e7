/- The law AuditKnown returns true: the program's own run, by a verified evaluator.
   Conditions: those of the given row; the table packhorse/wire.heads is laid as listed. -/
import Derived.Test.YtfhkpeggifapmaaGreatDoorRows
import Derived.Test.YtfhkpeggifapmaaGreatDoorRun
import Derived.ProofKit
import Derived.LaidMore
import Derived.OpenShut
import Derived.Stop.Joined
namespace Go.Proofs.YtfhkpeggifapmaaGreatDoor
open Go.ChangeShapes Go.WideShapes Go.ChangeAt Go.RowKit Go.Abs

theorem own : ownKnob Tryz.prog.godebug = none := by kernel_rfl
theorem gHeads : Tryz.prog.globalNamed "packhorse/wire.heads" = some 0 := by kernel_rfl
theorem mixed : Tryz.prog.follows .mixedOrders = true := by kernel_rfl
theorem heads_lit (t : TypeId) (ht : (Tryz.prog.globals[0]?).map (·.type) = some t) : litC Tryz.prog 4 t Rows.laid_packhorse_wire_heads = some headsRow.flatten := by
  have e : (Tryz.prog.globals[0]?).map (·.type) = some 246 := by kernel_rfl
  obtain rfl := Option.some.inj (e.symm.trans ht)
  show litC Tryz.prog 4 246 Rows.laid_packhorse_wire_heads = some headsRow.flatten
  kernel_rfl

theorem heads_at {W : World} (h : laidMetH Tryz.prog [("packhorse/wire.heads", Rows.laid_packhorse_wire_heads)] W) : ∀ x ∈ tabs, TabAt W x := by
  rw [MakeChecks.laidMetH_plain _ _ _ (by kernel_rfl)] at h
  obtain ⟨ps, hv, _, _⟩ := h
  intro x hx
  simp only [tabs, List.mem_singleton] at hx
  subst hx
  obtain ⟨g, t, cs, fuel, p, q, h1, h2, h3, h4, h5, h6⟩ := id hv
  obtain rfl := Option.some.inj (gHeads.symm.trans h1)
  exact ⟨by decide, by simp [headsRow], by simp [headsRow], by simp [headsRow, AV.scalar], fun ρ => laid_cells hv (List.mem_singleton.2 rfl) gHeads h2 (heads_lit t h2)⟩

theorem known_any (W : World) (h : ∀ x ∈ tabs, TabAt W x) : Calls Tryz.prog 3 #[] W fun e W' => e = .returned (.bool true) ∧ Below W.heap.size W W' := by
  obtain ⟨m, hm⟩ := isT_some run
  exact run_calls fOK mixed h hm

theorem door_met (os : Os) (args : Array Value) : laidMetH Tryz.prog [("packhorse/wire.heads", Rows.laid_packhorse_wire_heads)] ((World.doorLaid Tryz.prog 14 os).forCall (fun _ _ => 0) ⟨#[], args, []⟩).memory :=
  laidMetH_of_parts3 (fuel := 8) (laidMet_of_run' 8 (by kernel_rfl) (by kernel_rfl)) (by kernel_rfl) (by kernel_rfl)

set_option maxRecDepth 100000 in
theorem lifted (os : Os) (started : os.Started) (H : Type) (enc : TypeId × Value → H) :
    ReturnsInHanded {} Tryz.checked os 3 .any (fun w args => (Rows.auditKnownSpec.pre enc Tryz.prog Tryz.f3 [] false w args ∧ laidMetH Tryz.prog [("packhorse/wire.heads", Rows.laid_packhorse_wire_heads)] w) ∧ sizedMet enc Tryz.prog Tryz.f3 (OpenSpec.ofChange Rows.auditKnownSpec) false w args)
      (Rows.auditKnownSpec.post enc Tryz.prog Tryz.f3 false true false false) := by
  refine returnsInHanded_of_change_and (C := Tryz.checked) (X := fun w _ => laidMetH Tryz.prog [("packhorse/wire.heads", Rows.laid_packhorse_wire_heads)] w) (fun _ _ _ hh h => h.of_heap hh) own started (by kernel_rfl) Tryz.func3
    (ChangeSpec.witness_shaped (enc := enc) (C := Tryz.checked) (os := os) (X := fun w _ => laidMetH Tryz.prog [("packhorse/wire.heads", Rows.laid_packhorse_wire_heads)] w) false (World.doorLaid Tryz.prog 14 os) #[] 8 rfl (World.shaped_of_RefB (by kernel_rfl) (by kernel_rfl)) (by kernel_rfl) (by kernel_rfl) (by kernel_rfl) (door_met os _)) ?_
  intro W base args ds gs before hval0 hW _ _ hL _
  have hW' := hW
  obtain ⟨p, q, hA0, hV, rfl, hfz, hnd⟩ := hW
  have hA : DataW.TrodAll enc Tryz.prog W 0 (fun _ => true) true Tryz.f3.params.toList args.toList ds p := hA0
  rw [Tryz.params3] at hA
  obtain ⟨rfl, rfl, rfl⟩ := trodAll_none hA
  obtain ⟨rfl, rfl⟩ := trodVars_none hV
  have e1 : Rows.auditKnownSpec.fn H ([] ++ []) = { results := [.lit (.bool true)], args := [] } := rfl
  refine (known_any W (heads_at hL)).mono fun e W' ⟨he, hb⟩ => ?_
  subst he
  refine ⟨_, rfl, _, _, _, [], [], [], hW', ?_, ?_, ?_, keptBut_of_below hb _, fun h => by cases h⟩
  · rw [e1]; exact trodAll_mk1 (shut_bool Tryz.underlying4 true)
  · rw [e1, Tryz.params3]; rfl
  · rw [e1]; rfl

theorem auditKnown_holds : Rows.AuditKnownSaid :=
  OpenClaim.holds_of_wide 3 Tryz.f3 rfl rfl rfl rfl rfl rfl rfl ⟨rfl, rfl, rfl, rfl, rfl⟩ rfl rfl rfl rfl rfl (by kernel_rfl) Tryz.func3 (by kernel_rfl)
    (of_decide_eq_true (by kernel_rfl)) (by unfold Func.isWrapper; first | (rw [if_pos (by decide +kernel)]; kernel_rfl) | (rw [if_neg (by decide +kernel)]; exact ⟨rfl, rfl⟩))
    (fun os started H enc _ => lifted os started H enc)
#print axioms auditKnown_holds
end Go.Proofs.YtfhkpeggifapmaaGreatDoor
