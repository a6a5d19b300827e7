/- The law BoundStill returns true for every snapshot, and leaves it as it was.
   Conditions: those of the given row; the tables packhorse/wire.heads and packhorse/script.uses are laid as listed. -/
import Derived.Test.YtcphofamajcimaaDoorRead
import Derived.Test.YtcphofamajcimaaDoorRun
import Derived.ProofKit
import Derived.LaidMore
import Derived.OpenShut
import Derived.ChangeStays
import Derived.ChangeBook
import Derived.Stop.Joined
namespace Go.Proofs.YtcphofamajcimaaDoor
open Go.ChangeShapes Go.WideShapes Go.ChangeAt Go.RowKit Go.Abs

theorem own : ownKnob Tryd.prog.godebug = none := by kernel_rfl
theorem gHeads : Tryd.prog.globalNamed "packhorse/wire.heads" = some 1 := by kernel_rfl
theorem gUses : Tryd.prog.globalNamed "packhorse/script.uses" = some 0 := by kernel_rfl
theorem mixed : Tryd.prog.follows .mixedOrders = true := by kernel_rfl
theorem laidOut : laidOutB Tryd.prog = true := by kernel_rfl
abbrev laidV : List (String × DataW Unit) := [("packhorse/wire.heads", Rows.laid_packhorse_wire_heads), ("packhorse/script.uses", Rows.laid_packhorse_script_uses)]
theorem heads_lit (t : TypeId) (ht : (Tryd.prog.globals[1]?).map (·.type) = some t) : litC Tryd.prog 4 t Rows.laid_packhorse_wire_heads = some headsRow.flatten := by
  have e : (Tryd.prog.globals[1]?).map (·.type) = some 149 := by kernel_rfl
  obtain rfl := Option.some.inj (e.symm.trans ht)
  show litC Tryd.prog 4 149 Rows.laid_packhorse_wire_heads = some headsRow.flatten
  kernel_rfl
theorem uses_lit (t : TypeId) (ht : (Tryd.prog.globals[0]?).map (·.type) = some t) : litC Tryd.prog 4 t Rows.laid_packhorse_script_uses = some usesRow.flatten := by
  have e : (Tryd.prog.globals[0]?).map (·.type) = some 140 := by kernel_rfl
  obtain rfl := Option.some.inj (e.symm.trans ht)
  show litC Tryd.prog 4 140 Rows.laid_packhorse_script_uses = some usesRow.flatten
  kernel_rfl

theorem tabs_met {W : World} (h : laidMetH Tryd.prog laidV W) : ∀ x ∈ tabs, TabAt W x := by
  rw [MakeChecks.laidMetH_plain _ _ _ (by kernel_rfl)] at h
  obtain ⟨ps, hv, _, _⟩ := h
  intro x hx
  obtain ⟨g, t, cs, fuel, p, q, h1, h2, h3, h4, h5, h6⟩ := id hv
  obtain rfl := Option.some.inj (gHeads.symm.trans h1)
  obtain ⟨g', t', cs', fuel', p', q', k1, k2, k3, k4, k5, k6⟩ := id h5
  obtain rfl := Option.some.inj (gUses.symm.trans k1)
  simp only [tabs, List.mem_cons, List.not_mem_nil, or_false] at hx
  rcases hx with rfl | rfl
  · exact ⟨by decide, by simp [usesRow], by simp [usesRow], by simp [usesRow, AV.scalar], fun ρ => laid_cells hv (by simp) gUses k2 (uses_lit t' k2)⟩
  · exact ⟨by decide, by simp [headsRow], by simp [headsRow], by simp [headsRow, AV.scalar], fun ρ => laid_cells hv (by simp) gHeads h2 (heads_lit t h2)⟩

theorem tabs_plain : ∀ x ∈ tabs, 0 < x.2.1 ∧ x.2.2.flatten ≠ [] ∧ ∀ a ∈ x.2.2.flatten, a.plain = true := by
  intro x hx
  simp only [tabs, List.mem_cons, List.not_mem_nil, or_false] at hx
  rcases hx with rfl | rfl
  · exact ⟨by decide, by simp [usesRow], by simp [usesRow, AV.plain]⟩
  · exact ⟨by decide, by simp [headsRow], by simp [headsRow, AV.plain]⟩

theorem law_any {H : Type} {enc : TypeId × Value → H} {W : World} {v : Value} {d : DataW H} {ps : List MemPlace} (hL : laidMetH Tryd.prog laidV W) (hv : ∃ cs, v = .agg cs ∧ cs.size = 3) (h : DataW.Trod enc Tryd.prog W 0 (fun _ => true) true 41 v d ps) :
    Calls Tryd.prog 4 #[v] W fun e W' => e = .returned (.bool true) ∧ Below W.heap.size W W' := by
  obtain ⟨m1, hm1⟩ := isT_some run
  have hsum : SumOK Tryd.prog (globOf tabs 0) (sumOf tabs 9 (.bool true)) := sum_ok fOK mixed tabs_plain (by decide) hm1
  obtain ⟨l1, l2, ns, ls, c1, c2, X1, X2, hr1, hr2, hx⟩ := snap_read hv h
  obtain ⟨p1, p2, p3⟩ := hx (tabRows tabs)
  have hT := tabs_met hL
  have hrows : ∀ x ∈ tabRows tabs ++ (l1 ++ l2), RowAt W x.1 x.2 := fun x hx => by
    rcases List.mem_append.1 hx with hx | hx
    · obtain ⟨y, hy, rfl⟩ := List.mem_map.1 hx
      exact (hT y hy).row
    · rcases List.mem_append.1 hx with hx | hx
      · exact hr1 x hx
      · exact hr2 x hx
  have hkeepT : ∀ m m' : Mem, TabsIn tabs m → Keep m m' → TabsIn tabs m' := fun m m' h k b x hb => (k.get b (bget_lt (h b x hb))).trans (h b x hb)
  have hT0 : TabsIn tabs { blks := rowsB (tabRows tabs ++ (l1 ++ l2)) ⟨0, .e⟩ } := fun b x hb => by
    have hlt : b < (tabRows tabs).length := by
      unfold tabRows
      rw [List.length_map]
      exact (List.getElem?_eq_some_iff.1 hb).1
    rw [rows_get, List.getElem?_append_left hlt]
    unfold tabRows
    rw [List.getElem?_map, hb]
    rfl
  obtain ⟨m', he⟩ := e4 (F := F) (meth := cmeth Tryd.prog) (sm := sumOf tabs 9 (.bool true)) rfl rfl rfl rfl rfl rfl rfl (fun f vs m hf => by unfold sumOf; rw [if_neg (fun h => hf h.1)]) hkeepT (fun m l d h => h) (fun m h => by unfold sumOf; rw [if_pos ⟨rfl, rfl, h⟩]) hT0 p1 p2
  refine (fn_calls hsum fOK mixed (K := keepK Tryd.prog (globOf tabs 0) W) (w0 := W) (ρ := rowsR (tabRows tabs ++ (l1 ++ l2))) rfl he (rows_rel _ hrows) (tabs_glob tabs _) (vs' := #[v]) ⟨v, [], rfl, p3, rfl⟩ (by unfold sumOf; rw [if_neg (fun h => by cases h.1)])).mono fun e w' h => ?_
  obtain ⟨v', ρ', rfl, hv, R, _⟩ := h
  have hv : v' = .bool true := hv
  subst hv
  exact ⟨rfl, R.below.below⟩

theorem door_met (os : Os) (args : Array Value) : laidMetH Tryd.prog laidV ((World.doorLaid Tryd.prog 34 os).forCall (fun _ _ => 0) ⟨#[], args, []⟩).memory :=
  laidMetH_of_parts3 (fuel := 8) (laidMet_of_run' 8 (by kernel_rfl) (by kernel_rfl)) (by kernel_rfl) (by kernel_rfl)

section
variable {H : Type} {enc : TypeId × Value → H} {P : Program}
theorem post_of_below {f : Func} {s : ChangeSpec} {apart fresh handsOn again : Bool} {W W' : World} {args : Array Value} {v : Value} {ds gs : List (DataW H)} {before pa pv : List MemPlace}
    (hW : DataW.Whole enc P f.params.toList s.vars apart W args.toList ds gs before)
    (hres : ∀ (b : Nat) (sp : Nat → Bool) (hd : Bool), DataW.TrodAll enc P W' b sp hd f.resultTypes.toList (v.resultList f.resultTypes.size) (s.fn H (ds ++ gs)).results [])
    (hargs : ∀ sp : Nat → Bool, (∀ p ∈ before, sp p.block = true) → DataW.TrodAll enc P W' 0 sp true f.params.toList args.toList (s.fn H (ds ++ gs)).args pa)
    (hvars : ∀ sp : Nat → Bool, (∀ p ∈ before, sp p.block = true) → DataW.TrodVars enc P W' sp s.vars (s.fn H (ds ++ gs)).vars pv)
    (hps : before = pa ++ pv) (hb : Below W.heap.size W W')
    (hok : ∀ (j : Nat) (t : TypeId) (r : Value), f.resultTypes[j]? = some t → (v.resultList f.resultTypes.size)[j]? = some r → Value.okWide P W' .any 0 t r) :
    s.post enc P f apart fresh handsOn again W args v W' := by
  have hlt : ∀ p ∈ before, p.block < W.heap.size := fun p hp => hW.lt p hp
  have hold : ∀ p ∈ before, (fun b => decide (b < W.heap.size)) p.block = true := fun p hp => by simpa using hlt p hp
  refine ⟨ds, gs, before, [], pa, pv, hW, hres _ _ _, hargs _ hold, hvars _ hold, World.keptBut_mono (fun p hp => ⟨hp, ?_⟩) (hb.frame (· ∈ before)), fun _ => ?_⟩
  · rw [hps, List.mem_append] at hp
    exact Or.inr hp
  · obtain ⟨_, _, _, _, _, hz, hn⟩ := hW
    refine ⟨hok, _, _, ([] ++ pa) ++ pv, ⟨[] ++ pa, pv, trodAll_append (hargs _ (fun _ _ => rfl)) (hres _ _ _), hvars _ (fun _ _ => rfl), rfl, ?_, ?_⟩, ?_⟩
    · intro b off hp
      have hin : MemPlace.cell b off ∈ before := by rw [hps]; simpa using hp
      rw [hb.frozen (hlt _ hin)]
      exact hz b off hin
    · intro ha
      have := hn ha
      rw [hps] at this
      simpa using this
    · intro p hp _
      rw [hps]
      simpa using hp
end

set_option maxRecDepth 100000 in
theorem lifted (os : Os) (started : os.Started) (H : Type) (enc : TypeId × Value → H) :
    ReturnsInHanded {} Tryd.checked os 4 .any (fun w args => (Rows.boundStillSpec.pre enc Tryd.prog Tryd.f4 [] false w args ∧ laidMetH Tryd.prog laidV w) ∧ sizedMet enc Tryd.prog Tryd.f4 (OpenSpec.ofChange Rows.boundStillSpec) false w args)
      (Rows.boundStillSpec.post enc Tryd.prog Tryd.f4 false true false false) := by
  refine returnsInHanded_of_change_and (C := Tryd.checked) (X := fun w _ => laidMetH Tryd.prog laidV w) (fun _ _ _ hh h => h.of_heap hh) own started (by kernel_rfl) Tryd.func4
    (ChangeSpec.witness_shaped (enc := enc) (C := Tryd.checked) (os := os) (X := fun w _ => laidMetH Tryd.prog laidV w) false (World.doorLaid Tryd.prog 34 os) #[.agg #[.int .i64 0, .slice none 0 0, .slice none 0 0]] 8 rfl (World.shaped_of_RefB (by kernel_rfl) (by kernel_rfl)) (by kernel_rfl) (by kernel_rfl) (by kernel_rfl) (door_met os _)) ?_
  intro W base args ds gs before hval0 hW _ _ hL _
  have hval : ∀ (j : Nat) t v, Tryd.f4.params[j]? = some t → args[j]? = some v → Value.okWide Tryd.prog W .any base t v := hval0
  have hW' := hW
  obtain ⟨p, q, hA0, hV, rfl, hfz, hnd⟩ := hW
  have hA : DataW.TrodAll enc Tryd.prog W 0 (fun _ => true) true Tryd.f4.params.toList args.toList ds p := hA0
  rw [Tryd.params4] at hA hval
  obtain ⟨v0, d0, rfl, rfl, h0⟩ := trodAll_one hA
  obtain ⟨rfl, rfl⟩ := trodVars_none hV
  have hv : ∃ cs, v0 = .agg cs ∧ cs.size = 3 := by
    have := hval 0 41 v0 rfl rfl
    simp only [Value.okWide, Tryd.underlying41] at this
    obtain ⟨cs, e, hs, _⟩ := this
    exact ⟨cs, e, by rw [hs, c41]⟩
  refine (law_any hL hv h0).mono fun e W' ⟨he, hb⟩ => ?_
  subst he
  refine ⟨_, rfl, post_of_below (pa := p) (pv := []) hW' (fun _ _ _ => trodAll_mk1 (shut_bool Tryd.underlying4 _)) (fun sp hsp => ?_) (fun _ _ => rfl) (by simp) hb (ok_one (by kernel_rfl) rfl (okWide_bool_mk Tryd.underlying4 _))⟩
  rw [Tryd.params4]
  obtain ⟨n, hn⟩ := h0
  refine trodAll_mk1 ⟨n, DataW.trod_stays (kids_book laidOut (t0 := 41) (by kernel_rfl)) (book_sized (by kernel_rfl)) (fun h => by cases h) ⟨of_decide_eq_true (by kernel_rfl), book_self 41⟩ hn (fun p hp => hb.same (hW'.lt p (by simpa using hp))) (fun p hp => hsp p (by simpa using hp))⟩

theorem boundStill_holds : Rows.BoundStillSaid :=
  OpenClaim.holds_of_wide 4 Tryd.f4 rfl rfl rfl rfl rfl rfl rfl ⟨rfl, rfl, rfl, rfl, rfl⟩ rfl rfl rfl rfl rfl (by kernel_rfl) Tryd.func4 (by kernel_rfl)
    (of_decide_eq_true (by kernel_rfl)) (by unfold Func.isWrapper; first | (rw [if_pos (by decide +kernel)]; kernel_rfl) | (rw [if_neg (by decide +kernel)]; exact ⟨rfl, rfl⟩))
    (fun os started H enc _ => lifted os started H enc)
#print axioms boundStill_holds
end Go.Proofs.YtcphofamajcimaaDoor
