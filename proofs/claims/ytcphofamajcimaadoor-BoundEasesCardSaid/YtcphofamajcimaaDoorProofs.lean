/- The law BoundEases returns true for every list of numbers and any two numbers, and leaves them as they were.
   Conditions: those of the given row; the tables packhorse/wire.heads and packhorse/script.uses are laid as listed. -/
import Derived.Test.YtcphofamajcimaaDoorSn
import Derived.Test.YtcphofamajcimaaDoorRun
import Derived.ProofKit
import Derived.LaidMore
import Derived.OpenShut
import Derived.ChangeStays
import Derived.ChangeBook
import Derived.Stop.Joined
set_option linter.unusedSimpArgs false
set_option linter.unusedVariables false
namespace Go.Proofs.YtcphofamajcimaaDoor
open Go.ChangeShapes Go.WideShapes Go.ChangeAt Go.RowKit Go.Abs

theorem own : ownKnob Tryd.prog.godebug = none := by kernel_rfl
theorem gHeads : Tryd.prog.globalNamed "packhorse/wire.heads" = some 1 := by kernel_rfl
theorem gUses : Tryd.prog.globalNamed "packhorse/script.uses" = some 0 := by kernel_rfl
theorem mixed : Tryd.prog.follows .mixedOrders = true := by kernel_rfl
theorem laidOut : laidOutB Tryd.prog = true := by kernel_rfl
abbrev laidV : List (String × DataW Unit) := [("packhorse/wire.heads", Rows.laid_packhorse_wire_heads), ("packhorse/script.uses", Rows.laid_packhorse_script_uses)]
theorem heads_lit (t : TypeId) (ht : (Tryd.prog.globals[1]?).map (·.type) = some t) : litC Tryd.prog 4 t Rows.laid_packhorse_wire_heads = some headsRow.flatten := by
  have e : (Tryd.prog.globals[1]?).map (·.type) = some 149 := by kernel_rfl
  obtain rfl := Option.some.inj (e.symm.trans ht)
  show litC Tryd.prog 4 149 Rows.laid_packhorse_wire_heads = some headsRow.flatten
  kernel_rfl
theorem uses_lit (t : TypeId) (ht : (Tryd.prog.globals[0]?).map (·.type) = some t) : litC Tryd.prog 4 t Rows.laid_packhorse_script_uses = some usesRow.flatten := by
  have e : (Tryd.prog.globals[0]?).map (·.type) = some 140 := by kernel_rfl
  obtain rfl := Option.some.inj (e.symm.trans ht)
  show litC Tryd.prog 4 140 Rows.laid_packhorse_script_uses = some usesRow.flatten
  kernel_rfl

theorem tabs_met {W : World} (h : laidMetH Tryd.prog laidV W) : ∀ x ∈ tabs, TabAt W x := by
  rw [MakeChecks.laidMetH_plain _ _ _ (by kernel_rfl)] at h
  obtain ⟨ps, hv, _, _⟩ := h
  intro x hx
  obtain ⟨g, t, cs, fuel, p, q, h1, h2, h3, h4, h5, h6⟩ := id hv
  obtain rfl := Option.some.inj (gHeads.symm.trans h1)
  obtain ⟨g', t', cs', fuel', p', q', k1, k2, k3, k4, k5, k6⟩ := id h5
  obtain rfl := Option.some.inj (gUses.symm.trans k1)
  simp only [tabs, List.mem_cons, List.not_mem_nil, or_false] at hx
  rcases hx with rfl | rfl
  · exact ⟨by decide, by simp [usesRow], by simp [usesRow], by simp [usesRow, AV.scalar], fun ρ => laid_cells hv (by simp) gUses k2 (uses_lit t' k2)⟩
  · exact ⟨by decide, by simp [headsRow], by simp [headsRow], by simp [headsRow, AV.scalar], fun ρ => laid_cells hv (by simp) gHeads h2 (heads_lit t h2)⟩

theorem tabs_plain : ∀ x ∈ tabs, 0 < x.2.1 ∧ x.2.2.flatten ≠ [] ∧ ∀ a ∈ x.2.2.flatten, a.plain = true := by
  intro x hx
  simp only [tabs, List.mem_cons, List.not_mem_nil, or_false] at hx
  rcases hx with rfl | rfl
  · exact ⟨by decide, by simp [usesRow], by simp [usesRow, AV.plain]⟩
  · exact ⟨by decide, by simp [headsRow], by simp [headsRow, AV.plain]⟩

theorem ft : FT F := by constructor <;> rfl
theorem mt : MT (cmeth Tryd.prog) := by constructor <;> kernel_rfl
theorem z0 : Z0 (sumOf tabs 9 (.bool true)) := fun f vs m hf => by unfold sumOf; rw [if_neg (fun h => hf h.1)]
theorem tabs_in {m : Mem} (h0 : bget m.blks 0 = some (.row false 8 usesRow)) (h1 : bget m.blks 1 = some (.row false 1 headsRow)) : TabsIn tabs m := fun b x hb => by
  rcases b with _ | _ | b
  · cases hb; exact h0
  · cases hb; exact h1
  · cases hb
theorem law_any {H : Type} {enc : TypeId × Value → H} {W : World} {v0 v1 v2 : Value} {d0 d1 d2 : DataW H} {p0 p1 p2 : List MemPlace} (hL : laidMetH Tryd.prog laidV W)
    (c0 : v0.cells.toList = [v0]) (c1 : v1.cells.toList = [v1]) (c2 : v2.cells.toList = [v2])
    (h0 : DataW.Trod enc Tryd.prog W 0 (fun _ => true) true 22 v0 d0 p0) (h1 : DataW.Trod enc Tryd.prog W 0 (fun _ => true) true 3 v1 d1 p1) (h2 : DataW.Trod enc Tryd.prog W 0 (fun _ => true) true 3 v2 d2 p2) :
    Calls Tryd.prog 3 #[v0, v1, v2] W fun e W' => e = .returned (.bool true) ∧ Below W.heap.size W W' := by
  obtain ⟨m1, hm1⟩ := isT_some run
  have hsum : SumOK Tryd.prog (globOf tabs 0) (sumOf tabs 9 (.bool true)) := sum_ok fOK mixed tabs_plain (by decide) hm1
  obtain ⟨f0, h0⟩ := h0
  obtain ⟨f1, h1⟩ := h1
  obtain ⟨f2, h2⟩ := h2
  rw [c0] at h0
  rw [c1] at h1
  rw [c2] at h2
  obtain ⟨l, ks, X, hr, hx⟩ := nums_read Tryd.underlying22 Tryd.underlying3 (by kernel_rfl) h0
  obtain ⟨a, rfl⟩ := num_read Tryd.underlying3 h1
  obtain ⟨x, rfl⟩ := num_read Tryd.underlying3 h2
  obtain ⟨q1, q2⟩ := hx (tabRows tabs)
  have hT := tabs_met hL
  have hrows : ∀ x ∈ tabRows tabs ++ l, RowAt W x.1 x.2 := fun x hx => by
    rcases List.mem_append.1 hx with hx | hx
    · obtain ⟨y, hy, rfl⟩ := List.mem_map.1 hx
      exact (hT y hy).row
    · exact hr x hx
  obtain ⟨m', he⟩ := law_all ft mt z0 (fun m h0 h1 => by unfold sumOf; rw [if_pos ⟨rfl, rfl, tabs_in h0 h1⟩]) 52 _ [] [] a x q1 (by rw [rows_get]; rfl) (by rw [rows_get]; rfl)
  refine (fn_calls (SumOK.run (f0 := 5) (N := 60) (SumOK.layers hsum fOK mixed 45) fOK mixed) fOK mixed (K := keepK Tryd.prog (globOf tabs 0) W) (w0 := W) (ρ := rowsR (tabRows tabs ++ l)) rfl he (rows_rel _ hrows) (tabs_glob tabs _) (vs' := #[v0, .int .i64 a, .int .i64 x]) ⟨v0, _, rfl, q2, _, _, rfl, rfl, _, _, rfl, rfl, rfl⟩ ((if_neg (by decide)).trans (smN_none z0 45 (by decide) (by decide) _ _))).mono fun e w' h => ?_
  obtain ⟨v', ρ', rfl, hv, R, _⟩ := h
  have hv : v' = .bool true := hv
  subst hv
  exact ⟨rfl, R.below.below⟩

theorem door_met (os : Os) (args : Array Value) : laidMetH Tryd.prog laidV ((World.doorLaid Tryd.prog 34 os).forCall (fun _ _ => 0) ⟨#[], args, []⟩).memory :=
  laidMetH_of_parts3 (fuel := 8) (laidMet_of_run' 8 (by kernel_rfl) (by kernel_rfl)) (by kernel_rfl) (by kernel_rfl)

section
variable {H : Type} {enc : TypeId × Value → H} {P : Program}
theorem post_of_below {f : Func} {s : ChangeSpec} {apart fresh handsOn again : Bool} {W W' : World} {args : Array Value} {v : Value} {ds gs : List (DataW H)} {before pa pv : List MemPlace}
    (hW : DataW.Whole enc P f.params.toList s.vars apart W args.toList ds gs before)
    (hres : ∀ (b : Nat) (sp : Nat → Bool) (hd : Bool), DataW.TrodAll enc P W' b sp hd f.resultTypes.toList (v.resultList f.resultTypes.size) (s.fn H (ds ++ gs)).results [])
    (hargs : ∀ sp : Nat → Bool, (∀ p ∈ before, sp p.block = true) → DataW.TrodAll enc P W' 0 sp true f.params.toList args.toList (s.fn H (ds ++ gs)).args pa)
    (hvars : ∀ sp : Nat → Bool, (∀ p ∈ before, sp p.block = true) → DataW.TrodVars enc P W' sp s.vars (s.fn H (ds ++ gs)).vars pv)
    (hps : before = pa ++ pv) (hb : Below W.heap.size W W')
    (hok : ∀ (j : Nat) (t : TypeId) (r : Value), f.resultTypes[j]? = some t → (v.resultList f.resultTypes.size)[j]? = some r → Value.okWide P W' .any 0 t r) :
    s.post enc P f apart fresh handsOn again W args v W' := by
  have hlt : ∀ p ∈ before, p.block < W.heap.size := fun p hp => hW.lt p hp
  have hold : ∀ p ∈ before, (fun b => decide (b < W.heap.size)) p.block = true := fun p hp => by simpa using hlt p hp
  refine ⟨ds, gs, before, [], pa, pv, hW, hres _ _ _, hargs _ hold, hvars _ hold, World.keptBut_mono (fun p hp => ⟨hp, ?_⟩) (hb.frame (· ∈ before)), fun _ => ?_⟩
  · rw [hps, List.mem_append] at hp
    exact Or.inr hp
  · obtain ⟨_, _, _, _, _, hz, hn⟩ := hW
    refine ⟨hok, _, _, ([] ++ pa) ++ pv, ⟨[] ++ pa, pv, trodAll_append (hargs _ (fun _ _ => rfl)) (hres _ _ _), hvars _ (fun _ _ => rfl), rfl, ?_, ?_⟩, ?_⟩
    · intro b off hp
      have hin : MemPlace.cell b off ∈ before := by rw [hps]; simpa using hp
      rw [hb.frozen (hlt _ hin)]
      exact hz b off hin
    · intro ha
      have := hn ha
      rw [hps] at this
      simpa using this
    · intro p hp _
      rw [hps]
      simpa using hp
end

set_option maxRecDepth 100000 in
theorem lifted (os : Os) (started : os.Started) (H : Type) (enc : TypeId × Value → H) :
    ReturnsInHanded {} Tryd.checked os 3 .any (fun w args => (Rows.boundEasesSpec.pre enc Tryd.prog Tryd.f3 [] false w args ∧ laidMetH Tryd.prog laidV w) ∧ sizedMet enc Tryd.prog Tryd.f3 (OpenSpec.ofChange Rows.boundEasesSpec) false w args)
      (Rows.boundEasesSpec.post enc Tryd.prog Tryd.f3 false true false false) := by
  refine returnsInHanded_of_change_and (C := Tryd.checked) (X := fun w _ => laidMetH Tryd.prog laidV w) (fun _ _ _ hh h => h.of_heap hh) own started (by kernel_rfl) Tryd.func3
    (ChangeSpec.witness_shaped (enc := enc) (C := Tryd.checked) (os := os) (X := fun w _ => laidMetH Tryd.prog laidV w) false (World.doorLaid Tryd.prog 34 os) #[.slice none 0 0, .int .i64 0, .int .i64 0] 8 rfl (World.shaped_of_RefB (by kernel_rfl) (by kernel_rfl)) (by kernel_rfl) (by kernel_rfl) (by kernel_rfl) (door_met os _)) ?_
  intro W base args ds gs before hval0 hW _ _ hL _
  have hval : ∀ (j : Nat) t v, Tryd.f3.params[j]? = some t → args[j]? = some v → Value.okWide Tryd.prog W .any base t v := hval0
  have hW' := hW
  obtain ⟨p, q, hA0, hV, rfl, hfz, hnd⟩ := hW
  have hA : DataW.TrodAll enc Tryd.prog W 0 (fun _ => true) true Tryd.f3.params.toList args.toList ds p := hA0
  rw [Tryd.params3] at hA hval
  obtain ⟨v0, v1, v2, d0, d1, d2, p0, p1, p2, rfl, rfl, rfl, h0, h1, h2⟩ := trodAll_three hA
  obtain ⟨rfl, rfl⟩ := trodVars_none hV
  obtain ⟨a, rfl, rfl, rfl, wa⟩ := open_int Tryd.underlying3 (hval 1 3 v1 rfl rfl) h1
  obtain ⟨b, rfl, rfl, rfl, wb⟩ := open_int Tryd.underlying3 (hval 2 3 v2 rfl rfl) h2
  obtain ⟨sa, sl, sc, rfl⟩ := okWide_slice Tryd.underlying22 (hval 0 22 v0 rfl rfl)
  have c0 : (Value.slice sa sl sc).cells.toList = [Value.slice sa sl sc] := rfl
  refine (law_any hL c0 rfl rfl h0 h1 h2).mono fun e W' ⟨he, hb⟩ => ?_
  subst he
  refine ⟨_, rfl, post_of_below (pa := p0 ++ ([] ++ [])) (pv := []) hW' (fun _ _ _ => trodAll_mk1 (shut_bool Tryd.underlying4 _)) (fun sp hsp => ?_) (fun _ _ => rfl) (by simp) hb (ok_one (by kernel_rfl) rfl (okWide_bool_mk Tryd.underlying4 _))⟩
  rw [Tryd.params3]
  obtain ⟨n, hn⟩ := h0
  refine trodAll_mk3 ⟨n, DataW.trod_stays (kids_book laidOut (t0 := 22) (by kernel_rfl)) (book_sized (by kernel_rfl)) (fun h => by cases h) ⟨of_decide_eq_true (by kernel_rfl), book_self 22⟩ hn (fun p hp => hb.same (hW'.lt p (by simpa using hp))) (fun p hp => hsp p (by simpa using hp))⟩ (shut_int Tryd.underlying3 wa) (shut_int Tryd.underlying3 wb)

theorem boundEases_holds : Rows.BoundEasesSaid :=
  OpenClaim.holds_of_wide 3 Tryd.f3 rfl rfl rfl rfl rfl rfl rfl ⟨rfl, rfl, rfl, rfl, rfl⟩ rfl rfl rfl rfl rfl (by kernel_rfl) Tryd.func3 (by kernel_rfl)
    (of_decide_eq_true (by kernel_rfl)) (by unfold Func.isWrapper; first | (rw [if_pos (by decide +kernel)]; kernel_rfl) | (rw [if_neg (by decide +kernel)]; exact ⟨rfl, rfl⟩))
    (fun os started H enc _ => lifted os started H enc)
#print axioms boundEases_holds
end Go.Proofs.YtcphofamajcimaaDoor
