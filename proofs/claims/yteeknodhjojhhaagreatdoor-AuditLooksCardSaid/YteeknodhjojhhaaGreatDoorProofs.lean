/- The law AuditLooks returns true for every snapshot, every identifier and every plan, and leaves them as they were.
   Conditions: those of the given row; the tables packhorse/wire.heads and packhorse/sum.table are laid as listed. -/
import Derived.Test.YteeknodhjojhhaaGreatDoorR
import Derived.Test.YteeknodhjojhhaaGreatDoorRun
import Derived.ProofKit
import Derived.LaidMore
import Derived.OpenShut
import Derived.ChangeStays
import Derived.ChangeBook
import Derived.Stop.Joined
namespace Go.Proofs.YteeknodhjojhhaaGreatDoor
open Go.ChangeShapes Go.WideShapes Go.ChangeAt Go.RowKit Go.Abs
set_option linter.unusedVariables false
set_option maxRecDepth 100000
theorem own : ownKnob Tryz.prog.godebug = none := by kernel_rfl
theorem QU : Tryz.prog.globalNamed "packhorse/wire.heads" = some 0 := by kernel_rfl
theorem AgZ : Tryz.prog.globalNamed "packhorse/sum.table" = some 1 := by kernel_rfl
theorem mixed : Tryz.prog.follows .mixedOrders = true := by kernel_rfl
theorem laidOut : laidOutB Tryz.prog = true := by kernel_rfl
abbrev Ej : List (String × DataW Unit) := [("packhorse/sum.table", Rows.laid_packhorse_sum_table), ("packhorse/wire.heads", Rows.laid_packhorse_wire_heads)]
theorem Ng (t : TypeId) (ht : (Tryz.prog.globals[0]?).map (·.type) = some t) : AG Tryz.prog 4 t Rows.laid_packhorse_wire_heads = some fM.flatten := by
  have e : (Tryz.prog.globals[0]?).map (·.type) = some 353 := by kernel_rfl
  obtain rfl := Option.some.inj (e.symm.trans ht)
  show AG Tryz.prog 4 353 Rows.laid_packhorse_wire_heads = some fM.flatten
  kernel_rfl
theorem TU (t : TypeId) (ht : (Tryz.prog.globals[1]?).map (·.type) = some t) : AG Tryz.prog 4 t Rows.laid_packhorse_sum_table = some uZ.flatten := by
  have e : (Tryz.prog.globals[1]?).map (·.type) = some 415 := by kernel_rfl
  obtain rfl := Option.some.inj (e.symm.trans ht)
  show AG Tryz.prog 4 415 Rows.laid_packhorse_sum_table = some uZ.flatten
  kernel_rfl
theorem QV {W : World} (h : laidMetH Tryz.prog Ej W) : ∀ x ∈ AH, BS W x := by
  rw [MakeChecks.laidMetH_plain _ _ _ (by kernel_rfl)] at h
  obtain ⟨ps, hv, _, _⟩ := h
  intro x hx
  obtain ⟨g, t, cs, fuel, p, q, h1, h2, h3, h4, h5, h6⟩ := id hv
  obtain rfl := Option.some.inj (AgZ.symm.trans h1)
  obtain ⟨g', t', AA, AlZ, p', q', k1, k2, k3, k4, k5, k6⟩ := id h5
  obtain rfl := Option.some.inj (QU.symm.trans k1)
  simp only [AH, List.mem_cons, List.not_mem_nil, or_false] at hx
  rcases hx with rfl | rfl
  · exact ⟨by decide, by simp [fM], by simp [fM], by simp [fM, AV.cU], fun ρ => BR hv (by simp) QU k2 (Ng t' k2)⟩
  · exact ⟨by decide, by simp [uZ], by simp [uZ], by simp [uZ, AV.cU], fun ρ => BR hv (by simp) AgZ h2 (TU t h2)⟩
theorem Jc : ∀ x ∈ AH, 0 < x.2.1 ∧ x.2.2.flatten ≠ [] ∧ ∀ a ∈ x.2.2.flatten, a.plain = true := by
  intro x hx
  simp only [AH, List.mem_cons, List.not_mem_nil, or_false] at hx
  rcases hx with rfl | rfl
  · exact ⟨by decide, by simp [fM], by simp [fM, AV.plain]⟩
  · exact ⟨by decide, by simp [uZ], by simp [uZ, AV.plain]⟩
theorem Vm (h : qx Tryz.prog aM sm0) : ∀ i, qx Tryz.prog aM (SM i)
  | 0 => h
  | i + 1 => qx.pure (Vm h i) fOK mixed
theorem tys : Tys Tryz.prog 74 259 240 350 26 126 61 66 9 := ⟨⟨by kernel_rfl, by kernel_rfl⟩, ⟨by kernel_rfl, by kernel_rfl⟩, ⟨by kernel_rfl, by kernel_rfl⟩, ⟨by kernel_rfl, by kernel_rfl⟩, ⟨by kernel_rfl, by kernel_rfl⟩, ⟨by kernel_rfl, by kernel_rfl⟩, ⟨by kernel_rfl, by kernel_rfl⟩, ⟨by kernel_rfl, by kernel_rfl⟩, ⟨by kernel_rfl, by kernel_rfl⟩⟩
theorem TV {H : Type} {enc : TypeId × Value → H} {W : World} {c0 c1 : Array Value} {v2 : Value} {d0 d1 d2 : DataW H} {p0 p1 p2 : List MemPlace} (hL : laidMetH Tryz.prog Ej W) (cv : v2.cells.toList = [v2])
    (h0 : DataW.Trod enc Tryz.prog W 0 (fun _ => true) true 25 (.agg c0) d0 p0) (h1 : DataW.Trod enc Tryz.prog W 0 (fun _ => true) true 28 (.agg c1) d1 p1) (h2 : DataW.Trod enc Tryz.prog W 0 (fun _ => true) true 29 v2 d2 p2) :
    Calls Tryz.prog 3 #[.agg c0, .agg c1, v2] W fun e W' => e = .returned (.bool true) ∧ Below W.heap.size W W' := by
  obtain ⟨m1, hm1⟩ := QT run
  have AlU : qx Tryz.prog aM sm0 := V8 fOK mixed Jc (by decide) hm1
  obtain ⟨f0, h0⟩ := h0
  obtain ⟨f1, h1⟩ := h1
  obtain ⟨f2, h2⟩ := h2
  rw [cv] at h2
  have hT := QV hL
  have ok0 : NA W (nM AH) := fun x hx => by
    obtain ⟨y, hy, rfl⟩ := List.mem_map.1 hx
    exact (hT y hy).row.AgX _
  obtain ⟨l1, s, k1, VY, q1, R1, e1, n1⟩ := TT tys (by kernel_rfl) ok0 h0
  obtain ⟨l2, v, ks, k2, VZ, q2, s2, g2⟩ := vz (Yz (by kernel_rfl) (by kernel_rfl)) (by kernel_rfl : Tryz.prog.cellsOf 117 = 6) (by omega) VY ⟨29, _, _, Tryz.underlying29, h2⟩
  have R2 : iM (fT l2 ⟨0, .e⟩) s := iM.bw (m := ⟨fT l1 ⟨0, .e⟩, [], []⟩) (m' := ⟨fT l2 ⟨0, .e⟩, [], []⟩) R1 k2.bw
  obtain ⟨l3, rfl⟩ := k1.trans k2
  obtain ⟨y, qy⟩ := AgY (by kernel_rfl) (ρ := nT (nM AH ++ l3)) h1
  obtain ⟨w, m', he, kp, rfl⟩ := tC _ _ _ _ _ (N3 346 0 (fT (nM AH ++ l3) ⟨0, .e⟩) [] [] (x := y) (l := ks) (v := v) (by rw [pM]; rfl) (by rw [pM]; rfl) R2 e1 n1 s2 (Nat.le_refl _))
  refine (OL (Vm AlU 346) fOK mixed (K := Gb Tryz.prog aM W) (w0 := W) (ρ := nT (nM AH ++ l3)) rfl he (by rw [nN]; exact TK _ VZ) (LU AH _) (iA := #[.agg c0, .agg c1, v2]) ⟨_, _, rfl, ⟨c0, rfl, q1.mono k2.le⟩, _, _, rfl, ⟨c1, rfl, qy⟩, _, _, rfl, q2, rfl⟩ (Gw (by decide) _ (.inl (by decide)) _ _)).mono fun e w' h => ?_
  obtain ⟨v', gO, rfl, hv, R, _⟩ := h
  have hv : v' = .bool true := hv
  subst hv
  exact ⟨rfl, R.below.below⟩
theorem QW (os : Os) (args : Array Value) : laidMetH Tryz.prog Ej ((World.doorLaid Tryz.prog 19 os).forCall (fun _ _ => 0) ⟨#[], args, []⟩).memory :=
  laidMetH_of_parts3 (fuel := 8) (laidMet_of_run' 8 (by kernel_rfl) (by kernel_rfl)) (by kernel_rfl) (by kernel_rfl)

section
variable {H : Type} {enc : TypeId × Value → H} {P : Program}
theorem De {f : Func} {s : ChangeSpec} {apart fresh handsOn again : Bool} {W W' : World} {args : Array Value} {v : Value} {ds gs : List (DataW H)} {before pa pv : List MemPlace}
    (hW : DataW.Whole enc P f.params.toList s.vars apart W args.toList ds gs before)
    (Az : ∀ (b : Nat) (sp : Nat → Bool) (hd : Bool), DataW.TrodAll enc P W' b sp hd f.resultTypes.toList (v.resultList f.resultTypes.size) (s.fn H (ds ++ gs)).results [])
    (Du : ∀ sp : Nat → Bool, (∀ p ∈ before, sp p.block = true) → DataW.TrodAll enc P W' 0 sp true f.params.toList args.toList (s.fn H (ds ++ gs)).args pa)
    (Vn : ∀ sp : Nat → Bool, (∀ p ∈ before, sp p.block = true) → DataW.TrodVars enc P W' sp s.vars (s.fn H (ds ++ gs)).vars pv)
    (Ak : before = pa ++ pv) (hb : Below W.heap.size W W')
    (YM : ∀ (j : Nat) (t : TypeId) (r : Value), f.resultTypes[j]? = some t → (v.resultList f.resultTypes.size)[j]? = some r → Value.okWide P W' .any 0 t r) :
    s.post enc P f apart fresh handsOn again W args v W' := by
  have jU : ∀ p ∈ before, p.block < W.heap.size := fun p hp => hW.lt p hp
  have hold : ∀ p ∈ before, (fun b => decide (b < W.heap.size)) p.block = true := fun p hp => by simpa using jU p hp
  refine ⟨ds, gs, before, [], pa, pv, hW, Az _ _ _, Du _ hold, Vn _ hold, World.keptBut_mono (fun p hp => ⟨hp, ?_⟩) (hb.frame (· ∈ before)), fun _ => ?_⟩
  · rw [Ak, List.mem_append] at hp
    exact Or.inr hp
  · obtain ⟨_, _, _, _, _, hz, hn⟩ := hW
    refine ⟨YM, _, _, ([] ++ pa) ++ pv, ⟨[] ++ pa, pv, trodAll_append (Du _ (fun _ _ => rfl)) (Az _ _ _), Vn _ (fun _ _ => rfl), rfl, ?_, ?_⟩, ?_⟩
    · intro b off hp
      have uw : MemPlace.cell b off ∈ before := by rw [Ak]; simpa using hp
      rw [hb.frozen (jU _ uw)]
      exact hz b off uw
    · intro ha
      have := hn ha
      rw [Ak] at this
      simpa using this
    · intro p hp _
      rw [Ak]
      simpa using hp
end


set_option maxRecDepth 100000 in
theorem lifted (os : Os) (started : os.Started) (H : Type) (enc : TypeId × Value → H) :
    ReturnsInHanded {} Tryz.checked os 3 .any (fun w args => (Rows.auditLooksSpec.pre enc Tryz.prog Tryz.f3 [] false w args ∧ laidMetH Tryz.prog Ej w) ∧ sizedMet enc Tryz.prog Tryz.f3 (OpenSpec.ofChange Rows.auditLooksSpec) false w args)
      (Rows.auditLooksSpec.post enc Tryz.prog Tryz.f3 false true false false) := by
  refine returnsInHanded_of_change_and (C := Tryz.checked) (X := fun w _ => laidMetH Tryz.prog Ej w) (fun _ _ _ hh h => h.of_heap hh) own started (by kernel_rfl) Tryz.func3
    (ChangeSpec.witness_shaped (enc := enc) (C := Tryz.checked) (os := os) (X := fun w _ => laidMetH Tryz.prog Ej w) false (World.doorLaid Tryz.prog 19 os) #[.agg #[.int .i64 0, .slice none 0 0, .slice none 0 0], .agg #[.int .i64 0, .int .u64 0, .int .i64 0], .slice none 0 0] 8 rfl (World.shaped_of_RefB (by kernel_rfl) (by kernel_rfl)) (by kernel_rfl) (by kernel_rfl) (by kernel_rfl) (QW os _)) ?_
  intro W bC args ds gs before Ag0 hW _ _ hL _
  have TW : ∀ (j : Nat) t v, Tryz.f3.params[j]? = some t → args[j]? = some v → Value.okWide Tryz.prog W .any bC t v := Ag0
  have hW' := hW
  obtain ⟨p, q, hA0, hV, rfl, hfz, FY⟩ := hW
  have hA : DataW.TrodAll enc Tryz.prog W 0 (fun _ => true) true Tryz.f3.params.toList args.toList ds p := hA0
  rw [Tryz.params3] at hA TW
  obtain ⟨v0, v1, v2, d0, d1, d2, p0, p1, p2, rfl, rfl, rfl, h0, h1, h2⟩ := trodAll_three hA
  obtain ⟨rfl, rfl⟩ := trodVars_none hV
  have ha : ∃ cs, v0 = .agg cs := by
    have := TW 0 25 v0 rfl rfl
    simp only [Value.okWide, Tryz.underlying25] at this
    obtain ⟨cs, e, _⟩ := this
    exact ⟨cs, e⟩
  obtain ⟨c0, rfl⟩ := ha
  have hb : ∃ cs, v1 = .agg cs := by
    have := TW 1 28 v1 rfl rfl
    simp only [Value.okWide, Tryz.underlying28] at this
    obtain ⟨cs, e, _⟩ := this
    exact ⟨cs, e⟩
  obtain ⟨c1, rfl⟩ := hb
  obtain ⟨sa, sl, sc, rfl⟩ := okWide_slice Tryz.underlying29 (TW 2 29 v2 rfl rfl)
  refine (TV hL rfl h0 h1 h2).mono fun e W' ⟨he, hb⟩ => ?_
  subst he
  refine ⟨_, rfl, De (pa := p0 ++ (p1 ++ p2)) (pv := []) hW' (fun _ _ _ => trodAll_mk1 (shut_bool Tryz.underlying4 _)) (fun sp T8 => ?_) (fun _ _ => rfl) (by simp) hb (ok_one (by kernel_rfl) rfl (okWide_bool_mk Tryz.underlying4 _))⟩
  rw [Tryz.params3]
  obtain ⟨n, hn⟩ := h0
  obtain ⟨m, hm⟩ := h1
  obtain ⟨k, hk⟩ := h2
  exact trodAll_mk3 ⟨n, DataW.trod_stays (kids_book laidOut (t0 := 25) (by kernel_rfl)) (book_sized (by kernel_rfl)) (fun h => by cases h) ⟨of_decide_eq_true (by kernel_rfl), book_self 25⟩ hn (fun p hp => hb.same (hW'.lt p (by simp [hp]))) (fun p hp => T8 p (by simp [hp]))⟩ ⟨m, DataW.trod_stays (kids_book laidOut (t0 := 28) (by kernel_rfl)) (book_sized (by kernel_rfl)) (fun h => by cases h) ⟨of_decide_eq_true (by kernel_rfl), book_self 28⟩ hm (fun p hp => hb.same (hW'.lt p (by simp [hp]))) (fun p hp => T8 p (by simp [hp]))⟩ ⟨k, DataW.trod_stays (kids_book laidOut (t0 := 29) (by kernel_rfl)) (book_sized (by kernel_rfl)) (fun h => by cases h) ⟨of_decide_eq_true (by kernel_rfl), book_self 29⟩ hk (fun p hp => hb.same (hW'.lt p (by simp [hp]))) (fun p hp => T8 p (by simp [hp]))⟩

end Go.Proofs.YteeknodhjojhhaaGreatDoor
