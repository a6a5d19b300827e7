/- The law BoundStill on symbolic values.
   Conditions: none; these are lemmas. -/
import Derived.Test.YtcphofamajcimaaDoorSymC
noncomputable section
namespace Go.Proofs.YtcphofamajcimaaDoor
open Go Go.Abs
set_option maxRecDepth 100000
set_option linter.unusedSimpArgs false
set_option linter.unusedVariables false
section
variable {F : FuncId → Option AFunc} {meth : Meth} {sm : Summ}

theorem e4 (h4 : F 4 = some AF4) (h10 : F 10 = some AF10) (h11 : F 11 = some AF11) (h19 : F 19 = some AF19) (h20 : F 20 = some AF20) (h21 : F 21 = some AF21) (h22 : F 22 = some AF22) (hs : ∀ f vs m, f ≠ 9 → sm f vs m = none)
    {T0 : Mem → Prop} (hT : ∀ m m', T0 m → Keep m m' → T0 m') (hT2 : ∀ m l d, T0 m → T0 ⟨m.blks, l, d⟩) (h9 : ∀ m, T0 m → sm 9 [] m = some (.bool true, m)) {b1 b2 : Nat} {c1 c2 : Option Nat} {ns ls : List Nat}
    {m : Mem} (hm : T0 m) {N L : AV} (hN : ListAt m b1 26 c1 E26 ns N) (hL : ListAt m b2 3 c2 E3 ls L) :
    ∃ m', acall F meth sm 40 (.fn 4) [.agg [.opq, N, L]] m = some (.bool true, m') := by
  have hs4 : ∀ vs m, sm 4 vs m = none := fun vs m => hs 4 vs m (by decide)
  have kb : Keep ⟨m.blks, m.log, []⟩ ((⟨m.blks, m.log, []⟩ : Mem).apply ⟨m.blks.length, some (.row true 3 (chunk 3 1 [.opq, N, L])), refsL [.opq, N, L]⟩) := (Keep.refl _).new (Nat.le_refl _) (Nat.le_refl _) _
  have hN' : ListAt ⟨m.blks, m.log, []⟩ b1 26 c1 E26 ns N := hN
  have hL' : ListAt ⟨m.blks, m.log, []⟩ b2 3 c2 E3 ls L := hL
  have hNb := hN'.keep kb
  have hLb := hL'.keep kb
  have hmb : T0 ((⟨m.blks, m.log, []⟩ : Mem).apply ⟨m.blks.length, some (.row true 3 (chunk 3 1 [.opq, N, L])), refsL [.opq, N, L]⟩) := hT _ _ (hT2 _ _ _ hm) kb
  have hbox : bget ((⟨m.blks, m.log, []⟩ : Mem).apply ⟨m.blks.length, some (.row true 3 (chunk 3 1 [.opq, N, L])), refsL [.opq, N, L]⟩).blks m.blks.length = some (.row true 3 (chunk 3 1 [.opq, N, L])) := by rw [apply_blks, bget_new]
  have hlen : ((⟨m.blks, m.log, []⟩ : Mem).apply ⟨m.blks.length, some (.row true 3 (chunk 3 1 [.opq, N, L])), refsL [.opq, N, L]⟩).blks.length = m.blks.length + 1 := by rw [apply_blks, len_new]
  have hop : AV.opq.scalar = true := rfl
  have hsc : [AV.opq, N, L].all AV.scalar = true := by simp only [List.all_cons, List.all_nil, hN.scalar, hL.scalar, hop, Bool.and_self]
  have r1 : rowGet 3 (chunk 3 1 [.opq, N, L]) 0 1 1 = some [N] := rfl
  have r2 : rowGet 3 (chunk 3 1 [.opq, N, L]) 0 2 1 = some [L] := rfl
  have r3 : rowGet 3 (chunk 3 1 [.opq, N, L]) 0 0 3 = some [.opq, N, L] := rfl
  have hdf : ((⟨m.blks, m.log, []⟩ : Mem).apply ⟨m.blks.length, some (.row true 3 (chunk 3 1 [.opq, N, L])), refsL [.opq, N, L]⟩).dfrs = [] := rfl
  have hmi : (Nat.beq m.blks.length m.blks.length) = true := Nat.beq_refl _
  have t1 : (true == true) = true := rfl
  have t2 : (false == true) = false := rfl
  have t3 : (true == false) = false := rfl
  have t4 : (false == false) = true := rfl
  by_cases h1 : 20 < ns.length
  · have d1 : decide ((ns.length : Int) > 20) = true := by simp; omega
    have h9b := h9 _ hmb
    have ha : acall F meth sm 39 (.fn 9) [] ((⟨m.blks, m.log, []⟩ : Mem).apply ⟨m.blks.length, some (.row true 3 (chunk 3 1 [.opq, N, L])), refsL [.opq, N, L]⟩) = some (.bool true, (⟨m.blks, m.log, []⟩ : Mem).apply ⟨m.blks.length, some (.row true 3 (chunk 3 1 [.opq, N, L])), refsL [.opq, N, L]⟩) := by
      rw [acall, h9b]
    rcases hN.shape with rfl | ⟨b, i, c, rfl⟩
    all_goals
      rw [acall]
      simp only [hs4, h4, AF4, acode, aops, awanted, aoper, AOp.isCall, cond_false, cond_true, aprim, aev, tget_tset, tputs, aput, reduceCtorEq, Pth.l.injEq, Pth.r.injEq, if_false, if_true, abin, kindEq, binInt, Option.map_some, Int.toNat_natCast, Int.natCast_nonneg, and_self, AV.cells?, Nat.zero_add, apply_blks, Mem.applyAll, bget_new, bget_new2, acallee, aevs, List.nil_append, List.append_nil, List.singleton_append, aun, peq, peq1, List.length_cons, List.length_nil, Nat.ble, Nat.reduceDiv, Nat.reduceAdd, Bool.false_eq_true, ares, aresL, ares1, Bool.not_true, Bool.not_false, Nat.beq, Pth.succ, hsc, r1, r2, d1, t3, ha, hdf, Mem.killAll]
      exact ⟨_, rfl⟩
  · have d1 : decide ((ns.length : Int) > 20) = false := by simp; omega
    by_cases h2 : 20 < ls.length
    · have d2 : decide ((ls.length : Int) > 20) = true := by simp; omega
      have h9b := h9 _ hmb
      have ha : acall F meth sm 39 (.fn 9) [] ((⟨m.blks, m.log, []⟩ : Mem).apply ⟨m.blks.length, some (.row true 3 (chunk 3 1 [.opq, N, L])), refsL [.opq, N, L]⟩) = some (.bool true, (⟨m.blks, m.log, []⟩ : Mem).apply ⟨m.blks.length, some (.row true 3 (chunk 3 1 [.opq, N, L])), refsL [.opq, N, L]⟩) := by
        rw [acall, h9b]
      rcases hN.shape with rfl | ⟨b, i, c, rfl⟩ <;> rcases hL.shape with rfl | ⟨b', i', c', rfl⟩
      all_goals
        rw [acall]
        simp only [hs4, h4, AF4, acode, aops, awanted, aoper, AOp.isCall, cond_false, cond_true, aprim, aev, tget_tset, tputs, aput, reduceCtorEq, Pth.l.injEq, Pth.r.injEq, if_false, if_true, abin, kindEq, binInt, Option.map_some, Int.toNat_natCast, Int.natCast_nonneg, and_self, AV.cells?, Nat.zero_add, apply_blks, Mem.applyAll, bget_new, bget_new2, acallee, aevs, List.nil_append, List.append_nil, List.singleton_append, aun, peq, peq1, List.length_cons, List.length_nil, Nat.ble, Nat.reduceDiv, Nat.reduceAdd, Bool.false_eq_true, ares, aresL, ares1, Bool.not_true, Bool.not_false, Nat.beq, Pth.succ, hsc, r1, r2, d1, d2, t4, ha, hdf, Mem.killAll]
        exact ⟨_, rfl⟩
    · have d2 : decide ((ls.length : Int) > 20) = false := by simp; omega
      obtain ⟨m2, e2, k2⟩ := e10 (meth := meth) (n := 37) h10 h19 h20 h21 h22 hs (by omega) (by omega) (by omega) (by omega) (m := ⟨((⟨m.blks, m.log, []⟩ : Mem).apply ⟨m.blks.length, some (.row true 3 (chunk 3 1 [.opq, N, L])), refsL [.opq, N, L]⟩).blks, [], []⟩) hNb hLb
      have hb2 : bget m2.blks m.blks.length = some (.row true 3 (chunk 3 1 [.opq, N, L])) := (k2.get _ (by show _ < (bput _ _ _).length; rw [len_new]; exact Nat.lt_succ_self _)).trans hbox
      have hlog : ins m2.log m.blks.length = false := by
        obtain ⟨l, e, hl⟩ := k2.log
        rw [e, List.append_nil]
        refine ins_far hl ?_
        show _ < (bput _ _ _).length
        rw [len_new]; exact Nat.lt_succ_self _
      obtain ⟨m3, e3, k3⟩ := e11 (meth := meth) (n := 38) h11 hs (by omega) (by omega) (by omega) (by omega) (m := ⟨m2.blks, [], []⟩) (ListAt.keep (m := ⟨((⟨m.blks, m.log, []⟩ : Mem).apply ⟨m.blks.length, some (.row true 3 (chunk 3 1 [.opq, N, L])), refsL [.opq, N, L]⟩).blks, [], []⟩) (m' := ⟨m2.blks, [], []⟩) hNb ⟨k2.len, k2.get, rfl, [], rfl, fun _ h => by cases h⟩)
        (ListAt.keep (m := ⟨((⟨m.blks, m.log, []⟩ : Mem).apply ⟨m.blks.length, some (.row true 3 (chunk 3 1 [.opq, N, L])), refsL [.opq, N, L]⟩).blks, [], []⟩) (m' := ⟨m2.blks, [], []⟩) hLb ⟨k2.len, k2.get, rfl, [], rfl, fun _ h => by cases h⟩)
      have h3 : T0 ⟨m3.blks, [], []⟩ := hT2 m3 [] [] (hT ⟨m2.blks, [], []⟩ m3 (hT2 m2 [] [] (hT _ m2 (hT2 _ [] [] hmb) k2)) k3)
      have h9b := h9 _ h3
      have ha : acall F meth sm 39 (.fn 9) [] ⟨m3.blks, [], []⟩ = some (.bool true, ⟨m3.blks, [], []⟩) := by rw [acall, h9b]
      generalize ((ns.all fun k => (k : Int) == 0) && (ls.all fun k => (k : Int) == 0)) = res at e2 e3
      have hres : (res == res) = true := by cases res <;> rfl
      rcases hN.shape with rfl | ⟨b, i, c, rfl⟩ <;> rcases hL.shape with rfl | ⟨b', i', c', rfl⟩
      all_goals
        simp only [apply_blks, Nat.reduceAdd] at e2 e3 hbox
        rw [acall]
        simp only [hs4, h4, AF4, acode, aops, awanted, aoper, AOp.isCall, cond_false, cond_true, aprim, aev, tget_tset, tputs, aput, reduceCtorEq, Pth.l.injEq, Pth.r.injEq, if_false, if_true, abin, kindEq, binInt, Option.map_some, Int.toNat_natCast, Int.natCast_nonneg, and_self, AV.cells?, Nat.zero_add, apply_blks, Mem.applyAll, bget_new, bget_new2, acallee, aevs, List.nil_append, List.append_nil, List.singleton_append, aun, peq, peq1, List.length_cons, List.length_nil, Nat.ble, Nat.reduceDiv, Nat.reduceAdd, Bool.false_eq_true, ares, aresL, ares1, Bool.not_true, Bool.not_false, Nat.beq, Pth.succ, hsc, r1, r2, r3, d1, d2, t4, adraw, Mem.more, bmore, List.filter_nil, List.flatMap_nil, mask, unmask, AOp.reads, AOpnd.top, AV.top, ins, hmi, Bool.not_false, Bool.and_true, Bool.and_self, nidOf, slotIn, List.map_nil, clash, Bool.or_self, Bool.or_false,
          List.filter_cons, List.flatMap_cons, List.any_nil, e2, hb2, hlog, e3, hres, ha, Bool.false_and, List.append_nil, AOp.isMaker, bget_new, t1, hdf, Mem.killAll]
        exact ⟨_, rfl⟩
end
end Go.Proofs.YtcphofamajcimaaDoor
end
