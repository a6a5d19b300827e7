/- Functions 10 and 11 on symbolic values.
   Conditions: none; these are lemmas. -/
import Derived.Test.YtcphofamajcimaaDoorSymB
noncomputable section
namespace Go.Proofs.YtcphofamajcimaaDoor
open Go Go.Abs
set_option maxRecDepth 100000
set_option linter.unusedSimpArgs false
set_option linter.unusedVariables false
section
variable {F : FuncId → Option AFunc} {meth : Meth} {sm : Summ}

theorem e10 (h10 : F 10 = some AF10) (h19 : F 19 = some AF19) (h20 : F 20 = some AF20) (h21 : F 21 = some AF21) (h22 : F 22 = some AF22) (hs : ∀ f vs m, f ≠ 9 → sm f vs m = none) {b1 b2 n : Nat} {c1 c2 : Option Nat} {ns ls : List Nat} (hw1 : ns.length ≤ 1000) (hw2 : ls.length ≤ 1000) (hn : ns.length + 1 < n) (hn2 : ls.length + 1 < n)
    {m : Mem} {N L : AV} (hN : ListAt m b1 26 c1 E26 ns N) (hL : ListAt m b2 3 c2 E3 ls L) :
    ∃ m', acall F meth sm (n + 2) (.fn 10) [.agg [.opq, N, L]] m = some (.bool ((ns.all fun k => (k : Int) == 0) && (ls.all fun k => (k : Int) == 0)), m') ∧ Keep m m' := by
  have hs10 : ∀ vs m, sm 10 vs m = none := fun vs m => hs 10 vs m (by decide)
  have kb : Keep ⟨m.blks, m.log, []⟩ ((⟨m.blks, m.log, []⟩ : Mem).apply ⟨m.blks.length, some (.row true 3 (chunk 3 1 [.opq, N, L])), refsL [.opq, N, L]⟩) := (Keep.refl _).new (Nat.le_refl _) (Nat.le_refl _) _
  have hN' : ListAt ⟨m.blks, m.log, []⟩ b1 26 c1 E26 ns N := hN
  have hL' : ListAt ⟨m.blks, m.log, []⟩ b2 3 c2 E3 ls L := hL
  obtain ⟨m2, e2, k2⟩ := e19 (meth := meth) h19 h20 hs hw1 hn (hN'.keep kb)
  have hbox : bget m2.blks m.blks.length = some (.row true 3 (chunk 3 1 [.opq, N, L])) := (k2.get _ (by rw [apply_blks, len_new]; exact Nat.lt_succ_self _)).trans (by rw [apply_blks, bget_new])
  obtain ⟨m3, e3, k3⟩ := e21 (meth := meth) h21 h22 hs hw2 hn2 (hL'.keep (kb.trans k2))
  have r1 : rowGet 3 (chunk 3 1 [.opq, N, L]) 0 1 1 = some [N] := rfl
  have r2 : rowGet 3 (chunk 3 1 [.opq, N, L]) 0 2 1 = some [L] := rfl
  have hop : AV.opq.scalar = true := rfl
  have hsc : [AV.opq, N, L].all AV.scalar = true := by simp only [List.all_cons, List.all_nil, hN.scalar, hL.scalar, hop, Bool.and_self]
  have d2 : m2.dfrs = [] := k2.dfrs
  have d3 : m3.dfrs = [] := k3.dfrs.trans d2
  cases hb : ns.all (fun k => (k : Int) == 0) with
  | true =>
    rw [hb] at e2
    refine ⟨{ m3 with dfrs := m.dfrs }, ?_, ((kb.trans (k2.trans k3)).sub)⟩
    have t1 : (true == true) = true := rfl
    rw [acall]
    simp only [hs10, h10, AF10, acode, aops, awanted, aoper, AOp.isCall, cond_false, cond_true, aprim, aev, tget_tset, tputs, aput, reduceCtorEq, Pth.l.injEq, Pth.r.injEq, if_false, if_true, abin, kindEq, binInt, Option.map_some, Int.toNat_natCast, Int.natCast_nonneg, and_self, AV.cells?, Nat.zero_add, apply_blks, Mem.applyAll, bget_new, bget_new2, acallee, aevs, List.nil_append, List.append_nil, List.singleton_append, aun, peq, peq1, List.length_cons, List.length_nil, Nat.ble, Nat.reduceDiv, Nat.reduceAdd, Bool.false_eq_true, ares, aresL, ares1, Bool.not_true, Bool.not_false, Nat.beq, Pth.succ, hsc, r1, r2, e2, e3, hbox, t1, Bool.true_and, d3, Mem.killAll, Nat.reduceLeDiff]
  | false =>
    rw [hb] at e2
    refine ⟨{ m2 with dfrs := m.dfrs }, ?_, ((kb.trans k2).sub)⟩
    have t1 : (false == true) = false := rfl
    rw [acall]
    simp only [hs10, h10, AF10, acode, aops, awanted, aoper, AOp.isCall, cond_false, cond_true, aprim, aev, tget_tset, tputs, aput, reduceCtorEq, Pth.l.injEq, Pth.r.injEq, if_false, if_true, abin, kindEq, binInt, Option.map_some, Int.toNat_natCast, Int.natCast_nonneg, and_self, AV.cells?, Nat.zero_add, apply_blks, Mem.applyAll, bget_new, bget_new2, acallee, aevs, List.nil_append, List.append_nil, List.singleton_append, aun, peq, peq1, List.length_cons, List.length_nil, Nat.ble, Nat.reduceDiv, Nat.reduceAdd, Bool.false_eq_true, ares, aresL, ares1, Bool.not_true, Bool.not_false, Nat.beq, Pth.succ, hsc, r1, r2, e2, hbox, t1, Bool.false_and, d2, Mem.killAll]

def loop11a : ACode := match AF11.body with
  | .seq _ (.seq (.seq _ (.block _ (.loop c))) _) => c
  | _ => .bad
def loop11b : ACode := match AF11.body with
  | .seq _ (.seq _ (.seq (.seq _ (.block _ (.loop c))) _)) => c
  | _ => .bad

structure Inv11a (bx i : Nat) (T : Tr) : Prop where
  x : tget (.l .z) T = .ptr bx 0 0
  i : tget (.l (.l .z)) T = .int .i64 i

theorem round11a {call : CallF} {fu b bx i k : Nat} {c : Option Nat} {ks : List Nat} {N L : AV} {T : Tr} {m : Mem} (hI : Inv11a bx i T) (hbx : bget m.blks bx = some (.row true 3 (chunk 3 1 [.opq, N, L]))) (hX : N = .slice b 0 ks.length c) (hk : ks[i]? = some k) (hm : bget m.blks b = some (.row false 26 (ks.map E26))) (hw : ks.length ≤ 1000) :
    ∃ T', acode call meth fu false loop11a T m = some (if (k : Int) == 0 then .normal else .ret, T', m) ∧ (if (k : Int) == 0 then Inv11a bx (i + 1) T' else tget (.r .z) T' = .bool false) := by
  have hlt : i < ks.length := (List.getElem?_eq_some_iff.1 hk).1
  have hd : decide ((i : Int) < (ks.length : Int)) = true := by simpa using hlt
  have r1 : rowGet 3 (chunk 3 1 [.opq, N, L]) 0 1 1 = some [.slice b 0 ks.length c] := by rw [← hX]; rfl
  have r2 := E26_one hk
  have hwr : IntKind.i64.wrap ((i : Int) + 1) = ((i + 1 : Nat) : Int) := by rw [wrap_i64 (by omega) (by omega)]; simp
  by_cases hk0 : k = 0
  · subst hk0
    have hb : (((0 : Nat) : Int) == 0) = true := rfl
    have hg : decide (((0 : Nat) : Int) > 0) = false := rfl
    simp only [loop11a, AF11, acode, aops, awanted, aoper, AOp.isCall, cond_false, cond_true, aprim, aev, tget_tset, tputs, aput, reduceCtorEq, Pth.l.injEq, Pth.r.injEq, if_false, if_true, abin, kindEq, binInt, Option.map_some, Int.toNat_natCast, Int.natCast_nonneg, and_self, AV.cells?, Nat.zero_add, apply_blks, Mem.applyAll, bget_new, bget_new2, acallee, aevs, List.nil_append, List.append_nil, List.singleton_append, aun, peq, peq1, List.length_cons, List.length_nil, Nat.ble, Nat.reduceDiv, Nat.reduceAdd, Bool.false_eq_true, ares, aresL, ares1, Bool.not_true, Bool.not_false, Nat.beq, hI.x, hI.i, hd, hbx, hm, hlt, r1, r2, hwr, hb, hg]
    refine ⟨_, rfl, ⟨?_, ?_⟩⟩ <;> simp only [tget_tset, reduceCtorEq, Pth.l.injEq, Pth.r.injEq, if_false, if_true, hI.x, hI.i]
  · have hb : ((k : Int) == 0) = false := by simp; omega
    have hg : decide ((k : Int) > 0) = true := by simp; omega
    simp only [loop11a, AF11, acode, aops, awanted, aoper, AOp.isCall, cond_false, cond_true, aprim, aev, tget_tset, tputs, aput, reduceCtorEq, Pth.l.injEq, Pth.r.injEq, if_false, if_true, abin, kindEq, binInt, Option.map_some, Int.toNat_natCast, Int.natCast_nonneg, and_self, AV.cells?, Nat.zero_add, apply_blks, Mem.applyAll, bget_new, bget_new2, acallee, aevs, List.nil_append, List.append_nil, List.singleton_append, aun, peq, peq1, List.length_cons, List.length_nil, Nat.ble, Nat.reduceDiv, Nat.reduceAdd, Bool.false_eq_true, ares, aresL, ares1, Bool.not_true, Bool.not_false, Nat.beq, hI.x, hI.i, hd, hbx, hm, hlt, r1, r2, hwr, hb, hg]
    exact ⟨_, rfl, by simp only [tget_tset, if_true]⟩

theorem stop11a {call : CallF} {fu b bx : Nat} {c : Option Nat} {ks : List Nat} {N L : AV} {T : Tr} {m : Mem} (hI : Inv11a bx ks.length T) (hbx : bget m.blks bx = some (.row true 3 (chunk 3 1 [.opq, N, L]))) (hX : N = .osl ks.length ∨ N = .slice b 0 ks.length c) :
    ∃ T', acode call meth fu false loop11a T m = some (.exit 0, T', m) ∧ tget (.l .z) T' = .ptr bx 0 0 := by
  have hd : decide ((ks.length : Int) < (ks.length : Int)) = false := by simp
  rcases hX with hX | hX
  · have r1 : rowGet 3 (chunk 3 1 [.opq, N, L]) 0 1 1 = some [.osl ks.length] := by rw [← hX]; rfl
    simp only [loop11a, AF11, acode, aops, awanted, aoper, AOp.isCall, cond_false, cond_true, aprim, aev, tget_tset, tputs, aput, reduceCtorEq, Pth.l.injEq, Pth.r.injEq, if_false, if_true, abin, kindEq, binInt, Option.map_some, Int.toNat_natCast, Int.natCast_nonneg, and_self, AV.cells?, Nat.zero_add, apply_blks, Mem.applyAll, bget_new, bget_new2, acallee, aevs, List.nil_append, List.append_nil, List.singleton_append, aun, peq, peq1, List.length_cons, List.length_nil, Nat.ble, Nat.reduceDiv, Nat.reduceAdd, Bool.false_eq_true, ares, aresL, ares1, Bool.not_true, Bool.not_false, Nat.beq, hI.x, hI.i, hd, hbx, r1]
    exact ⟨_, rfl, by simp only [tget_tset, reduceCtorEq, Pth.l.injEq, Pth.r.injEq, if_false, if_true, hI.x]⟩
  · have r1 : rowGet 3 (chunk 3 1 [.opq, N, L]) 0 1 1 = some [.slice b 0 ks.length c] := by rw [← hX]; rfl
    simp only [loop11a, AF11, acode, aops, awanted, aoper, AOp.isCall, cond_false, cond_true, aprim, aev, tget_tset, tputs, aput, reduceCtorEq, Pth.l.injEq, Pth.r.injEq, if_false, if_true, abin, kindEq, binInt, Option.map_some, Int.toNat_natCast, Int.natCast_nonneg, and_self, AV.cells?, Nat.zero_add, apply_blks, Mem.applyAll, bget_new, bget_new2, acallee, aevs, List.nil_append, List.append_nil, List.singleton_append, aun, peq, peq1, List.length_cons, List.length_nil, Nat.ble, Nat.reduceDiv, Nat.reduceAdd, Bool.false_eq_true, ares, aresL, ares1, Bool.not_true, Bool.not_false, Nat.beq, hI.x, hI.i, hd, hbx, r1]
    exact ⟨_, rfl, by simp only [tget_tset, reduceCtorEq, Pth.l.injEq, Pth.r.injEq, if_false, if_true, hI.x]⟩

theorem loop11a_all {call : CallF} {fu b bx : Nat} {c : Option Nat} {ks : List Nat} {N L : AV} {m : Mem} (hbx : bget m.blks bx = some (.row true 3 (chunk 3 1 [.opq, N, L]))) (hX : ListAt m b 26 c E26 ks N) (hw : ks.length ≤ 1000) :
    ∀ (r i f : Nat) (T : Tr), i + r = ks.length → r < f → Inv11a bx i T →
      ∃ T', aloop (acode call meth fu false loop11a) f T m = some (if (ks.drop i).all (fun k => (k : Int) == 0) then .exit 0 else .ret, T', m) ∧ (if (ks.drop i).all (fun k => (k : Int) == 0) then tget (.l .z) T' = .ptr bx 0 0 else tget (.r .z) T' = .bool false) := by
  intro r
  induction r with
  | zero =>
    intro i f T hi hf hI
    obtain ⟨f, rfl⟩ : ∃ f', f = f' + 1 := ⟨f - 1, by omega⟩
    have e : i = ks.length := by omega
    subst e
    obtain ⟨T', h, h2⟩ := stop11a (meth := meth) (call := call) (fu := fu) (b := b) (c := c) hI hbx (by rcases hX with ⟨h, e⟩ | ⟨h, _⟩; exact .inl (by rw [h, e]; rfl); exact .inr h)
    refine ⟨T', ?_, ?_⟩
    · simp only [aloop, h, List.drop_length, List.all_nil, if_true]
    · simp only [List.drop_length, List.all_nil, if_true, h2]
  | succ r ih =>
    intro i f T hi hf hI
    obtain ⟨f, rfl⟩ : ∃ f', f = f' + 1 := ⟨f - 1, by omega⟩
    have hlt : i < ks.length := by omega
    have hk : ks[i]? = some ks[i] := List.getElem?_eq_getElem hlt
    rcases hX with ⟨_, hnil⟩ | ⟨hX, hm⟩
    · rw [hnil] at hlt; simp at hlt
    obtain ⟨T1, h1, i1⟩ := round11a (meth := meth) (call := call) (fu := fu) hI hbx hX hk hm hw
    have hdrop : ks.drop i = ks[i] :: ks.drop (i + 1) := List.drop_eq_getElem_cons hlt
    cases hb : ((ks[i] : Int) == 0) with
    | true =>
      rw [hb] at i1
      simp only [if_true] at i1
      obtain ⟨T2, h2, r2⟩ := ih (i + 1) f T1 (by omega) (by omega) i1
      refine ⟨T2, ?_, ?_⟩
      · simp only [aloop, h1, hb, if_true, h2, hdrop, List.all_cons, Bool.true_and]
      · rw [hdrop, List.all_cons, hb, Bool.true_and]
        exact r2
    | false =>
      rw [hb] at i1
      simp only [Bool.false_eq_true, if_false] at i1
      refine ⟨T1, ?_, ?_⟩
      · simp only [aloop, h1, hb, hdrop, List.all_cons, Bool.false_and, if_false, Bool.false_eq_true]
      · rw [hdrop, List.all_cons, hb, Bool.false_and]
        exact i1

structure Inv11b (bx i : Nat) (T : Tr) : Prop where
  x : tget (.l .z) T = .ptr bx 0 0
  i : tget (.r (.l .z)) T = .int .i64 i

theorem round11b {call : CallF} {fu b bx i k : Nat} {c : Option Nat} {ks : List Nat} {N L : AV} {T : Tr} {m : Mem} (hI : Inv11b bx i T) (hbx : bget m.blks bx = some (.row true 3 (chunk 3 1 [.opq, N, L]))) (hX : L = .slice b 0 ks.length c) (hk : ks[i]? = some k) (hm : bget m.blks b = some (.row false 3 (ks.map E3))) (hw : ks.length ≤ 1000) :
    ∃ T', acode call meth fu false loop11b T m = some (if (k : Int) == 0 then .normal else .ret, T', m) ∧ (if (k : Int) == 0 then Inv11b bx (i + 1) T' else tget (.r .z) T' = .bool false) := by
  have hlt : i < ks.length := (List.getElem?_eq_some_iff.1 hk).1
  have hd : decide ((i : Int) < (ks.length : Int)) = true := by simpa using hlt
  have r1 : rowGet 3 (chunk 3 1 [.opq, N, L]) 0 2 1 = some [.slice b 0 ks.length c] := by rw [← hX]; rfl
  have r2 := E3_one hk
  have hwr : IntKind.i64.wrap ((i : Int) + 1) = ((i + 1 : Nat) : Int) := by rw [wrap_i64 (by omega) (by omega)]; simp
  by_cases hk0 : k = 0
  · subst hk0
    have hb : (((0 : Nat) : Int) == 0) = true := rfl
    have hg : decide (((0 : Nat) : Int) > 0) = false := rfl
    simp only [loop11b, AF11, acode, aops, awanted, aoper, AOp.isCall, cond_false, cond_true, aprim, aev, tget_tset, tputs, aput, reduceCtorEq, Pth.l.injEq, Pth.r.injEq, if_false, if_true, abin, kindEq, binInt, Option.map_some, Int.toNat_natCast, Int.natCast_nonneg, and_self, AV.cells?, Nat.zero_add, apply_blks, Mem.applyAll, bget_new, bget_new2, acallee, aevs, List.nil_append, List.append_nil, List.singleton_append, aun, peq, peq1, List.length_cons, List.length_nil, Nat.ble, Nat.reduceDiv, Nat.reduceAdd, Bool.false_eq_true, ares, aresL, ares1, Bool.not_true, Bool.not_false, Nat.beq, hI.x, hI.i, hd, hbx, hm, hlt, r1, r2, hwr, hb, hg]
    refine ⟨_, rfl, ⟨?_, ?_⟩⟩ <;> simp only [tget_tset, reduceCtorEq, Pth.l.injEq, Pth.r.injEq, if_false, if_true, hI.x, hI.i]
  · have hb : ((k : Int) == 0) = false := by simp; omega
    have hg : decide ((k : Int) > 0) = true := by simp; omega
    simp only [loop11b, AF11, acode, aops, awanted, aoper, AOp.isCall, cond_false, cond_true, aprim, aev, tget_tset, tputs, aput, reduceCtorEq, Pth.l.injEq, Pth.r.injEq, if_false, if_true, abin, kindEq, binInt, Option.map_some, Int.toNat_natCast, Int.natCast_nonneg, and_self, AV.cells?, Nat.zero_add, apply_blks, Mem.applyAll, bget_new, bget_new2, acallee, aevs, List.nil_append, List.append_nil, List.singleton_append, aun, peq, peq1, List.length_cons, List.length_nil, Nat.ble, Nat.reduceDiv, Nat.reduceAdd, Bool.false_eq_true, ares, aresL, ares1, Bool.not_true, Bool.not_false, Nat.beq, hI.x, hI.i, hd, hbx, hm, hlt, r1, r2, hwr, hb, hg]
    exact ⟨_, rfl, by simp only [tget_tset, if_true]⟩

theorem stop11b {call : CallF} {fu b bx : Nat} {c : Option Nat} {ks : List Nat} {N L : AV} {T : Tr} {m : Mem} (hI : Inv11b bx ks.length T) (hbx : bget m.blks bx = some (.row true 3 (chunk 3 1 [.opq, N, L]))) (hX : L = .osl ks.length ∨ L = .slice b 0 ks.length c) :
    ∃ T', acode call meth fu false loop11b T m = some (.exit 2, T', m) ∧ tget (.l .z) T' = .ptr bx 0 0 := by
  have hd : decide ((ks.length : Int) < (ks.length : Int)) = false := by simp
  rcases hX with hX | hX
  · have r1 : rowGet 3 (chunk 3 1 [.opq, N, L]) 0 2 1 = some [.osl ks.length] := by rw [← hX]; rfl
    simp only [loop11b, AF11, acode, aops, awanted, aoper, AOp.isCall, cond_false, cond_true, aprim, aev, tget_tset, tputs, aput, reduceCtorEq, Pth.l.injEq, Pth.r.injEq, if_false, if_true, abin, kindEq, binInt, Option.map_some, Int.toNat_natCast, Int.natCast_nonneg, and_self, AV.cells?, Nat.zero_add, apply_blks, Mem.applyAll, bget_new, bget_new2, acallee, aevs, List.nil_append, List.append_nil, List.singleton_append, aun, peq, peq1, List.length_cons, List.length_nil, Nat.ble, Nat.reduceDiv, Nat.reduceAdd, Bool.false_eq_true, ares, aresL, ares1, Bool.not_true, Bool.not_false, Nat.beq, hI.x, hI.i, hd, hbx, r1]
    exact ⟨_, rfl, by simp only [tget_tset, reduceCtorEq, Pth.l.injEq, Pth.r.injEq, if_false, if_true, hI.x]⟩
  · have r1 : rowGet 3 (chunk 3 1 [.opq, N, L]) 0 2 1 = some [.slice b 0 ks.length c] := by rw [← hX]; rfl
    simp only [loop11b, AF11, acode, aops, awanted, aoper, AOp.isCall, cond_false, cond_true, aprim, aev, tget_tset, tputs, aput, reduceCtorEq, Pth.l.injEq, Pth.r.injEq, if_false, if_true, abin, kindEq, binInt, Option.map_some, Int.toNat_natCast, Int.natCast_nonneg, and_self, AV.cells?, Nat.zero_add, apply_blks, Mem.applyAll, bget_new, bget_new2, acallee, aevs, List.nil_append, List.append_nil, List.singleton_append, aun, peq, peq1, List.length_cons, List.length_nil, Nat.ble, Nat.reduceDiv, Nat.reduceAdd, Bool.false_eq_true, ares, aresL, ares1, Bool.not_true, Bool.not_false, Nat.beq, hI.x, hI.i, hd, hbx, r1]
    exact ⟨_, rfl, by simp only [tget_tset, reduceCtorEq, Pth.l.injEq, Pth.r.injEq, if_false, if_true, hI.x]⟩

theorem loop11b_all {call : CallF} {fu b bx : Nat} {c : Option Nat} {ks : List Nat} {N L : AV} {m : Mem} (hbx : bget m.blks bx = some (.row true 3 (chunk 3 1 [.opq, N, L]))) (hX : ListAt m b 3 c E3 ks L) (hw : ks.length ≤ 1000) :
    ∀ (r i f : Nat) (T : Tr), i + r = ks.length → r < f → Inv11b bx i T →
      ∃ T', aloop (acode call meth fu false loop11b) f T m = some (if (ks.drop i).all (fun k => (k : Int) == 0) then .exit 2 else .ret, T', m) ∧ (if (ks.drop i).all (fun k => (k : Int) == 0) then tget (.l .z) T' = .ptr bx 0 0 else tget (.r .z) T' = .bool false) := by
  intro r
  induction r with
  | zero =>
    intro i f T hi hf hI
    obtain ⟨f, rfl⟩ : ∃ f', f = f' + 1 := ⟨f - 1, by omega⟩
    have e : i = ks.length := by omega
    subst e
    obtain ⟨T', h, h2⟩ := stop11b (meth := meth) (call := call) (fu := fu) (b := b) (c := c) hI hbx (by rcases hX with ⟨h, e⟩ | ⟨h, _⟩; exact .inl (by rw [h, e]; rfl); exact .inr h)
    refine ⟨T', ?_, ?_⟩
    · simp only [aloop, h, List.drop_length, List.all_nil, if_true]
    · simp only [List.drop_length, List.all_nil, if_true, h2]
  | succ r ih =>
    intro i f T hi hf hI
    obtain ⟨f, rfl⟩ : ∃ f', f = f' + 1 := ⟨f - 1, by omega⟩
    have hlt : i < ks.length := by omega
    have hk : ks[i]? = some ks[i] := List.getElem?_eq_getElem hlt
    rcases hX with ⟨_, hnil⟩ | ⟨hX, hm⟩
    · rw [hnil] at hlt; simp at hlt
    obtain ⟨T1, h1, i1⟩ := round11b (meth := meth) (call := call) (fu := fu) hI hbx hX hk hm hw
    have hdrop : ks.drop i = ks[i] :: ks.drop (i + 1) := List.drop_eq_getElem_cons hlt
    cases hb : ((ks[i] : Int) == 0) with
    | true =>
      rw [hb] at i1
      simp only [if_true] at i1
      obtain ⟨T2, h2, r2⟩ := ih (i + 1) f T1 (by omega) (by omega) i1
      refine ⟨T2, ?_, ?_⟩
      · simp only [aloop, h1, hb, if_true, h2, hdrop, List.all_cons, Bool.true_and]
      · rw [hdrop, List.all_cons, hb, Bool.true_and]
        exact r2
    | false =>
      rw [hb] at i1
      simp only [Bool.false_eq_true, if_false] at i1
      refine ⟨T1, ?_, ?_⟩
      · simp only [aloop, h1, hb, hdrop, List.all_cons, Bool.false_and, if_false, Bool.false_eq_true]
      · rw [hdrop, List.all_cons, hb, Bool.false_and]
        exact i1

theorem e11 (h11 : F 11 = some AF11) (hs : ∀ f vs m, f ≠ 9 → sm f vs m = none) {b1 b2 n : Nat} {c1 c2 : Option Nat} {ns ls : List Nat} (hw1 : ns.length ≤ 1000) (hw2 : ls.length ≤ 1000) (hn : ns.length < n) (hn2 : ls.length < n)
    {m : Mem} {N L : AV} (hN : ListAt m b1 26 c1 E26 ns N) (hL : ListAt m b2 3 c2 E3 ls L) :
    ∃ m', acall F meth sm (n + 1) (.fn 11) [.agg [.opq, N, L]] m = some (.bool ((ns.all fun k => (k : Int) == 0) && (ls.all fun k => (k : Int) == 0)), m') ∧ Keep m m' := by
  have hs11 : ∀ vs m, sm 11 vs m = none := fun vs m => hs 11 vs m (by decide)
  have kb : Keep ⟨m.blks, m.log, []⟩ ((⟨m.blks, m.log, []⟩ : Mem).apply ⟨m.blks.length, some (.row true 3 (chunk 3 1 [.opq, N, L])), refsL [.opq, N, L]⟩) := (Keep.refl _).new (Nat.le_refl _) (Nat.le_refl _) _
  have hN' : ListAt ⟨m.blks, m.log, []⟩ b1 26 c1 E26 ns N := hN
  have hL' : ListAt ⟨m.blks, m.log, []⟩ b2 3 c2 E3 ls L := hL
  have hbox : bget ((⟨m.blks, m.log, []⟩ : Mem).apply ⟨m.blks.length, some (.row true 3 (chunk 3 1 [.opq, N, L])), refsL [.opq, N, L]⟩).blks m.blks.length = some (.row true 3 (chunk 3 1 [.opq, N, L])) := by rw [apply_blks, bget_new]
  have hop : AV.opq.scalar = true := rfl
  have hsc : [AV.opq, N, L].all AV.scalar = true := by simp only [List.all_cons, List.all_nil, hN.scalar, hL.scalar, hop, Bool.and_self]
  have hdf : ((⟨m.blks, m.log, []⟩ : Mem).apply ⟨m.blks.length, some (.row true 3 (chunk 3 1 [.opq, N, L])), refsL [.opq, N, L]⟩).dfrs = [] := rfl
  obtain ⟨T1, h1, i1⟩ := loop11a_all (meth := meth) (call := acall F meth sm n) (fu := n) hbox (hN'.keep kb) hw1 ns.length 0 n (tset (.int .i64 0) (.l (.l .z)) (tset (.bool false) (.r .z) (tset (.ptr m.blks.length 0 0) (.l .z) (tset (.agg [.opq, N, L]) .z .e)))) (by omega) hn ⟨by simp only [tget_tset, reduceCtorEq, Pth.l.injEq, Pth.r.injEq, if_false, if_true], by simp only [tget_tset, if_true]; rfl⟩
  have e : AF11.body = .seq (.region false 0 [⟨(some (.l .z)), .box 3 3 (.t .z), none, none, []⟩, ⟨(some (.r .z)), .mv (.c (.bool false)), none, none, []⟩])
    (.seq (.seq (.region false 0 [⟨(some (.l (.l .z))), .mv (.c (.int .i64 0)), none, none, []⟩]) (.block 0 (.loop loop11a)))
    (.seq (.seq (.region false 0 [⟨(some (.r (.l .z))), .mv (.c (.int .i64 0)), none, none, []⟩]) (.block 2 (.loop loop11b)))
    (.seq (.region false 0 [⟨(some (.r .z)), .mv (.c (.bool true)), none, none, []⟩]) .ret))) := rfl
  have e2 : AF11.ntmps = 36 := rfl
  have e3 : AF11.results = [.tmp (.r .z)] := rfl
  rw [List.drop_zero] at h1 i1
  cases hb : ns.all (fun k => (k : Int) == 0) with
  | true =>
    rw [hb] at h1 i1
    simp only [if_true] at h1 i1
    obtain ⟨T2, h2, i2⟩ := loop11b_all (meth := meth) (call := acall F meth sm n) (fu := n) hbox (hL'.keep kb) hw2 ls.length 0 n (tset (.int .i64 0) (.r (.l .z)) T1) (by omega) hn2 ⟨by simp only [tget_tset, reduceCtorEq, Pth.l.injEq, Pth.r.injEq, if_false, if_true, i1], by simp only [tget_tset, if_true]; rfl⟩
    rw [List.drop_zero] at h2 i2
    cases hb2 : ls.all (fun k => (k : Int) == 0) with
    | true =>
      rw [hb2] at h2 i2
      simp only [if_true] at h2 i2
      refine ⟨_, ?_, kb.sub⟩
      rw [acall]
      simp only [hs11, h11, e, e2, e3, acode, aops, awanted, aoper, AOp.isCall, cond_false, cond_true, aprim, aev, tget_tset, tputs, aput, reduceCtorEq, Pth.l.injEq, Pth.r.injEq, if_false, if_true, abin, kindEq, binInt, Option.map_some, Int.toNat_natCast, Int.natCast_nonneg, and_self, AV.cells?, Nat.zero_add, apply_blks, Mem.applyAll, bget_new, bget_new2, acallee, aevs, List.nil_append, List.append_nil, List.singleton_append, aun, peq, peq1, List.length_cons, List.length_nil, Nat.ble, Nat.reduceDiv, Nat.reduceAdd, Bool.false_eq_true, ares, aresL, ares1, Bool.not_true, Bool.not_false, Nat.beq, Pth.succ, hsc, h1, h2, hdf, Mem.killAll, Bool.and_self]
    | false =>
      rw [hb2] at h2 i2
      simp only [Bool.false_eq_true, if_false] at h2 i2
      refine ⟨_, ?_, kb.sub⟩
      rw [acall]
      simp only [hs11, h11, e, e2, e3, acode, aops, awanted, aoper, AOp.isCall, cond_false, cond_true, aprim, aev, tget_tset, tputs, aput, reduceCtorEq, Pth.l.injEq, Pth.r.injEq, if_false, if_true, abin, kindEq, binInt, Option.map_some, Int.toNat_natCast, Int.natCast_nonneg, and_self, AV.cells?, Nat.zero_add, apply_blks, Mem.applyAll, bget_new, bget_new2, acallee, aevs, List.nil_append, List.append_nil, List.singleton_append, aun, peq, peq1, List.length_cons, List.length_nil, Nat.ble, Nat.reduceDiv, Nat.reduceAdd, Bool.false_eq_true, ares, aresL, ares1, Bool.not_true, Bool.not_false, Nat.beq, Pth.succ, hsc, h1, h2, hdf, Mem.killAll, Bool.and_false, i2]
  | false =>
    rw [hb] at h1 i1
    simp only [Bool.false_eq_true, if_false] at h1 i1
    refine ⟨_, ?_, kb.sub⟩
    rw [acall]
    simp only [hs11, h11, e, e2, e3, acode, aops, awanted, aoper, AOp.isCall, cond_false, cond_true, aprim, aev, tget_tset, tputs, aput, reduceCtorEq, Pth.l.injEq, Pth.r.injEq, if_false, if_true, abin, kindEq, binInt, Option.map_some, Int.toNat_natCast, Int.natCast_nonneg, and_self, AV.cells?, Nat.zero_add, apply_blks, Mem.applyAll, bget_new, bget_new2, acallee, aevs, List.nil_append, List.append_nil, List.singleton_append, aun, peq, peq1, List.length_cons, List.length_nil, Nat.ble, Nat.reduceDiv, Nat.reduceAdd, Bool.false_eq_true, ares, aresL, ares1, Bool.not_true, Bool.not_false, Nat.beq, Pth.succ, hsc, h1, hdf, Mem.killAll, Bool.false_and, i1]
end
end Go.Proofs.YtcphofamajcimaaDoor
end
