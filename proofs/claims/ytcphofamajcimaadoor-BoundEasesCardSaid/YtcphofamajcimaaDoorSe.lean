/- Functions of the program on symbolic values: part Se.
   Conditions: none; these are lemmas. -/
import Derived.Test.YtcphofamajcimaaDoorSd
import Derived.Test.YtcphofamajcimaaDoorSy
noncomputable section
namespace Go.Proofs.YtcphofamajcimaaDoor
open Go Go.Abs
set_option maxRecDepth 100000
set_option linter.unusedSimpArgs false
set_option linter.unusedVariables false
section
variable {F : FuncId → Option AFunc} {meth : Meth} {sm : Summ}

/-- The remainder from 0 on. -/
def md (a n : Int) : Int := if a.tmod n < 0 then a.tmod n + n else a.tmod n
theorem tmod_b {a n : Int} (h : 1 ≤ n) : -n < a.tmod n ∧ a.tmod n < n := by
  rcases Int.le_total 0 a with q | q
  · rw [Int.tmod_eq_emod_of_nonneg q]
    exact ⟨by have := Int.emod_nonneg a (show n ≠ 0 by omega); omega, Int.emod_lt_of_pos a (by omega)⟩
  · rw [show a = -(-a) by omega, Int.neg_tmod, Int.tmod_eq_emod_of_nonneg (by omega : (0:Int) ≤ -a)]
    have h1 := Int.emod_nonneg (-a) (show n ≠ 0 by omega)
    have h2 := Int.emod_lt_of_pos (-a) (show 0 < n by omega)
    omega
theorem md_lo {a n : Int} (h : 1 ≤ n) : 0 ≤ md a n := by have := tmod_b (a := a) h; unfold md; split <;> omega
theorem md_hi {a n : Int} (h : 1 ≤ n) : md a n < n := by have := tmod_b (a := a) h; unfold md; split <;> omega

def H7 (sm : Summ) : Prop := ∀ (a n : Int) (m : Mem), 1 ≤ n → n ≤ 1073741824 → sm 7 [.int .i64 a, .int .i64 n] m = some (.int .i64 (md a n), m)
set_option maxHeartbeats 4000000 in
theorem e7 (hF : F 7 = some AF7) (s7 : ∀ vs m, sm 7 vs m = none) (n : Nat) (h : Blks) (lg d : List Nat) {a k : Int} (k1 : 1 ≤ k) (k2 : k ≤ 1073741824) : Ev F meth sm (n + 1) 7 [.int .i64 a, .int .i64 k] ⟨h, lg, d⟩ (.int .i64 (md a k)) := by
  refine Ev.of ?_
  have b := tmod_b (a := a) k1
  have c1 : ¬ k < 1 := by omega
  have c2 : ¬ k = 0 := by omega
  have w1 : IntKind.i64.wrap (a.tmod k) = a.tmod k := wrapI (by omega) (by omega)
  by_cases q : a.tmod k < 0
  · have w2 : IntKind.i64.wrap (a.tmod k + k) = a.tmod k + k := wrapI (by omega) (by omega)
    have e : md a k = a.tmod k + k := if_pos q
    simp (config := { maxSteps := 1000000, implicitDefEqProofs := false }) only [acall, acode, aops, awanted, aoper, AOp.isCall, j0, j1, aprim, aev, tg_zn, tg_ln, tg_rn, ts_ze, ts_zn, ts_le, ts_ln, ts_rn, tputs, aput, j4, j5, abin, kindEq, binInt, j6, j12, Mem.applyAll, acallee, j14, j17, j18, Nat.ble, Nat.reduceAdd, ares, aresL, ares1, j20, j21, Pth.succ, Mem.killAll, j26, j27, j51, j52, j67, j79, AOp.isMaker, adraw, Mem.more, j92, j93, j94, j95, AOp.reads, ins, slotIn, clash, j100, j103, j67, bmore, j79, hF, AF7, s7, c1, c2, w2, q, e]
    exact ⟨_, rfl, keep_bx (by repeat first | exact LogOK.nil | apply LogOK.cons)⟩
  · have e : md a k = a.tmod k := if_neg q
    simp (config := { maxSteps := 1000000, implicitDefEqProofs := false }) only [acall, acode, aops, awanted, aoper, AOp.isCall, j0, j1, aprim, aev, tg_zn, tg_ln, tg_rn, ts_ze, ts_zn, ts_le, ts_ln, ts_rn, tputs, aput, j4, j5, abin, kindEq, binInt, j6, j12, Mem.applyAll, acallee, j14, j17, j18, Nat.ble, Nat.reduceAdd, ares, aresL, ares1, j20, j21, Pth.succ, Mem.killAll, j27, j51, j52, j67, j79, AOp.isMaker, adraw, Mem.more, j92, j93, j94, j95, AOp.reads, ins, slotIn, clash, j100, j103, j67, bmore, j79, hF, AF7, s7, c1, c2, q, e]
    exact ⟨_, rfl, keep_bx (by repeat first | exact LogOK.nil | apply LogOK.cons)⟩

/-- A list of numbers in memory. -/
def NumsAt (h : Blks) (N : AV) (l : List Int) : Prop := (l = [] ∧ N = .osl 0) ∨ ∃ b own c, N = .slice b 0 l.length c ∧ bget h b = some (.row own 1 (l.map fun x => [.int .i64 x]))
theorem NumsAt.old {h h' : Blks} (o : Old h h') {N : AV} {l : List Int} (x : NumsAt h N l) : NumsAt h' N l := by
  rcases x with y | ⟨b, own, c, hm, hb⟩
  · exact .inl y
  · exact .inr ⟨b, own, c, hm, o.get hb⟩
theorem NumsAt.scalar {h : Blks} {N : AV} {l : List Int} (x : NumsAt h N l) : N.scalar = true := by
  rcases x with ⟨_, rfl⟩ | ⟨b, own, c, rfl, hb⟩ <;> rfl
def atL (l : List Int) (i : Int) : Int := (l[i.toNat]?).getD 0
def H12 (sm : Summ) : Prop := ∀ (l : List Int) (N : AV) (i : Int) (m : Mem), 0 ≤ i → NumsAt m.blks N l → sm 12 [N, .int .i64 i] m = some (.int .i64 (atL l i), m)
set_option maxHeartbeats 4000000 in
theorem e12 (hF : F 12 = some AF12) (s12 : ∀ vs m, sm 12 vs m = none) (n : Nat) (h : Blks) (lg d : List Nat) {l : List Int} {N : AV} {i : Int} (i0 : 0 ≤ i) (hN : NumsAt h N l) : Ev F meth sm (n + 1) 12 [N, .int .i64 i] ⟨h, lg, d⟩ (.int .i64 (atL l i)) := by
  refine Ev.of ?_
  have c0 : ¬ i < 0 := by omega
  rcases hN with ⟨rfl, rfl⟩ | ⟨b, own, c, rfl, hb⟩
  · have e : atL [] i = 0 := rfl
    simp (config := { maxSteps := 1000000, implicitDefEqProofs := false }) only [acall, acode, aops, awanted, aoper, AOp.isCall, j0, j1, aprim, aev, tg_zn, tg_ln, tg_rn, ts_ze, ts_zn, ts_le, ts_ln, ts_rn, tputs, aput, j5, abin, kindEq, binInt, j6, j12, Mem.applyAll, acallee, j14, j17, j18, Nat.ble, Nat.reduceAdd, ares, aresL, ares1, j20, j21, Pth.succ, Mem.killAll, j26, j27, j31, j51, j52, j67, j71, j73, j79, AOp.isMaker, adraw, Mem.more, j92, j93, j94, j95, AOp.reads, AOpnd.top, AV.top, ins, slotIn, clash, j100, j103, j67, bmore, j79, hF, AF12, s12, c0, i0, e]
    exact ⟨_, rfl, keep_bx (by repeat first | exact LogOK.nil | apply LogOK.cons)⟩
  · have hlt := bget_lt hb
    by_cases q : (l.length : Int) ≤ i
    · have e : atL l i = 0 := by unfold atL; rw [List.getElem?_eq_none (by omega)]; rfl
      simp (config := { maxSteps := 1000000, implicitDefEqProofs := false }) only [acall, acode, aops, awanted, aoper, AOp.isCall, j0, j1, aprim, aev, tg_zn, tg_ln, tg_rn, ts_ze, ts_zn, ts_le, ts_ln, ts_rn, tputs, aput, j5, abin, kindEq, binInt, j6, j12, Mem.applyAll, acallee, j14, j17, j18, Nat.ble, Nat.reduceAdd, ares, aresL, ares1, j20, j21, Pth.succ, Mem.killAll, j26, j27, j31, j51, j52, j67, j73, j79, AOp.isMaker, adraw, Mem.more, j92, j93, j94, j95, AOp.reads, AOpnd.top, AV.top, ins, slotIn, clash, j100, j103, j67, bmore, j79, hF, AF12, s12, c0, e, q]
      exact ⟨_, rfl, keep_bx (by repeat first | exact LogOK.nil | apply LogOK.cons)⟩
    · have q2 : i < (l.length : Int) := by omega
      have q3 : i.toNat < l.length := by omega
      have e : (List.map (fun x => [AV.int .i64 x]) l)[i.toNat]? = some [AV.int .i64 (atL l i)] := by
        rw [List.getElem?_map, List.getElem?_eq_getElem q3]
        simp [atL, List.getElem?_eq_getElem q3]
      simp (config := { maxSteps := 1000000, implicitDefEqProofs := false }) only [acall, acode, aops, awanted, aoper, AOp.isCall, j0, j1, aprim, aev, tg_zn, tg_ln, tg_rn, ts_ze, ts_zn, ts_le, ts_ln, ts_rn, tputs, aput, j4, j5, abin, kindEq, binInt, j6, j9, j11, j12, Mem.applyAll, acallee, j14, j17, j18, Nat.ble, Nat.reduceDiv, Nat.reduceMod, Nat.reduceMul, Nat.reduceAdd, Nat.reduceLeDiff, j19, ares, aresL, ares1, j20, j21, Pth.succ, Mem.killAll, j27, j31, rowGet, rowGet0, j51, j52, j54, j56, j59, j67, j68, j73, j79, AOp.isMaker, adraw, Mem.more, j92, j93, j94, j95, AOp.reads, AOpnd.top, AV.top, ins, slotIn, j98, clash, j100, j103, j67, bmore, j79, hF, AF12, s12, c0, i0, e, q, q3, hb, hlt, nb_old]
      exact ⟨_, rfl, keep_bx (by repeat first | exact LogOK.nil | apply LogOK.cons)⟩
end
section
variable {F : FuncId → Option AFunc} {meth : Meth} {sm : Summ}

def H23 (sm : Summ) : Prop := ∀ (a : Int), ∃ x y : Int, ∀ m, sm 23 [.int .i64 a] m = some (.agg [.int .i64 x, .int .u64 y, .int .i64 0], m)
set_option maxHeartbeats 4000000 in
theorem e23 (hF : F 23 = some AF23) (s23 : ∀ vs m, sm 23 vs m = none) (h7 : H7 sm) (n : Nat) (a : Int) : ∃ x y : Int, ∀ (h : Blks) (lg d : List Nat), Ev F meth sm (n + 2) 23 [.int .i64 a] ⟨h, lg, d⟩ (.agg [.int .i64 x, .int .u64 y, .int .i64 0]) := by
  have g7 := fun m => h7 a 1073741824 m (by omega) (by omega)
  apply Exists.intro
  apply Exists.intro
  intro h lg d
  refine Ev.of ?_
  simp (config := { maxSteps := 1000000, implicitDefEqProofs := false }) only [acall, acode, aops, awanted, aoper, AOp.isCall, j0, j1, aprim, aev, tg_zn, tg_ln, tg_rn, ts_ze, ts_ln, ts_re, ts_rn, tputs, aput, j4, j5, abin, kindEq, binInt, j6, j9, AV.cells?, j12, Mem.apply, Mem.applyAll, acallee, aevs, j13, j14, j16, j17, j18, Nat.ble, Nat.reduceDiv, Nat.reduceMod, Nat.reduceMul, Nat.reduceAdd, Nat.reduceLeDiff, ares, aresL, ares1, j20, j21, j22, j23, j24, bin_a, bin_b, bputl, blen, bnth, Mem.killAll, rowGet, rowGet0, rowSet, rowSet0, chunk, j34, j35, j37, j51, j52, j54, j55, j56, j57, j58, j59, j60, j62, j64, j65, refsL, AV.refs, j66, j67, j68, Int.reduceEq, j79, fillC, AOp.isMaker, adraw, Mem.more, j92, j93, j94, j95, mask, unmask, AOp.reads, AOpnd.top, AV.top, ins, nidOf, slotIn, j98, clash, j100, j103, j104, j106, j67, j66, bmore, j79, hF, AF23, s23, g7]
  exact ⟨_, rfl, keep_bx (by repeat first | exact LogOK.nil | apply LogOK.cons)⟩

def H13 (sm : Summ) : Prop := ∀ (a : Int), ∃ (x y dest prio born life tot : Int) (s : List UInt8), (0 ≤ prio ∧ prio ≤ 2 ∧ tot = s.length ∧ 1 ≤ s.length ∧ s.length ≤ 17) ∧ ∀ m, sm 13 [.int .i64 a] m = some (.agg [.int .i64 x, .int .u64 y, .int .i64 0, .int .i64 dest, .int .i64 prio, .int .i64 born, .int .i64 life, .int .i64 tot, .str s], m)
set_option maxHeartbeats 64000000 in
theorem e13 (hF : F 13 = some AF13) (s13 : ∀ vs m, sm 13 vs m = none) (h7 : H7 sm) (h23 : H23 sm) (n : Nat) (a : Int) : ∃ (x y dest prio born life tot : Int) (s : List UInt8), (0 ≤ prio ∧ prio ≤ 2 ∧ tot = s.length ∧ 1 ≤ s.length ∧ s.length ≤ 17) ∧ ∀ (h : Blks) (lg d : List Nat), Ev F meth sm (n + 20) 13 [.int .i64 a] ⟨h, lg, d⟩ (.agg [.int .i64 x, .int .u64 y, .int .i64 0, .int .i64 dest, .int .i64 prio, .int .i64 born, .int .i64 life, .int .i64 tot, .str s]) := by
  have g7 := fun m => h7 a 1073741824 m (by omega) (by omega)
  obtain ⟨x, y, g23⟩ := h23 (md a 1073741824)
  have q1 := md_lo (a := a) (n := 1073741824) (by omega)
  have q2 := md_hi (a := a) (n := 1073741824) (by omega)
  generalize md a 1073741824 = k at g7 g23 q1 q2
  have t1 := tmod_b (a := k) (n := 17) (by omega)
  have t2 : 0 ≤ k.tmod 17 := by rw [Int.tmod_eq_emod_of_nonneg q1]; exact Int.emod_nonneg _ (by omega)
  have t3 : k.tdiv 800 = k / 800 := Int.tdiv_eq_ediv_of_nonneg q1
  have t4 : (k.tdiv 800).tmod 3 = (k / 800) % 3 := by rw [t3, Int.tmod_eq_emod_of_nonneg (by omega)]
  have w0 : IntKind.i64.wrap (k.tmod 17) = k.tmod 17 := wrapI (by omega) (by omega)
  have w1 : IntKind.i64.wrap (k.tdiv 800) = k.tdiv 800 := by rw [t3]; exact wrapI (by omega) (by omega)
  have w2 : IntKind.i64.wrap ((k.tdiv 800).tmod 3) = (k.tdiv 800).tmod 3 := by rw [t4]; exact wrapI (by omega) (by omega)
  have p1 : 0 ≤ (k.tdiv 800).tmod 3 := by rw [t4]; omega
  have p2 : (k.tdiv 800).tmod 3 ≤ 2 := by rw [t4]; omega
  generalize hr : k.tmod 17 = r at t1 t2 w0
  have hr17 : r = 0 ∨ r = 1 ∨ r = 2 ∨ r = 3 ∨ r = 4 ∨ r = 5 ∨ r = 6 ∨ r = 7 ∨ r = 8 ∨ r = 9 ∨ r = 10 ∨ r = 11 ∨ r = 12 ∨ r = 13 ∨ r = 14 ∨ r = 15 ∨ r = 16 := by omega
  clear t1 t2 t3 t4
  rcases hr17 with rfl | rfl | rfl | rfl | rfl | rfl | rfl | rfl | rfl | rfl | rfl | rfl | rfl | rfl | rfl | rfl | rfl
  all_goals
    refine ⟨x, y, ?_⟩
    apply Exists.intro
    refine ⟨(k.tdiv 800).tmod 3, ?_⟩
    apply Exists.intro
    apply Exists.intro
    apply Exists.intro
    apply Exists.intro
    refine And.intro ?bds ?ev
    case ev =>
      intro h lg d
      refine Ev.of ?_
      simp (config := { maxSteps := 1000000, implicitDefEqProofs := false }) only [acall, acode, aops, awanted, aoper, AOp.isCall, j0, j1, aprim, aev, tg_zn, tg_ln, tg_rn, ts_ze, ts_zn, ts_le, ts_ln, ts_rn, tputs, aput, reduceCtorEq, j4, j5, abin, kindEq, binInt, j6, j9, AV.cells?, j12, Mem.apply, Mem.applyAll, acallee, aevs, j13, j14, j16, j17, j18, Nat.ble, Nat.reduceDiv, Nat.reduceMod, Nat.reduceMul, Nat.reduceAdd, Nat.reduceLeDiff, j19, ares, aresL, ares1, j20, j21, Nat.beq, j22, j23, j24, bin_a, bin_b, bin_c, bputl, blen, bnth, Mem.killAll, j26, j27, rowGet, rowGet0, rowSet, rowSet0, chunk, j34, j35, j37, j38, j51, j52, j54, j55, j56, j57, j58, j59, j60, j62, j64, j65, refsL, refsLL, AV.refs, j66, j67, j68, j71, Int.reduceLT, Int.reduceLE, Int.reduceToNat, Int.reduceAdd, Int.reduceNeg, Int.reduceEq, Nat.reduceLT, wrapI, wrapU, j74, j78, j79, elemsOf, winGet, fillC, fillE, j88, AOp.isMaker, j89, j90, adraw, Mem.more, j92, j93, j94, j95, mask, unmask, AOp.reads, AOpnd.top, AV.top, ins, nidOf, slotIn, j98, clash, j100, j101, j103, j104, j106, j107, j67, j66, bmore, j78, j79, hF, AF13, s13, g7, g23, hr, w0, w1, aloop, bytesOf, binStr]
      exact ⟨_, rfl, keep_bx (by repeat first | exact LogOK.nil | apply LogOK.cons)⟩
    case bds =>
      refine ⟨p1, p2, rfl, ?_, ?_⟩ <;> simp
end
section
variable {F : FuncId → Option AFunc} {meth : Meth} {sm : Summ}

theorem tq {a n : Int} (h : 0 ≤ a) (hn : 1 ≤ n) : 0 ≤ a.tmod n ∧ a.tmod n < n := by
  rw [Int.tmod_eq_emod_of_nonneg h]
  exact ⟨Int.emod_nonneg a (by omega), Int.emod_lt_of_pos a (by omega)⟩
theorem td {a n : Int} (h : 0 ≤ a) (hn : 1 ≤ n) : 0 ≤ a.tdiv n ∧ a.tdiv n ≤ a := by
  rw [Int.tdiv_eq_ediv_of_nonneg h]
  exact ⟨Int.ediv_nonneg h (by omega), Int.ediv_le_self n h⟩
/-- The configurations that are made: their quotas are small. -/
inductive CfgsQ : Nat → List (List AV) → Prop
  | two {q w l re by_ w2 w3 rd bst q' w' l' re' by' w2' w3' rd' bst' : Int} : CfgOK q w l re by_ w2 w3 rd bst → q ≤ 1699 → CfgOK q' w' l' re' by' w2' w3' rd' bst' → q' ≤ 1699 → CfgsQ 2 [cfg 1 q w l re by_ w2 w3 rd bst, cfg 2 q' w' l' re' by' w2' w3' rd' bst']
  | three {q w l re by_ w2 w3 rd bst q' w' l' re' by' w2' w3' rd' bst' q2 w_2 l2 re2 by2 w22 w32 rd2 bst2 : Int} : CfgOK q w l re by_ w2 w3 rd bst → q ≤ 1699 → CfgOK q' w' l' re' by' w2' w3' rd' bst' → q' ≤ 1699 → CfgOK q2 w_2 l2 re2 by2 w22 w32 rd2 bst2 → q2 ≤ 1699 →
      CfgsQ 3 [cfg 1 q w l re by_ w2 w3 rd bst, cfg 2 q' w' l' re' by' w2' w3' rd' bst', cfg 3 q2 w_2 l2 re2 by2 w22 w32 rd2 bst2]
/-- What the function makes of numbers: an experiment that lies in new memory. -/
def Made (F : FuncId → Option AFunc) (meth : Meth) (sm : Summ) (n : Nat) (N : AV) (h : Blks) (lg d : List Nat) : Prop :=
  ∃ (k : Nat) (es ps : List (List AV)) (cs : List Cm) (b1 b2 : Nat) (M : AV) (L : List (Option ABlk)) (lg' : List Nat),
    acall F meth sm n (.fn 5) [N] ⟨bxt h [], lg, d⟩ = some (.agg [.slice b1 0 k none, .slice b2 0 ps.length none, M], ⟨bxt h L, lg', d⟩) ∧ LogOK h lg lg' ∧ Sc (bxt h L) k es ps cs b1 b2 true true M ∧ CfgsQ k es
end
section
variable {F : FuncId → Option AFunc} {meth : Meth} {sm : Summ}
set_option maxHeartbeats 64000000 in
theorem e5_20 (hF : F 5 = some AF5) (s5 : ∀ vs m, sm 5 vs m = none) (h7 : H7 sm) (h12 : H12 sm) (h13 : H13 sm) (n : Nat) (h : Blks) (lg d : List Nat) {l : List Int} {N : AV}
    (hN : NumsAt h N l) (hc : N = .osl 0 ∨ ∃ b c, N = .slice b 0 l.length c ∧ l.length ≤ 6) (hk : md (atL l 0) 2 = 0) (hT0 : bget h 0 = some (.row false 8 usesR)) (hT1 : bget h 1 = some (.row false 1 headsR)) : Made F meth sm (n + 8) N h lg d := by
  have hl0 := bget_lt hT0
  have hl1 := bget_lt hT1
  have g12_0 := fun m hm => h12 l N 0 m (by omega) hm
  have g7_0 := fun m => h7 (atL l 0) 2 m (by omega) (by omega)
  rw [hk] at g7_0
  have gN : ∀ L, NumsAt (bxt h L) N l := fun L => hN.old Old.bx
  have g12_1 := fun m hm => h12 l N 1 m (by omega) hm
  have g7_1 := fun m => h7 (atL l 1) 1048576 m (by omega) (by omega)
  have al1 := md_lo (a := atL l 1) (n := 1048576) (by omega)
  have ah1 := md_hi (a := atL l 1) (n := 1048576) (by omega)
  generalize md (atL l 1) 1048576 = a1 at g7_1 al1 ah1
  have t1_500 := tq (n := 500) al1 (by omega)
  have t1_200 := tq (n := 200) al1 (by omega)
  have t1_50 := tq (n := 50) al1 (by omega)
  have t1_4 := tq (n := 4) al1 (by omega)
  have t1_3 := tq (n := 3) al1 (by omega)
  have t1_2 := tq (n := 2) al1 (by omega)
  have t1_300 := tq (n := 300) al1 (by omega)
  have x1_1 : IntKind.i64.wrap (1200 + a1.tmod 500) = 1200 + a1.tmod 500 := wrapI (by omega) (by omega)
  have x1_2 : IntKind.u64.wrap (1200 + a1.tmod 500) = 1200 + a1.tmod 500 := wrapU (by omega) (by omega)
  have x1_3 : IntKind.i64.wrap (60 + a1.tmod 200) = 60 + a1.tmod 200 := wrapI (by omega) (by omega)
  have x1_4 : IntKind.u64.wrap (60 + a1.tmod 200) = 60 + a1.tmod 200 := wrapU (by omega) (by omega)
  have x1_5 : IntKind.u64.wrap (a1.tmod 50) = a1.tmod 50 := wrapU (by omega) (by omega)
  have x1_6 : IntKind.i64.wrap (1 + a1.tmod 4) = 1 + a1.tmod 4 := wrapI (by omega) (by omega)
  have x1_7 : IntKind.i64.wrap (1 + a1.tmod 2) = 1 + a1.tmod 2 := wrapI (by omega) (by omega)
  have x1_8 : IntKind.i64.wrap (1 + a1.tmod 3) = 1 + a1.tmod 3 := wrapI (by omega) (by omega)
  have x1_9 : IntKind.i64.wrap (200 + a1.tmod 300) = 200 + a1.tmod 300 := wrapI (by omega) (by omega)
  have C1 : CfgOK (1200 + a1.tmod 500) (60 + a1.tmod 200) (a1.tmod 50) (1 + a1.tmod 4) (a1.tmod 3) (1 + a1.tmod 2) (1 + a1.tmod 3) (1 + a1.tmod 2) (200 + a1.tmod 300) := by constructor <;> omega
  have g12_2 := fun m hm => h12 l N 2 m (by omega) hm
  have g7_2 := fun m => h7 (atL l 2) 1048576 m (by omega) (by omega)
  have al2 := md_lo (a := atL l 2) (n := 1048576) (by omega)
  have ah2 := md_hi (a := atL l 2) (n := 1048576) (by omega)
  generalize md (atL l 2) 1048576 = a2 at g7_2 al2 ah2
  have t2_500 := tq (n := 500) al2 (by omega)
  have t2_200 := tq (n := 200) al2 (by omega)
  have t2_50 := tq (n := 50) al2 (by omega)
  have t2_4 := tq (n := 4) al2 (by omega)
  have t2_3 := tq (n := 3) al2 (by omega)
  have t2_2 := tq (n := 2) al2 (by omega)
  have t2_300 := tq (n := 300) al2 (by omega)
  have x2_1 : IntKind.i64.wrap (1200 + a2.tmod 500) = 1200 + a2.tmod 500 := wrapI (by omega) (by omega)
  have x2_2 : IntKind.u64.wrap (1200 + a2.tmod 500) = 1200 + a2.tmod 500 := wrapU (by omega) (by omega)
  have x2_3 : IntKind.i64.wrap (60 + a2.tmod 200) = 60 + a2.tmod 200 := wrapI (by omega) (by omega)
  have x2_4 : IntKind.u64.wrap (60 + a2.tmod 200) = 60 + a2.tmod 200 := wrapU (by omega) (by omega)
  have x2_5 : IntKind.u64.wrap (a2.tmod 50) = a2.tmod 50 := wrapU (by omega) (by omega)
  have x2_6 : IntKind.i64.wrap (1 + a2.tmod 4) = 1 + a2.tmod 4 := wrapI (by omega) (by omega)
  have x2_7 : IntKind.i64.wrap (1 + a2.tmod 2) = 1 + a2.tmod 2 := wrapI (by omega) (by omega)
  have x2_8 : IntKind.i64.wrap (1 + a2.tmod 3) = 1 + a2.tmod 3 := wrapI (by omega) (by omega)
  have x2_9 : IntKind.i64.wrap (200 + a2.tmod 300) = 200 + a2.tmod 300 := wrapI (by omega) (by omega)
  have C2 : CfgOK (1200 + a2.tmod 500) (60 + a2.tmod 200) (a2.tmod 50) (1 + a2.tmod 4) (a2.tmod 3) (1 + a2.tmod 2) (1 + a2.tmod 3) (1 + a2.tmod 2) (200 + a2.tmod 300) := by constructor <;> omega
  have g12_4 := fun m hm => h12 l N 4 m (by omega) hm
  have g7_4 := fun m => h7 (atL l 4) 1048576 m (by omega) (by omega)
  have al4 := md_lo (a := atL l 4) (n := 1048576) (by omega)
  have ah4 := md_hi (a := atL l 4) (n := 1048576) (by omega)
  generalize md (atL l 4) 1048576 = p1 at g7_4 al4 ah4
  have t4_100 := tq (n := 100) al4 (by omega)
  have t4_700 := tq (n := 700) al4 (by omega)
  have t4_3 := tq (n := 3) al4 (by omega)
  have d4 := td (n := 700) al4 (by omega)
  have t4_7 := tq (n := 700) d4.1 (by omega)
  have x4_1 : IntKind.i64.wrap (300 + p1.tmod 100) = 300 + p1.tmod 100 := wrapI (by omega) (by omega)
  have x4_2 : IntKind.i64.wrap (300 + p1.tmod 700) = 300 + p1.tmod 700 := wrapI (by omega) (by omega)
  have x4_3 : IntKind.i64.wrap (p1.tdiv 700) = p1.tdiv 700 := wrapI (by omega) (by omega)
  have x4_4 : IntKind.i64.wrap (300 + (p1.tdiv 700).tmod 700) = 300 + (p1.tdiv 700).tmod 700 := wrapI (by omega) (by omega)
  have K1 : CtOK (300 + p1.tmod 100) (300 + p1.tmod 700) (p1.tmod 3) := by constructor <;> omega
  have J1 : CtOK (300 + p1.tmod 100) (300 + (p1.tdiv 700).tmod 700) (p1.tmod 3) := by constructor <;> omega
  have nn : ¬ (6:Int) < ((0:Nat):Int) := by omega
  rcases hc with rfl | ⟨b, c, rfl, hl6⟩
  · have yn : True := trivial
    refine ⟨2, [cfg 1 (1200 + a1.tmod 500) (60 + a1.tmod 200) (a1.tmod 50) (1 + a1.tmod 4) (a1.tmod 3) (1 + a1.tmod 2) (1 + a1.tmod 3) (1 + a1.tmod 2) (200 + a1.tmod 300), cfg 2 (1200 + a2.tmod 500) (60 + a2.tmod 200) (a2.tmod 50) (1 + a2.tmod 4) (a2.tmod 3) (1 + a2.tmod 2) (1 + a2.tmod 3) (1 + a2.tmod 2) (200 + a2.tmod 300)], [ct 1 2 0 (300 + p1.tmod 100) (300 + p1.tmod 700) (p1.tmod 3), ct 2 1 0 (300 + p1.tmod 100) (300 + (p1.tdiv 700).tmod 700) (p1.tmod 3)], [], ?_⟩
    apply Exists.intro
    apply Exists.intro
    apply Exists.intro
    apply Exists.intro
    apply Exists.intro
    refine And.intro ?ev0 (And.intro ?lg0 (And.intro ?sc0 ?cq0))
    case ev0 =>
      simp (config := { maxSteps := 1000000, implicitDefEqProofs := false }) only [acall, acode, aops, awanted, aoper, AOp.isCall, j0, j1, aprim, aev, tg_zn, tg_ln, tg_rn, ts_ze, ts_zn, ts_le, ts_ln, ts_re, ts_rn, tputs, aput, reduceCtorEq, j4, j5, abin, kindEq, binInt, j6, j9, j10, AV.cells?, j12, Mem.apply, Mem.applyAll, acallee, aevs, j13, j14, j16, j17, j18, Nat.ble, Nat.reduceDiv, Nat.reduceMod, Nat.reduceMul, Nat.reduceAdd, Nat.reduceLeDiff, j19, ares, aresL, ares1, j20, j21, Nat.beq, j22, j23, j24, bin_a, bin_b, bin_c, bputl, blen, bnth, Mem.killAll, j26, j27, j29, j33, rowGet, rowGet0, rowSet, rowSet0, chunk, j34, j35, j37, j41, j43, j51, j52, j54, j55, j56, j57, j58, j59, j60, j62, j63, j64, j65, refsL, refsLL, AV.refs, j66, j67, ne_eq, j68, j69, j71, Int.reduceLT, Int.reduceLE, Int.reduceAdd, Int.reduceNeg, Int.reduceEq, Nat.reduceLT, Nat.reduceEqDiff, wrapI, j79, aappend, elemsOf, winGet, roomMost, j80, j85, fillC, fillE, j88, AOp.isMaker, j89, j90, adraw, Mem.more, j92, j93, j94, j95, mask, unmask, AOp.reads, AOpnd.top, AV.top, ins, j96, nidOf, slotIn, j98, clash, j100, j101, j103, j104, j105, j106, j67, j66, bmore, j79, hF, AF5, s5, g12_0, g7_0, gN, g12_1, g7_1, x1_1, x1_2, x1_3, x1_4, x1_5, x1_6, x1_7, x1_8, x1_9, g12_2, g7_2, x2_1, x2_2, x2_3, x2_4, x2_5, x2_6, x2_7, x2_8, x2_9, g12_4, g7_4, x4_1, x4_2, x4_3, x4_4, aloop, roomMost]
      rfl
    case lg0 => repeat first | exact LogOK.nil | apply LogOK.cons
    case sc0 => exact ⟨CfgsOK.two C1 C2, PlanOK.two K1 J1, by simp, by simp, nb_get, nb_get, .inl ⟨rfl, by first | exact .inl rfl | exact .inr rfl⟩, Old.bx.get hT0, Old.bx.get hT1⟩
    case cq0 => exact CfgsQ.two C1 (by omega) C2 (by omega)
  · have yn : ¬ (6:Int) < (l.length : Int) := by omega
    refine ⟨2, [cfg 1 (1200 + a1.tmod 500) (60 + a1.tmod 200) (a1.tmod 50) (1 + a1.tmod 4) (a1.tmod 3) (1 + a1.tmod 2) (1 + a1.tmod 3) (1 + a1.tmod 2) (200 + a1.tmod 300), cfg 2 (1200 + a2.tmod 500) (60 + a2.tmod 200) (a2.tmod 50) (1 + a2.tmod 4) (a2.tmod 3) (1 + a2.tmod 2) (1 + a2.tmod 3) (1 + a2.tmod 2) (200 + a2.tmod 300)], [ct 1 2 0 (300 + p1.tmod 100) (300 + p1.tmod 700) (p1.tmod 3), ct 2 1 0 (300 + p1.tmod 100) (300 + (p1.tdiv 700).tmod 700) (p1.tmod 3)], [], ?_⟩
    apply Exists.intro
    apply Exists.intro
    apply Exists.intro
    apply Exists.intro
    apply Exists.intro
    refine And.intro ?ev1 (And.intro ?lg1 (And.intro ?sc1 ?cq1))
    case ev1 =>
      simp (config := { maxSteps := 1000000, implicitDefEqProofs := false }) only [acall, acode, aops, awanted, aoper, AOp.isCall, j0, j1, aprim, aev, tg_zn, tg_ln, tg_rn, ts_ze, ts_zn, ts_le, ts_ln, ts_re, ts_rn, tputs, aput, reduceCtorEq, j4, j5, abin, kindEq, binInt, j6, j9, j10, AV.cells?, j12, Mem.apply, Mem.applyAll, acallee, aevs, j13, j14, j16, j17, j18, Nat.ble, Nat.reduceDiv, Nat.reduceMod, Nat.reduceMul, Nat.reduceAdd, Nat.reduceLeDiff, j19, ares, aresL, ares1, j20, j21, Nat.beq, j22, j23, j24, bin_a, bin_b, bin_c, bputl, blen, bnth, Mem.killAll, j26, j27, j29, j33, rowGet, rowGet0, rowSet, rowSet0, chunk, j34, j35, j37, j41, j43, j51, j52, j54, j55, j56, j57, j58, j59, j60, j62, j63, j64, j65, refsL, refsLL, AV.refs, j66, j67, ne_eq, j68, j69, Int.reduceLT, Int.reduceLE, Int.reduceAdd, Int.reduceNeg, Int.reduceEq, Nat.reduceLT, Nat.reduceEqDiff, wrapI, j79, aappend, elemsOf, winGet, roomMost, j80, j85, fillC, fillE, j88, AOp.isMaker, j89, j90, adraw, Mem.more, j92, j93, j94, j95, mask, unmask, AOp.reads, AOpnd.top, AV.top, ins, j96, nidOf, slotIn, j98, clash, j100, j101, j103, j104, j105, j106, j67, j66, bmore, j79, hF, AF5, s5, g12_0, g7_0, gN, g12_1, g7_1, x1_1, x1_2, x1_3, x1_4, x1_5, x1_6, x1_7, x1_8, x1_9, g12_2, g7_2, x2_1, x2_2, x2_3, x2_4, x2_5, x2_6, x2_7, x2_8, x2_9, g12_4, g7_4, x4_1, x4_2, x4_3, x4_4, yn, aloop, roomMost]
      rfl
    case lg1 => repeat first | exact LogOK.nil | apply LogOK.cons
    case sc1 => exact ⟨CfgsOK.two C1 C2, PlanOK.two K1 J1, by simp, by simp, nb_get, nb_get, .inl ⟨rfl, by first | exact .inl rfl | exact .inr rfl⟩, Old.bx.get hT0, Old.bx.get hT1⟩
    case cq1 => exact CfgsQ.two C1 (by omega) C2 (by omega)
end
section
variable {F : FuncId → Option AFunc} {meth : Meth} {sm : Summ}
set_option maxHeartbeats 64000000 in
theorem e5_21 (hF : F 5 = some AF5) (s5 : ∀ vs m, sm 5 vs m = none) (h7 : H7 sm) (h12 : H12 sm) (h13 : H13 sm) (n : Nat) (h : Blks) (lg d : List Nat) {l : List Int} {N : AV}
    {b : Nat} {own : Bool} {c : Option Nat} (hN0 : N = .slice b 0 l.length c) (hb : bget h b = some (.row own 1 (l.map fun x => [.int .i64 x]))) (hl : l.length = 7) (hk : md (atL l 0) 2 = 0) (hT0 : bget h 0 = some (.row false 8 usesR)) (hT1 : bget h 1 = some (.row false 1 headsR)) : Made F meth sm (n + 8) N h lg d := by
  have hN : NumsAt h N l := .inr ⟨b, own, c, hN0, hb⟩
  have hlb := bget_lt hb
  have hl0 := bget_lt hT0
  have hl1 := bget_lt hT1
  have g12_0 := fun m hm => h12 l N 0 m (by omega) hm
  have g7_0 := fun m => h7 (atL l 0) 2 m (by omega) (by omega)
  rw [hk] at g7_0
  have gN : ∀ L, NumsAt (bxt h L) N l := fun L => hN.old Old.bx
  have g12_1 := fun m hm => h12 l N 1 m (by omega) hm
  have g7_1 := fun m => h7 (atL l 1) 1048576 m (by omega) (by omega)
  have al1 := md_lo (a := atL l 1) (n := 1048576) (by omega)
  have ah1 := md_hi (a := atL l 1) (n := 1048576) (by omega)
  generalize md (atL l 1) 1048576 = a1 at g7_1 al1 ah1
  have t1_500 := tq (n := 500) al1 (by omega)
  have t1_200 := tq (n := 200) al1 (by omega)
  have t1_50 := tq (n := 50) al1 (by omega)
  have t1_4 := tq (n := 4) al1 (by omega)
  have t1_3 := tq (n := 3) al1 (by omega)
  have t1_2 := tq (n := 2) al1 (by omega)
  have t1_300 := tq (n := 300) al1 (by omega)
  have x1_1 : IntKind.i64.wrap (1200 + a1.tmod 500) = 1200 + a1.tmod 500 := wrapI (by omega) (by omega)
  have x1_2 : IntKind.u64.wrap (1200 + a1.tmod 500) = 1200 + a1.tmod 500 := wrapU (by omega) (by omega)
  have x1_3 : IntKind.i64.wrap (60 + a1.tmod 200) = 60 + a1.tmod 200 := wrapI (by omega) (by omega)
  have x1_4 : IntKind.u64.wrap (60 + a1.tmod 200) = 60 + a1.tmod 200 := wrapU (by omega) (by omega)
  have x1_5 : IntKind.u64.wrap (a1.tmod 50) = a1.tmod 50 := wrapU (by omega) (by omega)
  have x1_6 : IntKind.i64.wrap (1 + a1.tmod 4) = 1 + a1.tmod 4 := wrapI (by omega) (by omega)
  have x1_7 : IntKind.i64.wrap (1 + a1.tmod 2) = 1 + a1.tmod 2 := wrapI (by omega) (by omega)
  have x1_8 : IntKind.i64.wrap (1 + a1.tmod 3) = 1 + a1.tmod 3 := wrapI (by omega) (by omega)
  have x1_9 : IntKind.i64.wrap (200 + a1.tmod 300) = 200 + a1.tmod 300 := wrapI (by omega) (by omega)
  have C1 : CfgOK (1200 + a1.tmod 500) (60 + a1.tmod 200) (a1.tmod 50) (1 + a1.tmod 4) (a1.tmod 3) (1 + a1.tmod 2) (1 + a1.tmod 3) (1 + a1.tmod 2) (200 + a1.tmod 300) := by constructor <;> omega
  have g12_2 := fun m hm => h12 l N 2 m (by omega) hm
  have g7_2 := fun m => h7 (atL l 2) 1048576 m (by omega) (by omega)
  have al2 := md_lo (a := atL l 2) (n := 1048576) (by omega)
  have ah2 := md_hi (a := atL l 2) (n := 1048576) (by omega)
  generalize md (atL l 2) 1048576 = a2 at g7_2 al2 ah2
  have t2_500 := tq (n := 500) al2 (by omega)
  have t2_200 := tq (n := 200) al2 (by omega)
  have t2_50 := tq (n := 50) al2 (by omega)
  have t2_4 := tq (n := 4) al2 (by omega)
  have t2_3 := tq (n := 3) al2 (by omega)
  have t2_2 := tq (n := 2) al2 (by omega)
  have t2_300 := tq (n := 300) al2 (by omega)
  have x2_1 : IntKind.i64.wrap (1200 + a2.tmod 500) = 1200 + a2.tmod 500 := wrapI (by omega) (by omega)
  have x2_2 : IntKind.u64.wrap (1200 + a2.tmod 500) = 1200 + a2.tmod 500 := wrapU (by omega) (by omega)
  have x2_3 : IntKind.i64.wrap (60 + a2.tmod 200) = 60 + a2.tmod 200 := wrapI (by omega) (by omega)
  have x2_4 : IntKind.u64.wrap (60 + a2.tmod 200) = 60 + a2.tmod 200 := wrapU (by omega) (by omega)
  have x2_5 : IntKind.u64.wrap (a2.tmod 50) = a2.tmod 50 := wrapU (by omega) (by omega)
  have x2_6 : IntKind.i64.wrap (1 + a2.tmod 4) = 1 + a2.tmod 4 := wrapI (by omega) (by omega)
  have x2_7 : IntKind.i64.wrap (1 + a2.tmod 2) = 1 + a2.tmod 2 := wrapI (by omega) (by omega)
  have x2_8 : IntKind.i64.wrap (1 + a2.tmod 3) = 1 + a2.tmod 3 := wrapI (by omega) (by omega)
  have x2_9 : IntKind.i64.wrap (200 + a2.tmod 300) = 200 + a2.tmod 300 := wrapI (by omega) (by omega)
  have C2 : CfgOK (1200 + a2.tmod 500) (60 + a2.tmod 200) (a2.tmod 50) (1 + a2.tmod 4) (a2.tmod 3) (1 + a2.tmod 2) (1 + a2.tmod 3) (1 + a2.tmod 2) (200 + a2.tmod 300) := by constructor <;> omega
  have g12_4 := fun m hm => h12 l N 4 m (by omega) hm
  have g7_4 := fun m => h7 (atL l 4) 1048576 m (by omega) (by omega)
  have al4 := md_lo (a := atL l 4) (n := 1048576) (by omega)
  have ah4 := md_hi (a := atL l 4) (n := 1048576) (by omega)
  generalize md (atL l 4) 1048576 = p1 at g7_4 al4 ah4
  have t4_100 := tq (n := 100) al4 (by omega)
  have t4_700 := tq (n := 700) al4 (by omega)
  have t4_3 := tq (n := 3) al4 (by omega)
  have d4 := td (n := 700) al4 (by omega)
  have t4_7 := tq (n := 700) d4.1 (by omega)
  have x4_1 : IntKind.i64.wrap (300 + p1.tmod 100) = 300 + p1.tmod 100 := wrapI (by omega) (by omega)
  have x4_2 : IntKind.i64.wrap (300 + p1.tmod 700) = 300 + p1.tmod 700 := wrapI (by omega) (by omega)
  have x4_3 : IntKind.i64.wrap (p1.tdiv 700) = p1.tdiv 700 := wrapI (by omega) (by omega)
  have x4_4 : IntKind.i64.wrap (300 + (p1.tdiv 700).tmod 700) = 300 + (p1.tdiv 700).tmod 700 := wrapI (by omega) (by omega)
  have K1 : CtOK (300 + p1.tmod 100) (300 + p1.tmod 700) (p1.tmod 3) := by constructor <;> omega
  have J1 : CtOK (300 + p1.tmod 100) (300 + (p1.tdiv 700).tmod 700) (p1.tmod 3) := by constructor <;> omega
  have v6 : (List.map (fun x => [AV.int .i64 x]) l)[6]? = some [AV.int .i64 (atL l 6)] := by
    have q : 6 < l.length := by omega
    rw [List.getElem?_map, List.getElem?_eq_getElem q]
    simp [atL, List.getElem?_eq_getElem q]
  have u6 : 6 < l.length := by omega
  have y6 : (6:Int) < (l.length : Int) := by omega
  have g7_6 := fun m => h7 (atL l 6) 268435456 m (by omega) (by omega)
  have al6 := md_lo (a := atL l 6) (n := 268435456) (by omega)
  have ah6 := md_hi (a := atL l 6) (n := 268435456) (by omega)
  generalize md (atL l 6) 268435456 = q6 at g7_6 al6 ah6
  obtain ⟨bx6, by6, bd6, pr6, bb6, bl6, _, sx6, ⟨pl6, ph6, rfl, sl6, sh6⟩, g13_6⟩ := h13 q6
  have t6_1 := tq (n := 2) al6 (by omega)
  have t6_2 := tq (n := 100) al6 (by omega)
  have d6 := td (n := 4) al6 (by omega)
  have t6_3 := tq (n := 2) d6.1 (by omega)
  have x6_1 : IntKind.i64.wrap (1 + q6.tmod 2) = 1 + q6.tmod 2 := wrapI (by omega) (by omega)
  have x6_2 : IntKind.i64.wrap (200 + q6.tmod 100) = 200 + q6.tmod 100 := wrapI (by omega) (by omega)
  have x6_3 : IntKind.i64.wrap (q6.tdiv 4) = q6.tdiv 4 := wrapI (by omega) (by omega)
  have x6_4 : IntKind.i64.wrap (1 + (q6.tdiv 4).tmod 2) = 1 + (q6.tdiv 4).tmod 2 := wrapI (by omega) (by omega)
  have B6 : BuOK (1 + q6.tmod 2) 6 (1 + (q6.tdiv 4).tmod 2) pr6 (200 + q6.tmod 100) sx6 := by constructor <;> omega
  have z6 : Cm.OK 2 ⟨1 + q6.tmod 2, 6, 1 + (q6.tdiv 4).tmod 2, pr6, 200 + q6.tmod 100, sx6⟩ := ⟨B6, by show 1 + q6.tmod 2 ≤ _; omega, by show 1 + (q6.tdiv 4).tmod 2 ≤ _; omega⟩
  have yn : ¬ (7:Int) < (l.length : Int) := by omega
  subst hN0
  refine ⟨2, [cfg 1 (1200 + a1.tmod 500) (60 + a1.tmod 200) (a1.tmod 50) (1 + a1.tmod 4) (a1.tmod 3) (1 + a1.tmod 2) (1 + a1.tmod 3) (1 + a1.tmod 2) (200 + a1.tmod 300), cfg 2 (1200 + a2.tmod 500) (60 + a2.tmod 200) (a2.tmod 50) (1 + a2.tmod 4) (a2.tmod 3) (1 + a2.tmod 2) (1 + a2.tmod 3) (1 + a2.tmod 2) (200 + a2.tmod 300)], [ct 1 2 0 (300 + p1.tmod 100) (300 + p1.tmod 700) (p1.tmod 3), ct 2 1 0 (300 + p1.tmod 100) (300 + (p1.tdiv 700).tmod 700) (p1.tmod 3)], [⟨1 + q6.tmod 2, 6, 1 + (q6.tdiv 4).tmod 2, pr6, 200 + q6.tmod 100, sx6⟩], ?_⟩
  apply Exists.intro
  apply Exists.intro
  apply Exists.intro
  apply Exists.intro
  apply Exists.intro
  refine And.intro ?ev (And.intro ?lg (And.intro ?sc ?cq))
  case ev =>
    simp (config := { maxSteps := 1000000, implicitDefEqProofs := false }) only [acall, acode, aops, awanted, aoper, AOp.isCall, j0, j1, aprim, aev, tg_zn, tg_ln, tg_rn, ts_ze, ts_zn, ts_le, ts_ln, ts_re, ts_rn, tputs, aput, reduceCtorEq, j4, j5, abin, kindEq, binInt, j6, j9, j10, j11, AV.cells?, j12, Mem.apply, Mem.applyAll, acallee, aevs, j13, j14, j16, j17, j18, Nat.ble, Nat.reduceDiv, Nat.reduceMod, Nat.reduceMul, Nat.reduceAdd, Nat.reduceLeDiff, j19, ares, aresL, ares1, j20, j21, Nat.beq, j22, j23, j24, bin_a, bin_b, bin_c, bputl, blen, bnth, Mem.killAll, j26, j27, j29, j31, j33, rowGet, rowGet0, rowSet, rowSet0, chunk, j34, j35, j37, j38, j43, j51, j52, j54, j55, j56, j57, j58, j59, j60, j62, j63, j64, j65, refsL, refsLL, AV.refs, j66, j67, ne_eq, j68, j69, Int.reduceLT, Int.reduceLE, Int.reduceToNat, Int.reduceAdd, Int.reduceNeg, Int.reduceEq, Nat.reduceLT, Nat.reduceEqDiff, wrapI, wrapU, j74, j79, aappend, elemsOf, winGet, roomMost, j80, j85, fillC, fillE, j88, AOp.isMaker, j89, j90, adraw, Mem.more, j92, j93, j94, j95, mask, unmask, AOp.reads, AOpnd.top, AV.top, ins, j96, nidOf, slotIn, j98, clash, j100, j101, j103, j104, j105, j106, j67, j66, bmore, j79, hF, AF5, s5, g12_0, g7_0, gN, g12_1, g7_1, x1_1, x1_2, x1_3, x1_4, x1_5, x1_6, x1_7, x1_8, x1_9, g12_2, g7_2, x2_1, x2_2, x2_3, x2_4, x2_5, x2_6, x2_7, x2_8, x2_9, g12_4, g7_4, x4_1, x4_2, x4_3, x4_4, v6, u6, y6, g7_6, g13_6, x6_1, x6_2, x6_3, x6_4, yn, hb, hlb, aloop, nb_old, roomMost]
    rfl
  case lg => repeat first | exact LogOK.nil | apply LogOK.cons
  case sc => exact ⟨CfgsOK.two C1 C2, PlanOK.two K1 J1, by simp, (by intro c hc; simp only [List.mem_cons, List.not_mem_nil, or_false] at hc; rcases hc with rfl <;> first | exact z6), nb_get, nb_get, .inr ⟨by simp, _, true, none, rfl, nb_get⟩, Old.bx.get hT0, Old.bx.get hT1⟩
  case cq => exact CfgsQ.two C1 (by omega) C2 (by omega)
end
section
variable {F : FuncId → Option AFunc} {meth : Meth} {sm : Summ}
set_option maxHeartbeats 64000000 in
theorem e5_22 (hF : F 5 = some AF5) (s5 : ∀ vs m, sm 5 vs m = none) (h7 : H7 sm) (h12 : H12 sm) (h13 : H13 sm) (n : Nat) (h : Blks) (lg d : List Nat) {l : List Int} {N : AV}
    {b : Nat} {own : Bool} {c : Option Nat} (hN0 : N = .slice b 0 l.length c) (hb : bget h b = some (.row own 1 (l.map fun x => [.int .i64 x]))) (hl : l.length = 8) (hk : md (atL l 0) 2 = 0) (hT0 : bget h 0 = some (.row false 8 usesR)) (hT1 : bget h 1 = some (.row false 1 headsR)) : Made F meth sm (n + 8) N h lg d := by
  have hN : NumsAt h N l := .inr ⟨b, own, c, hN0, hb⟩
  have hlb := bget_lt hb
  have hl0 := bget_lt hT0
  have hl1 := bget_lt hT1
  have g12_0 := fun m hm => h12 l N 0 m (by omega) hm
  have g7_0 := fun m => h7 (atL l 0) 2 m (by omega) (by omega)
  rw [hk] at g7_0
  have gN : ∀ L, NumsAt (bxt h L) N l := fun L => hN.old Old.bx
  have g12_1 := fun m hm => h12 l N 1 m (by omega) hm
  have g7_1 := fun m => h7 (atL l 1) 1048576 m (by omega) (by omega)
  have al1 := md_lo (a := atL l 1) (n := 1048576) (by omega)
  have ah1 := md_hi (a := atL l 1) (n := 1048576) (by omega)
  generalize md (atL l 1) 1048576 = a1 at g7_1 al1 ah1
  have t1_500 := tq (n := 500) al1 (by omega)
  have t1_200 := tq (n := 200) al1 (by omega)
  have t1_50 := tq (n := 50) al1 (by omega)
  have t1_4 := tq (n := 4) al1 (by omega)
  have t1_3 := tq (n := 3) al1 (by omega)
  have t1_2 := tq (n := 2) al1 (by omega)
  have t1_300 := tq (n := 300) al1 (by omega)
  have x1_1 : IntKind.i64.wrap (1200 + a1.tmod 500) = 1200 + a1.tmod 500 := wrapI (by omega) (by omega)
  have x1_2 : IntKind.u64.wrap (1200 + a1.tmod 500) = 1200 + a1.tmod 500 := wrapU (by omega) (by omega)
  have x1_3 : IntKind.i64.wrap (60 + a1.tmod 200) = 60 + a1.tmod 200 := wrapI (by omega) (by omega)
  have x1_4 : IntKind.u64.wrap (60 + a1.tmod 200) = 60 + a1.tmod 200 := wrapU (by omega) (by omega)
  have x1_5 : IntKind.u64.wrap (a1.tmod 50) = a1.tmod 50 := wrapU (by omega) (by omega)
  have x1_6 : IntKind.i64.wrap (1 + a1.tmod 4) = 1 + a1.tmod 4 := wrapI (by omega) (by omega)
  have x1_7 : IntKind.i64.wrap (1 + a1.tmod 2) = 1 + a1.tmod 2 := wrapI (by omega) (by omega)
  have x1_8 : IntKind.i64.wrap (1 + a1.tmod 3) = 1 + a1.tmod 3 := wrapI (by omega) (by omega)
  have x1_9 : IntKind.i64.wrap (200 + a1.tmod 300) = 200 + a1.tmod 300 := wrapI (by omega) (by omega)
  have C1 : CfgOK (1200 + a1.tmod 500) (60 + a1.tmod 200) (a1.tmod 50) (1 + a1.tmod 4) (a1.tmod 3) (1 + a1.tmod 2) (1 + a1.tmod 3) (1 + a1.tmod 2) (200 + a1.tmod 300) := by constructor <;> omega
  have g12_2 := fun m hm => h12 l N 2 m (by omega) hm
  have g7_2 := fun m => h7 (atL l 2) 1048576 m (by omega) (by omega)
  have al2 := md_lo (a := atL l 2) (n := 1048576) (by omega)
  have ah2 := md_hi (a := atL l 2) (n := 1048576) (by omega)
  generalize md (atL l 2) 1048576 = a2 at g7_2 al2 ah2
  have t2_500 := tq (n := 500) al2 (by omega)
  have t2_200 := tq (n := 200) al2 (by omega)
  have t2_50 := tq (n := 50) al2 (by omega)
  have t2_4 := tq (n := 4) al2 (by omega)
  have t2_3 := tq (n := 3) al2 (by omega)
  have t2_2 := tq (n := 2) al2 (by omega)
  have t2_300 := tq (n := 300) al2 (by omega)
  have x2_1 : IntKind.i64.wrap (1200 + a2.tmod 500) = 1200 + a2.tmod 500 := wrapI (by omega) (by omega)
  have x2_2 : IntKind.u64.wrap (1200 + a2.tmod 500) = 1200 + a2.tmod 500 := wrapU (by omega) (by omega)
  have x2_3 : IntKind.i64.wrap (60 + a2.tmod 200) = 60 + a2.tmod 200 := wrapI (by omega) (by omega)
  have x2_4 : IntKind.u64.wrap (60 + a2.tmod 200) = 60 + a2.tmod 200 := wrapU (by omega) (by omega)
  have x2_5 : IntKind.u64.wrap (a2.tmod 50) = a2.tmod 50 := wrapU (by omega) (by omega)
  have x2_6 : IntKind.i64.wrap (1 + a2.tmod 4) = 1 + a2.tmod 4 := wrapI (by omega) (by omega)
  have x2_7 : IntKind.i64.wrap (1 + a2.tmod 2) = 1 + a2.tmod 2 := wrapI (by omega) (by omega)
  have x2_8 : IntKind.i64.wrap (1 + a2.tmod 3) = 1 + a2.tmod 3 := wrapI (by omega) (by omega)
  have x2_9 : IntKind.i64.wrap (200 + a2.tmod 300) = 200 + a2.tmod 300 := wrapI (by omega) (by omega)
  have C2 : CfgOK (1200 + a2.tmod 500) (60 + a2.tmod 200) (a2.tmod 50) (1 + a2.tmod 4) (a2.tmod 3) (1 + a2.tmod 2) (1 + a2.tmod 3) (1 + a2.tmod 2) (200 + a2.tmod 300) := by constructor <;> omega
  have g12_4 := fun m hm => h12 l N 4 m (by omega) hm
  have g7_4 := fun m => h7 (atL l 4) 1048576 m (by omega) (by omega)
  have al4 := md_lo (a := atL l 4) (n := 1048576) (by omega)
  have ah4 := md_hi (a := atL l 4) (n := 1048576) (by omega)
  generalize md (atL l 4) 1048576 = p1 at g7_4 al4 ah4
  have t4_100 := tq (n := 100) al4 (by omega)
  have t4_700 := tq (n := 700) al4 (by omega)
  have t4_3 := tq (n := 3) al4 (by omega)
  have d4 := td (n := 700) al4 (by omega)
  have t4_7 := tq (n := 700) d4.1 (by omega)
  have x4_1 : IntKind.i64.wrap (300 + p1.tmod 100) = 300 + p1.tmod 100 := wrapI (by omega) (by omega)
  have x4_2 : IntKind.i64.wrap (300 + p1.tmod 700) = 300 + p1.tmod 700 := wrapI (by omega) (by omega)
  have x4_3 : IntKind.i64.wrap (p1.tdiv 700) = p1.tdiv 700 := wrapI (by omega) (by omega)
  have x4_4 : IntKind.i64.wrap (300 + (p1.tdiv 700).tmod 700) = 300 + (p1.tdiv 700).tmod 700 := wrapI (by omega) (by omega)
  have K1 : CtOK (300 + p1.tmod 100) (300 + p1.tmod 700) (p1.tmod 3) := by constructor <;> omega
  have J1 : CtOK (300 + p1.tmod 100) (300 + (p1.tdiv 700).tmod 700) (p1.tmod 3) := by constructor <;> omega
  have v6 : (List.map (fun x => [AV.int .i64 x]) l)[6]? = some [AV.int .i64 (atL l 6)] := by
    have q : 6 < l.length := by omega
    rw [List.getElem?_map, List.getElem?_eq_getElem q]
    simp [atL, List.getElem?_eq_getElem q]
  have u6 : 6 < l.length := by omega
  have y6 : (6:Int) < (l.length : Int) := by omega
  have g7_6 := fun m => h7 (atL l 6) 268435456 m (by omega) (by omega)
  have al6 := md_lo (a := atL l 6) (n := 268435456) (by omega)
  have ah6 := md_hi (a := atL l 6) (n := 268435456) (by omega)
  generalize md (atL l 6) 268435456 = q6 at g7_6 al6 ah6
  obtain ⟨bx6, by6, bd6, pr6, bb6, bl6, _, sx6, ⟨pl6, ph6, rfl, sl6, sh6⟩, g13_6⟩ := h13 q6
  have t6_1 := tq (n := 2) al6 (by omega)
  have t6_2 := tq (n := 100) al6 (by omega)
  have d6 := td (n := 4) al6 (by omega)
  have t6_3 := tq (n := 2) d6.1 (by omega)
  have x6_1 : IntKind.i64.wrap (1 + q6.tmod 2) = 1 + q6.tmod 2 := wrapI (by omega) (by omega)
  have x6_2 : IntKind.i64.wrap (200 + q6.tmod 100) = 200 + q6.tmod 100 := wrapI (by omega) (by omega)
  have x6_3 : IntKind.i64.wrap (q6.tdiv 4) = q6.tdiv 4 := wrapI (by omega) (by omega)
  have x6_4 : IntKind.i64.wrap (1 + (q6.tdiv 4).tmod 2) = 1 + (q6.tdiv 4).tmod 2 := wrapI (by omega) (by omega)
  have B6 : BuOK (1 + q6.tmod 2) 6 (1 + (q6.tdiv 4).tmod 2) pr6 (200 + q6.tmod 100) sx6 := by constructor <;> omega
  have z6 : Cm.OK 2 ⟨1 + q6.tmod 2, 6, 1 + (q6.tdiv 4).tmod 2, pr6, 200 + q6.tmod 100, sx6⟩ := ⟨B6, by show 1 + q6.tmod 2 ≤ _; omega, by show 1 + (q6.tdiv 4).tmod 2 ≤ _; omega⟩
  have v7 : (List.map (fun x => [AV.int .i64 x]) l)[7]? = some [AV.int .i64 (atL l 7)] := by
    have q : 7 < l.length := by omega
    rw [List.getElem?_map, List.getElem?_eq_getElem q]
    simp [atL, List.getElem?_eq_getElem q]
  have u7 : 7 < l.length := by omega
  have y7 : (7:Int) < (l.length : Int) := by omega
  have g7_7 := fun m => h7 (atL l 7) 268435456 m (by omega) (by omega)
  have al7 := md_lo (a := atL l 7) (n := 268435456) (by omega)
  have ah7 := md_hi (a := atL l 7) (n := 268435456) (by omega)
  generalize md (atL l 7) 268435456 = q7 at g7_7 al7 ah7
  obtain ⟨bx7, by7, bd7, pr7, bb7, bl7, _, sx7, ⟨pl7, ph7, rfl, sl7, sh7⟩, g13_7⟩ := h13 q7
  have t7_1 := tq (n := 2) al7 (by omega)
  have t7_2 := tq (n := 100) al7 (by omega)
  have d7 := td (n := 4) al7 (by omega)
  have t7_3 := tq (n := 2) d7.1 (by omega)
  have x7_1 : IntKind.i64.wrap (1 + q7.tmod 2) = 1 + q7.tmod 2 := wrapI (by omega) (by omega)
  have x7_2 : IntKind.i64.wrap (200 + q7.tmod 100) = 200 + q7.tmod 100 := wrapI (by omega) (by omega)
  have x7_3 : IntKind.i64.wrap (q7.tdiv 4) = q7.tdiv 4 := wrapI (by omega) (by omega)
  have x7_4 : IntKind.i64.wrap (1 + (q7.tdiv 4).tmod 2) = 1 + (q7.tdiv 4).tmod 2 := wrapI (by omega) (by omega)
  have B7 : BuOK (1 + q7.tmod 2) 7 (1 + (q7.tdiv 4).tmod 2) pr7 (200 + q7.tmod 100) sx7 := by constructor <;> omega
  have z7 : Cm.OK 2 ⟨1 + q7.tmod 2, 7, 1 + (q7.tdiv 4).tmod 2, pr7, 200 + q7.tmod 100, sx7⟩ := ⟨B7, by show 1 + q7.tmod 2 ≤ _; omega, by show 1 + (q7.tdiv 4).tmod 2 ≤ _; omega⟩
  have yn : ¬ (8:Int) < (l.length : Int) := by omega
  subst hN0
  refine ⟨2, [cfg 1 (1200 + a1.tmod 500) (60 + a1.tmod 200) (a1.tmod 50) (1 + a1.tmod 4) (a1.tmod 3) (1 + a1.tmod 2) (1 + a1.tmod 3) (1 + a1.tmod 2) (200 + a1.tmod 300), cfg 2 (1200 + a2.tmod 500) (60 + a2.tmod 200) (a2.tmod 50) (1 + a2.tmod 4) (a2.tmod 3) (1 + a2.tmod 2) (1 + a2.tmod 3) (1 + a2.tmod 2) (200 + a2.tmod 300)], [ct 1 2 0 (300 + p1.tmod 100) (300 + p1.tmod 700) (p1.tmod 3), ct 2 1 0 (300 + p1.tmod 100) (300 + (p1.tdiv 700).tmod 700) (p1.tmod 3)], [⟨1 + q6.tmod 2, 6, 1 + (q6.tdiv 4).tmod 2, pr6, 200 + q6.tmod 100, sx6⟩, ⟨1 + q7.tmod 2, 7, 1 + (q7.tdiv 4).tmod 2, pr7, 200 + q7.tmod 100, sx7⟩], ?_⟩
  apply Exists.intro
  apply Exists.intro
  apply Exists.intro
  apply Exists.intro
  apply Exists.intro
  refine And.intro ?ev (And.intro ?lg (And.intro ?sc ?cq))
  case ev =>
    simp (config := { maxSteps := 1000000, implicitDefEqProofs := false }) only [acall, acode, aops, awanted, aoper, AOp.isCall, j0, j1, aprim, aev, tg_zn, tg_ln, tg_rn, ts_ze, ts_zn, ts_le, ts_ln, ts_re, ts_rn, tputs, aput, reduceCtorEq, j4, j5, abin, kindEq, binInt, j6, j9, j10, j11, AV.cells?, j12, Mem.apply, Mem.applyAll, acallee, aevs, j13, j14, j16, j17, j18, Nat.ble, Nat.reduceDiv, Nat.reduceMod, Nat.reduceMul, Nat.reduceAdd, Nat.reduceLeDiff, j19, ares, aresL, ares1, j20, j21, Nat.beq, j22, j23, j24, bin_a, bin_b, bin_c, bputl, blen, bnth, Mem.killAll, j26, j27, j29, j31, j33, rowGet, rowGet0, rowSet, rowSet0, chunk, j34, j35, j37, j38, j43, j51, j52, j54, j55, j56, j57, j58, j59, j60, j62, j63, j64, j65, refsL, refsLL, AV.refs, j66, j67, ne_eq, j68, j69, Int.reduceLT, Int.reduceLE, Int.reduceToNat, Int.reduceAdd, Int.reduceNeg, Int.reduceEq, Nat.reduceLT, Nat.reduceEqDiff, wrapI, wrapU, j74, j79, aappend, elemsOf, winGet, roomMost, j80, j85, fillC, fillE, j88, AOp.isMaker, j89, j90, adraw, Mem.more, j92, j93, j94, j95, mask, unmask, AOp.reads, AOpnd.top, AV.top, ins, j96, nidOf, slotIn, j98, clash, j100, j101, j103, j104, j105, j106, j67, j66, bmore, j79, hF, AF5, s5, g12_0, g7_0, gN, g12_1, g7_1, x1_1, x1_2, x1_3, x1_4, x1_5, x1_6, x1_7, x1_8, x1_9, g12_2, g7_2, x2_1, x2_2, x2_3, x2_4, x2_5, x2_6, x2_7, x2_8, x2_9, g12_4, g7_4, x4_1, x4_2, x4_3, x4_4, v6, u6, y6, g7_6, g13_6, x6_1, x6_2, x6_3, x6_4, v7, u7, y7, g7_7, g13_7, x7_1, x7_2, x7_3, x7_4, yn, hb, hlb, aloop, nb_old, roomMost]
    rfl
  case lg => repeat first | exact LogOK.nil | apply LogOK.cons
  case sc => exact ⟨CfgsOK.two C1 C2, PlanOK.two K1 J1, by simp, (by intro c hc; simp only [List.mem_cons, List.not_mem_nil, or_false] at hc; rcases hc with rfl | rfl <;> first | exact z6 | exact z7), nb_get, nb_get, .inr ⟨by simp, _, true, none, rfl, nb_get⟩, Old.bx.get hT0, Old.bx.get hT1⟩
  case cq => exact CfgsQ.two C1 (by omega) C2 (by omega)
end
end Go.Proofs.YtcphofamajcimaaDoor
end
