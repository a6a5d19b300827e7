/- Functions of the program on symbolic values: part Sa.
   Conditions: none; these are lemmas. -/
import Derived.Test.YtcphofamajcimaaDoorFok
import Derived.Test.YtcphofamajcimaaDoorSy
noncomputable section
namespace Go.Proofs.YtcphofamajcimaaDoor
open Go Go.Abs
set_option maxRecDepth 100000
set_option linter.unusedSimpArgs false
set_option linter.unusedVariables false
section
variable {F : FuncId → Option AFunc} {meth : Meth} {sm : Summ}

/-- A contact, as the evaluator has it. -/
def ct (f t s e r dl : Int) : List AV := [.int .i64 f, .int .i64 t, .int .i64 s, .int .i64 e, .int .i64 r, .int .i64 dl]

def H96 (sm : Summ) : Prop := ∀ (x lo hi : Int) (m : Mem), lo ≤ x → x ≤ hi → sm 96 [.int .i64 x, .int .i64 lo, .int .i64 hi] m = some (.bool true, m)
theorem e96 (hF : F 96 = some AF96) (hs : ∀ vs m, sm 96 vs m = none) (n : Nat) (h : Blks) (lg d : List Nat) {x lo hi : Int} (h1 : lo ≤ x) (h2 : x ≤ hi) :
    Ev F meth sm (n + 1) 96 [.int .i64 x, .int .i64 lo, .int .i64 hi] ⟨h, lg, d⟩ (.bool true) := by
  refine Ev.of ?_
  simp only [acall, acode, aops, awanted, aoper, AOp.isCall, j0, j1, aprim, aev, tget_tset, tget_e, tputs, aput, reduceCtorEq, j2, j3, j4, j5, abin, kindEq, binInt, j6, j12, Mem.applyAll, acallee, j17, j18, Nat.ble, Nat.reduceAdd, ares, aresL, ares1, Pth.succ, j22, blen, Mem.killAll, j26, j31, hs, hF, AF96, h1, h2, ge_iff_le]
  exact ⟨_, rfl, keep_bx (by repeat first | exact LogOK.nil | apply LogOK.cons)⟩

def H73 (sm : Summ) : Prop := ∀ (f t : Int) (b : Nat) (own : Bool) (c : Option Nat) (m : Mem), 1 ≤ f → f ≤ 3 → 1 ≤ t → t ≤ 3 → bget m.blks b = some (.row own 1 [[.int .i64 f], [.int .i64 t]]) → sm 73 [.slice b 0 2 c] m = some (.bool true, m)
theorem e73 (hF : F 73 = some AF73) (hs : ∀ vs m, sm 73 vs m = none) (n : Nat) (h : Blks) (lg d : List Nat) {f t : Int} {b : Nat} {own : Bool} {c : Option Nat} (h1 : 1 ≤ f) (h2 : f ≤ 3) (h3 : 1 ≤ t) (h4 : t ≤ 3) (hb : bget h b = some (.row own 1 [[.int .i64 f], [.int .i64 t]])) :
    Ev F meth sm (n + 4) 73 [.slice b 0 2 c] ⟨h, lg, d⟩ (.bool true) := by
  refine Ev.of ?_
  have hlt := bget_lt hb
  have c1 : ¬ f < 1 := by omega
  have c2 : ¬ 16 < f := by omega
  have c3 : ¬ t < 1 := by omega
  have c4 : ¬ 16 < t := by omega
  have w1 : IntKind.i64.wrap (0 + 1) = 1 := rfl
  have w2 : IntKind.i64.wrap (1 + 1) = 2 := rfl
  simp only [acall, acode, aops, awanted, aoper, AOp.isCall, j0, j1, aprim, aev, tget_tset, tget_e, tputs, aput, reduceCtorEq, j2, j3, j4, j5, abin, kindEq, binInt, j6, j9, j12, Mem.applyAll, acallee, j14, j17, j18, Nat.ble, Nat.reduceDiv, Nat.reduceMod, Nat.reduceMul, Nat.reduceAdd, Nat.reduceLeDiff, j19, ares, aresL, ares1, Nat.beq, j22, blen, Mem.killAll, j26, j27, j31, rowGet, rowGet0, j54, j55, j56, j57, j59, j60, j61, j64, j65, j68, j71, Int.reduceLT, Int.reduceLE, Int.reduceToNat, Int.reduceAdd, Int.reduceNeg, Nat.reduceLT, wrapI, j74, hs, hF, AF73, nb_old, hlt, hb, c1, c2, c3, c4, gt_iff_lt, aloop]
  exact ⟨_, rfl, keep_bx (by repeat first | exact LogOK.nil | apply LogOK.cons)⟩
end
section
variable {F : FuncId → Option AFunc} {meth : Meth} {sm : Summ}

def H56 (sm : Summ) : Prop := ∀ (f t e r dl : Int) (m : Mem), 1 ≤ f → f ≤ 3 → 1 ≤ t → t ≤ 3 → f ≠ t → 300 ≤ e → e ≤ 399 → 300 ≤ r → r ≤ 999 → 0 ≤ dl → dl ≤ 2 → sm 56 [.agg (ct f t 0 e r dl)] m = some (.int .i64 0, m)
theorem e56 (hF : F 56 = some AF56) (h73 : H73 sm) (hs : ∀ vs m, sm 56 vs m = none) (n : Nat) (h : Blks) (lg d : List Nat) {f t e r dl : Int} (f1 : 1 ≤ f) (f2 : f ≤ 3) (t1 : 1 ≤ t) (t2 : t ≤ 3) (ft : f ≠ t) (e1 : 300 ≤ e) (e2 : e ≤ 399) (r1 : 300 ≤ r) (r2 : r ≤ 999) (d1 : 0 ≤ dl) (d2 : dl ≤ 2) :
    Ev F meth sm (n + 2) 56 [.agg (ct f t 0 e r dl)] ⟨h, lg, d⟩ (.int .i64 0) := by
  refine Ev.of ?_
  unfold H73 at h73
  have c1 : ¬ e ≤ 0 := by omega
  have c2 : ¬ 1099511627776 < e := by omega
  have c3 : ¬ r < 1 := by omega
  have c4 : ¬ 1048576 < r := by omega
  have c5 : ¬ dl < 0 := by omega
  have c6 : ¬ 1048576 < dl := by omega
  have c7 : (f == t) = false := by simpa using ft
  have g := fun c m hb => h73 f t (nb h 1) true c m f1 f2 t1 t2 hb
  simp (config := { maxSteps := 1000000, implicitDefEqProofs := false }) only [acall, acode, aops, awanted, aoper, AOp.isCall, j0, j1, aprim, aev, tg_zn, tg_ln, tg_rn, ts_ze, ts_zn, ts_ln, ts_rn, tputs, aput, reduceCtorEq, j4, j5, abin, kindEq, binInt, j6, j9, j10, AV.cells?, j12, Mem.apply, Mem.applyAll, acallee, aevs, j14, aun, peq, peq1, j17, j18, Nat.ble, Nat.reduceDiv, Nat.reduceMod, Nat.reduceMul, Nat.reduceAdd, Nat.reduceLeDiff, j19, ares, aresL, ares1, j20, j22, j23, j24, bin_a, bin_c, bputl, blen, bnth, Mem.killAll, j27, j31, rowGet, rowGet0, chunk, j34, j35, j37, j51, j54, j55, j56, j57, j59, j60, j62, j63, j65, refsL, refsLL, AV.refs, j66, j67, j68, Int.reduceLT, Nat.reduceLT, j72, j85, fillE, j88, j89, j90, hs, hF, AF56, ct, g, c1, c2, c3, c4, c5, c6, c7, fillE, kindEq]
  exact ⟨_, rfl, keep_bx (by repeat first | exact LogOK.nil | apply LogOK.cons)⟩

theorem ceil1 {at_ r z : Int} (h0 : 0 ≤ at_) (h1 : 1 ≤ r) (h2 : 1 ≤ z) (h3 : z ≤ r) : (r * at_ + z + r - 1).tdiv r = at_ + 1 := by
  have hr : 0 ≤ r * at_ := Int.mul_nonneg (by omega) h0
  rw [Int.tdiv_eq_ediv_of_nonneg (by omega), show r * at_ + z + r - 1 = (z - 1) + (at_ + 1) * r by rw [Int.add_mul, Int.one_mul, Int.mul_comm r at_]; omega, Int.add_mul_ediv_right _ _ (by omega), Int.ediv_eq_zero_of_lt (by omega) (by omega)]
  omega
theorem mulb {r e : Int} (r1 : 0 ≤ r) (r2 : r ≤ 999) (e1 : 0 ≤ e) (e2 : e ≤ 399) : 0 ≤ r * e ∧ r * e ≤ 398601 :=
  ⟨Int.mul_nonneg r1 e1, Int.le_trans (Int.mul_le_mul r2 e2 e1 (by omega)) (by omega)⟩

def H92 (sm : Summ) : Prop := ∀ (f t e r dl : Int) (m : Mem), 300 ≤ e → e ≤ 399 → 300 ≤ r → r ≤ 999 → sm 92 [.agg (ct f t 0 e r dl)] m = some (.int .i64 (r * e), m)
theorem e92 (hF : F 92 = some AF92) (hs : ∀ vs m, sm 92 vs m = none) (n : Nat) (h : Blks) (lg d : List Nat) {f t e r dl : Int} (e1 : 300 ≤ e) (e2 : e ≤ 399) (r1 : 300 ≤ r) (r2 : r ≤ 999) :
    Ev F meth sm (n + 1) 92 [.agg (ct f t 0 e r dl)] ⟨h, lg, d⟩ (.int .i64 (r * e)) := by
  refine Ev.of ?_
  have w0 : e - 0 = e := by omega
  have w1 : IntKind.i64.wrap e = e := wrapI (by omega) (by omega)
  obtain ⟨m1, m2⟩ := mulb (r := r) (e := e) (by omega) r2 (by omega) e2
  have w2 : IntKind.i64.wrap (r * e) = r * e := wrapI (by omega) (by omega)
  simp (config := { maxSteps := 1000000, implicitDefEqProofs := false }) only [acall, acode, aops, awanted, aoper, AOp.isCall, j0, j1, aprim, aev, tg_zn, tg_ln, tg_rn, ts_ze, ts_zn, ts_ln, ts_rn, tputs, aput, reduceCtorEq, j4, j5, abin, kindEq, binInt, j6, j9, j10, AV.cells?, j12, Mem.apply, Mem.applyAll, acallee, j14, j17, j18, Nat.ble, Nat.reduceDiv, Nat.reduceMod, Nat.reduceMul, Nat.reduceAdd, Nat.reduceLeDiff, j19, ares, aresL, ares1, j22, j23, j24, bin_a, bputl, blen, bnth, Mem.killAll, rowGet, rowGet0, chunk, j34, j35, j37, j51, j54, j55, j56, j57, j59, j60, j65, refsL, AV.refs, j68, hs, hF, AF92, ct, w0, w1, w2]
  exact ⟨_, rfl, keep_bx (by repeat first | exact LogOK.nil | apply LogOK.cons)⟩

def H94 (sm : Summ) : Prop := ∀ (f t e r dl a : Int) (m : Mem), 300 ≤ e → e ≤ 399 → 300 ≤ r → r ≤ 999 → 0 ≤ a → a ≤ 100 → sm 94 [.agg (ct f t 0 e r dl), .int .i64 0, .int .i64 a] m = some (.int .i64 (r * a), m)
theorem e94 (hF : F 94 = some AF94) (h97 : F 97 = some AF97) (hs : ∀ vs m, sm 94 vs m = none) (hs2 : ∀ vs m, sm 97 vs m = none) (n : Nat) (h : Blks) (lg d : List Nat) {f t e r dl a : Int} (e1 : 300 ≤ e) (e2 : e ≤ 399) (r1 : 300 ≤ r) (r2 : r ≤ 999) (a1 : 0 ≤ a) (a2 : a ≤ 100) :
    Ev F meth sm (n + 3) 94 [.agg (ct f t 0 e r dl), .int .i64 0, .int .i64 a] ⟨h, lg, d⟩ (.int .i64 (r * a)) := by
  refine Ev.of ?_
  obtain ⟨m1, m2⟩ := mulb (r := r) (e := a) (by omega) r2 (by omega) (by omega)
  have w2 : IntKind.i64.wrap (r * a) = r * a := wrapI (by omega) (by omega)
  rcases Int.lt_or_le 0 a with ha | ha
  · have c1 : ¬ a ≤ 0 := by omega
    have c2 : ¬ e < a := by omega
    have w0 : a - 0 = a := by omega
    have w1 : IntKind.i64.wrap a = a := wrapI (by omega) (by omega)
    have c3 : 0 < r * a := Int.mul_pos (by omega) ha
    simp (config := { maxSteps := 1000000, implicitDefEqProofs := false }) only [acall, acode, aops, awanted, aoper, AOp.isCall, j0, j1, aprim, aev, tg_zn, tg_ln, tg_rn, ts_ze, ts_zn, ts_le, ts_ln, ts_rn, tputs, aput, reduceCtorEq, j4, j5, abin, kindEq, binInt, j6, j9, j10, AV.cells?, j12, Mem.apply, Mem.applyAll, acallee, aevs, j14, j17, j18, Nat.ble, Nat.reduceDiv, Nat.reduceMod, Nat.reduceMul, Nat.reduceAdd, Nat.reduceLeDiff, j19, ares, aresL, ares1, Pth.succ, j22, j23, j24, bin_a, bin_c, bputl, blen, bnth, Mem.killAll, j27, rowGet, rowGet0, chunk, j34, j35, j37, j51, j54, j55, j56, j57, j59, j60, j64, j65, aminmax, refsL, AV.refs, j66, j67, j68, j72, hs, hs2, hF, h97, AF94, AF97, ct, c1, c2, c3, w0, w1, w2]
    exact ⟨_, rfl, keep_bx (by repeat first | exact LogOK.nil | apply LogOK.cons)⟩
  · have : a = 0 := by omega
    subst this
    simp (config := { maxSteps := 1000000, implicitDefEqProofs := false }) only [acall, acode, aops, awanted, aoper, AOp.isCall, j0, j1, aprim, aev, tg_zn, tg_ln, tg_rn, ts_ze, ts_zn, ts_le, ts_ln, ts_rn, tputs, aput, reduceCtorEq, j4, j5, abin, kindEq, binInt, j6, j9, j10, AV.cells?, j12, Mem.apply, Mem.applyAll, acallee, aevs, j14, j17, j18, Nat.ble, Nat.reduceDiv, Nat.reduceMod, Nat.reduceMul, Nat.reduceAdd, Nat.reduceLeDiff, j19, ares, aresL, ares1, Pth.succ, j22, j23, j24, bin_a, bin_c, bputl, blen, bnth, Mem.killAll, j26, rowGet, rowGet0, chunk, j34, j35, j37, j51, j54, j55, j56, j57, j59, j60, j64, j65, aminmax, refsL, AV.refs, j66, j67, j68, Int.reduceLT, j72, j74, hs, hs2, hF, h97, AF94, AF97, ct, Int.mul_zero]
    exact ⟨_, rfl, keep_bx (by repeat first | exact LogOK.nil | apply LogOK.cons)⟩

def H95 (sm : Summ) : Prop := ∀ (f t e r dl a z : Int) (m : Mem), 300 ≤ r → r ≤ 999 → 0 ≤ a → a ≤ 100 → 1 ≤ z → z ≤ 100 → sm 95 [.agg (ct f t 0 e r dl), .int .i64 (r * a + z)] m = some (.int .i64 (a + 1), m)
theorem e95 (hF : F 95 = some AF95) (hs : ∀ vs m, sm 95 vs m = none) (n : Nat) (h : Blks) (lg d : List Nat) {f t e r dl a z : Int} (r1 : 300 ≤ r) (r2 : r ≤ 999) (a1 : 0 ≤ a) (a2 : a ≤ 100) (z1 : 1 ≤ z) (z2 : z ≤ 100) :
    Ev F meth sm (n + 1) 95 [.agg (ct f t 0 e r dl), .int .i64 (r * a + z)] ⟨h, lg, d⟩ (.int .i64 (a + 1)) := by
  refine Ev.of ?_
  obtain ⟨m1, m2⟩ := mulb (r := r) (e := a) (by omega) r2 (by omega) (by omega)
  have c0 : ¬ r = 0 := by omega
  have w1 : IntKind.i64.wrap (r * a + z + r) = r * a + z + r := wrapI (by omega) (by omega)
  have w2 : IntKind.i64.wrap (r * a + z + r - 1) = r * a + z + r - 1 := wrapI (by omega) (by omega)
  have w3 := ceil1 (at_ := a) (r := r) (z := z) a1 (by omega) z1 (by omega)
  have w4 : IntKind.i64.wrap (a + 1) = a + 1 := wrapI (by omega) (by omega)
  have w5 : 0 + (a + 1) = a + 1 := by omega
  simp (config := { maxSteps := 1000000, implicitDefEqProofs := false }) only [acall, acode, aops, awanted, aoper, AOp.isCall, j0, j1, aprim, aev, tg_zn, tg_ln, tg_rn, ts_ze, ts_zn, ts_le, ts_ln, ts_rn, tputs, aput, reduceCtorEq, j4, j5, abin, kindEq, binInt, j6, j9, j10, AV.cells?, j12, Mem.apply, Mem.applyAll, acallee, j14, j17, j18, Nat.ble, Nat.reduceDiv, Nat.reduceMod, Nat.reduceMul, Nat.reduceAdd, Nat.reduceLeDiff, j19, ares, aresL, ares1, j20, j21, Nat.beq, Pth.succ, j22, j23, j24, bin_a, bputl, blen, bnth, Mem.killAll, rowGet, rowGet0, chunk, j34, j35, j37, j51, j52, j54, j55, j56, j57, j59, j60, j65, refsL, AV.refs, j66, j67, j68, j79, AOp.isMaker, adraw, Mem.more, j92, j93, j94, j95, AOp.reads, AOpnd.top, AV.top, ins, nidOf, slotIn, j98, clash, j100, j103, j67, j66, bmore, j79, hs, hF, AF95, ct, c0, w1, w2, w3, w4, w5]
  exact ⟨_, rfl, keep_bx (by repeat first | exact LogOK.nil | apply LogOK.cons)⟩

def H90 (sm : Summ) : Prop := ∀ (f t e r dl a z : Int) (m : Mem), 1 ≤ f → f ≤ 3 → 1 ≤ t → t ≤ 3 → f ≠ t → 300 ≤ e → e ≤ 399 → 300 ≤ r → r ≤ 999 → 0 ≤ dl → dl ≤ 2 → 0 ≤ a → a ≤ 100 → 1 ≤ z → z ≤ 100 → sm 90 [.agg (ct f t 0 e r dl), .int .i64 0, .int .i64 a, .int .i64 z] m = some (.tuple [.int .i64 (a + 1), .int .i64 (r * a + z), .int .i64 0], m)
theorem e90 (hF : F 90 = some AF90) (h91 : F 91 = some AF91) (h93 : F 93 = some AF93) (h96 : F 96 = some AF96)
    (h56 : H56 sm) (h92 : H92 sm) (h94 : H94 sm) (h95 : H95 sm) (hs : ∀ f vs m, f = 90 ∨ f = 91 ∨ f = 93 ∨ f = 96 → sm f vs m = none) (n : Nat) (h : Blks) (lg d : List Nat) {f t e r dl a z : Int} (f1 : 1 ≤ f) (f2 : f ≤ 3) (t1 : 1 ≤ t) (t2 : t ≤ 3) (ft : f ≠ t) (e1 : 300 ≤ e) (e2 : e ≤ 399) (r1 : 300 ≤ r) (r2 : r ≤ 999) (d1 : 0 ≤ dl) (d2 : dl ≤ 2)
    (a1 : 0 ≤ a) (a2 : a ≤ 100) (z1 : 1 ≤ z) (z2 : z ≤ 100) :
    Ev F meth sm (n + 4) 90 [.agg (ct f t 0 e r dl), .int .i64 0, .int .i64 a, .int .i64 z] ⟨h, lg, d⟩ (.tuple [.int .i64 (a + 1), .int .i64 (r * a + z), .int .i64 0]) := by
  refine Ev.of ?_
  have g56 := fun m => h56 f t e r dl m f1 f2 t1 t2 ft e1 e2 r1 r2 d1 d2
  have g92 := fun m => h92 f t e r dl m e1 e2 r1 r2
  have g94 := fun m => h94 f t e r dl a m e1 e2 r1 r2 a1 a2
  have g95 := fun m => h95 f t e r dl a z m r1 r2 a1 a2 z1 z2
  obtain ⟨m1, m2⟩ := mulb (r := r) (e := e) (by omega) r2 (by omega) (by omega)
  have m3 : r * a + z ≤ r * e := by
    have : r * (a + 1) ≤ r * e := Int.mul_le_mul_of_nonneg_left (by omega) (by omega)
    rw [Int.mul_add, Int.mul_one] at this
    omega
  have m4 : 0 ≤ r * a := Int.mul_nonneg (by omega) a1
  have c2 : a ≤ 1099511627776 := by omega
  have c3 : z ≤ 1099511627776 := by omega
  have c4 : ¬ r * e < 0 := by omega
  have c5 : ¬ r * e < r * a + z := by omega
  have w1 : IntKind.i64.wrap (r * a + z) = r * a + z := wrapI (by omega) (by omega)
  have s90 := fun vs m => hs 90 vs m (.inl rfl)
  have s91 := fun vs m => hs 91 vs m (.inr (.inl rfl))
  have s93 := fun vs m => hs 93 vs m (.inr (.inr (.inl rfl)))
  have s96 := fun vs m => hs 96 vs m (.inr (.inr (.inr rfl)))
  unfold ct at g56 g92 g94 g95
  simp (config := { maxSteps := 1000000, implicitDefEqProofs := false }) only [acall, acode, aops, awanted, aoper, AOp.isCall, j0, j1, aprim, aev, tg_zn, tg_ln, tg_rn, ts_ze, ts_zn, ts_le, ts_ln, ts_rn, tputs, aput, j4, j5, abin, kindEq, binInt, j6, j9, AV.cells?, j12, Mem.apply, Mem.applyAll, acallee, aevs, j13, j14, aun, peq, peq1, j17, j18, Nat.ble, Nat.reduceDiv, Nat.reduceMod, Nat.reduceMul, Nat.reduceAdd, Nat.reduceLeDiff, j19, ares, aresL, ares1, j20, Pth.succ, j22, j23, j24, bin_a, bin_b, bin_c, bputl, blen, bnth, Mem.killAll, j26, j27, j31, rowGet, rowGet0, rowSet, rowSet0, chunk, j34, j35, j37, j51, j54, j55, j56, j57, j58, j59, j60, j62, j64, j65, refsL, AV.refs, j68, Int.reduceLT, j72, j73, s90, s91, s93, s96, hF, h91, h93, h96, AF90, AF91, AF93, AF96, ct, g56, g92, g94, g95, c2, c3, c4, c5, a1, z1, w1]
  exact ⟨_, rfl, keep_bx (by repeat first | exact LogOK.nil | apply LogOK.cons)⟩

def H71 (sm : Summ) : Prop := ∀ (f t e r dl a z : Int) (m : Mem), 1 ≤ f → f ≤ 3 → 1 ≤ t → t ≤ 3 → f ≠ t → 300 ≤ e → e ≤ 399 → 300 ≤ r → r ≤ 999 → 0 ≤ dl → dl ≤ 2 → 0 ≤ a → a ≤ 100 → 1 ≤ z → z ≤ 100 → sm 71 [.agg (ct f t 0 e r dl), .int .i64 a, .int .i64 z] m = some (.tuple [.int .i64 (a + 1 + dl), .bool true], m)
theorem e71 (hF : F 71 = some AF71) (h86 : F 86 = some AF86) (h90 : H90 sm) (hs : ∀ vs m, sm 71 vs m = none) (hs2 : ∀ vs m, sm 86 vs m = none) (n : Nat) (h : Blks) (lg d : List Nat) {f t e r dl a z : Int} (f1 : 1 ≤ f) (f2 : f ≤ 3) (t1 : 1 ≤ t) (t2 : t ≤ 3) (ft : f ≠ t) (e1 : 300 ≤ e) (e2 : e ≤ 399) (r1 : 300 ≤ r) (r2 : r ≤ 999) (d1 : 0 ≤ dl) (d2 : dl ≤ 2)
    (a1 : 0 ≤ a) (a2 : a ≤ 100) (z1 : 1 ≤ z) (z2 : z ≤ 100) :
    Ev F meth sm (n + 4) 71 [.agg (ct f t 0 e r dl), .int .i64 a, .int .i64 z] ⟨h, lg, d⟩ (.tuple [.int .i64 (a + 1 + dl), .bool true]) := by
  refine Ev.of ?_
  have g := fun m => h90 f t e r dl a z m f1 f2 t1 t2 ft e1 e2 r1 r2 d1 d2 a1 a2 z1 z2
  have c1 : ¬ 1099511627776 < a := by omega
  have w1 : IntKind.i64.wrap (a + 1 + dl) = a + 1 + dl := wrapI (by omega) (by omega)
  unfold ct at g
  simp (config := { maxSteps := 1000000, implicitDefEqProofs := false }) only [acall, acode, aops, awanted, aoper, AOp.isCall, j0, j1, aprim, aev, tg_zn, tg_ln, tg_rn, ts_ze, ts_zn, ts_le, ts_ln, ts_re, ts_rn, tputs, aput, reduceCtorEq, j4, j5, abin, kindEq, binInt, j6, j9, j10, AV.cells?, j12, Mem.apply, Mem.applyAll, acallee, aevs, j14, peq, peq1, j17, j18, Nat.ble, Nat.reduceDiv, Nat.reduceMod, Nat.reduceMul, Nat.reduceAdd, Nat.reduceLeDiff, j19, ares, aresL, ares1, Pth.succ, j22, j23, j24, bin_a, bin_c, bputl, blen, bnth, Mem.killAll, j27, j31, rowGet, rowGet0, chunk, j34, j35, j37, j51, j54, j55, j56, j57, j59, j60, j61, j64, j65, refsL, AV.refs, j68, j72, hs, hs2, hF, h86, AF71, AF86, ct, g, c1, w1]
  exact ⟨_, rfl, keep_bx (by repeat first | exact LogOK.nil | apply LogOK.cons)⟩
end
section
variable {F : FuncId → Option AFunc} {meth : Meth} {sm : Summ}
/-- The functions that the search for routes uses, and the methods of its queue. -/
structure Heap (F : FuncId → Option AFunc) (meth : Meth) (sm : Summ) : Prop where
  f52 : F 52 = some AF52
  f69 : F 69 = some AF69
  f70 : F 70 = some AF70
  f72 : F 72 = some AF72
  f85 : F 85 = some AF85
  f87 : F 87 = some AF87
  f115 : F 115 = some AF115
  f116 : F 116 = some AF116
  f117 : F 117 = some AF117
  f118 : F 118 = some AF118
  mL : meth 126 "Len" = some (69, some (false, 1))
  mE : meth 126 "Less" = some (115, some (false, 1))
  mS : meth 126 "Swap" = some (118, some (false, 1))
  mO : meth 126 "Pop" = some (116, none)
  mU : meth 126 "Push" = some (117, none)
  s52 : ∀ vs m, sm 52 vs m = none
  s69 : ∀ vs m, sm 69 vs m = none
  s70 : ∀ vs m, sm 70 vs m = none
  s72 : ∀ vs m, sm 72 vs m = none
  s85 : ∀ vs m, sm 85 vs m = none
  s87 : ∀ vs m, sm 87 vs m = none
  s115 : ∀ vs m, sm 115 vs m = none
  s116 : ∀ vs m, sm 116 vs m = none
  s117 : ∀ vs m, sm 117 vs m = none
  s118 : ∀ vs m, sm 118 vs m = none

/-- The arrivals at the first nodes; none at the others. -/
def arr (a b c : Int) : AV := .agg [.int .i64 (-1), .int .i64 a, .int .i64 b, .int .i64 c, .int .i64 (-1), .int .i64 (-1), .int .i64 (-1), .int .i64 (-1), .int .i64 (-1), .int .i64 (-1), .int .i64 (-1), .int .i64 (-1), .int .i64 (-1), .int .i64 (-1), .int .i64 (-1), .int .i64 (-1), .int .i64 (-1)]

set_option maxHeartbeats 16000000 in
theorem e52_21 (H : Heap F meth sm) (h71 : H71 sm) (n : Nat) (h : Blks) (lg d : List Nat) {b : Nat} {c : Option Nat} {own : Bool} {x0 r0 d0 x1 r1 d1 z : Int} (hb : bget h b = some (.row own 6 [ct 1 2 0 x0 r0 d0, ct 2 1 0 x1 r1 d1])) (z1 : 1 ≤ z) (z2 : z ≤ 100) (p0a : 300 ≤ x0) (p0b : x0 ≤ 399) (p0c : 300 ≤ r0) (p0d : r0 ≤ 999) (p0e : 0 ≤ d0) (p0f : d0 ≤ 2) (p1a : 300 ≤ x1) (p1b : x1 ≤ 399) (p1c : 300 ≤ r1) (p1d : r1 ≤ 999) (p1e : 0 ≤ d1) (p1f : d1 ≤ 2)  :
    Ev F meth sm (n + 22) 52 [.slice b 0 2 c, .int .i64 1, .int .i64 0, .int .i64 z] ⟨h, lg, d⟩ (arr 0 (1 + d0) (-1)) := by
  refine Ev.of ?_
  have hlt := bget_lt hb
  have g0 := fun m => h71 1 2 x0 r0 d0 (0) z m (by omega) (by omega) (by omega) (by omega) (by omega) p0a p0b p0c p0d p0e p0f (by omega) (by omega) z1 z2
  have g1 := fun m => h71 2 1 x1 r1 d1 (1 + d0) z m (by omega) (by omega) (by omega) (by omega) (by omega) p1a p1b p1c p1d p1e p1f (by omega) (by omega) z1 z2
  have c0 : ¬ 1 + d0 + 1 + d1 < 0 := by omega
  have c1 : ¬ 1 + d0 < 1 + d0 := by omega
  have c2 : ((0 : Int) == -1) = false := by rfl
  unfold ct at g0 g1 hb
  simp only [Int.reduceAdd] at g0 g1
  simp (config := { maxSteps := 1000000, implicitDefEqProofs := false }) only [acall, acode, aops, awanted, aoper, AOp.isCall, j0, j1, aprim, aev, tg_zn, tg_ln, tg_rn, ts_ze, ts_zn, ts_le, ts_ln, ts_re, ts_rn, tputs, aput, reduceCtorEq, j4, j5, abin, kindEq, binInt, j6, j9, j10, AV.cells?, j12, Mem.apply, Mem.applyAll, acallee, aevs, j13, j14, j16, peq, peq1, j17, j18, Nat.ble, Nat.reduceDiv, Nat.reduceMod, Nat.reduceMul, Nat.reduceAdd, Nat.reduceSub, Nat.reduceLeDiff, j19, ares, aresL, ares1, j20, j21, Nat.beq, Pth.succ, j22, j23, j24, bin_a, bin_b, bin_c, bputl, blen, bnth, Mem.killAll, j26, j27, j29, j31, j32, rowGet, rowGet0, rowSet, rowSet0, chunk, j34, j35, j37, j43, j51, j52, j54, j55, j56, j57, j58, j59, j60, j61, j62, j63, j64, j65, refsL, refsLL, AV.refs, j66, j67, ne_eq, j68, j71, Int.reduceLT, Int.reduceLE, Int.reduceToNat, Int.reduceAdd, Int.reduceSub, Int.reduceMul, Int.reduceBEq, Int.reduceNeg, Int.reduceEq, Int.reduceTDiv, Nat.reduceLT, Nat.reduceEqDiff, wrapI, j72, j73, j74, j75, j76, j78, j79, aslice, bound?, aappend, elemsOf, winGet, roomMost, j80, j85, fillC, fillE, j88, AOp.isMaker, j89, j90, adraw, Mem.more, j92, j93, j94, j95, mask, unmask, AOp.reads, AOpnd.top, AV.top, ins, j96, j97, nidOf, slotIn, j98, clash, j100, j101, j102, j103, j104, j105, j106, j107, j67, j66, bmore, j78, j79, H.f52, H.f69, H.f70, H.f72, H.f85, H.f87, H.f116, H.f117, H.f118, AF52, AF69, AF70, AF72, AF85, AF87, AF116, AF117, AF118, H.mL, H.mS, H.mO, H.mU, H.s52, H.s69, H.s70, H.s72, H.s85, H.s87, H.s116, H.s117, H.s118, arr, g0, g1, c0, c1, c2, hb, hlt, nb_old, aloop]
  exact ⟨_, rfl, keep_bx (by repeat first | exact LogOK.nil | apply LogOK.cons)⟩
set_option maxHeartbeats 16000000 in
theorem e52_22 (H : Heap F meth sm) (h71 : H71 sm) (n : Nat) (h : Blks) (lg d : List Nat) {b : Nat} {c : Option Nat} {own : Bool} {x0 r0 d0 x1 r1 d1 z : Int} (hb : bget h b = some (.row own 6 [ct 1 2 0 x0 r0 d0, ct 2 1 0 x1 r1 d1])) (z1 : 1 ≤ z) (z2 : z ≤ 100) (p0a : 300 ≤ x0) (p0b : x0 ≤ 399) (p0c : 300 ≤ r0) (p0d : r0 ≤ 999) (p0e : 0 ≤ d0) (p0f : d0 ≤ 2) (p1a : 300 ≤ x1) (p1b : x1 ≤ 399) (p1c : 300 ≤ r1) (p1d : r1 ≤ 999) (p1e : 0 ≤ d1) (p1f : d1 ≤ 2)  :
    Ev F meth sm (n + 22) 52 [.slice b 0 2 c, .int .i64 2, .int .i64 0, .int .i64 z] ⟨h, lg, d⟩ (arr (1 + d1) 0 (-1)) := by
  refine Ev.of ?_
  have hlt := bget_lt hb
  have g0 := fun m => h71 2 1 x1 r1 d1 (0) z m (by omega) (by omega) (by omega) (by omega) (by omega) p1a p1b p1c p1d p1e p1f (by omega) (by omega) z1 z2
  have g1 := fun m => h71 1 2 x0 r0 d0 (1 + d1) z m (by omega) (by omega) (by omega) (by omega) (by omega) p0a p0b p0c p0d p0e p0f (by omega) (by omega) z1 z2
  have c0 : ¬ 1 + d1 + 1 + d0 < 0 := by omega
  have c1 : ¬ 1 + d1 < 1 + d1 := by omega
  have c2 : ((0 : Int) == -1) = false := by rfl
  unfold ct at g0 g1 hb
  simp only [Int.reduceAdd] at g0 g1
  simp (config := { maxSteps := 1000000, implicitDefEqProofs := false }) only [acall, acode, aops, awanted, aoper, AOp.isCall, j0, j1, aprim, aev, tg_zn, tg_ln, tg_rn, ts_ze, ts_zn, ts_le, ts_ln, ts_re, ts_rn, tputs, aput, reduceCtorEq, j4, j5, abin, kindEq, binInt, j6, j9, j10, AV.cells?, j12, Mem.apply, Mem.applyAll, acallee, aevs, j13, j14, j16, peq, peq1, j17, j18, Nat.ble, Nat.reduceDiv, Nat.reduceMod, Nat.reduceMul, Nat.reduceAdd, Nat.reduceSub, Nat.reduceLeDiff, j19, ares, aresL, ares1, j20, j21, Nat.beq, Pth.succ, j22, j23, j24, bin_a, bin_b, bin_c, bputl, blen, bnth, Mem.killAll, j26, j27, j29, j31, j32, rowGet, rowGet0, rowSet, rowSet0, chunk, j34, j35, j37, j43, j51, j52, j54, j55, j56, j57, j58, j59, j60, j61, j62, j63, j64, j65, refsL, refsLL, AV.refs, j66, j67, ne_eq, j68, j71, Int.reduceLT, Int.reduceLE, Int.reduceToNat, Int.reduceAdd, Int.reduceSub, Int.reduceMul, Int.reduceBEq, Int.reduceNeg, Int.reduceEq, Int.reduceTDiv, Nat.reduceLT, Nat.reduceEqDiff, wrapI, j72, j73, j74, j75, j76, j78, j79, aslice, bound?, aappend, elemsOf, winGet, roomMost, j80, j85, fillC, fillE, j88, AOp.isMaker, j89, j90, adraw, Mem.more, j92, j93, j94, j95, mask, unmask, AOp.reads, AOpnd.top, AV.top, ins, j96, j97, nidOf, slotIn, j98, clash, j100, j101, j102, j103, j104, j105, j106, j107, j67, j66, bmore, j78, j79, H.f52, H.f69, H.f70, H.f72, H.f85, H.f87, H.f116, H.f117, H.f118, AF52, AF69, AF70, AF72, AF85, AF87, AF116, AF117, AF118, H.mL, H.mS, H.mO, H.mU, H.s52, H.s69, H.s70, H.s72, H.s85, H.s87, H.s116, H.s117, H.s118, arr, g0, g1, c0, c1, c2, hb, hlt, nb_old, aloop]
  exact ⟨_, rfl, keep_bx (by repeat first | exact LogOK.nil | apply LogOK.cons)⟩
end
section
variable {F : FuncId → Option AFunc} {meth : Meth} {sm : Summ}
set_option maxHeartbeats 16000000 in
theorem e52_31 (H : Heap F meth sm) (h71 : H71 sm) (n : Nat) (h : Blks) (lg d : List Nat) {b : Nat} {c : Option Nat} {own : Bool} {x0 r0 d0 x1 r1 d1 x2 r2 d2 x3 r3 d3 z : Int} (hb : bget h b = some (.row own 6 [ct 1 2 0 x0 r0 d0, ct 2 1 0 x1 r1 d1, ct 2 3 0 x2 r2 d2, ct 3 2 0 x3 r3 d3])) (z1 : 1 ≤ z) (z2 : z ≤ 100) (p0a : 300 ≤ x0) (p0b : x0 ≤ 399) (p0c : 300 ≤ r0) (p0d : r0 ≤ 999) (p0e : 0 ≤ d0) (p0f : d0 ≤ 2) (p1a : 300 ≤ x1) (p1b : x1 ≤ 399) (p1c : 300 ≤ r1) (p1d : r1 ≤ 999) (p1e : 0 ≤ d1) (p1f : d1 ≤ 2) (p2a : 300 ≤ x2) (p2b : x2 ≤ 399) (p2c : 300 ≤ r2) (p2d : r2 ≤ 999) (p2e : 0 ≤ d2) (p2f : d2 ≤ 2) (p3a : 300 ≤ x3) (p3b : x3 ≤ 399) (p3c : 300 ≤ r3) (p3d : r3 ≤ 999) (p3e : 0 ≤ d3) (p3f : d3 ≤ 2)  :
    Ev F meth sm (n + 22) 52 [.slice b 0 4 c, .int .i64 1, .int .i64 0, .int .i64 z] ⟨h, lg, d⟩ (arr 0 (1 + d0) (1 + d0 + 1 + d2)) := by
  refine Ev.of ?_
  have hlt := bget_lt hb
  have g0 := fun m => h71 1 2 x0 r0 d0 (0) z m (by omega) (by omega) (by omega) (by omega) (by omega) p0a p0b p0c p0d p0e p0f (by omega) (by omega) z1 z2
  have g1 := fun m => h71 2 1 x1 r1 d1 (1 + d0) z m (by omega) (by omega) (by omega) (by omega) (by omega) p1a p1b p1c p1d p1e p1f (by omega) (by omega) z1 z2
  have g2 := fun m => h71 2 3 x2 r2 d2 (1 + d0) z m (by omega) (by omega) (by omega) (by omega) (by omega) p2a p2b p2c p2d p2e p2f (by omega) (by omega) z1 z2
  have g3 := fun m => h71 3 2 x3 r3 d3 (1 + d0 + 1 + d2) z m (by omega) (by omega) (by omega) (by omega) (by omega) p3a p3b p3c p3d p3e p3f (by omega) (by omega) z1 z2
  have c0 : ¬ 1 + d0 + 1 + d1 < 0 := by omega
  have c1 : ¬ 1 + d0 < 1 + d0 := by omega
  have c2 : ((0 : Int) == -1) = false := by rfl
  have c3 : ¬ 1 + d0 + 1 + d2 < 1 + d0 + 1 + d2 := by omega
  have c4 : ¬ 1 + d0 + 1 + d2 + 1 + d3 < 1 + d0 := by omega
  have c5 : ((1 + d0 : Int) == -1) = false := by simp; omega
  unfold ct at g0 g1 g2 g3 hb
  simp only [Int.reduceAdd] at g0 g1 g2 g3
  simp (config := { maxSteps := 1000000, implicitDefEqProofs := false }) only [acall, acode, aops, awanted, aoper, AOp.isCall, j0, j1, aprim, aev, tg_zn, tg_ln, tg_rn, ts_ze, ts_zn, ts_le, ts_ln, ts_re, ts_rn, tputs, aput, reduceCtorEq, j4, j5, abin, kindEq, binInt, j6, j9, j10, AV.cells?, j12, Mem.apply, Mem.applyAll, acallee, aevs, j13, j14, j16, peq, peq1, j17, j18, Nat.ble, Nat.reduceDiv, Nat.reduceMod, Nat.reduceMul, Nat.reduceAdd, Nat.reduceSub, Nat.reduceLeDiff, j19, ares, aresL, ares1, j20, j21, Nat.beq, Pth.succ, j22, j23, j24, bin_a, bin_b, bin_c, bputl, blen, bnth, Mem.killAll, j26, j27, j29, j31, j32, rowGet, rowGet0, rowSet, rowSet0, chunk, j34, j35, j37, j43, j51, j52, j54, j55, j56, j57, j58, j59, j60, j61, j62, j63, j64, j65, refsL, refsLL, AV.refs, j66, j67, ne_eq, j68, j71, Int.reduceLT, Int.reduceLE, Int.reduceToNat, Int.reduceAdd, Int.reduceSub, Int.reduceMul, Int.reduceBEq, Int.reduceNeg, Int.reduceEq, Int.reduceTDiv, Nat.reduceLT, Nat.reduceEqDiff, wrapI, j72, j73, j74, j75, j76, j78, j79, aslice, bound?, aappend, elemsOf, winGet, roomMost, j80, j85, fillC, fillE, j88, AOp.isMaker, j89, j90, adraw, Mem.more, j92, j93, j94, j95, mask, unmask, AOp.reads, AOpnd.top, AV.top, ins, j96, j97, nidOf, slotIn, j98, clash, j100, j101, j102, j103, j104, j105, j106, j107, j67, j66, bmore, j78, j79, H.f52, H.f69, H.f70, H.f72, H.f85, H.f87, H.f116, H.f117, H.f118, AF52, AF69, AF70, AF72, AF85, AF87, AF116, AF117, AF118, H.mL, H.mS, H.mO, H.mU, H.s52, H.s69, H.s70, H.s72, H.s85, H.s87, H.s116, H.s117, H.s118, arr, g0, g1, g2, g3, c0, c1, c2, c3, c4, c5, hb, hlt, nb_old, aloop]
  exact ⟨_, rfl, keep_bx (by repeat first | exact LogOK.nil | apply LogOK.cons)⟩
end
section
variable {F : FuncId → Option AFunc} {meth : Meth} {sm : Summ}
set_option maxHeartbeats 16000000 in
theorem e52_33 (H : Heap F meth sm) (h71 : H71 sm) (n : Nat) (h : Blks) (lg d : List Nat) {b : Nat} {c : Option Nat} {own : Bool} {x0 r0 d0 x1 r1 d1 x2 r2 d2 x3 r3 d3 z : Int} (hb : bget h b = some (.row own 6 [ct 1 2 0 x0 r0 d0, ct 2 1 0 x1 r1 d1, ct 2 3 0 x2 r2 d2, ct 3 2 0 x3 r3 d3])) (z1 : 1 ≤ z) (z2 : z ≤ 100) (p0a : 300 ≤ x0) (p0b : x0 ≤ 399) (p0c : 300 ≤ r0) (p0d : r0 ≤ 999) (p0e : 0 ≤ d0) (p0f : d0 ≤ 2) (p1a : 300 ≤ x1) (p1b : x1 ≤ 399) (p1c : 300 ≤ r1) (p1d : r1 ≤ 999) (p1e : 0 ≤ d1) (p1f : d1 ≤ 2) (p2a : 300 ≤ x2) (p2b : x2 ≤ 399) (p2c : 300 ≤ r2) (p2d : r2 ≤ 999) (p2e : 0 ≤ d2) (p2f : d2 ≤ 2) (p3a : 300 ≤ x3) (p3b : x3 ≤ 399) (p3c : 300 ≤ r3) (p3d : r3 ≤ 999) (p3e : 0 ≤ d3) (p3f : d3 ≤ 2)  :
    Ev F meth sm (n + 22) 52 [.slice b 0 4 c, .int .i64 3, .int .i64 0, .int .i64 z] ⟨h, lg, d⟩ (arr (1 + d3 + 1 + d1) (1 + d3) 0) := by
  refine Ev.of ?_
  have hlt := bget_lt hb
  have g0 := fun m => h71 3 2 x3 r3 d3 (0) z m (by omega) (by omega) (by omega) (by omega) (by omega) p3a p3b p3c p3d p3e p3f (by omega) (by omega) z1 z2
  have g1 := fun m => h71 2 1 x1 r1 d1 (1 + d3) z m (by omega) (by omega) (by omega) (by omega) (by omega) p1a p1b p1c p1d p1e p1f (by omega) (by omega) z1 z2
  have g2 := fun m => h71 2 3 x2 r2 d2 (1 + d3) z m (by omega) (by omega) (by omega) (by omega) (by omega) p2a p2b p2c p2d p2e p2f (by omega) (by omega) z1 z2
  have g3 := fun m => h71 1 2 x0 r0 d0 (1 + d3 + 1 + d1) z m (by omega) (by omega) (by omega) (by omega) (by omega) p0a p0b p0c p0d p0e p0f (by omega) (by omega) z1 z2
  have c0 : ¬ 1 + d3 + 1 + d2 < 0 := by omega
  have c1 : ¬ 1 + d3 < 1 + d3 := by omega
  have c2 : ((0 : Int) == -1) = false := by rfl
  have c3 : ¬ 1 + d3 + 1 + d1 < 1 + d3 + 1 + d1 := by omega
  have c4 : ¬ 1 + d3 + 1 + d1 + 1 + d0 < 1 + d3 := by omega
  have c5 : ((1 + d3 : Int) == -1) = false := by simp; omega
  unfold ct at g0 g1 g2 g3 hb
  simp only [Int.reduceAdd] at g0 g1 g2 g3
  simp (config := { maxSteps := 1000000, implicitDefEqProofs := false }) only [acall, acode, aops, awanted, aoper, AOp.isCall, j0, j1, aprim, aev, tg_zn, tg_ln, tg_rn, ts_ze, ts_zn, ts_le, ts_ln, ts_re, ts_rn, tputs, aput, reduceCtorEq, j4, j5, abin, kindEq, binInt, j6, j9, j10, AV.cells?, j12, Mem.apply, Mem.applyAll, acallee, aevs, j13, j14, j16, peq, peq1, j17, j18, Nat.ble, Nat.reduceDiv, Nat.reduceMod, Nat.reduceMul, Nat.reduceAdd, Nat.reduceSub, Nat.reduceLeDiff, j19, ares, aresL, ares1, j20, j21, Nat.beq, Pth.succ, j22, j23, j24, bin_a, bin_b, bin_c, bputl, blen, bnth, Mem.killAll, j26, j27, j29, j31, j32, rowGet, rowGet0, rowSet, rowSet0, chunk, j34, j35, j37, j43, j51, j52, j54, j55, j56, j57, j58, j59, j60, j61, j62, j63, j64, j65, refsL, refsLL, AV.refs, j66, j67, ne_eq, j68, j71, Int.reduceLT, Int.reduceLE, Int.reduceToNat, Int.reduceAdd, Int.reduceSub, Int.reduceMul, Int.reduceBEq, Int.reduceNeg, Int.reduceEq, Int.reduceTDiv, Nat.reduceLT, Nat.reduceEqDiff, wrapI, j72, j73, j74, j75, j76, j78, j79, aslice, bound?, aappend, elemsOf, winGet, roomMost, j80, j85, fillC, fillE, j88, AOp.isMaker, j89, j90, adraw, Mem.more, j92, j93, j94, j95, mask, unmask, AOp.reads, AOpnd.top, AV.top, ins, j96, j97, nidOf, slotIn, j98, clash, j100, j101, j102, j103, j104, j105, j106, j107, j67, j66, bmore, j78, j79, H.f52, H.f69, H.f70, H.f72, H.f85, H.f87, H.f116, H.f117, H.f118, AF52, AF69, AF70, AF72, AF85, AF87, AF116, AF117, AF118, H.mL, H.mS, H.mO, H.mU, H.s52, H.s69, H.s70, H.s72, H.s85, H.s87, H.s116, H.s117, H.s118, arr, g0, g1, g2, g3, c0, c1, c2, c3, c4, c5, hb, hlt, nb_old, aloop]
  exact ⟨_, rfl, keep_bx (by repeat first | exact LogOK.nil | apply LogOK.cons)⟩
end
section
variable {F : FuncId → Option AFunc} {meth : Meth} {sm : Summ}
set_option maxHeartbeats 16000000 in
theorem e52_32a (H : Heap F meth sm) (h71 : H71 sm) (n : Nat) (h : Blks) (lg d : List Nat) {b : Nat} {c : Option Nat} {own : Bool} {x0 r0 d0 x1 r1 d1 x2 r2 d2 x3 r3 d3 z : Int} (hb : bget h b = some (.row own 6 [ct 1 2 0 x0 r0 d0, ct 2 1 0 x1 r1 d1, ct 2 3 0 x2 r2 d2, ct 3 2 0 x3 r3 d3])) (z1 : 1 ≤ z) (z2 : z ≤ 100) (p0a : 300 ≤ x0) (p0b : x0 ≤ 399) (p0c : 300 ≤ r0) (p0d : r0 ≤ 999) (p0e : 0 ≤ d0) (p0f : d0 ≤ 2) (p1a : 300 ≤ x1) (p1b : x1 ≤ 399) (p1c : 300 ≤ r1) (p1d : r1 ≤ 999) (p1e : 0 ≤ d1) (p1f : d1 ≤ 2) (p2a : 300 ≤ x2) (p2b : x2 ≤ 399) (p2c : 300 ≤ r2) (p2d : r2 ≤ 999) (p2e : 0 ≤ d2) (p2f : d2 ≤ 2) (p3a : 300 ≤ x3) (p3b : x3 ≤ 399) (p3c : 300 ≤ r3) (p3d : r3 ≤ 999) (p3e : 0 ≤ d3) (p3f : d3 ≤ 2) (q : 1 + d2 < 1 + d1) :
    Ev F meth sm (n + 22) 52 [.slice b 0 4 c, .int .i64 2, .int .i64 0, .int .i64 z] ⟨h, lg, d⟩ (arr (1 + d1) 0 (1 + d2)) := by
  refine Ev.of ?_
  have hlt := bget_lt hb
  have g0 := fun m => h71 2 1 x1 r1 d1 (0) z m (by omega) (by omega) (by omega) (by omega) (by omega) p1a p1b p1c p1d p1e p1f (by omega) (by omega) z1 z2
  have g1 := fun m => h71 2 3 x2 r2 d2 (0) z m (by omega) (by omega) (by omega) (by omega) (by omega) p2a p2b p2c p2d p2e p2f (by omega) (by omega) z1 z2
  have g2 := fun m => h71 1 2 x0 r0 d0 (1 + d1) z m (by omega) (by omega) (by omega) (by omega) (by omega) p0a p0b p0c p0d p0e p0f (by omega) (by omega) z1 z2
  have g3 := fun m => h71 3 2 x3 r3 d3 (1 + d2) z m (by omega) (by omega) (by omega) (by omega) (by omega) p3a p3b p3c p3d p3e p3f (by omega) (by omega) z1 z2
  have c0 : ¬ 1 + d1 + 1 + d0 < 0 := by omega
  have c1 : ¬ 1 + d2 + 1 + d3 < 0 := by omega
  have c2 : ¬ 1 + d1 < 1 + d1 := by omega
  have c3 : ¬ 1 + d2 < 1 + d2 := by omega
  have c4 : ((0 : Int) == -1) = false := by rfl
  unfold ct at g0 g1 g2 g3 hb
  simp only [Int.reduceAdd] at g0 g1 g2 g3
  simp (config := { maxSteps := 1000000, implicitDefEqProofs := false }) only [acall, acode, aops, awanted, aoper, AOp.isCall, j0, j1, aprim, aev, tg_zn, tg_ln, tg_rn, ts_ze, ts_zn, ts_le, ts_ln, ts_re, ts_rn, tputs, aput, reduceCtorEq, j4, j5, abin, kindEq, binInt, j6, j9, j10, AV.cells?, j12, Mem.apply, Mem.applyAll, acallee, aevs, j13, j14, j16, aun, peq, peq1, j17, j18, Nat.ble, Nat.reduceDiv, Nat.reduceMod, Nat.reduceMul, Nat.reduceAdd, Nat.reduceSub, Nat.reduceLeDiff, j19, ares, aresL, ares1, j20, j21, Nat.beq, Pth.succ, j22, j23, j24, bin_a, bin_b, bin_c, bputl, blen, bnth, Mem.killAll, j26, j27, j29, j31, j32, rowGet, rowGet0, rowSet, rowSet0, chunk, j34, j35, j37, j43, j51, j52, j54, j55, j56, j57, j58, j59, j60, j61, j62, j63, j64, j65, refsL, refsLL, AV.refs, j66, j67, ne_eq, j68, j69, j71, Int.reduceLT, Int.reduceLE, Int.reduceToNat, Int.reduceAdd, Int.reduceSub, Int.reduceMul, Int.reduceBEq, Int.reduceNeg, Int.reduceEq, Int.reduceTDiv, Nat.reduceLT, Nat.reduceEqDiff, wrapI, j72, j73, j74, j75, j76, j77, j78, j79, aslice, bound?, aappend, elemsOf, winGet, roomMost, j80, j85, fillC, fillE, j88, AOp.isMaker, j89, j90, adraw, Mem.more, j92, j93, j94, j95, mask, unmask, AOp.reads, AOpnd.top, AV.top, ins, j96, j97, nidOf, slotIn, j98, clash, j100, j101, j102, j103, j104, j105, j106, j107, j67, j66, bmore, j78, j79, H.f52, H.f69, H.f70, H.f72, H.f85, H.f87, H.f115, H.f116, H.f117, H.f118, AF52, AF69, AF70, AF72, AF85, AF87, AF115, AF116, AF117, AF118, H.mL, H.mE, H.mS, H.mO, H.mU, H.s52, H.s69, H.s70, H.s72, H.s85, H.s87, H.s115, H.s116, H.s117, H.s118, arr, g0, g1, g2, g3, c0, c1, c2, c3, c4, q, hb, hlt, nb_old, aloop]
  exact ⟨_, rfl, keep_bx (by repeat first | exact LogOK.nil | apply LogOK.cons)⟩
set_option maxHeartbeats 16000000 in
theorem e52_32b (H : Heap F meth sm) (h71 : H71 sm) (n : Nat) (h : Blks) (lg d : List Nat) {b : Nat} {c : Option Nat} {own : Bool} {x0 r0 d0 x1 r1 d1 x2 r2 d2 x3 r3 d3 z : Int} (hb : bget h b = some (.row own 6 [ct 1 2 0 x0 r0 d0, ct 2 1 0 x1 r1 d1, ct 2 3 0 x2 r2 d2, ct 3 2 0 x3 r3 d3])) (z1 : 1 ≤ z) (z2 : z ≤ 100) (p0a : 300 ≤ x0) (p0b : x0 ≤ 399) (p0c : 300 ≤ r0) (p0d : r0 ≤ 999) (p0e : 0 ≤ d0) (p0f : d0 ≤ 2) (p1a : 300 ≤ x1) (p1b : x1 ≤ 399) (p1c : 300 ≤ r1) (p1d : r1 ≤ 999) (p1e : 0 ≤ d1) (p1f : d1 ≤ 2) (p2a : 300 ≤ x2) (p2b : x2 ≤ 399) (p2c : 300 ≤ r2) (p2d : r2 ≤ 999) (p2e : 0 ≤ d2) (p2f : d2 ≤ 2) (p3a : 300 ≤ x3) (p3b : x3 ≤ 399) (p3c : 300 ≤ r3) (p3d : r3 ≤ 999) (p3e : 0 ≤ d3) (p3f : d3 ≤ 2) (q : ¬ 1 + d2 < 1 + d1) :
    Ev F meth sm (n + 22) 52 [.slice b 0 4 c, .int .i64 2, .int .i64 0, .int .i64 z] ⟨h, lg, d⟩ (arr (1 + d1) 0 (1 + d2)) := by
  refine Ev.of ?_
  have hlt := bget_lt hb
  have g0 := fun m => h71 2 1 x1 r1 d1 (0) z m (by omega) (by omega) (by omega) (by omega) (by omega) p1a p1b p1c p1d p1e p1f (by omega) (by omega) z1 z2
  have g1 := fun m => h71 2 3 x2 r2 d2 (0) z m (by omega) (by omega) (by omega) (by omega) (by omega) p2a p2b p2c p2d p2e p2f (by omega) (by omega) z1 z2
  have g2 := fun m => h71 1 2 x0 r0 d0 (1 + d1) z m (by omega) (by omega) (by omega) (by omega) (by omega) p0a p0b p0c p0d p0e p0f (by omega) (by omega) z1 z2
  have g3 := fun m => h71 3 2 x3 r3 d3 (1 + d2) z m (by omega) (by omega) (by omega) (by omega) (by omega) p3a p3b p3c p3d p3e p3f (by omega) (by omega) z1 z2
  have c0 : ¬ 1 + d1 + 1 + d0 < 0 := by omega
  have c1 : ¬ 1 + d2 + 1 + d3 < 0 := by omega
  have c2 : ¬ 1 + d1 < 1 + d1 := by omega
  have c3 : ¬ 1 + d2 < 1 + d2 := by omega
  have c4 : ((0 : Int) == -1) = false := by rfl
  unfold ct at g0 g1 g2 g3 hb
  simp only [Int.reduceAdd] at g0 g1 g2 g3
  simp (config := { maxSteps := 1000000, implicitDefEqProofs := false }) only [acall, acode, aops, awanted, aoper, AOp.isCall, j0, j1, aprim, aev, tg_zn, tg_ln, tg_rn, ts_ze, ts_zn, ts_le, ts_ln, ts_re, ts_rn, tputs, aput, reduceCtorEq, j4, j5, abin, kindEq, binInt, j6, j9, j10, AV.cells?, j12, Mem.apply, Mem.applyAll, acallee, aevs, j13, j14, j16, aun, peq, peq1, j17, j18, Nat.ble, Nat.reduceDiv, Nat.reduceMod, Nat.reduceMul, Nat.reduceAdd, Nat.reduceSub, Nat.reduceLeDiff, j19, ares, aresL, ares1, j20, j21, Nat.beq, Pth.succ, j22, j23, j24, bin_a, bin_b, bin_c, bputl, blen, bnth, Mem.killAll, j26, j27, j29, j31, j32, rowGet, rowGet0, rowSet, rowSet0, chunk, j34, j35, j37, j43, j51, j52, j54, j55, j56, j57, j58, j59, j60, j61, j62, j63, j64, j65, refsL, refsLL, AV.refs, j66, j67, ne_eq, j68, j69, j71, Int.reduceLT, Int.reduceLE, Int.reduceToNat, Int.reduceAdd, Int.reduceSub, Int.reduceMul, Int.reduceBEq, Int.reduceNeg, Int.reduceEq, Int.reduceTDiv, Nat.reduceLT, Nat.reduceEqDiff, wrapI, j72, j73, j74, j75, j76, j77, j78, j79, aslice, bound?, aappend, elemsOf, winGet, roomMost, j80, j85, fillC, fillE, j88, AOp.isMaker, j89, j90, adraw, Mem.more, j92, j93, j94, j95, mask, unmask, AOp.reads, AOpnd.top, AV.top, ins, j96, j97, nidOf, slotIn, j98, clash, j100, j101, j102, j103, j104, j105, j106, j107, j67, j66, bmore, j78, j79, H.f52, H.f69, H.f70, H.f72, H.f85, H.f87, H.f115, H.f116, H.f117, H.f118, AF52, AF69, AF70, AF72, AF85, AF87, AF115, AF116, AF117, AF118, H.mL, H.mE, H.mS, H.mO, H.mU, H.s52, H.s69, H.s70, H.s72, H.s85, H.s87, H.s115, H.s116, H.s117, H.s118, arr, g0, g1, g2, g3, c0, c1, c2, c3, c4, q, hb, hlt, nb_old, aloop]
  exact ⟨_, rfl, keep_bx (by repeat first | exact LogOK.nil | apply LogOK.cons)⟩
end
end Go.Proofs.YtcphofamajcimaaDoor
end
