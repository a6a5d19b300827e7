/- Functions of the program on symbolic values: part Sb.
   Conditions: none; these are lemmas. -/
import Derived.Test.YtcphofamajcimaaDoorSa
import Derived.Test.YtcphofamajcimaaDoorSy
noncomputable section
namespace Go.Proofs.YtcphofamajcimaaDoor
open Go Go.Abs
set_option maxRecDepth 100000
set_option linter.unusedSimpArgs false
set_option linter.unusedVariables false
section
variable {F : FuncId → Option AFunc} {meth : Meth} {sm : Summ}

theorem wrapB {x : Int} (h0 : 0 ≤ x) (h1 : x ≤ 255) : IntKind.u8.wrap x = x := by
  simp only [IntKind.wrap, IntKind.bits, IntKind.signed]
  simp
  omega

def H64 (sm : Summ) : Prop := ∀ (x : Int) (m : Mem), 0 ≤ x → x < 128 → sm 64 [.int .u64 x] m = some (.int .i64 1, m)
set_option maxHeartbeats 4000000 in
theorem e64 (hF : F 64 = some AF64) (h83 : F 83 = some AF83) (h89 : F 89 = some AF89) (s64 : ∀ vs m, sm 64 vs m = none) (s83 : ∀ vs m, sm 83 vs m = none) (s89 : ∀ vs m, sm 89 vs m = none) (n : Nat) (h : Blks) (lg d : List Nat) {x : Int} (h1 : 0 ≤ x) (h2 : x < 128) :
    Ev F meth sm (n + 6) 64 [.int .u64 x] ⟨h, lg, d⟩ (.int .i64 1) := by
  refine Ev.of ?_
  have w1 : x.tmod 128 = x := Int.tmod_eq_of_lt h1 h2
  have w2 : IntKind.u8.wrap x = x := wrapB h1 (by omega)
  have c1 : ¬ 128 ≤ x := by omega
  simp (config := { maxSteps := 1000000, implicitDefEqProofs := false }) only [acall, acode, aops, awanted, aoper, AOp.isCall, j0, j1, aprim, aev, tg_zn, tg_ln, tg_rn, ts_ze, ts_zn, ts_le, ts_ln, ts_rn, tputs, aput, reduceCtorEq, j4, j5, abin, kindEq, binInt, j6, j9, AV.cells?, j12, Mem.apply, Mem.applyAll, acallee, aevs, j13, j14, j16, j17, j18, Nat.ble, Nat.reduceDiv, Nat.reduceMod, Nat.reduceMul, Nat.reduceAdd, Nat.reduceLeDiff, j19, ares, aresL, ares1, j20, j21, Nat.beq, Pth.succ, j22, j23, j24, bin_a, bin_b, bin_c, bputl, blen, bnth, Mem.killAll, j27, j29, j31, rowGet, rowGet0, rowSet, rowSet0, chunk, j34, j35, j37, j51, j52, j54, j55, j56, j57, j58, j59, j60, j62, j64, j65, refsL, AV.refs, j66, j67, ne_eq, j68, Int.reduceLE, Int.reduceAdd, Int.reduceNeg, Int.reduceEq, Nat.reduceEqDiff, wrapI, j73, j77, j79, AOp.isMaker, adraw, Mem.more, j92, j93, j94, j95, mask, unmask, AOp.reads, AOpnd.top, AV.top, ins, j96, nidOf, slotIn, j98, clash, j100, j103, j104, j105, j106, j67, j66, bmore, j79, hF, h83, h89, AF64, AF83, AF89, s64, s83, s89, w1, w2, c1, aloop, roundTmps]
  exact ⟨_, rfl, keep_bx (by repeat first | exact LogOK.nil | apply LogOK.cons)⟩

/-- The byte of a number. -/
def by1 (x : Int) : UInt8 := UInt8.ofNat x.toNat
def H82 (sm : Summ) : Prop := ∀ (x : Int) (m : Mem), 0 ≤ x → x < 128 → sm 82 [.int .u64 x] m = some (.str [by1 x], m)
set_option maxHeartbeats 4000000 in
theorem e82 (hF : F 82 = some AF82) (h83 : F 83 = some AF83) (h89 : F 89 = some AF89) (s82 : ∀ vs m, sm 82 vs m = none) (s83 : ∀ vs m, sm 83 vs m = none) (s89 : ∀ vs m, sm 89 vs m = none) (n : Nat) (h : Blks) (lg d : List Nat) {x : Int} (h1 : 0 ≤ x) (h2 : x < 128) :
    Ev F meth sm (n + 6) 82 [.int .u64 x] ⟨h, lg, d⟩ (.str [by1 x]) := by
  refine Ev.of ?_
  have w1 : x.tmod 128 = x := Int.tmod_eq_of_lt h1 h2
  have w2 : IntKind.u8.wrap x = x := wrapB h1 (by omega)
  have c1 : ¬ 128 ≤ x := by omega
  simp (config := { maxSteps := 1000000, implicitDefEqProofs := false }) only [acall, acode, aops, awanted, aoper, AOp.isCall, j0, j1, aprim, aev, tg_zn, tg_ln, tg_rn, ts_ze, ts_zn, ts_le, ts_ln, ts_re, ts_rn, tputs, aput, reduceCtorEq, j4, j5, abin, kindEq, binInt, j6, j9, AV.cells?, j12, Mem.apply, Mem.applyAll, acallee, aevs, j13, j14, j16, j17, j18, Nat.ble, Nat.reduceDiv, Nat.reduceMod, Nat.reduceMul, Nat.reduceAdd, Nat.reduceSub, Nat.reduceLeDiff, j19, ares, aresL, ares1, j20, j21, Nat.beq, Pth.succ, j22, j23, j24, bin_a, bin_b, bin_c, bputl, blen, bnth, Mem.killAll, j27, j29, j31, rowGet, rowGet0, rowSet, rowSet0, chunk, j34, j35, j37, j51, j52, j54, j55, j56, j57, j58, j59, j60, j61, j62, j63, j64, j65, refsL, AV.refs, j66, j67, ne_eq, j68, j69, Int.reduceLT, Int.reduceLE, Int.reduceToNat, Int.reduceSub, Int.reduceNeg, Int.reduceEq, Nat.reduceLT, Nat.reduceEqDiff, wrapI, j72, j73, j74, j75, j77, j78, j79, bound?, elemsOf, winGet, roomMost, j80, AOp.isMaker, adraw, Mem.more, j92, j93, j94, j95, mask, unmask, AOp.reads, AOpnd.top, AV.top, ins, j96, nidOf, slotIn, j98, clash, j100, j101, j103, j104, j105, j106, j107, j67, j66, bmore, j78, j79, hF, h83, h89, AF82, AF83, AF89, s82, s83, s89, w1, w2, c1, aloop, roundTmps, asliceA, bytesOf, by1]
  exact ⟨_, rfl, keep_bx (by repeat first | exact LogOK.nil | apply LogOK.cons)⟩

/-- The two bytes of a greater number. -/
def by2 (x : Int) : List UInt8 := [by1 (IntKind.u8.wrap (BitVec.ofInt 8 (x.tdiv 128) ||| 128#8).toNat), by1 (x.tmod 128)]
def H82b (sm : Summ) : Prop := ∀ (x : Int) (m : Mem), 128 ≤ x → x < 16384 → sm 82 [.int .u64 x] m = some (.str (by2 x), m)
set_option maxHeartbeats 4000000 in
theorem e82b (hF : F 82 = some AF82) (h83 : F 83 = some AF83) (h89 : F 89 = some AF89) (s82 : ∀ vs m, sm 82 vs m = none) (s83 : ∀ vs m, sm 83 vs m = none) (s89 : ∀ vs m, sm 89 vs m = none) (n : Nat) (h : Blks) (lg d : List Nat) {x : Int} (h1 : 128 ≤ x) (h2 : x < 16384) :
    Ev F meth sm (n + 6) 82 [.int .u64 x] ⟨h, lg, d⟩ (.str (by2 x)) := by
  refine Ev.of ?_
  have q1 : x.tdiv 128 = x / 128 := Int.tdiv_eq_ediv_of_nonneg (by omega)
  have q2 : x.tmod 128 = x % 128 := Int.tmod_eq_emod_of_nonneg (by omega)
  have q3 : 0 ≤ x.tdiv 128 ∧ x.tdiv 128 < 128 := by rw [q1]; omega
  have q4 : 0 ≤ x.tmod 128 ∧ x.tmod 128 < 128 := by rw [q2]; omega
  have w1 : (x.tdiv 128).tmod 128 = x.tdiv 128 := Int.tmod_eq_of_lt q3.1 q3.2
  have w2 : IntKind.u8.wrap (x.tdiv 128) = x.tdiv 128 := wrapB q3.1 (by omega)
  have w3 : IntKind.u8.wrap (x.tmod 128) = x.tmod 128 := wrapB q4.1 (by omega)
  have w4 : IntKind.u64.wrap (x.tdiv 128) = x.tdiv 128 := wrapU q3.1 (by omega)
  have c1 : ¬ 128 ≤ x.tdiv 128 := by omega
  simp (config := { maxSteps := 1000000, implicitDefEqProofs := false }) only [acall, acode, aops, awanted, aoper, AOp.isCall, j0, j1, aprim, aev, tg_zn, tg_ln, tg_rn, ts_ze, ts_zn, ts_le, ts_ln, ts_re, ts_rn, tputs, aput, reduceCtorEq, j4, j5, abin, kindEq, binInt, j6, j9, AV.cells?, j12, Mem.apply, Mem.applyAll, acallee, aevs, j13, j14, j16, j17, j18, Nat.ble, Nat.reduceDiv, Nat.reduceMod, Nat.reduceMul, Nat.reduceAdd, Nat.reduceSub, Nat.reduceLeDiff, j19, ares, aresL, ares1, j20, j21, Nat.beq, Pth.succ, j22, j23, j24, bin_a, bin_b, bin_c, bputl, blen, bnth, Mem.killAll, j26, j27, j29, j31, rowGet, rowGet0, rowSet, rowSet0, chunk, j34, j35, j37, j51, j52, j54, j55, j56, j57, j58, j59, j60, j61, j62, j63, j64, j65, refsL, AV.refs, j66, j67, ne_eq, j68, j69, Int.reduceLT, Int.reduceLE, Int.reduceToNat, Int.reduceAdd, Int.reduceSub, Int.reduceNeg, Int.reduceEq, Nat.reduceLT, Nat.reduceEqDiff, wrapI, j72, j73, j74, j75, j77, j78, j79, bound?, elemsOf, winGet, roomMost, j80, AOp.isMaker, adraw, Mem.more, j92, j93, j94, j95, mask, unmask, AOp.reads, AOpnd.top, AV.top, ins, j96, nidOf, slotIn, j98, clash, j100, j101, j103, j104, j105, j106, j107, j67, j66, bmore, j78, j79, hF, h83, h89, AF82, AF83, AF89, s82, s83, s89, w1, w2, w3, w4, c1, h1, aloop, roundTmps, asliceA, bytesOf, by1, by2, IntKind.bits]
  exact ⟨_, rfl, keep_bx (by repeat first | exact LogOK.nil | apply LogOK.cons)⟩
end
section
variable {F : FuncId → Option AFunc} {meth : Meth} {sm : Summ}

def headsR : List (List AV) := [[.int .u8 176], [.int .u8 177], [.int .u8 178], [.int .u8 180], [.int .u8 181], [.int .u8 182]]
/-- A bundle that is made of numbers: a whole message. -/
def bu (node seq dest prio life : Int) (s : List UInt8) : List AV := [.int .i64 node, .int .u64 seq, .int .i64 0, .int .i64 dest, .int .i64 prio, .int .i64 0, .int .i64 life, .int .i64 s.length, .str s]
structure BuOK (node seq dest prio life : Int) (s : List UInt8) : Prop where
  n1 : 1 ≤ node
  n2 : node ≤ 3
  q1 : 0 ≤ seq
  q2 : seq ≤ 20
  d1 : 1 ≤ dest
  d2 : dest ≤ 3
  p1 : 0 ≤ prio
  p2 : prio ≤ 2
  l1 : 200 ≤ life
  l2 : life ≤ 299
  s1 : 1 ≤ s.length
  s2 : s.length ≤ 17
def hdOf (p : Int) : UInt8 := if p = 0 then 180 else if p = 1 then 181 else 182
def frontOf (node seq dest prio life : Int) : List UInt8 := hdOf prio :: by1 node :: by1 seq :: by1 dest :: by1 0 :: by2 life
theorem by2_len (x : Int) : (by2 x).length = 2 := rfl
theorem frontOf_len (node seq dest prio life : Int) : (frontOf node seq dest prio life).length = 7 := rfl

def H63 (sm : Summ) : Prop := ∀ (node seq dest prio life : Int) (s : List UInt8) (m : Mem), BuOK node seq dest prio life s → bget m.blks 1 = some (.row false 1 headsR) → sm 63 [.agg (bu node seq dest prio life s)] m = some (.str (frontOf node seq dest prio life), m)
set_option maxHeartbeats 8000000 in
theorem e63 (hF : F 63 = some AF63) (h80 : F 80 = some AF80) (h81 : F 81 = some AF81) (s63 : ∀ vs m, sm 63 vs m = none) (s80 : ∀ vs m, sm 80 vs m = none) (s81 : ∀ vs m, sm 81 vs m = none) (h82 : H82 sm) (h82b : H82b sm) (n : Nat) (h : Blks) (lg d : List Nat) {node seq dest prio life : Int} {s : List UInt8} (B : BuOK node seq dest prio life s)
    (hT : bget h 1 = some (.row false 1 headsR)) : Ev F meth sm (n + 6) 63 [.agg (bu node seq dest prio life s)] ⟨h, lg, d⟩ (.str (frontOf node seq dest prio life)) := by
  refine Ev.of ?_
  have hlt := bget_lt hT
  obtain ⟨n1, n2, q1, q2, d1, d2, p1, p2, l1, l2, s1, s2⟩ := B
  have g1 := fun m => h82 node m (by omega) (by omega)
  have g2 := fun m => h82 seq m q1 (by omega)
  have g3 := fun m => h82 dest m (by omega) (by omega)
  have g4 := fun m => h82 0 m (by omega) (by omega)
  have g5 := fun m => h82b life m (by omega) (by omega)
  have w1 : IntKind.u64.wrap node = node := wrapU (by omega) (by omega)
  have w2 : IntKind.u64.wrap dest = dest := wrapU (by omega) (by omega)
  have w3 : IntKind.u64.wrap life = life := wrapU (by omega) (by omega)
  have c1 : ((s.length : Int) == (s.length : Int)) = true := by simp
  rcases (by omega : prio = 0 ∨ prio = 1 ∨ prio = 2) with rfl | rfl | rfl
  all_goals
    unfold headsR at hT
    simp (config := { maxSteps := 1000000, implicitDefEqProofs := false }) only [acall, acode, aops, awanted, aoper, AOp.isCall, j0, j1, aprim, aev, tg_zn, tg_ln, tg_rn, ts_ze, ts_zn, ts_le, ts_ln, ts_rn, tputs, aput, reduceCtorEq, j4, j5, abin, kindEq, binInt, j6, j9, j10, AV.cells?, j12, Mem.apply, Mem.applyAll, acallee, aevs, j13, j14, j16, aun, peq, peq1, j17, j18, Nat.ble, Nat.reduceDiv, Nat.reduceMod, Nat.reduceMul, Nat.reduceAdd, Nat.reduceSub, Nat.reduceLeDiff, j19, ares, aresL, ares1, j20, j21, Nat.beq, j22, j23, j24, bin_a, bin_b, bin_c, bputl, blen, bnth, Mem.killAll, j26, j27, j29, j31, rowGet, rowGet0, chunk, j34, j35, j37, j38, j40, j51, j52, j54, j55, j56, j57, j59, j60, j61, j62, j63, j64, j65, refsL, refsLL, AV.refs, j66, j67, ne_eq, j68, j69, j71, Int.reduceLT, Int.reduceLE, Int.reduceToNat, Int.reduceAdd, Int.reduceNeg, Int.reduceEq, Nat.reduceLT, Nat.reduceEqDiff, wrapI, wrapU, j74, j75, j79, bound?, elemsOf, winGet, roomMost, j80, j85, fillE, j88, AOp.isMaker, j89, j90, adraw, Mem.more, j92, j93, j94, j95, mask, unmask, AOp.reads, AOpnd.top, AV.top, ins, j96, j97, nidOf, slotIn, j98, j99, clash, j100, j103, j104, j105, j106, j67, j66, bmore, j79, hF, h80, h81, AF63, AF80, AF81, s63, s80, s81, g1, g2, g3, g4, g5, w1, w2, w3, bu, hT, hlt, nb_old, nb_beq_ne, aloop, asliceA, bytesOf, binStr, frontOf, hdOf, by2_len]
    exact ⟨_, rfl, keep_bx (by repeat first | exact LogOK.nil | apply LogOK.cons)⟩

def H62 (sm : Summ) : Prop := ∀ (node seq dest prio life : Int) (s : List UInt8) (m : Mem), BuOK node seq dest prio life s → sm 62 [.agg (bu node seq dest prio life s)] m = some (.int .i64 0, m)
set_option maxHeartbeats 8000000 in
theorem e62 (hF : F 62 = some AF62) (h78 : F 78 = some AF78) (h79 : F 79 = some AF79) (s62 : ∀ vs m, sm 62 vs m = none) (s78 : ∀ vs m, sm 78 vs m = none) (s79 : ∀ vs m, sm 79 vs m = none) (n : Nat) (h : Blks) (lg d : List Nat) {node seq dest prio life : Int} {s : List UInt8} (B : BuOK node seq dest prio life s) :
    Ev F meth sm (n + 9) 62 [.agg (bu node seq dest prio life s)] ⟨h, lg, d⟩ (.int .i64 0) := by
  refine Ev.of ?_
  obtain ⟨n1, n2, q1, q2, d1, d2, p1, p2, l1, l2, s1, s2⟩ := B
  have c1 : ¬ node < 1 := by omega
  have c2 : ¬ 16 < node := by omega
  have c3 : ¬ 1099511627776 < seq := by omega
  have c4 : ¬ dest < 1 := by omega
  have c5 : ¬ 16 < dest := by omega
  have c6 : ¬ prio < 0 := by omega
  have c7 : ¬ 2 < prio := by omega
  have c8 : ¬ life < 1 := by omega
  have c9 : ¬ 1048576 < life := by omega
  have c10 : ¬ (s.length : Int) < 1 := by omega
  have c11 : ¬ 20000 < (s.length : Int) := by omega
  have c12 : ((s.length : Int) == 0) = false := by rw [beq_eq_false_iff_ne]; omega
  have c13 : ¬ 1000 < (s.length : Int) := by omega
  have c14 : (s.length : Int) - (s.length : Int) = 0 := by omega
  simp (config := { maxSteps := 1000000, implicitDefEqProofs := false }) only [acall, acode, aops, awanted, aoper, AOp.isCall, j0, j1, aprim, aev, tg_zn, tg_ln, tg_rn, ts_ze, ts_zn, ts_le, ts_ln, ts_re, ts_rn, tputs, aput, reduceCtorEq, j4, j5, abin, kindEq, binInt, j6, j9, j10, AV.cells?, j12, Mem.apply, Mem.applyAll, acallee, aevs, j13, j14, j16, aun, peq, peq1, j17, j18, Nat.ble, Nat.reduceDiv, Nat.reduceMod, Nat.reduceMul, Nat.reduceAdd, Nat.reduceSub, Nat.reduceLeDiff, j19, ares, aresL, ares1, j20, j21, Nat.beq, j22, j23, j24, bin_a, bin_b, bin_c, bputl, blen, bnth, Mem.killAll, j26, j27, j29, j31, rowGet, rowGet0, rowSet, rowSet0, chunk, j34, j35, j37, j38, j51, j52, j54, j55, j56, j57, j58, j59, j60, j61, j62, j63, j64, j65, refsL, refsLL, AV.refs, j66, j67, ne_eq, j68, j69, j71, Int.reduceLT, Int.reduceLE, Int.reduceToNat, Int.reduceAdd, Int.reduceNeg, Nat.reduceLT, Nat.reduceEqDiff, wrapI, j72, j74, j75, j79, bound?, roomMost, j80, j85, fillC, fillE, j88, AOp.isMaker, j89, j90, adraw, Mem.more, j92, j93, j94, j95, mask, unmask, AOp.reads, AOpnd.top, AV.top, ins, j96, nidOf, slotIn, j98, clash, j100, j103, j104, j105, j106, j67, j66, bmore, j79, hF, h78, h79, AF62, AF78, AF79, s62, s78, s79, bu, c1, c2, c3, c4, c5, c6, c7, c8, c9, c10, c11, c12, c13, c14, aloop, asliceA]
  exact ⟨_, rfl, keep_bx (by repeat first | exact LogOK.nil | apply LogOK.cons)⟩

def H48 (sm : Summ) : Prop := ∀ (node seq dest prio life : Int) (s : List UInt8) (m : Mem), BuOK node seq dest prio life s → bget m.blks 1 = some (.row false 1 headsR) → sm 48 [.agg (bu node seq dest prio life s)] m = some (.tuple [.int .i64 (12 + s.length), .int .i64 0], m)
set_option maxHeartbeats 8000000 in
theorem e48 (hF : F 48 = some AF48) (s48 : ∀ vs m, sm 48 vs m = none) (h62 : H62 sm) (h63 : H63 sm) (h64 : H64 sm) (n : Nat) (h : Blks) (lg d : List Nat) {node seq dest prio life : Int} {s : List UInt8} (B : BuOK node seq dest prio life s)
    (hT : bget h 1 = some (.row false 1 headsR)) : Ev F meth sm (n + 2) 48 [.agg (bu node seq dest prio life s)] ⟨h, lg, d⟩ (.tuple [.int .i64 (12 + s.length), .int .i64 0]) := by
  refine Ev.of ?_
  have hlt := bget_lt hT
  have g1 := fun m => h62 node seq dest prio life s m B
  have g2 := fun m hm => h63 node seq dest prio life s m B hm
  have g3 := fun m => h64 s.length m (by omega) (by have := B.s2; omega)
  have s2 := B.s2
  have w1 : IntKind.u64.wrap (s.length : Int) = s.length := wrapU (by omega) (by omega)
  have w2 : IntKind.i64.wrap (8 + (s.length : Int)) = 8 + (s.length : Int) := wrapI (by omega) (by omega)
  have w3 : IntKind.i64.wrap (8 + (s.length : Int) + 4) = 12 + (s.length : Int) := by rw [wrapI (by omega) (by omega)]; omega
  unfold bu at g1 g2
  simp (config := { maxSteps := 1000000, implicitDefEqProofs := false }) only [acall, acode, aops, awanted, aoper, AOp.isCall, j0, j1, aprim, aev, tg_zn, tg_ln, tg_rn, ts_ze, ts_zn, ts_le, ts_ln, ts_rn, tputs, aput, reduceCtorEq, j4, j5, abin, kindEq, binInt, j6, j9, j10, AV.cells?, j12, Mem.apply, Mem.applyAll, acallee, aevs, j13, j14, peq, peq1, j17, j18, Nat.ble, Nat.reduceDiv, Nat.reduceMod, Nat.reduceMul, Nat.reduceAdd, Nat.reduceLeDiff, j19, ares, aresL, ares1, j20, j21, Nat.beq, j22, j23, j24, bin_a, bputl, blen, bnth, Mem.killAll, j31, rowGet, rowGet0, chunk, j34, j35, j37, j38, j51, j52, j54, j55, j56, j57, j59, j60, j64, j65, refsL, AV.refs, j66, j67, j68, j71, Int.reduceLE, Int.reduceAdd, Int.reduceNeg, wrapI, j79, AOp.isMaker, adraw, Mem.more, j92, j93, j94, j95, mask, unmask, AOp.reads, AOpnd.top, AV.top, ins, nidOf, slotIn, j98, clash, j100, j103, j105, j106, j67, j66, bmore, j79, hF, AF48, s48, g1, g2, g3, w1, w2, w3, bu, hT, hlt, nb_old, frontOf_len]
  exact ⟨_, rfl, keep_bx (by repeat first | exact LogOK.nil | apply LogOK.cons)⟩
end
section
variable {F : FuncId → Option AFunc} {meth : Meth} {sm : Summ}

def H58 (sm : Summ) : Prop := ∀ (f t s e r dl : Int) (m : Mem), sm 58 [.agg (ct f t s e r dl)] m = some (.agg [.int .i64 f, .int .i64 t], m)
theorem e58 (hF : F 58 = some AF58) (s58 : ∀ vs m, sm 58 vs m = none) (n : Nat) (h : Blks) (lg d : List Nat) (f t s e r dl : Int) : Ev F meth sm (n + 1) 58 [.agg (ct f t s e r dl)] ⟨h, lg, d⟩ (.agg [.int .i64 f, .int .i64 t]) := by
  refine Ev.of ?_
  simp (config := { maxSteps := 1000000, implicitDefEqProofs := false }) only [acall, acode, aops, awanted, aoper, AOp.isCall, j0, j1, aprim, aev, tg_zn, tg_ln, tg_rn, ts_ze, ts_ln, ts_rn, tputs, aput, reduceCtorEq, j4, j5, j9, j10, AV.cells?, j12, Mem.apply, Mem.applyAll, acallee, j13, j14, j16, j17, j18, Nat.ble, Nat.reduceDiv, Nat.reduceMod, Nat.reduceMul, Nat.reduceAdd, Nat.reduceLeDiff, j19, ares, aresL, ares1, j20, j21, j22, j23, j24, bin_a, bin_b, bin_c, bputl, blen, bnth, Mem.killAll, j27, rowGet, rowGet0, rowSet, rowSet0, chunk, j34, j35, j37, j51, j52, j54, j55, j56, j57, j58, j59, j60, j62, j64, j65, refsL, AV.refs, j66, j67, j68, j79, j85, fillC, AOp.isMaker, adraw, Mem.more, j92, j93, j94, j95, AOp.reads, AOpnd.top, AV.top, ins, j96, nidOf, slotIn, j98, clash, j100, j103, j104, j67, j66, bmore, j79, hF, AF58, s58, ct]
  exact ⟨_, rfl, keep_bx (by repeat first | exact LogOK.nil | apply LogOK.cons)⟩

def H75 (sm : Summ) : Prop := ∀ (x y : Int) (m : Mem), (x < y → sm 75 [.int .i64 x, .int .i64 y] m = some (.int .i64 (-1), m)) ∧ (x = y → sm 75 [.int .i64 x, .int .i64 y] m = some (.int .i64 0, m)) ∧ (y < x → sm 75 [.int .i64 x, .int .i64 y] m = some (.int .i64 1, m))
theorem e75 (hF : F 75 = some AF75) (h88 : F 88 = some AF88) (s75 : ∀ vs m, sm 75 vs m = none) (s88 : ∀ vs m, sm 88 vs m = none) (n : Nat) (h : Blks) (lg d : List Nat) (x y : Int) :
    (x < y → Ev F meth sm (n + 2) 75 [.int .i64 x, .int .i64 y] ⟨h, lg, d⟩ (.int .i64 (-1))) ∧ (x = y → Ev F meth sm (n + 2) 75 [.int .i64 x, .int .i64 y] ⟨h, lg, d⟩ (.int .i64 0)) ∧ (y < x → Ev F meth sm (n + 2) 75 [.int .i64 x, .int .i64 y] ⟨h, lg, d⟩ (.int .i64 1)) := by
  have b1 : ∀ z : Int, (z != z) = false := fun z => by simp
  refine ⟨fun c => Ev.of ?_, fun c => Ev.of ?_, fun c => Ev.of ?_⟩
  · simp (config := { maxSteps := 1000000, implicitDefEqProofs := false }) only [acall, acode, aops, awanted, aoper, AOp.isCall, j0, j1, aprim, aev, tg_zn, tg_ln, tg_rn, ts_ze, ts_zn, ts_le, ts_ln, ts_rn, tputs, aput, j4, j5, abin, kindEq, binInt, j6, j12, Mem.applyAll, acallee, aevs, j13, j14, peq, peq1, j17, j18, Nat.ble, Nat.reduceAdd, j19, ares, aresL, ares1, j20, j21, Pth.succ, Mem.killAll, j26, j31, j51, j52, j67, Int.reduceNeg, j79, AOp.isMaker, adraw, Mem.more, j92, j93, j94, j95, mask, unmask, AOp.reads, ins, slotIn, clash, j100, j103, j106, j67, bmore, j79, hF, h88, AF75, AF88, s75, s88, c]
    exact ⟨_, rfl, keep_bx (by repeat first | exact LogOK.nil | apply LogOK.cons)⟩
  · subst c
    have c1 : ¬ x < x := by omega
    simp (config := { maxSteps := 1000000, implicitDefEqProofs := false }) only [acall, acode, aops, awanted, aoper, AOp.isCall, j0, j1, aprim, aev, tg_zn, tg_ln, tg_rn, ts_ze, ts_zn, ts_le, ts_ln, ts_rn, tputs, aput, j4, j5, abin, kindEq, binInt, j6, j12, Mem.applyAll, acallee, aevs, j13, j14, peq, peq1, j17, j18, Nat.ble, Nat.reduceAdd, j19, ares, aresL, ares1, j20, j21, Pth.succ, Mem.killAll, j27, j31, j51, j52, j67, Int.reduceNeg, j72, j79, AOp.isMaker, adraw, Mem.more, j92, j93, j94, j95, mask, unmask, AOp.reads, ins, slotIn, clash, j100, j103, j106, j67, bmore, j79, hF, h88, AF75, AF88, s75, s88, c1]
    exact ⟨_, rfl, keep_bx (by repeat first | exact LogOK.nil | apply LogOK.cons)⟩
  · have c1 : ¬ x < y := by omega
    simp (config := { maxSteps := 1000000, implicitDefEqProofs := false }) only [acall, acode, aops, awanted, aoper, AOp.isCall, j0, j1, aprim, aev, tg_zn, tg_ln, tg_rn, ts_ze, ts_zn, ts_le, ts_ln, ts_rn, tputs, aput, j4, j5, abin, kindEq, binInt, j6, j12, Mem.applyAll, acallee, aevs, j13, j14, peq, peq1, j17, j18, Nat.ble, Nat.reduceAdd, j19, ares, aresL, ares1, j20, j21, Pth.succ, Mem.killAll, j26, j27, j31, j51, j52, j67, Int.reduceNeg, j72, j79, AOp.isMaker, adraw, Mem.more, j92, j93, j94, j95, mask, unmask, AOp.reads, ins, slotIn, clash, j100, j103, j106, j67, bmore, j79, hF, h88, AF75, AF88, s75, s88, c, c1]
    exact ⟨_, rfl, keep_bx (by repeat first | exact LogOK.nil | apply LogOK.cons)⟩

def H57 (sm : Summ) : Prop := ∀ (f t e r dl f' t' e' r' dl' : Int) (m : Mem), f < f' ∨ (f = f' ∧ t < t') → sm 57 [.agg (ct f t 0 e r dl), .agg (ct f' t' 0 e' r' dl')] m = some (.int .i64 (-1), m)
set_option maxHeartbeats 8000000 in
theorem e57 (hF : F 57 = some AF57) (h74 : F 74 = some AF74) (s57 : ∀ vs m, sm 57 vs m = none) (s74 : ∀ vs m, sm 74 vs m = none) (h75 : H75 sm) (n : Nat) (h : Blks) (lg d : List Nat) (f t e r dl f' t' e' r' dl' : Int) (hc : f < f' ∨ (f = f' ∧ t < t')) :
    Ev F meth sm (n + 5) 57 [.agg (ct f t 0 e r dl), .agg (ct f' t' 0 e' r' dl')] ⟨h, lg, d⟩ (.int .i64 (-1)) := by
  refine Ev.of ?_
  have g0 := fun m => (h75 0 0 m).2.1 rfl
  rcases hc with hc | ⟨rfl, hc⟩
  · have g1 := fun m => (h75 f f' m).1 hc
    have g2 : ∃ x, ∀ m, sm 75 [.int .i64 t, .int .i64 t'] m = some (.int .i64 x, m) := by
      rcases Int.lt_trichotomy t t' with q | q | q
      · exact ⟨_, fun m => (h75 t t' m).1 q⟩
      · exact ⟨_, fun m => (h75 t t' m).2.1 q⟩
      · exact ⟨_, fun m => (h75 t t' m).2.2 q⟩
    obtain ⟨x, g2⟩ := g2
    simp (config := { maxSteps := 1000000, implicitDefEqProofs := false }) only [acall, acode, aops, awanted, aoper, AOp.isCall, j0, j1, aprim, aev, tg_zn, tg_ln, tg_rn, ts_ze, ts_zn, ts_le, ts_ln, ts_rn, tputs, aput, reduceCtorEq, j4, j5, abin, kindEq, binInt, j6, j9, j10, AV.cells?, j12, Mem.apply, Mem.applyAll, acallee, aevs, j13, j14, peq, peq1, j17, j18, Nat.ble, Nat.reduceDiv, Nat.reduceMod, Nat.reduceMul, Nat.reduceAdd, Nat.reduceLeDiff, j19, ares, aresL, ares1, j20, j21, Nat.beq, Pth.succ, j22, j23, j24, bin_a, bin_b, bin_c, bputl, blen, bnth, Mem.killAll, j26, j27, j31, rowGet, rowGet0, chunk, j34, j35, j37, j51, j52, j54, j55, j56, j57, j59, j60, j61, j62, j63, j64, j65, refsL, refsLL, AV.refs, j66, j67, j68, j71, Int.reduceLT, Int.reduceLE, Int.reduceToNat, Int.reduceAdd, Int.reduceBEq, Int.reduceNeg, Nat.reduceLT, wrapI, j74, j79, j85, fillE, j88, AOp.isMaker, j89, j90, adraw, Mem.more, j92, j93, j94, j95, mask, unmask, AOp.reads, AOpnd.top, AV.top, ins, j96, j97, nidOf, slotIn, j98, clash, j100, j103, j104, j105, j67, j66, bmore, j79, hF, h74, AF57, AF74, s57, s74, ct, g0, g1, g2, aloop]
    exact ⟨_, rfl, keep_bx (by repeat first | exact LogOK.nil | apply LogOK.cons)⟩
  · have g1 := fun m => (h75 f f m).2.1 rfl
    have g2 := fun m => (h75 t t' m).1 hc
    simp (config := { maxSteps := 1000000, implicitDefEqProofs := false }) only [acall, acode, aops, awanted, aoper, AOp.isCall, j0, j1, aprim, aev, tg_zn, tg_ln, tg_rn, ts_ze, ts_zn, ts_le, ts_ln, ts_rn, tputs, aput, reduceCtorEq, j4, j5, abin, kindEq, binInt, j6, j9, j10, AV.cells?, j12, Mem.apply, Mem.applyAll, acallee, aevs, j13, j14, peq, peq1, j17, j18, Nat.ble, Nat.reduceDiv, Nat.reduceMod, Nat.reduceMul, Nat.reduceAdd, Nat.reduceLeDiff, j19, ares, aresL, ares1, j20, j21, Nat.beq, Pth.succ, j22, j23, j24, bin_a, bin_b, bin_c, bputl, blen, bnth, Mem.killAll, j26, j27, j31, rowGet, rowGet0, chunk, j34, j35, j37, j51, j52, j54, j55, j56, j57, j59, j60, j61, j62, j63, j64, j65, refsL, refsLL, AV.refs, j66, j67, j68, j71, Int.reduceLT, Int.reduceLE, Int.reduceToNat, Int.reduceAdd, Int.reduceBEq, Int.reduceNeg, Nat.reduceLT, wrapI, j74, j79, j85, fillE, j88, AOp.isMaker, j89, j90, adraw, Mem.more, j92, j93, j94, j95, mask, unmask, AOp.reads, AOpnd.top, AV.top, ins, j96, j97, nidOf, slotIn, j98, clash, j100, j103, j104, j105, j67, j66, bmore, j79, hF, h74, AF57, AF74, s57, s74, ct, g0, g1, g2, aloop]
    exact ⟨_, rfl, keep_bx (by repeat first | exact LogOK.nil | apply LogOK.cons)⟩
end
section
variable {F : FuncId → Option AFunc} {meth : Meth} {sm : Summ}

/-- The limits of a contact's numbers. -/
structure CtOK (x r d : Int) : Prop where
  a1 : 300 ≤ x
  a2 : x ≤ 399
  a3 : 300 ≤ r
  a4 : r ≤ 999
  a5 : 0 ≤ d
  a6 : d ≤ 2
/-- The plans of two nodes and of three nodes in a row. -/
inductive PlanOK : Nat → List (List AV) → Prop
  | two {x0 r0 d0 x1 r1 d1 : Int} : CtOK x0 r0 d0 → CtOK x1 r1 d1 → PlanOK 2 [ct 1 2 0 x0 r0 d0, ct 2 1 0 x1 r1 d1]
  | three {x0 r0 d0 x1 r1 d1 x2 r2 d2 x3 r3 d3 : Int} : CtOK x0 r0 d0 → CtOK x1 r1 d1 → CtOK x2 r2 d2 → CtOK x3 r3 d3 → PlanOK 3 [ct 1 2 0 x0 r0 d0, ct 2 1 0 x1 r1 d1, ct 2 3 0 x2 r2 d2, ct 3 2 0 x3 r3 d3]
def H45 (sm : Summ) : Prop := ∀ (k : Nat) (es : List (List AV)) (b : Nat) (own : Bool) (c : Option Nat) (m : Mem), PlanOK k es → bget m.blks b = some (.row own 6 es) → sm 45 [.slice b 0 es.length c] m = some (.tuple [.int .i64 0, .int .i64 0], m)
set_option maxHeartbeats 16000000 in
theorem e45_2 (hF : F 45 = some AF45) (s45 : ∀ vs m, sm 45 vs m = none) (h56 : H56 sm) (h57 : H57 sm) (h58 : H58 sm) (n : Nat) (h : Blks) (lg d : List Nat) {b : Nat} {c : Option Nat} {own : Bool} {x0 r0 d0 x1 r1 d1 : Int} (hb : bget h b = some (.row own 6 [ct 1 2 0 x0 r0 d0, ct 2 1 0 x1 r1 d1])) (k0 : CtOK x0 r0 d0) (k1 : CtOK x1 r1 d1) :
    Ev F meth sm (n + 7) 45 [.slice b 0 2 c] ⟨h, lg, d⟩ (.tuple [.int .i64 0, .int .i64 0]) := by
  refine Ev.of ?_
  have hlt := bget_lt hb
  have g0 := fun m => h56 1 2 x0 r0 d0 m (by omega) (by omega) (by omega) (by omega) (by omega) k0.a1 k0.a2 k0.a3 k0.a4 k0.a5 k0.a6
  have o0 := fun m => h58 1 2 0 x0 r0 d0 m
  have g1 := fun m => h56 2 1 x1 r1 d1 m (by omega) (by omega) (by omega) (by omega) (by omega) k1.a1 k1.a2 k1.a3 k1.a4 k1.a5 k1.a6
  have o1 := fun m => h58 2 1 0 x1 r1 d1 m
  have q1 := fun m => h57 1 2 x0 r0 d0 2 1 x1 r1 d1 m (by omega)
  unfold ct at g0 o0 g1 o1 q1 hb
  simp (config := { maxSteps := 1000000, implicitDefEqProofs := false }) only [acall, acode, aops, awanted, aoper, AOp.isCall, j0, j1, aprim, aev, tg_zn, tg_ln, tg_rn, ts_ze, ts_zn, ts_le, ts_ln, ts_rn, tputs, aput, reduceCtorEq, j4, j5, abin, kindEq, binInt, j6, j9, j10, AV.cells?, j12, Mem.apply, Mem.applyAll, acallee, aevs, j13, j14, peq, peq1, peqL, j17, j18, Nat.ble, Nat.reduceDiv, Nat.reduceMod, Nat.reduceMul, Nat.reduceAdd, Nat.reduceLeDiff, j19, ares, aresL, ares1, j20, j21, Nat.beq, j22, j23, j24, bin_a, bin_b, bin_c, bputl, blen, bnth, Mem.killAll, j26, j27, j31, j33, rowGet, rowGet0, rowSet, rowSet0, chunk, j34, j35, j37, j51, j52, j54, j55, j56, j57, j58, j59, j60, j61, j62, j64, j65, refsL, AV.refs, j66, j67, j68, j71, Int.reduceLT, Int.reduceLE, Int.reduceToNat, Int.reduceAdd, Int.reduceSub, Int.reduceBEq, Int.reduceNeg, Nat.reduceLT, wrapI, j72, j73, j74, j78, j79, AOp.isMaker, adraw, Mem.more, j92, j93, j94, j95, mask, unmask, AOp.reads, AOpnd.top, AV.top, ins, nidOf, slotIn, j98, clash, j100, j103, j104, j105, j106, j67, j66, bmore, j78, j79, hF, AF45, s45, g0, o0, g1, o1, q1, hb, hlt, nb_old, nb_beq_ne, aloop, peq, findE, setE]
  exact ⟨_, rfl, keep_bx (by repeat first | exact LogOK.nil | apply LogOK.cons)⟩
set_option maxHeartbeats 16000000 in
theorem e45_3 (hF : F 45 = some AF45) (s45 : ∀ vs m, sm 45 vs m = none) (h56 : H56 sm) (h57 : H57 sm) (h58 : H58 sm) (n : Nat) (h : Blks) (lg d : List Nat) {b : Nat} {c : Option Nat} {own : Bool} {x0 r0 d0 x1 r1 d1 x2 r2 d2 x3 r3 d3 : Int} (hb : bget h b = some (.row own 6 [ct 1 2 0 x0 r0 d0, ct 2 1 0 x1 r1 d1, ct 2 3 0 x2 r2 d2, ct 3 2 0 x3 r3 d3])) (k0 : CtOK x0 r0 d0) (k1 : CtOK x1 r1 d1) (k2 : CtOK x2 r2 d2) (k3 : CtOK x3 r3 d3) :
    Ev F meth sm (n + 7) 45 [.slice b 0 4 c] ⟨h, lg, d⟩ (.tuple [.int .i64 0, .int .i64 0]) := by
  refine Ev.of ?_
  have hlt := bget_lt hb
  have g0 := fun m => h56 1 2 x0 r0 d0 m (by omega) (by omega) (by omega) (by omega) (by omega) k0.a1 k0.a2 k0.a3 k0.a4 k0.a5 k0.a6
  have o0 := fun m => h58 1 2 0 x0 r0 d0 m
  have g1 := fun m => h56 2 1 x1 r1 d1 m (by omega) (by omega) (by omega) (by omega) (by omega) k1.a1 k1.a2 k1.a3 k1.a4 k1.a5 k1.a6
  have o1 := fun m => h58 2 1 0 x1 r1 d1 m
  have q1 := fun m => h57 1 2 x0 r0 d0 2 1 x1 r1 d1 m (by omega)
  have g2 := fun m => h56 2 3 x2 r2 d2 m (by omega) (by omega) (by omega) (by omega) (by omega) k2.a1 k2.a2 k2.a3 k2.a4 k2.a5 k2.a6
  have o2 := fun m => h58 2 3 0 x2 r2 d2 m
  have q2 := fun m => h57 2 1 x1 r1 d1 2 3 x2 r2 d2 m (by omega)
  have g3 := fun m => h56 3 2 x3 r3 d3 m (by omega) (by omega) (by omega) (by omega) (by omega) k3.a1 k3.a2 k3.a3 k3.a4 k3.a5 k3.a6
  have o3 := fun m => h58 3 2 0 x3 r3 d3 m
  have q3 := fun m => h57 2 3 x2 r2 d2 3 2 x3 r3 d3 m (by omega)
  unfold ct at g0 o0 g1 o1 q1 g2 o2 q2 g3 o3 q3 hb
  simp (config := { maxSteps := 1000000, implicitDefEqProofs := false }) only [acall, acode, aops, awanted, aoper, AOp.isCall, j0, j1, aprim, aev, tg_zn, tg_ln, tg_rn, ts_ze, ts_zn, ts_le, ts_ln, ts_rn, tputs, aput, reduceCtorEq, j4, j5, abin, kindEq, binInt, j6, j9, j10, AV.cells?, j12, Mem.apply, Mem.applyAll, acallee, aevs, j13, j14, peq, peq1, peqL, j17, j18, Nat.ble, Nat.reduceDiv, Nat.reduceMod, Nat.reduceMul, Nat.reduceAdd, Nat.reduceLeDiff, j19, ares, aresL, ares1, j20, j21, Nat.beq, j22, j23, j24, bin_a, bin_b, bin_c, bputl, blen, bnth, Mem.killAll, j26, j27, j31, j33, rowGet, rowGet0, rowSet, rowSet0, chunk, j34, j35, j37, j51, j52, j54, j55, j56, j57, j58, j59, j60, j61, j62, j64, j65, refsL, AV.refs, j66, j67, j68, j71, Int.reduceLT, Int.reduceLE, Int.reduceToNat, Int.reduceAdd, Int.reduceSub, Int.reduceBEq, Int.reduceNeg, Nat.reduceLT, wrapI, j72, j73, j74, j78, j79, AOp.isMaker, adraw, Mem.more, j92, j93, j94, j95, mask, unmask, AOp.reads, AOpnd.top, AV.top, ins, nidOf, slotIn, j98, clash, j100, j103, j104, j105, j106, j67, j66, bmore, j78, j79, hF, AF45, s45, g0, o0, g1, o1, q1, g2, o2, q2, g3, o3, q3, hb, hlt, nb_old, nb_beq_ne, aloop, peq, findE, setE]
  exact ⟨_, rfl, keep_bx (by repeat first | exact LogOK.nil | apply LogOK.cons)⟩
end
section
variable {F : FuncId → Option AFunc} {meth : Meth} {sm : Summ}

def H52 (sm : Summ) : Prop := ∀ (k : Nat) (es : List (List AV)) (f z : Int), PlanOK k es → 1 ≤ f → f ≤ k → 1 ≤ z → z ≤ 100 →
  ∃ x1 x2 x3 : Int, 0 ≤ x1 ∧ 0 ≤ x2 ∧ (k = 3 → 0 ≤ x3) ∧ ∀ (b : Nat) (own : Bool) (c : Option Nat) (m : Mem), bget m.blks b = some (.row own 6 es) → sm 52 [.slice b 0 es.length c, .int .i64 f, .int .i64 0, .int .i64 z] m = some (arr x1 x2 x3, m)
theorem e52 (H : Heap F meth sm) (h71 : H71 sm) (n k : Nat) (es : List (List AV)) (f z : Int) (hP : PlanOK k es) (f1 : 1 ≤ f) (f2 : f ≤ k) (z1 : 1 ≤ z) (z2 : z ≤ 100) :
    ∃ x1 x2 x3 : Int, 0 ≤ x1 ∧ 0 ≤ x2 ∧ (k = 3 → 0 ≤ x3) ∧ ∀ (b : Nat) (own : Bool) (c : Option Nat) (h : Blks) (lg d : List Nat), bget h b = some (.row own 6 es) → Ev F meth sm (n + 22) 52 [.slice b 0 es.length c, .int .i64 f, .int .i64 0, .int .i64 z] ⟨h, lg, d⟩ (arr x1 x2 x3) := by
  cases hP with
  | @two x0 r0 d0 x1 r1 d1 k0 k1 =>
    obtain ⟨k01, k02, k03, k04, k05, k06⟩ := k0
    obtain ⟨k11, k12, k13, k14, k15, k16⟩ := k1
    rcases (by omega : f = 1 ∨ f = 2) with rfl | rfl
    · exact ⟨_, _, _, by omega, by omega, fun e => by omega, fun b own c h lg d hb => e52_21 H h71 n h lg d hb z1 z2 k01 k02 k03 k04 k05 k06 k11 k12 k13 k14 k15 k16⟩
    · exact ⟨_, _, _, by omega, by omega, fun e => by omega, fun b own c h lg d hb => e52_22 H h71 n h lg d hb z1 z2 k01 k02 k03 k04 k05 k06 k11 k12 k13 k14 k15 k16⟩
  | @three x0 r0 d0 x1 r1 d1 x2 r2 d2 x3 r3 d3 k0 k1 k2 k3 =>
    obtain ⟨k01, k02, k03, k04, k05, k06⟩ := k0
    obtain ⟨k11, k12, k13, k14, k15, k16⟩ := k1
    obtain ⟨k21, k22, k23, k24, k25, k26⟩ := k2
    obtain ⟨k31, k32, k33, k34, k35, k36⟩ := k3
    rcases (by omega : f = 1 ∨ f = 2 ∨ f = 3) with rfl | rfl | rfl
    · exact ⟨_, _, _, by omega, by omega, fun e => by omega, fun b own c h lg d hb => e52_31 H h71 n h lg d hb z1 z2 k01 k02 k03 k04 k05 k06 k11 k12 k13 k14 k15 k16 k21 k22 k23 k24 k25 k26 k31 k32 k33 k34 k35 k36⟩
    · by_cases q : 1 + d2 < 1 + d1
      · exact ⟨_, _, _, by omega, by omega, fun e => by omega, fun b own c h lg d hb => e52_32a H h71 n h lg d hb z1 z2 k01 k02 k03 k04 k05 k06 k11 k12 k13 k14 k15 k16 k21 k22 k23 k24 k25 k26 k31 k32 k33 k34 k35 k36 q⟩
      · exact ⟨_, _, _, by omega, by omega, fun e => by omega, fun b own c h lg d hb => e52_32b H h71 n h lg d hb z1 z2 k01 k02 k03 k04 k05 k06 k11 k12 k13 k14 k15 k16 k21 k22 k23 k24 k25 k26 k31 k32 k33 k34 k35 k36 q⟩
    · exact ⟨_, _, _, by omega, by omega, fun e => by omega, fun b own c h lg d hb => e52_33 H h71 n h lg d hb z1 z2 k01 k02 k03 k04 k05 k06 k11 k12 k13 k14 k15 k16 k21 k22 k23 k24 k25 k26 k31 k32 k33 k34 k35 k36⟩

theorem PlanOK.two_three {k : Nat} {es : List (List AV)} (h : PlanOK k es) : k = 2 ∨ k = 3 := by cases h <;> simp

def H30 (sm : Summ) : Prop := ∀ (k : Nat) (es : List (List AV)) (f t z : Int) (b : Nat) (own : Bool) (c : Option Nat) (m : Mem), PlanOK k es → 1 ≤ f → f ≤ k → 1 ≤ t → t ≤ k → 1 ≤ z → z ≤ 100 → bget m.blks b = some (.row own 6 es) →
  sm 30 [.slice b 0 es.length c, .int .i64 f, .int .i64 t, .int .i64 0, .int .i64 z] m = some (.tuple [.bool true, .int .i64 0], m)
set_option maxHeartbeats 16000000 in
theorem e30 (hF : F 30 = some AF30) (h51 : F 51 = some AF51) (h66 : F 66 = some AF66) (h67 : F 67 = some AF67) (h68 : F 68 = some AF68) (h84 : F 84 = some AF84) (s30 : ∀ vs m, sm 30 vs m = none) (s51 : ∀ vs m, sm 51 vs m = none) (s66 : ∀ vs m, sm 66 vs m = none) (s67 : ∀ vs m, sm 67 vs m = none) (s68 : ∀ vs m, sm 68 vs m = none) (s84 : ∀ vs m, sm 84 vs m = none)
    (h45 : H45 sm) (h52 : H52 sm) (n : Nat) (h : Blks) (lg d : List Nat) {k : Nat} {es : List (List AV)} {f t z : Int} {b : Nat} {own : Bool} {c : Option Nat} (hP : PlanOK k es) (f1 : 1 ≤ f) (f2 : f ≤ k) (t1 : 1 ≤ t) (t2 : t ≤ k) (z1 : 1 ≤ z) (z2 : z ≤ 100) (hb : bget h b = some (.row own 6 es)) :
    Ev F meth sm (n + 9) 30 [.slice b 0 es.length c, .int .i64 f, .int .i64 t, .int .i64 0, .int .i64 z] ⟨h, lg, d⟩ (.tuple [.bool true, .int .i64 0]) := by
  refine Ev.of ?_
  have hlt := bget_lt hb
  have hk := hP.two_three
  have g1 := fun c m hm => h45 k es b own c m hP hm
  obtain ⟨x1, x2, x3, q1, q2, q3, g2⟩ := h52 k es f z hP f1 f2 z1 z2
  have g2 := fun c m hm => g2 b own c m hm
  have c1 : ¬ z < 1 := by omega
  have c2 : ¬ 1200 < z := by omega
  have c3 : f ≤ 16 := by omega
  have c4 : t ≤ 16 := by omega
  have n1 : (x1 == -1) = false := by rw [beq_eq_false_iff_ne]; omega
  have n2 : (x2 == -1) = false := by rw [beq_eq_false_iff_ne]; omega
  unfold arr at g2
  rcases (by omega : t = 1 ∨ t = 2 ∨ (t = 3 ∧ k = 3)) with rfl | rfl | ⟨rfl, rfl⟩
  · simp (config := { maxSteps := 1000000, implicitDefEqProofs := false }) only [acall, acode, aops, awanted, aoper, AOp.isCall, j0, j1, aprim, aev, tg_zn, tg_ln, tg_rn, ts_ze, ts_zn, ts_le, ts_ln, ts_re, ts_rn, tputs, aput, reduceCtorEq, j4, j5, abin, kindEq, binInt, j6, j9, AV.cells?, j12, Mem.apply, Mem.applyAll, acallee, aevs, j13, j14, aun, peq, peq1, j17, j18, Nat.ble, Nat.reduceDiv, Nat.reduceMod, Nat.reduceMul, Nat.reduceAdd, Nat.reduceLeDiff, j19, ares, aresL, ares1, j20, j21, Nat.beq, Pth.succ, j22, j23, j24, bin_a, bin_b, bputl, blen, bnth, Mem.killAll, j26, j27, j31, rowGet, rowGet0, j34, j35, j37, j51, j52, j54, j55, j56, j57, j59, j60, j61, j62, j63, j64, j65, refsL, refsLL, AV.refs, j66, j67, j68, j71, Int.reduceLT, Int.reduceLE, Int.reduceToNat, Int.reduceAdd, Int.reduceNeg, Nat.reduceLT, wrapI, j72, j73, j74, j79, fillE, j88, AOp.isMaker, j89, j90, adraw, Mem.more, j92, j93, j94, j95, mask, unmask, AOp.reads, AOpnd.top, AV.top, ins, nidOf, slotIn, j98, clash, j100, j103, j104, j106, j67, j66, bmore, j79, hF, h51, h66, h67, h68, h84, AF30, AF51, AF66, AF67, AF68, AF84, s30, s51, s66, s67, s68, s84, g1, g2, hb, hlt, nb_old, aloop, c1, c2, c3, c4, f1, n1]
    exact ⟨_, rfl, keep_bx (by repeat first | exact LogOK.nil | apply LogOK.cons)⟩
  · simp (config := { maxSteps := 1000000, implicitDefEqProofs := false }) only [acall, acode, aops, awanted, aoper, AOp.isCall, j0, j1, aprim, aev, tg_zn, tg_ln, tg_rn, ts_ze, ts_zn, ts_le, ts_ln, ts_re, ts_rn, tputs, aput, reduceCtorEq, j4, j5, abin, kindEq, binInt, j6, j9, AV.cells?, j12, Mem.apply, Mem.applyAll, acallee, aevs, j13, j14, aun, peq, peq1, j17, j18, Nat.ble, Nat.reduceDiv, Nat.reduceMod, Nat.reduceMul, Nat.reduceAdd, Nat.reduceLeDiff, j19, ares, aresL, ares1, j20, j21, Nat.beq, Pth.succ, j22, j23, j24, bin_a, bin_b, bputl, blen, bnth, Mem.killAll, j26, j27, j31, rowGet, rowGet0, j34, j35, j37, j51, j52, j54, j55, j56, j57, j59, j60, j61, j62, j63, j64, j65, refsL, refsLL, AV.refs, j66, j67, j68, j71, Int.reduceLT, Int.reduceLE, Int.reduceToNat, Int.reduceAdd, Int.reduceNeg, Nat.reduceLT, wrapI, j72, j73, j74, j79, fillE, j88, AOp.isMaker, j89, j90, adraw, Mem.more, j92, j93, j94, j95, mask, unmask, AOp.reads, AOpnd.top, AV.top, ins, nidOf, slotIn, j98, clash, j100, j103, j104, j106, j67, j66, bmore, j79, hF, h51, h66, h67, h68, h84, AF30, AF51, AF66, AF67, AF68, AF84, s30, s51, s66, s67, s68, s84, g1, g2, hb, hlt, nb_old, aloop, c1, c2, c3, c4, f1, n2]
    exact ⟨_, rfl, keep_bx (by repeat first | exact LogOK.nil | apply LogOK.cons)⟩
  · have n3 : (x3 == -1) = false := by have := q3 rfl; rw [beq_eq_false_iff_ne]; omega
    simp (config := { maxSteps := 1000000, implicitDefEqProofs := false }) only [acall, acode, aops, awanted, aoper, AOp.isCall, j0, j1, aprim, aev, tg_zn, tg_ln, tg_rn, ts_ze, ts_zn, ts_le, ts_ln, ts_re, ts_rn, tputs, aput, reduceCtorEq, j4, j5, abin, kindEq, binInt, j6, j9, AV.cells?, j12, Mem.apply, Mem.applyAll, acallee, aevs, j13, j14, aun, peq, peq1, j17, j18, Nat.ble, Nat.reduceDiv, Nat.reduceMod, Nat.reduceMul, Nat.reduceAdd, Nat.reduceLeDiff, j19, ares, aresL, ares1, j20, j21, Nat.beq, Pth.succ, j22, j23, j24, bin_a, bin_b, bputl, blen, bnth, Mem.killAll, j26, j27, j31, rowGet, rowGet0, j34, j35, j37, j51, j52, j54, j55, j56, j57, j59, j60, j61, j62, j63, j64, j65, refsL, refsLL, AV.refs, j66, j67, j68, j71, Int.reduceLT, Int.reduceLE, Int.reduceToNat, Int.reduceAdd, Int.reduceNeg, Nat.reduceLT, wrapI, j72, j73, j74, j79, fillE, j88, AOp.isMaker, j89, j90, adraw, Mem.more, j92, j93, j94, j95, mask, unmask, AOp.reads, AOpnd.top, AV.top, ins, nidOf, slotIn, j98, clash, j100, j103, j104, j106, j67, j66, bmore, j79, hF, h51, h66, h67, h68, h84, AF30, AF51, AF66, AF67, AF68, AF84, s30, s51, s66, s67, s68, s84, g1, g2, hb, hlt, nb_old, aloop, c1, c2, c3, c4, f1, n3]
    exact ⟨_, rfl, keep_bx (by repeat first | exact LogOK.nil | apply LogOK.cons)⟩
end
section
variable {F : FuncId → Option AFunc} {meth : Meth} {sm : Summ}

/-- A configuration that is made of numbers. -/
def cfg (i q w l re by_ w2 w3 rd bst : Int) : List AV := [.int .i64 i, .int .u64 q, .int .u64 100, .int .u64 w, .int .u64 l, .int .i64 re, .int .i64 10, .int .i64 by_, .int .i64 1, .int .i64 w2, .int .i64 w3, .int .i64 100, .int .i64 rd, .int .i64 bst, .int .i64 1024, .int .i64 100]
structure CfgOK (q w l re by_ w2 w3 rd bst : Int) : Prop where
  g1 : 1200 ≤ q
  g2 : q ≤ 2698
  g3 : 60 ≤ w
  g4 : w ≤ 259
  g5 : 0 ≤ l
  g6 : l ≤ 49
  g7 : 1 ≤ re
  g8 : re ≤ 4
  g9 : 0 ≤ by_
  g10 : by_ ≤ 2
  g11 : 1 ≤ w2
  g12 : w2 ≤ 2
  g13 : 1 ≤ w3
  g14 : w3 ≤ 3
  g15 : 1 ≤ rd
  g16 : rd ≤ 2
  g17 : 200 ≤ bst
  g18 : bst ≤ 499
def H44 (sm : Summ) : Prop := ∀ (i q w l re by_ w2 w3 rd bst : Int) (m : Mem), 1 ≤ i → i ≤ 3 → CfgOK q w l re by_ w2 w3 rd bst → sm 44 [.agg (cfg i q w l re by_ w2 w3 rd bst)] m = some (.int .i64 0, m)
set_option maxHeartbeats 16000000 in
theorem e44 (hF : F 44 = some AF44) (h54 : F 54 = some AF54) (h55 : F 55 = some AF55) (s44 : ∀ vs m, sm 44 vs m = none) (s54 : ∀ vs m, sm 54 vs m = none) (s55 : ∀ vs m, sm 55 vs m = none) (n : Nat) (h : Blks) (lg d : List Nat) {i q w l re by_ w2 w3 rd bst : Int} (i1 : 1 ≤ i) (i2 : i ≤ 3) (C : CfgOK q w l re by_ w2 w3 rd bst) :
    Ev F meth sm (n + 16) 44 [.agg (cfg i q w l re by_ w2 w3 rd bst)] ⟨h, lg, d⟩ (.int .i64 0) := by
  refine Ev.of ?_
  obtain ⟨q1, q2, w1, w22, l1, l2, r1, r2, b1, b2, x1, x2, y1, y2, d1, d2, u1, u2⟩ := C
  have c1 : ¬ i < 1 := by omega
  have c2 : ¬ 16 < i := by omega
  have c3 : ¬ re < 1 := by omega
  have c4 : ¬ 1000 < re := by omega
  have c5 : ¬ 10 < re := by omega
  have c6 : ¬ by_ < 0 := by omega
  have c7 : ¬ 100 < by_ := by omega
  have c8 : ¬ rd < 1 := by omega
  have c9 : ¬ 1048576 < rd := by omega
  have c10 : ¬ bst < 1 := by omega
  have c11 : ¬ 1099511627776 < bst := by omega
  have c12 : ¬ w2 < 1 := by omega
  have c13 : ¬ 100 < w2 := by omega
  have c14 : ¬ w3 < 1 := by omega
  have c15 : ¬ 100 < w3 := by omega
  have c16 : ¬ q < 1 := by omega
  have c17 : ¬ 1099511627776 < q := by omega
  have c18 : ¬ w < 0 := by omega
  have c19 : ¬ q < w := by omega
  have c20 : ¬ l < 0 := by omega
  have c21 : ¬ q < l := by omega
  simp (config := { maxSteps := 1000000, implicitDefEqProofs := false }) only [acall, acode, aops, awanted, aoper, AOp.isCall, j0, j1, aprim, aev, tg_zn, tg_ln, tg_rn, ts_ze, ts_zn, ts_le, ts_ln, ts_re, ts_rn, tputs, aput, reduceCtorEq, j4, j5, abin, kindEq, binInt, j6, j9, j10, AV.cells?, j12, Mem.apply, Mem.applyAll, acallee, aevs, j13, j14, j16, aun, j17, j18, Nat.ble, Nat.reduceDiv, Nat.reduceMod, Nat.reduceMul, Nat.reduceAdd, Nat.reduceLeDiff, j19, ares, aresL, ares1, j20, j21, Nat.beq, j22, j23, j24, bin_a, bin_b, bin_c, bputl, blen, bnth, Mem.killAll, j26, j27, j29, j31, rowGet, rowGet0, rowSet, rowSet0, chunk, j34, j35, j37, j51, j52, j54, j55, j56, j57, j58, j59, j60, j61, j62, j63, j64, j65, refsL, refsLL, AV.refs, j66, j67, ne_eq, j68, j69, j71, Int.reduceLT, Int.reduceLE, Int.reduceToNat, Int.reduceAdd, Int.reduceNeg, Nat.reduceLT, Nat.reduceEqDiff, wrapI, j72, j74, j79, aappend, elemsOf, winGet, roomMost, j80, j85, fillC, fillE, j88, AOp.isMaker, j89, j90, adraw, Mem.more, j92, j93, j94, j95, mask, unmask, AOp.reads, AOpnd.top, AV.top, ins, j96, nidOf, slotIn, j98, clash, j100, j103, j104, j105, j106, j67, j66, bmore, j79, hF, h54, h55, AF44, AF54, AF55, s44, s54, s55, cfg, aloop, c1, c2, c3, c4, c5, c6, c7, c8, c9, c10, c11, c12, c13, c14, c15, c16, c17, c18, c19, c20, c21]
  exact ⟨_, rfl, keep_bx (by repeat first | exact LogOK.nil | apply LogOK.cons)⟩

/-- The configurations of two or three nodes. -/
inductive CfgsOK : Nat → List (List AV) → Prop
  | two {q w l re by_ w2 w3 rd bst q' w' l' re' by' w2' w3' rd' bst' : Int} : CfgOK q w l re by_ w2 w3 rd bst → CfgOK q' w' l' re' by' w2' w3' rd' bst' → CfgsOK 2 [cfg 1 q w l re by_ w2 w3 rd bst, cfg 2 q' w' l' re' by' w2' w3' rd' bst']
  | three {q w l re by_ w2 w3 rd bst q' w' l' re' by' w2' w3' rd' bst' q2 w_2 l2 re2 by2 w22 w32 rd2 bst2 : Int} : CfgOK q w l re by_ w2 w3 rd bst → CfgOK q' w' l' re' by' w2' w3' rd' bst' → CfgOK q2 w_2 l2 re2 by2 w22 w32 rd2 bst2 →
      CfgsOK 3 [cfg 1 q w l re by_ w2 w3 rd bst, cfg 2 q' w' l' re' by' w2' w3' rd' bst', cfg 3 q2 w_2 l2 re2 by2 w22 w32 rd2 bst2]
theorem CfgsOK.len {k : Nat} {es : List (List AV)} (h : CfgsOK k es) : es.length = k := by cases h <;> rfl
theorem CfgsOK.two_three {k : Nat} {es : List (List AV)} (h : CfgsOK k es) : k = 2 ∨ k = 3 := by cases h <;> simp
def H49 (sm : Summ) (g : FuncId) : Prop := ∀ (k : Nat) (es : List (List AV)) (x : Int) (b p : Nat) (own own' : Bool) (c : Option Nat) (m : Mem), CfgsOK k es → 1 ≤ x → x ≤ k → bget m.blks b = some (.row own 16 es) → bget m.blks p = some (.row own' 1 [[.int .i64 x]]) →
  sm 49 [.slice b 0 k c, .func g [] [.ptr p 0 0]] m = some (.bool true, m)
set_option maxHeartbeats 16000000 in
theorem e49 {g : FuncId} (hg : (g = 61 ∧ F 61 = some AF61 ∧ ∀ vs m, sm 61 vs m = none) ∨ (g = 50 ∧ F 50 = some AF50 ∧ ∀ vs m, sm 50 vs m = none)) (hF : F 49 = some AF49) (h65 : F 65 = some AF65) (s49 : ∀ vs m, sm 49 vs m = none) (s65 : ∀ vs m, sm 65 vs m = none) (n : Nat) (h : Blks) (lg d : List Nat) {k : Nat} {es : List (List AV)} {x : Int} {b p : Nat} {own own' : Bool} {c : Option Nat}
    (hC : CfgsOK k es) (x1 : 1 ≤ x) (x2 : x ≤ k) (hb : bget h b = some (.row own 16 es)) (hp : bget h p = some (.row own' 1 [[.int .i64 x]])) :
    Ev F meth sm (n + 8) 49 [.slice b 0 k c, .func g [] [.ptr p 0 0]] ⟨h, lg, d⟩ (.bool true) := by
  refine Ev.of ?_
  have hlt := bget_lt hb
  have hlp := bget_lt hp
  rcases hg with ⟨rfl, hG, hS⟩ | ⟨rfl, hG, hS⟩ <;> cases hC
  · rcases (by omega : x = 1 ∨ x = 2) with rfl | rfl
    all_goals
      unfold cfg at hb
      simp (config := { maxSteps := 1000000, implicitDefEqProofs := false }) only [acall, acode, aops, awanted, aoper, AOp.isCall, j0, j1, aprim, aev, tg_zn, tg_ln, tg_rn, ts_ze, ts_zn, ts_le, ts_ln, ts_rn, tputs, aput, j4, j5, abin, kindEq, binInt, j6, j9, AV.cells?, j12, Mem.apply, Mem.applyAll, acallee, aevs, j13, j14, j16, peq, peq1, j17, j18, Nat.ble, Nat.reduceDiv, Nat.reduceMod, Nat.reduceMul, Nat.reduceAdd, Nat.reduceLeDiff, j19, ares, aresL, ares1, j20, j21, Pth.succ, j22, j23, j24, bin_a, bin_c, bputl, blen, bnth, Mem.killAll, j26, j31, rowGet, rowGet0, chunk, j34, j35, j37, j51, j52, j54, j55, j56, j57, j59, j60, j61, j64, j65, refsL, AV.refs, j66, j67, j68, j71, Int.reduceLT, Int.reduceLE, Int.reduceToNat, Int.reduceAdd, Int.reduceBEq, Int.reduceNeg, Nat.reduceLT, wrapI, j73, j74, j79, AOp.isMaker, adraw, Mem.more, j92, j93, j94, j95, mask, unmask, AOp.reads, AOpnd.top, AV.top, ins, nidOf, slotIn, j98, clash, j100, j101, j102, j103, j104, j105, j106, j67, j66, bmore, j79, hF, h65, hG, AF49, AF65, AF61, s49, s65, hS, hb, hp, hlt, hlp, nb_old, aloop]
      exact ⟨_, rfl, keep_bx (by repeat first | exact LogOK.nil | apply LogOK.cons)⟩
  · rcases (by omega : x = 1 ∨ x = 2 ∨ x = 3) with rfl | rfl | rfl
    all_goals
      unfold cfg at hb
      simp (config := { maxSteps := 1000000, implicitDefEqProofs := false }) only [acall, acode, aops, awanted, aoper, AOp.isCall, j0, j1, aprim, aev, tg_zn, tg_ln, tg_rn, ts_ze, ts_zn, ts_le, ts_ln, ts_rn, tputs, aput, j4, j5, abin, kindEq, binInt, j6, j9, AV.cells?, j12, Mem.apply, Mem.applyAll, acallee, aevs, j13, j14, j16, peq, peq1, j17, j18, Nat.ble, Nat.reduceDiv, Nat.reduceMod, Nat.reduceMul, Nat.reduceAdd, Nat.reduceLeDiff, j19, ares, aresL, ares1, j20, j21, Pth.succ, j22, j23, j24, bin_a, bin_c, bputl, blen, bnth, Mem.killAll, j26, j31, rowGet, rowGet0, chunk, j34, j35, j37, j51, j52, j54, j55, j56, j57, j59, j60, j61, j64, j65, refsL, AV.refs, j66, j67, j68, j71, Int.reduceLT, Int.reduceLE, Int.reduceToNat, Int.reduceAdd, Int.reduceBEq, Int.reduceNeg, Nat.reduceLT, wrapI, j73, j74, j79, AOp.isMaker, adraw, Mem.more, j92, j93, j94, j95, mask, unmask, AOp.reads, AOpnd.top, AV.top, ins, nidOf, slotIn, j98, clash, j100, j101, j102, j103, j104, j105, j106, j67, j66, bmore, j79, hF, h65, hG, AF49, AF65, AF61, s49, s65, hS, hb, hp, hlt, hlp, nb_old, aloop]
      exact ⟨_, rfl, keep_bx (by repeat first | exact LogOK.nil | apply LogOK.cons)⟩
  · rcases (by omega : x = 1 ∨ x = 2) with rfl | rfl
    all_goals
      unfold cfg at hb
      simp (config := { maxSteps := 1000000, implicitDefEqProofs := false }) only [acall, acode, aops, awanted, aoper, AOp.isCall, j0, j1, aprim, aev, tg_zn, tg_ln, tg_rn, ts_ze, ts_zn, ts_le, ts_ln, ts_rn, tputs, aput, j4, j5, abin, kindEq, binInt, j6, j9, AV.cells?, j12, Mem.apply, Mem.applyAll, acallee, aevs, j13, j14, j16, peq, peq1, j17, j18, Nat.ble, Nat.reduceDiv, Nat.reduceMod, Nat.reduceMul, Nat.reduceAdd, Nat.reduceLeDiff, j19, ares, aresL, ares1, j20, j21, Pth.succ, j22, j23, j24, bin_a, bin_c, bputl, blen, bnth, Mem.killAll, j26, j31, rowGet, rowGet0, chunk, j34, j35, j37, j51, j52, j54, j55, j56, j57, j59, j60, j61, j64, j65, refsL, AV.refs, j66, j67, j68, j71, Int.reduceLT, Int.reduceLE, Int.reduceToNat, Int.reduceAdd, Int.reduceBEq, Int.reduceNeg, Nat.reduceLT, wrapI, j73, j74, j79, AOp.isMaker, adraw, Mem.more, j92, j93, j94, j95, mask, unmask, AOp.reads, AOpnd.top, AV.top, ins, nidOf, slotIn, j98, clash, j100, j101, j102, j103, j104, j105, j106, j67, j66, bmore, j79, hF, h65, hG, AF49, AF65, AF50, s49, s65, hS, hb, hp, hlt, hlp, nb_old, aloop]
      exact ⟨_, rfl, keep_bx (by repeat first | exact LogOK.nil | apply LogOK.cons)⟩
  · rcases (by omega : x = 1 ∨ x = 2 ∨ x = 3) with rfl | rfl | rfl
    all_goals
      unfold cfg at hb
      simp (config := { maxSteps := 1000000, implicitDefEqProofs := false }) only [acall, acode, aops, awanted, aoper, AOp.isCall, j0, j1, aprim, aev, tg_zn, tg_ln, tg_rn, ts_ze, ts_zn, ts_le, ts_ln, ts_rn, tputs, aput, j4, j5, abin, kindEq, binInt, j6, j9, AV.cells?, j12, Mem.apply, Mem.applyAll, acallee, aevs, j13, j14, j16, peq, peq1, j17, j18, Nat.ble, Nat.reduceDiv, Nat.reduceMod, Nat.reduceMul, Nat.reduceAdd, Nat.reduceLeDiff, j19, ares, aresL, ares1, j20, j21, Pth.succ, j22, j23, j24, bin_a, bin_c, bputl, blen, bnth, Mem.killAll, j26, j31, rowGet, rowGet0, chunk, j34, j35, j37, j51, j52, j54, j55, j56, j57, j59, j60, j61, j64, j65, refsL, AV.refs, j66, j67, j68, j71, Int.reduceLT, Int.reduceLE, Int.reduceToNat, Int.reduceAdd, Int.reduceBEq, Int.reduceNeg, Nat.reduceLT, wrapI, j73, j74, j79, AOp.isMaker, adraw, Mem.more, j92, j93, j94, j95, mask, unmask, AOp.reads, AOpnd.top, AV.top, ins, nidOf, slotIn, j98, clash, j100, j101, j102, j103, j104, j105, j106, j67, j66, bmore, j79, hF, h65, hG, AF49, AF65, AF50, s49, s65, hS, hb, hp, hlt, hlp, nb_old, aloop]
      exact ⟨_, rfl, keep_bx (by repeat first | exact LogOK.nil | apply LogOK.cons)⟩
end
section
variable {F : FuncId → Option AFunc} {meth : Meth} {sm : Summ}
def usesR : List (List AV) := [
  [(.str []), (.bool false), (.bool false), (.int .i64 0), (.int .i64 0), (.int .i64 0), (.int .i64 0), (.bool false)],
  [(.str [115, 117, 98, 109, 105, 116]), (.bool true), (.bool false), (.int .i64 0), (.int .i64 (-1)), (.int .i64 (-1)), (.int .i64 (-1)), (.bool true)],
  [(.str [111, 112, 101, 110]), (.bool true), (.bool true), (.int .i64 0), (.int .i64 (-1)), (.int .i64 (-1)), (.int .i64 (-1)), (.bool false)],
  [(.str [99, 108, 111, 115, 101]), (.bool true), (.bool true), (.int .i64 0), (.int .i64 (-1)), (.int .i64 (-1)), (.int .i64 (-1)), (.bool false)],
  [(.str [116, 105, 99, 107]), (.bool false), (.bool false), (.int .i64 1), (.int .i64 1000), (.int .i64 (-1)), (.int .i64 (-1)), (.bool false)],
  [(.str [100, 101, 108, 105, 118, 101, 114]), (.bool true), (.bool true), (.int .i64 0), (.int .i64 63), (.int .i64 (-1)), (.int .i64 (-1)), (.bool false)],
  [(.str [108, 111, 115, 101]), (.bool true), (.bool true), (.int .i64 0), (.int .i64 63), (.int .i64 (-1)), (.int .i64 (-1)), (.bool false)],
  [(.str [100, 111, 117, 98, 108, 101]), (.bool true), (.bool true), (.int .i64 0), (.int .i64 63), (.int .i64 (-1)), (.int .i64 (-1)), (.bool false)],
  [(.str [115, 119, 97, 112]), (.bool true), (.bool true), (.int .i64 0), (.int .i64 63), (.int .i64 63), (.int .i64 (-1)), (.bool false)],
  [(.str [115, 112, 111, 105, 108]), (.bool true), (.bool true), (.int .i64 0), (.int .i64 63), (.int .i64 1199), (.int .i64 255), (.bool false)],
  [(.str [99, 117, 116]), (.bool true), (.bool true), (.int .i64 0), (.int .i64 63), (.int .i64 1199), (.int .i64 (-1)), (.bool false)],
  [(.str [99, 114, 97, 115, 104]), (.bool true), (.bool false), (.int .i64 0), (.int .i64 (-1)), (.int .i64 (-1)), (.int .i64 (-1)), (.bool false)],
  [(.str [116, 114, 105, 112]), (.bool true), (.bool false), (.int .i64 0), (.int .i64 1000), (.int .i64 262144), (.int .i64 (-1)), (.bool false)],
  [(.str [114, 101, 115, 116, 97, 114, 116]), (.bool true), (.bool false), (.int .i64 0), (.int .i64 (-1)), (.int .i64 (-1)), (.int .i64 (-1)), (.bool false)],
  [(.str [100, 114, 97, 105, 110]), (.bool false), (.bool false), (.int .i64 1), (.int .i64 1000), (.int .i64 (-1)), (.int .i64 (-1)), (.bool false)]]

/-- A command that submits a bundle. -/
def cmd (node seq dest prio life : Int) (s : List UInt8) : List AV := [.int .i64 1, .int .i64 node, .int .i64 0, .int .i64 0, .int .i64 0, .int .i64 0, .int .i64 node, .int .u64 seq, .int .i64 0, .int .i64 dest, .int .i64 prio, .int .i64 0, .int .i64 life, .int .i64 s.length, .str s]
def H46 (sm : Summ) : Prop := ∀ (k : Nat) (es : List (List AV)) (node seq dest prio life : Int) (s : List UInt8) (b : Nat) (own : Bool) (c : Option Nat) (X Y : AV) (m : Mem), CfgsOK k es → BuOK node seq dest prio life s → node ≤ k → X.scalar = true → Y.scalar = true → bget m.blks b = some (.row own 16 es) → bget m.blks 0 = some (.row false 8 usesR) →
  sm 46 [.agg [.slice b 0 k c, X, Y], .agg (cmd node seq dest prio life s)] m = some (.int .i64 0, m)
set_option maxHeartbeats 16000000 in
theorem e46 (hF : F 46 = some AF46) (h59 : F 59 = some AF59) (h60 : F 60 = some AF60) (h76 : F 76 = some AF76) (h77 : F 77 = some AF77) (s46 : ∀ vs m, sm 46 vs m = none) (s59 : ∀ vs m, sm 59 vs m = none) (s60 : ∀ vs m, sm 60 vs m = none) (s76 : ∀ vs m, sm 76 vs m = none) (s77 : ∀ vs m, sm 77 vs m = none)
    (h49 : H49 sm 61) (h62 : H62 sm) (n : Nat) (h : Blks) (lg d : List Nat) {k : Nat} {es : List (List AV)} {node seq dest prio life : Int} {s : List UInt8} {b : Nat} {own : Bool} {c : Option Nat} {X Y : AV} (hC : CfgsOK k es) (B : BuOK node seq dest prio life s) (hn : node ≤ k) (hX : X.scalar = true) (hY : Y.scalar = true) (hb : bget h b = some (.row own 16 es)) (hT : bget h 0 = some (.row false 8 usesR)) :
    Ev F meth sm (n + 6) 46 [.agg [.slice b 0 k c, X, Y], .agg (cmd node seq dest prio life s)] ⟨h, lg, d⟩ (.int .i64 0) := by
  refine Ev.of ?_
  have hlt := bget_lt hb
  have hl0 := bget_lt hT
  have g1 := fun p m hm hp => h49 k es node b p own true c m hC B.n1 hn hm hp
  have g2 := fun m => h62 node seq dest prio life s m B
  have c1 := B.n1
  have c2 : node ≤ 16 := by have := B.n2; omega
  unfold bu at g2
  unfold usesR at hT
  simp (config := { maxSteps := 1000000, implicitDefEqProofs := false }) only [acall, acode, aops, awanted, aoper, AOp.isCall, j0, j1, aprim, aev, tg_zn, tg_ln, tg_rn, ts_ze, ts_zn, ts_le, ts_ln, ts_rn, tputs, aput, reduceCtorEq, j4, j5, abin, kindEq, binInt, j6, j9, j10, AV.cells?, j12, Mem.apply, Mem.applyAll, acallee, aevs, j13, j14, j16, aun, peq, peq1, j17, j18, Nat.ble, Nat.reduceDiv, Nat.reduceMod, Nat.reduceMul, Nat.reduceAdd, Nat.reduceLeDiff, j19, ares, aresL, ares1, j20, j21, Nat.beq, Pth.succ, j22, j23, j24, bin_a, bin_b, bin_c, bputl, blen, bnth, Mem.killAll, j26, j27, j31, j32, j33, rowGet, rowGet0, rowSet, rowSet0, chunk, j34, j35, j36, j37, j38, j43, j51, j52, j54, j55, j56, j57, j58, j59, j60, j61, j62, j64, j65, refsL, AV.refs, j66, j67, j68, Int.reduceLT, Int.reduceToNat, Int.reduceNeg, Nat.reduceLT, Nat.reduceEqDiff, j72, j73, j74, j79, j85, AOp.isMaker, adraw, Mem.more, j92, j93, j94, j95, mask, unmask, AOp.reads, AOpnd.top, AV.top, ins, j96, nidOf, slotIn, j98, clash, j100, j101, j103, j104, j105, j106, j107, j67, j66, bmore, j79, hF, h59, h60, h76, h77, AF46, AF59, AF60, AF76, AF77, s46, s59, s60, s76, s77, cmd, g1, g2, hb, hT, hlt, hl0, hX, hY, nb_old, nb_beq_ne, c1, c2]
  exact ⟨_, rfl, keep_bx (by repeat first | exact LogOK.nil | apply LogOK.cons)⟩
end
end Go.Proofs.YtcphofamajcimaaDoor
end
