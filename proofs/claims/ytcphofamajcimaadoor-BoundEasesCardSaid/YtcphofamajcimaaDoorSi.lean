/- Functions of the program on symbolic values: part Si.
   Conditions: none; these are lemmas. -/
import Derived.Test.YtcphofamajcimaaDoorSe
import Derived.Test.YtcphofamajcimaaDoorSy
noncomputable section
namespace Go.Proofs.YtcphofamajcimaaDoor
open Go Go.Abs
set_option maxRecDepth 100000
set_option linter.unusedSimpArgs false
set_option linter.unusedVariables false
section
variable {F : FuncId → Option AFunc} {meth : Meth} {sm : Summ}

/-- What the law does behind what was made. -/
def Rest (F : FuncId → Option AFunc) (meth : Meth) (sm : Summ) (n : Nat) (N : AV) (a x : Int) (h h' : Blks) (lg lg' d : List Nat) (k np : Nat) (b1 b2 : Nat) (M : AV) : Prop :=
  sm 5 [N] ⟨bxt h [], lg, []⟩ = some (.agg [.slice b1 0 k none, .slice b2 0 np none, M], ⟨bxt h' [], lg', []⟩) →
  ∃ m', acall F meth sm n (.fn 3) [N, .int .i64 a, .int .i64 x] ⟨bxt h [], lg, d⟩ = some (.bool true, m')
end
section
variable {F : FuncId → Option AFunc} {meth : Meth} {sm : Summ}
set_option maxHeartbeats 64000000 in
theorem e3_20 (hF : F 3 = some AF3) (h6 : F 6 = some AF6) (h14 : F 14 = some AF14) (s3 : ∀ vs m, sm 3 vs m = none) (s6 : ∀ vs m, sm 6 vs m = none) (s14 : ∀ vs m, sm 14 vs m = none) (h7 : H7 sm) (h8 : H8 sm) (h9 : ∀ m : Mem, bget m.blks 0 = some (.row false 8 usesR) → bget m.blks 1 = some (.row false 1 headsR) → sm 9 [] m = some (.bool true, m)) (n : Nat) (h h' : Blks) (lg lg' d : List Nat) {N M : AV} {a x : Int} {q w l re by_ w2 w3 rd bst q' w' l' re' by' w2' w3' rd' bst' x0 r0 d0 x1 r1 d1 : Int} {b1 b2 : Nat} (hN : N.scalar = true)
    (S : Sc h' 2 [cfg 1 q w l re by_ w2 w3 rd bst, cfg 2 q' w' l' re' by' w2' w3' rd' bst'] [ct 1 2 0 x0 r0 d0, ct 2 1 0 x1 r1 d1] [] b1 b2 true true M) (hM : M = .nilslice ∨ M = .slice0) (C0 : CfgOK q w l re by_ w2 w3 rd bst) (Q0 : q ≤ 1699) (C1 : CfgOK q' w' l' re' by' w2' w3' rd' bst') (Q1 : q' ≤ 1699) :
    Rest F meth sm (n + 8) N a x h h' lg lg' d 2 2 b1 b2 M := by
  intro g5
  have hP := S.hP
  have hb1 := S.hb1
  have hb2 := S.hb2
  have hT0 := S.h0
  have hT1 := S.h1
  have hl1 := bget_lt hb1
  have hl2 := bget_lt hb2
  have hlT0 := bget_lt hT0
  have hlT1 := bget_lt hT1
  have g7x := fun m => h7 x 1000 m (by omega) (by omega)
  have xl := md_lo (a := x) (n := 1000) (by omega)
  have xh := md_hi (a := x) (n := 1000) (by omega)
  generalize md x 1000 = w0 at g7x xl xh
  have ww : IntKind.u64.wrap w0 = w0 := wrapU (by omega) (by omega)
  have g7k := fun m => h7 a 2 m (by omega) (by omega)
  have kl := md_lo (a := a) (n := 2) (by omega)
  have kh := md_hi (a := a) (n := 2) (by omega)
  have y0 : IntKind.u64.wrap (q + w0) = q + w0 := by have := C0.g1; exact wrapU (by omega) (by omega)
  have D0 : CfgOK (q + w0) w l re by_ w2 w3 rd bst := by have c := C0; exact ⟨by have := c.g1; omega, by omega, c.g3, c.g4, c.g5, c.g6, c.g7, c.g8, c.g9, c.g10, c.g11, c.g12, c.g13, c.g14, c.g15, c.g16, c.g17, c.g18⟩
  have y1 : IntKind.u64.wrap (q' + w0) = q' + w0 := by have := C1.g1; exact wrapU (by omega) (by omega)
  have D1 : CfgOK (q' + w0) w' l' re' by' w2' w3' rd' bst' := by have c := C1; exact ⟨by have := c.g1; omega, by omega, c.g3, c.g4, c.g5, c.g6, c.g7, c.g8, c.g9, c.g10, c.g11, c.g12, c.g13, c.g14, c.g15, c.g16, c.g17, c.g18⟩
  have gS := fun m (hS : Sc m.blks 2 [cfg 1 q w l re by_ w2 w3 rd bst, cfg 2 q' w' l' re' by' w2' w3' rd' bst'] [ct 1 2 0 x0 r0 d0, ct 2 1 0 x1 r1 d1] [] b1 b2 true true M) => h8 2 [cfg 1 q w l re by_ w2 w3 rd bst, cfg 2 q' w' l' re' by' w2' w3' rd' bst'] [ct 1 2 0 x0 r0 d0, ct 2 1 0 x1 r1 d1] [] b1 b2 true true none none M m hS
  have gSS : ∀ L, Sc (bxt h' L) 2 [cfg 1 q w l re by_ w2 w3 rd bst, cfg 2 q' w' l' re' by' w2' w3' rd' bst'] [ct 1 2 0 x0 r0 d0, ct 2 1 0 x1 r1 d1] [] b1 b2 true true M := fun L => S.old Old.bx
  have gt0 := fun (p1 p2 : Nat) (m : Mem) (z1 : bget m.blks p1 = some (.row true 16 [cfg 1 q w l re by_ w2 w3 rd bst, cfg 2 q' w' l' re' by' w2' w3' rd' bst'])) (z2 : bget m.blks p2 = some (.row true 6 [ct 1 2 0 x0 r0 d0, ct 2 1 0 x1 r1 d1])) (z4 : bget m.blks 0 = some (.row false 8 usesR)) (z5 : bget m.blks 1 = some (.row false 1 headsR)) =>
    h8 2 [cfg 1 q w l re by_ w2 w3 rd bst, cfg 2 q' w' l' re' by' w2' w3' rd' bst'] [ct 1 2 0 x0 r0 d0, ct 2 1 0 x1 r1 d1] [] p1 p2 true true none none .slice0 m ⟨CfgsOK.two C0 C1, hP, by simp, by simp, z1, z2, .inl ⟨rfl, .inr rfl⟩, z4, z5⟩
  have gu0 := fun (p1 p2 : Nat) (m : Mem) (z1 : bget m.blks p1 = some (.row true 16 [cfg 1 (q + w0) w l re by_ w2 w3 rd bst, cfg 2 q' w' l' re' by' w2' w3' rd' bst'])) (z2 : bget m.blks p2 = some (.row true 6 [ct 1 2 0 x0 r0 d0, ct 2 1 0 x1 r1 d1])) (z4 : bget m.blks 0 = some (.row false 8 usesR)) (z5 : bget m.blks 1 = some (.row false 1 headsR)) =>
    h8 2 [cfg 1 (q + w0) w l re by_ w2 w3 rd bst, cfg 2 q' w' l' re' by' w2' w3' rd' bst'] [ct 1 2 0 x0 r0 d0, ct 2 1 0 x1 r1 d1] [] p1 p2 true true none none .slice0 m ⟨CfgsOK.two D0 C1, hP, by simp, by simp, z1, z2, .inl ⟨rfl, .inr rfl⟩, z4, z5⟩
  have gu1 := fun (p1 p2 : Nat) (m : Mem) (z1 : bget m.blks p1 = some (.row true 16 [cfg 1 q w l re by_ w2 w3 rd bst, cfg 2 (q' + w0) w' l' re' by' w2' w3' rd' bst'])) (z2 : bget m.blks p2 = some (.row true 6 [ct 1 2 0 x0 r0 d0, ct 2 1 0 x1 r1 d1])) (z4 : bget m.blks 0 = some (.row false 8 usesR)) (z5 : bget m.blks 1 = some (.row false 1 headsR)) =>
    h8 2 [cfg 1 q w l re by_ w2 w3 rd bst, cfg 2 (q' + w0) w' l' re' by' w2' w3' rd' bst'] [ct 1 2 0 x0 r0 d0, ct 2 1 0 x1 r1 d1] [] p1 p2 true true none none .slice0 m ⟨CfgsOK.two C0 D1, hP, by simp, by simp, z1, z2, .inl ⟨rfl, .inr rfl⟩, z4, z5⟩
  simp only [cfg, ct, List.length_cons, List.length_nil, Nat.zero_add, Nat.reduceAdd] at hb1 hb2 gS gSS gt0 gu0 gu1
  rcases hM with rfl | rfl
  all_goals rcases (by omega : md a 2 = 0 ∨ md a 2 = 1) with e | e
  all_goals
    rw [e] at g7k
    simp (config := { maxSteps := 1000000, implicitDefEqProofs := false }) only [acall, acode, aops, awanted, aoper, AOp.isCall, j0, j1, aprim, aev, tg_zn, tg_ln, tg_rn, ts_ze, ts_zn, ts_le, ts_ln, ts_re, ts_rn, tputs, aput, reduceCtorEq, j4, j5, abin, kindEq, binInt, j6, j9, j10, AV.cells?, j12, Mem.apply, Mem.applyAll, acallee, aevs, j13, j14, j16, j17, j18, Nat.ble, Nat.reduceDiv, Nat.reduceMod, Nat.reduceMul, Nat.reduceAdd, Nat.reduceLeDiff, j19, ares, aresL, ares1, j20, j21, Nat.beq, Pth.succ, j22, j23, j24, bin_a, bin_b, bin_c, bputl, blen, bnth, Mem.killAll, j26, j27, j31, rowGet, rowGet0, rowSet, rowSet0, chunk, j34, j35, j37, j41, j42, j43, j51, j52, j54, j55, j56, j57, j58, j59, j60, j61, j62, j63, j64, j65, refsL, refsLL, AV.refs, j66, j67, j68, j71, Int.reduceLT, Int.reduceToNat, Nat.reduceLT, Nat.reduceEqDiff, j72, j74, j79, aappend, elemsOf, winGet, roomMost, j85, fillC, fillE, j87, AOp.isMaker, j90, adraw, Mem.more, j92, j93, j94, j95, mask, unmask, AOp.reads, AOpnd.top, AV.top, ins, j96, j97, nidOf, slotIn, j98, j99, clash, j100, j101, j102, j103, j104, j105, j106, j107, j67, j66, bmore, j79, hF, h6, h14, AF3, AF6, AF14, s3, s6, s14, h9, hb1, hb2, hT0, hT1, hl1, hl2, hlT0, hlT1, g5, g7x, ww, g7k, gS, y0, y1, gSS, gt0, gu0, gu1, nb_old, roomMost]
    exact ⟨_, rfl⟩
end
section
variable {F : FuncId → Option AFunc} {meth : Meth} {sm : Summ}
set_option maxHeartbeats 64000000 in
theorem e3_21 (hF : F 3 = some AF3) (h6 : F 6 = some AF6) (h14 : F 14 = some AF14) (s3 : ∀ vs m, sm 3 vs m = none) (s6 : ∀ vs m, sm 6 vs m = none) (s14 : ∀ vs m, sm 14 vs m = none) (h7 : H7 sm) (h8 : H8 sm) (h9 : ∀ m : Mem, bget m.blks 0 = some (.row false 8 usesR) → bget m.blks 1 = some (.row false 1 headsR) → sm 9 [] m = some (.bool true, m)) (n : Nat) (h h' : Blks) (lg lg' d : List Nat) {N M : AV} {a x : Int} {q w l re by_ w2 w3 rd bst q' w' l' re' by' w2' w3' rd' bst' x0 r0 d0 x1 r1 d1 : Int} {m0 : Cm} {b1 b2 : Nat} (hN : N.scalar = true)
    (S : Sc h' 2 [cfg 1 q w l re by_ w2 w3 rd bst, cfg 2 q' w' l' re' by' w2' w3' rd' bst'] [ct 1 2 0 x0 r0 d0, ct 2 1 0 x1 r1 d1] [m0] b1 b2 true true M) {b3 : Nat} {own3 : Bool} {c3 : Option Nat} (hM : M = .slice b3 0 1 c3) (hb3 : bget h' b3 = some (.row own3 15 [m0.av])) (C0 : CfgOK q w l re by_ w2 w3 rd bst) (Q0 : q ≤ 1699) (C1 : CfgOK q' w' l' re' by' w2' w3' rd' bst') (Q1 : q' ≤ 1699) :
    Rest F meth sm (n + 8) N a x h h' lg lg' d 2 2 b1 b2 M := by
  intro g5
  have hP := S.hP
  have hb1 := S.hb1
  have hb2 := S.hb2
  have hT0 := S.h0
  have hT1 := S.h1
  have hl1 := bget_lt hb1
  have hl2 := bget_lt hb2
  have hlT0 := bget_lt hT0
  have hlT1 := bget_lt hT1
  have hl3 := bget_lt hb3
  have g7x := fun m => h7 x 1000 m (by omega) (by omega)
  have xl := md_lo (a := x) (n := 1000) (by omega)
  have xh := md_hi (a := x) (n := 1000) (by omega)
  generalize md x 1000 = w0 at g7x xl xh
  have ww : IntKind.u64.wrap w0 = w0 := wrapU (by omega) (by omega)
  have g7k := fun m => h7 a 2 m (by omega) (by omega)
  have kl := md_lo (a := a) (n := 2) (by omega)
  have kh := md_hi (a := a) (n := 2) (by omega)
  have g7n := fun m => h7 a 1 m (by omega) (by omega)
  have nl := md_lo (a := a) (n := 1) (by omega)
  have nh := md_hi (a := a) (n := 1) (by omega)
  have y0 : IntKind.u64.wrap (q + w0) = q + w0 := by have := C0.g1; exact wrapU (by omega) (by omega)
  have D0 : CfgOK (q + w0) w l re by_ w2 w3 rd bst := by have c := C0; exact ⟨by have := c.g1; omega, by omega, c.g3, c.g4, c.g5, c.g6, c.g7, c.g8, c.g9, c.g10, c.g11, c.g12, c.g13, c.g14, c.g15, c.g16, c.g17, c.g18⟩
  have y1 : IntKind.u64.wrap (q' + w0) = q' + w0 := by have := C1.g1; exact wrapU (by omega) (by omega)
  have D1 : CfgOK (q' + w0) w' l' re' by' w2' w3' rd' bst' := by have c := C1; exact ⟨by have := c.g1; omega, by omega, c.g3, c.g4, c.g5, c.g6, c.g7, c.g8, c.g9, c.g10, c.g11, c.g12, c.g13, c.g14, c.g15, c.g16, c.g17, c.g18⟩
  have gS := fun m (hS : Sc m.blks 2 [cfg 1 q w l re by_ w2 w3 rd bst, cfg 2 q' w' l' re' by' w2' w3' rd' bst'] [ct 1 2 0 x0 r0 d0, ct 2 1 0 x1 r1 d1] [m0] b1 b2 true true M) => h8 2 [cfg 1 q w l re by_ w2 w3 rd bst, cfg 2 q' w' l' re' by' w2' w3' rd' bst'] [ct 1 2 0 x0 r0 d0, ct 2 1 0 x1 r1 d1] [m0] b1 b2 true true none none M m hS
  have gSS : ∀ L, Sc (bxt h' L) 2 [cfg 1 q w l re by_ w2 w3 rd bst, cfg 2 q' w' l' re' by' w2' w3' rd' bst'] [ct 1 2 0 x0 r0 d0, ct 2 1 0 x1 r1 d1] [m0] b1 b2 true true M := fun L => S.old Old.bx
  have gt0 := fun (p1 p2 : Nat) (m : Mem) (z1 : bget m.blks p1 = some (.row true 16 [cfg 1 q w l re by_ w2 w3 rd bst, cfg 2 q' w' l' re' by' w2' w3' rd' bst'])) (z2 : bget m.blks p2 = some (.row true 6 [ct 1 2 0 x0 r0 d0, ct 2 1 0 x1 r1 d1])) (z4 : bget m.blks 0 = some (.row false 8 usesR)) (z5 : bget m.blks 1 = some (.row false 1 headsR)) =>
    h8 2 [cfg 1 q w l re by_ w2 w3 rd bst, cfg 2 q' w' l' re' by' w2' w3' rd' bst'] [ct 1 2 0 x0 r0 d0, ct 2 1 0 x1 r1 d1] [] p1 p2 true true none none .slice0 m ⟨CfgsOK.two C0 C1, hP, by simp, by simp, z1, z2, .inl ⟨rfl, .inr rfl⟩, z4, z5⟩
  have gu0 := fun (p1 p2 p3 : Nat) (m : Mem) (z1 : bget m.blks p1 = some (.row true 16 [cfg 1 (q + w0) w l re by_ w2 w3 rd bst, cfg 2 q' w' l' re' by' w2' w3' rd' bst'])) (z2 : bget m.blks p2 = some (.row true 6 [ct 1 2 0 x0 r0 d0, ct 2 1 0 x1 r1 d1])) (z3 : bget m.blks p3 = some (.row true 15 [m0.av])) (z4 : bget m.blks 0 = some (.row false 8 usesR)) (z5 : bget m.blks 1 = some (.row false 1 headsR)) =>
    h8 2 [cfg 1 (q + w0) w l re by_ w2 w3 rd bst, cfg 2 q' w' l' re' by' w2' w3' rd' bst'] [ct 1 2 0 x0 r0 d0, ct 2 1 0 x1 r1 d1] [m0] p1 p2 true true none none (.slice p3 0 1 none) m ⟨CfgsOK.two D0 C1, hP, by simp, fun c hc => S.cOK c (by simp only [List.mem_cons, List.not_mem_nil, or_false] at hc ⊢; (first | (rcases hc with hc) | skip) <;> simp [*]), z1, z2, .inr ⟨by simp, p3, true, none, rfl, z3⟩, z4, z5⟩
  have gu1 := fun (p1 p2 p3 : Nat) (m : Mem) (z1 : bget m.blks p1 = some (.row true 16 [cfg 1 q w l re by_ w2 w3 rd bst, cfg 2 (q' + w0) w' l' re' by' w2' w3' rd' bst'])) (z2 : bget m.blks p2 = some (.row true 6 [ct 1 2 0 x0 r0 d0, ct 2 1 0 x1 r1 d1])) (z3 : bget m.blks p3 = some (.row true 15 [m0.av])) (z4 : bget m.blks 0 = some (.row false 8 usesR)) (z5 : bget m.blks 1 = some (.row false 1 headsR)) =>
    h8 2 [cfg 1 q w l re by_ w2 w3 rd bst, cfg 2 (q' + w0) w' l' re' by' w2' w3' rd' bst'] [ct 1 2 0 x0 r0 d0, ct 2 1 0 x1 r1 d1] [m0] p1 p2 true true none none (.slice p3 0 1 none) m ⟨CfgsOK.two C0 D1, hP, by simp, fun c hc => S.cOK c (by simp only [List.mem_cons, List.not_mem_nil, or_false] at hc ⊢; (first | (rcases hc with hc) | skip) <;> simp [*]), z1, z2, .inr ⟨by simp, p3, true, none, rfl, z3⟩, z4, z5⟩
  simp only [cfg, ct, Cm.av, cmd, List.length_cons, List.length_nil, Nat.zero_add, Nat.reduceAdd] at hb1 hb2 gS gSS gt0 gu0 gu1 hb3
  subst hM
  rcases (by omega : md a 2 = 0 ∨ md a 2 = 1) with e | e
  all_goals rcases (by omega : md a 1 = 0) with f
  all_goals
    rw [e] at g7k
    rw [f] at g7n
    simp (config := { maxSteps := 1000000, implicitDefEqProofs := false }) only [acall, acode, aops, awanted, aoper, AOp.isCall, j0, j1, aprim, aev, tg_zn, tg_ln, tg_rn, ts_ze, ts_zn, ts_le, ts_ln, ts_re, ts_rn, tputs, aput, reduceCtorEq, j4, j5, abin, kindEq, binInt, j6, j9, j10, AV.cells?, j12, Mem.apply, Mem.applyAll, acallee, aevs, j13, j14, j16, j17, j18, Nat.ble, Nat.reduceDiv, Nat.reduceMod, Nat.reduceMul, Nat.reduceAdd, Nat.reduceSub, Nat.reduceLeDiff, j19, ares, aresL, ares1, j20, j21, Nat.beq, Pth.succ, j22, j23, j24, bin_a, bin_b, bin_c, bputl, blen, bnth, Mem.killAll, j26, j27, j29, j31, rowGet, rowGet0, rowSet, rowSet0, chunk, j34, j35, j37, j42, j43, j51, j52, j54, j55, j56, j57, j58, j59, j60, j61, j62, j63, j64, j65, refsL, refsLL, AV.refs, j66, j67, ne_eq, j68, j71, Int.reduceLT, Int.reduceLE, Int.reduceToNat, Int.reduceAdd, Int.reduceNeg, Nat.reduceLT, Nat.reduceEqDiff, wrapI, j72, j74, j75, j77, j79, aslice, bound?, aappend, elemsOf, winGet, roomMost, j85, fillC, fillE, j87, AOp.isMaker, j90, adraw, Mem.more, j92, j93, j94, j95, mask, unmask, AOp.reads, AOpnd.top, AV.top, ins, j96, j97, nidOf, slotIn, j98, j99, clash, j100, j101, j102, j103, j104, j105, j106, j107, j67, j66, bmore, j79, hF, h6, h14, AF3, AF6, AF14, s3, s6, s14, h9, hb1, hb2, hT0, hT1, hl1, hl2, hlT0, hlT1, hb3, hl3, g5, g7x, ww, g7k, gS, g7n, y0, y1, gSS, gt0, gu0, gu1, nb_old, roomMost]
    exact ⟨_, rfl⟩
end
section
variable {F : FuncId → Option AFunc} {meth : Meth} {sm : Summ}
set_option maxHeartbeats 64000000 in
theorem e3_22 (hF : F 3 = some AF3) (h6 : F 6 = some AF6) (h14 : F 14 = some AF14) (s3 : ∀ vs m, sm 3 vs m = none) (s6 : ∀ vs m, sm 6 vs m = none) (s14 : ∀ vs m, sm 14 vs m = none) (h7 : H7 sm) (h8 : H8 sm) (h9 : ∀ m : Mem, bget m.blks 0 = some (.row false 8 usesR) → bget m.blks 1 = some (.row false 1 headsR) → sm 9 [] m = some (.bool true, m)) (n : Nat) (h h' : Blks) (lg lg' d : List Nat) {N M : AV} {a x : Int} {q w l re by_ w2 w3 rd bst q' w' l' re' by' w2' w3' rd' bst' x0 r0 d0 x1 r1 d1 : Int} {m0 m1 : Cm} {b1 b2 : Nat} (hN : N.scalar = true)
    (S : Sc h' 2 [cfg 1 q w l re by_ w2 w3 rd bst, cfg 2 q' w' l' re' by' w2' w3' rd' bst'] [ct 1 2 0 x0 r0 d0, ct 2 1 0 x1 r1 d1] [m0, m1] b1 b2 true true M) {b3 : Nat} {own3 : Bool} {c3 : Option Nat} (hM : M = .slice b3 0 2 c3) (hb3 : bget h' b3 = some (.row own3 15 [m0.av, m1.av])) (C0 : CfgOK q w l re by_ w2 w3 rd bst) (Q0 : q ≤ 1699) (C1 : CfgOK q' w' l' re' by' w2' w3' rd' bst') (Q1 : q' ≤ 1699) :
    Rest F meth sm (n + 8) N a x h h' lg lg' d 2 2 b1 b2 M := by
  intro g5
  have hP := S.hP
  have hb1 := S.hb1
  have hb2 := S.hb2
  have hT0 := S.h0
  have hT1 := S.h1
  have hl1 := bget_lt hb1
  have hl2 := bget_lt hb2
  have hlT0 := bget_lt hT0
  have hlT1 := bget_lt hT1
  have hl3 := bget_lt hb3
  have g7x := fun m => h7 x 1000 m (by omega) (by omega)
  have xl := md_lo (a := x) (n := 1000) (by omega)
  have xh := md_hi (a := x) (n := 1000) (by omega)
  generalize md x 1000 = w0 at g7x xl xh
  have ww : IntKind.u64.wrap w0 = w0 := wrapU (by omega) (by omega)
  have g7k := fun m => h7 a 2 m (by omega) (by omega)
  have kl := md_lo (a := a) (n := 2) (by omega)
  have kh := md_hi (a := a) (n := 2) (by omega)
  have y0 : IntKind.u64.wrap (q + w0) = q + w0 := by have := C0.g1; exact wrapU (by omega) (by omega)
  have D0 : CfgOK (q + w0) w l re by_ w2 w3 rd bst := by have c := C0; exact ⟨by have := c.g1; omega, by omega, c.g3, c.g4, c.g5, c.g6, c.g7, c.g8, c.g9, c.g10, c.g11, c.g12, c.g13, c.g14, c.g15, c.g16, c.g17, c.g18⟩
  have y1 : IntKind.u64.wrap (q' + w0) = q' + w0 := by have := C1.g1; exact wrapU (by omega) (by omega)
  have D1 : CfgOK (q' + w0) w' l' re' by' w2' w3' rd' bst' := by have c := C1; exact ⟨by have := c.g1; omega, by omega, c.g3, c.g4, c.g5, c.g6, c.g7, c.g8, c.g9, c.g10, c.g11, c.g12, c.g13, c.g14, c.g15, c.g16, c.g17, c.g18⟩
  have gS := fun m (hS : Sc m.blks 2 [cfg 1 q w l re by_ w2 w3 rd bst, cfg 2 q' w' l' re' by' w2' w3' rd' bst'] [ct 1 2 0 x0 r0 d0, ct 2 1 0 x1 r1 d1] [m0, m1] b1 b2 true true M) => h8 2 [cfg 1 q w l re by_ w2 w3 rd bst, cfg 2 q' w' l' re' by' w2' w3' rd' bst'] [ct 1 2 0 x0 r0 d0, ct 2 1 0 x1 r1 d1] [m0, m1] b1 b2 true true none none M m hS
  have gSS : ∀ L, Sc (bxt h' L) 2 [cfg 1 q w l re by_ w2 w3 rd bst, cfg 2 q' w' l' re' by' w2' w3' rd' bst'] [ct 1 2 0 x0 r0 d0, ct 2 1 0 x1 r1 d1] [m0, m1] b1 b2 true true M := fun L => S.old Old.bx
  have gt0 := fun (p1 p2 p3 : Nat) (m : Mem) (z1 : bget m.blks p1 = some (.row true 16 [cfg 1 q w l re by_ w2 w3 rd bst, cfg 2 q' w' l' re' by' w2' w3' rd' bst'])) (z2 : bget m.blks p2 = some (.row true 6 [ct 1 2 0 x0 r0 d0, ct 2 1 0 x1 r1 d1])) (z3 : bget m.blks p3 = some (.row true 15 [m1.av])) (z4 : bget m.blks 0 = some (.row false 8 usesR)) (z5 : bget m.blks 1 = some (.row false 1 headsR)) =>
    h8 2 [cfg 1 q w l re by_ w2 w3 rd bst, cfg 2 q' w' l' re' by' w2' w3' rd' bst'] [ct 1 2 0 x0 r0 d0, ct 2 1 0 x1 r1 d1] [m1] p1 p2 true true none none (.slice p3 0 1 none) m ⟨CfgsOK.two C0 C1, hP, by simp, fun c hc => S.cOK c (by simp only [List.mem_cons, List.not_mem_nil, or_false] at hc ⊢; (first | (rcases hc with hc) | skip) <;> simp [*]), z1, z2, .inr ⟨by simp, p3, true, none, rfl, z3⟩, z4, z5⟩
  have gt1 := fun (p1 p2 p3 : Nat) (m : Mem) (z1 : bget m.blks p1 = some (.row true 16 [cfg 1 q w l re by_ w2 w3 rd bst, cfg 2 q' w' l' re' by' w2' w3' rd' bst'])) (z2 : bget m.blks p2 = some (.row true 6 [ct 1 2 0 x0 r0 d0, ct 2 1 0 x1 r1 d1])) (z3 : bget m.blks p3 = some (.row true 15 [m0.av])) (z4 : bget m.blks 0 = some (.row false 8 usesR)) (z5 : bget m.blks 1 = some (.row false 1 headsR)) =>
    h8 2 [cfg 1 q w l re by_ w2 w3 rd bst, cfg 2 q' w' l' re' by' w2' w3' rd' bst'] [ct 1 2 0 x0 r0 d0, ct 2 1 0 x1 r1 d1] [m0] p1 p2 true true none none (.slice p3 0 1 none) m ⟨CfgsOK.two C0 C1, hP, by simp, fun c hc => S.cOK c (by simp only [List.mem_cons, List.not_mem_nil, or_false] at hc ⊢; (first | (rcases hc with hc) | skip) <;> simp [*]), z1, z2, .inr ⟨by simp, p3, true, none, rfl, z3⟩, z4, z5⟩
  have gu0 := fun (p1 p2 p3 : Nat) (m : Mem) (z1 : bget m.blks p1 = some (.row true 16 [cfg 1 (q + w0) w l re by_ w2 w3 rd bst, cfg 2 q' w' l' re' by' w2' w3' rd' bst'])) (z2 : bget m.blks p2 = some (.row true 6 [ct 1 2 0 x0 r0 d0, ct 2 1 0 x1 r1 d1])) (z3 : bget m.blks p3 = some (.row true 15 [m0.av, m1.av])) (z4 : bget m.blks 0 = some (.row false 8 usesR)) (z5 : bget m.blks 1 = some (.row false 1 headsR)) =>
    h8 2 [cfg 1 (q + w0) w l re by_ w2 w3 rd bst, cfg 2 q' w' l' re' by' w2' w3' rd' bst'] [ct 1 2 0 x0 r0 d0, ct 2 1 0 x1 r1 d1] [m0, m1] p1 p2 true true none none (.slice p3 0 2 none) m ⟨CfgsOK.two D0 C1, hP, by simp, fun c hc => S.cOK c (by simp only [List.mem_cons, List.not_mem_nil, or_false] at hc ⊢; (first | (rcases hc with hc | hc) | skip) <;> simp [*]), z1, z2, .inr ⟨by simp, p3, true, none, rfl, z3⟩, z4, z5⟩
  have gu1 := fun (p1 p2 p3 : Nat) (m : Mem) (z1 : bget m.blks p1 = some (.row true 16 [cfg 1 q w l re by_ w2 w3 rd bst, cfg 2 (q' + w0) w' l' re' by' w2' w3' rd' bst'])) (z2 : bget m.blks p2 = some (.row true 6 [ct 1 2 0 x0 r0 d0, ct 2 1 0 x1 r1 d1])) (z3 : bget m.blks p3 = some (.row true 15 [m0.av, m1.av])) (z4 : bget m.blks 0 = some (.row false 8 usesR)) (z5 : bget m.blks 1 = some (.row false 1 headsR)) =>
    h8 2 [cfg 1 q w l re by_ w2 w3 rd bst, cfg 2 (q' + w0) w' l' re' by' w2' w3' rd' bst'] [ct 1 2 0 x0 r0 d0, ct 2 1 0 x1 r1 d1] [m0, m1] p1 p2 true true none none (.slice p3 0 2 none) m ⟨CfgsOK.two C0 D1, hP, by simp, fun c hc => S.cOK c (by simp only [List.mem_cons, List.not_mem_nil, or_false] at hc ⊢; (first | (rcases hc with hc | hc) | skip) <;> simp [*]), z1, z2, .inr ⟨by simp, p3, true, none, rfl, z3⟩, z4, z5⟩
  simp only [cfg, ct, Cm.av, cmd, List.length_cons, List.length_nil, Nat.zero_add, Nat.reduceAdd] at hb1 hb2 gS gSS gt0 gt1 gu0 gu1 hb3
  subst hM
  rcases (by omega : md a 2 = 0 ∨ md a 2 = 1) with e | e
  all_goals
    rw [e] at g7k
    simp (config := { maxSteps := 1000000, implicitDefEqProofs := false }) only [acall, acode, aops, awanted, aoper, AOp.isCall, j0, j1, aprim, aev, tg_zn, tg_ln, tg_rn, ts_ze, ts_zn, ts_le, ts_ln, ts_re, ts_rn, tputs, aput, reduceCtorEq, j4, j5, abin, kindEq, binInt, j6, j9, j10, AV.cells?, j12, Mem.apply, Mem.applyAll, acallee, aevs, j13, j14, j16, j17, j18, Nat.ble, Nat.reduceDiv, Nat.reduceMod, Nat.reduceMul, Nat.reduceAdd, Nat.reduceSub, Nat.reduceLeDiff, j19, ares, aresL, ares1, j20, j21, Nat.beq, Pth.succ, j22, j23, j24, bin_a, bin_b, bin_c, bputl, blen, bnth, Mem.killAll, j26, j27, j29, j31, rowGet, rowGet0, rowSet, rowSet0, chunk, j34, j35, j37, j43, j51, j52, j54, j55, j56, j57, j58, j59, j60, j61, j62, j63, j64, j65, refsL, refsLL, AV.refs, j66, j67, ne_eq, j68, j71, Int.reduceLT, Int.reduceLE, Int.reduceToNat, Int.reduceAdd, Int.reduceNeg, Nat.reduceLT, Nat.reduceEqDiff, wrapI, j72, j74, j75, j77, j79, aslice, bound?, aappend, elemsOf, winGet, roomMost, j85, fillC, fillE, j87, AOp.isMaker, j90, adraw, Mem.more, j92, j93, j94, j95, mask, unmask, AOp.reads, AOpnd.top, AV.top, ins, j96, j97, nidOf, slotIn, j98, j99, clash, j100, j101, j102, j103, j104, j105, j106, j107, j67, j66, bmore, j79, hF, h6, h14, AF3, AF6, AF14, s3, s6, s14, h9, hb1, hb2, hT0, hT1, hl1, hl2, hlT0, hlT1, hb3, hl3, g5, g7x, ww, g7k, gS, y0, y1, gSS, gt0, gt1, gu0, gu1, nb_old, roomMost]
    exact ⟨_, rfl⟩
end
section
variable {F : FuncId → Option AFunc} {meth : Meth} {sm : Summ}
set_option maxHeartbeats 64000000 in
theorem e3_23 (hF : F 3 = some AF3) (h6 : F 6 = some AF6) (h14 : F 14 = some AF14) (s3 : ∀ vs m, sm 3 vs m = none) (s6 : ∀ vs m, sm 6 vs m = none) (s14 : ∀ vs m, sm 14 vs m = none) (h7 : H7 sm) (h8 : H8 sm) (h9 : ∀ m : Mem, bget m.blks 0 = some (.row false 8 usesR) → bget m.blks 1 = some (.row false 1 headsR) → sm 9 [] m = some (.bool true, m)) (n : Nat) (h h' : Blks) (lg lg' d : List Nat) {N M : AV} {a x : Int} {q w l re by_ w2 w3 rd bst q' w' l' re' by' w2' w3' rd' bst' x0 r0 d0 x1 r1 d1 : Int} {m0 m1 m2 : Cm} {b1 b2 : Nat} (hN : N.scalar = true)
    (S : Sc h' 2 [cfg 1 q w l re by_ w2 w3 rd bst, cfg 2 q' w' l' re' by' w2' w3' rd' bst'] [ct 1 2 0 x0 r0 d0, ct 2 1 0 x1 r1 d1] [m0, m1, m2] b1 b2 true true M) {b3 : Nat} {own3 : Bool} {c3 : Option Nat} (hM : M = .slice b3 0 3 c3) (hb3 : bget h' b3 = some (.row own3 15 [m0.av, m1.av, m2.av])) (C0 : CfgOK q w l re by_ w2 w3 rd bst) (Q0 : q ≤ 1699) (C1 : CfgOK q' w' l' re' by' w2' w3' rd' bst') (Q1 : q' ≤ 1699) :
    Rest F meth sm (n + 8) N a x h h' lg lg' d 2 2 b1 b2 M := by
  intro g5
  have hP := S.hP
  have hb1 := S.hb1
  have hb2 := S.hb2
  have hT0 := S.h0
  have hT1 := S.h1
  have hl1 := bget_lt hb1
  have hl2 := bget_lt hb2
  have hlT0 := bget_lt hT0
  have hlT1 := bget_lt hT1
  have hl3 := bget_lt hb3
  have g7x := fun m => h7 x 1000 m (by omega) (by omega)
  have xl := md_lo (a := x) (n := 1000) (by omega)
  have xh := md_hi (a := x) (n := 1000) (by omega)
  generalize md x 1000 = w0 at g7x xl xh
  have ww : IntKind.u64.wrap w0 = w0 := wrapU (by omega) (by omega)
  have g7k := fun m => h7 a 2 m (by omega) (by omega)
  have kl := md_lo (a := a) (n := 2) (by omega)
  have kh := md_hi (a := a) (n := 2) (by omega)
  have g7n := fun m => h7 a 3 m (by omega) (by omega)
  have nl := md_lo (a := a) (n := 3) (by omega)
  have nh := md_hi (a := a) (n := 3) (by omega)
  have y0 : IntKind.u64.wrap (q + w0) = q + w0 := by have := C0.g1; exact wrapU (by omega) (by omega)
  have D0 : CfgOK (q + w0) w l re by_ w2 w3 rd bst := by have c := C0; exact ⟨by have := c.g1; omega, by omega, c.g3, c.g4, c.g5, c.g6, c.g7, c.g8, c.g9, c.g10, c.g11, c.g12, c.g13, c.g14, c.g15, c.g16, c.g17, c.g18⟩
  have y1 : IntKind.u64.wrap (q' + w0) = q' + w0 := by have := C1.g1; exact wrapU (by omega) (by omega)
  have D1 : CfgOK (q' + w0) w' l' re' by' w2' w3' rd' bst' := by have c := C1; exact ⟨by have := c.g1; omega, by omega, c.g3, c.g4, c.g5, c.g6, c.g7, c.g8, c.g9, c.g10, c.g11, c.g12, c.g13, c.g14, c.g15, c.g16, c.g17, c.g18⟩
  have gS := fun m (hS : Sc m.blks 2 [cfg 1 q w l re by_ w2 w3 rd bst, cfg 2 q' w' l' re' by' w2' w3' rd' bst'] [ct 1 2 0 x0 r0 d0, ct 2 1 0 x1 r1 d1] [m0, m1, m2] b1 b2 true true M) => h8 2 [cfg 1 q w l re by_ w2 w3 rd bst, cfg 2 q' w' l' re' by' w2' w3' rd' bst'] [ct 1 2 0 x0 r0 d0, ct 2 1 0 x1 r1 d1] [m0, m1, m2] b1 b2 true true none none M m hS
  have gSS : ∀ L, Sc (bxt h' L) 2 [cfg 1 q w l re by_ w2 w3 rd bst, cfg 2 q' w' l' re' by' w2' w3' rd' bst'] [ct 1 2 0 x0 r0 d0, ct 2 1 0 x1 r1 d1] [m0, m1, m2] b1 b2 true true M := fun L => S.old Old.bx
  have gt0 := fun (p1 p2 p3 : Nat) (m : Mem) (z1 : bget m.blks p1 = some (.row true 16 [cfg 1 q w l re by_ w2 w3 rd bst, cfg 2 q' w' l' re' by' w2' w3' rd' bst'])) (z2 : bget m.blks p2 = some (.row true 6 [ct 1 2 0 x0 r0 d0, ct 2 1 0 x1 r1 d1])) (z3 : bget m.blks p3 = some (.row true 15 [m1.av, m2.av])) (z4 : bget m.blks 0 = some (.row false 8 usesR)) (z5 : bget m.blks 1 = some (.row false 1 headsR)) =>
    h8 2 [cfg 1 q w l re by_ w2 w3 rd bst, cfg 2 q' w' l' re' by' w2' w3' rd' bst'] [ct 1 2 0 x0 r0 d0, ct 2 1 0 x1 r1 d1] [m1, m2] p1 p2 true true none none (.slice p3 0 2 none) m ⟨CfgsOK.two C0 C1, hP, by simp, fun c hc => S.cOK c (by simp only [List.mem_cons, List.not_mem_nil, or_false] at hc ⊢; (first | (rcases hc with hc | hc) | skip) <;> simp [*]), z1, z2, .inr ⟨by simp, p3, true, none, rfl, z3⟩, z4, z5⟩
  have gt1 := fun (p1 p2 p3 : Nat) (m : Mem) (z1 : bget m.blks p1 = some (.row true 16 [cfg 1 q w l re by_ w2 w3 rd bst, cfg 2 q' w' l' re' by' w2' w3' rd' bst'])) (z2 : bget m.blks p2 = some (.row true 6 [ct 1 2 0 x0 r0 d0, ct 2 1 0 x1 r1 d1])) (z3 : bget m.blks p3 = some (.row true 15 [m0.av, m2.av])) (z4 : bget m.blks 0 = some (.row false 8 usesR)) (z5 : bget m.blks 1 = some (.row false 1 headsR)) =>
    h8 2 [cfg 1 q w l re by_ w2 w3 rd bst, cfg 2 q' w' l' re' by' w2' w3' rd' bst'] [ct 1 2 0 x0 r0 d0, ct 2 1 0 x1 r1 d1] [m0, m2] p1 p2 true true none none (.slice p3 0 2 none) m ⟨CfgsOK.two C0 C1, hP, by simp, fun c hc => S.cOK c (by simp only [List.mem_cons, List.not_mem_nil, or_false] at hc ⊢; (first | (rcases hc with hc | hc) | skip) <;> simp [*]), z1, z2, .inr ⟨by simp, p3, true, none, rfl, z3⟩, z4, z5⟩
  have gt2 := fun (p1 p2 p3 : Nat) (m : Mem) (z1 : bget m.blks p1 = some (.row true 16 [cfg 1 q w l re by_ w2 w3 rd bst, cfg 2 q' w' l' re' by' w2' w3' rd' bst'])) (z2 : bget m.blks p2 = some (.row true 6 [ct 1 2 0 x0 r0 d0, ct 2 1 0 x1 r1 d1])) (z3 : bget m.blks p3 = some (.row true 15 [m0.av, m1.av])) (z4 : bget m.blks 0 = some (.row false 8 usesR)) (z5 : bget m.blks 1 = some (.row false 1 headsR)) =>
    h8 2 [cfg 1 q w l re by_ w2 w3 rd bst, cfg 2 q' w' l' re' by' w2' w3' rd' bst'] [ct 1 2 0 x0 r0 d0, ct 2 1 0 x1 r1 d1] [m0, m1] p1 p2 true true none none (.slice p3 0 2 none) m ⟨CfgsOK.two C0 C1, hP, by simp, fun c hc => S.cOK c (by simp only [List.mem_cons, List.not_mem_nil, or_false] at hc ⊢; (first | (rcases hc with hc | hc) | skip) <;> simp [*]), z1, z2, .inr ⟨by simp, p3, true, none, rfl, z3⟩, z4, z5⟩
  have gu0 := fun (p1 p2 p3 : Nat) (m : Mem) (z1 : bget m.blks p1 = some (.row true 16 [cfg 1 (q + w0) w l re by_ w2 w3 rd bst, cfg 2 q' w' l' re' by' w2' w3' rd' bst'])) (z2 : bget m.blks p2 = some (.row true 6 [ct 1 2 0 x0 r0 d0, ct 2 1 0 x1 r1 d1])) (z3 : bget m.blks p3 = some (.row true 15 [m0.av, m1.av, m2.av])) (z4 : bget m.blks 0 = some (.row false 8 usesR)) (z5 : bget m.blks 1 = some (.row false 1 headsR)) =>
    h8 2 [cfg 1 (q + w0) w l re by_ w2 w3 rd bst, cfg 2 q' w' l' re' by' w2' w3' rd' bst'] [ct 1 2 0 x0 r0 d0, ct 2 1 0 x1 r1 d1] [m0, m1, m2] p1 p2 true true none none (.slice p3 0 3 none) m ⟨CfgsOK.two D0 C1, hP, by simp, fun c hc => S.cOK c (by simp only [List.mem_cons, List.not_mem_nil, or_false] at hc ⊢; (first | (rcases hc with hc | hc | hc) | skip) <;> simp [*]), z1, z2, .inr ⟨by simp, p3, true, none, rfl, z3⟩, z4, z5⟩
  have gu1 := fun (p1 p2 p3 : Nat) (m : Mem) (z1 : bget m.blks p1 = some (.row true 16 [cfg 1 q w l re by_ w2 w3 rd bst, cfg 2 (q' + w0) w' l' re' by' w2' w3' rd' bst'])) (z2 : bget m.blks p2 = some (.row true 6 [ct 1 2 0 x0 r0 d0, ct 2 1 0 x1 r1 d1])) (z3 : bget m.blks p3 = some (.row true 15 [m0.av, m1.av, m2.av])) (z4 : bget m.blks 0 = some (.row false 8 usesR)) (z5 : bget m.blks 1 = some (.row false 1 headsR)) =>
    h8 2 [cfg 1 q w l re by_ w2 w3 rd bst, cfg 2 (q' + w0) w' l' re' by' w2' w3' rd' bst'] [ct 1 2 0 x0 r0 d0, ct 2 1 0 x1 r1 d1] [m0, m1, m2] p1 p2 true true none none (.slice p3 0 3 none) m ⟨CfgsOK.two C0 D1, hP, by simp, fun c hc => S.cOK c (by simp only [List.mem_cons, List.not_mem_nil, or_false] at hc ⊢; (first | (rcases hc with hc | hc | hc) | skip) <;> simp [*]), z1, z2, .inr ⟨by simp, p3, true, none, rfl, z3⟩, z4, z5⟩
  simp only [cfg, ct, Cm.av, cmd, List.length_cons, List.length_nil, Nat.zero_add, Nat.reduceAdd] at hb1 hb2 gS gSS gt0 gt1 gt2 gu0 gu1 hb3
  subst hM
  rcases (by omega : md a 2 = 0 ∨ md a 2 = 1) with e | e
  all_goals rcases (by omega : md a 3 = 0 ∨ md a 3 = 1 ∨ md a 3 = 2) with f | f | f
  all_goals
    rw [e] at g7k
    rw [f] at g7n
    simp (config := { maxSteps := 1000000, implicitDefEqProofs := false }) only [acall, acode, aops, awanted, aoper, AOp.isCall, j0, j1, aprim, aev, tg_zn, tg_ln, tg_rn, ts_ze, ts_zn, ts_le, ts_ln, ts_re, ts_rn, tputs, aput, reduceCtorEq, j4, j5, abin, kindEq, binInt, j6, j9, j10, AV.cells?, j12, Mem.apply, Mem.applyAll, acallee, aevs, j13, j14, j16, j17, j18, Nat.ble, Nat.reduceDiv, Nat.reduceMod, Nat.reduceMul, Nat.reduceAdd, Nat.reduceSub, Nat.reduceLeDiff, j19, ares, aresL, ares1, j20, j21, Nat.beq, Pth.succ, j22, j23, j24, bin_a, bin_b, bin_c, bputl, blen, bnth, Mem.killAll, j26, j27, j29, j31, rowGet, rowGet0, rowSet, rowSet0, chunk, j34, j35, j37, j43, j51, j52, j54, j55, j56, j57, j58, j59, j60, j61, j62, j63, j64, j65, refsL, refsLL, AV.refs, j66, j67, ne_eq, j68, j69, j71, Int.reduceLT, Int.reduceLE, Int.reduceToNat, Int.reduceAdd, Int.reduceNeg, Nat.reduceLT, Nat.reduceEqDiff, wrapI, j72, j74, j75, j77, j79, aslice, bound?, aappend, elemsOf, winGet, roomMost, j80, j85, fillC, fillE, j87, AOp.isMaker, j90, adraw, Mem.more, j92, j93, j94, j95, mask, unmask, AOp.reads, AOpnd.top, AV.top, ins, j96, j97, nidOf, slotIn, j98, j99, clash, j100, j101, j102, j103, j104, j105, j106, j107, j67, j66, bmore, j79, hF, h6, h14, AF3, AF6, AF14, s3, s6, s14, h9, hb1, hb2, hT0, hT1, hl1, hl2, hlT0, hlT1, hb3, hl3, g5, g7x, ww, g7k, gS, g7n, y0, y1, gSS, gt0, gt1, gt2, gu0, gu1, nb_old, roomMost]
    exact ⟨_, rfl⟩
end
end Go.Proofs.YtcphofamajcimaaDoor
end
