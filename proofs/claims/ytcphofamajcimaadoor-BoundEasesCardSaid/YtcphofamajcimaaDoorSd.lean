/- Functions of the program on symbolic values: part Sd.
   Conditions: none; these are lemmas. -/
import Derived.Test.YtcphofamajcimaaDoorSc
import Derived.Test.YtcphofamajcimaaDoorSy
noncomputable section
namespace Go.Proofs.YtcphofamajcimaaDoor
open Go Go.Abs
set_option maxRecDepth 100000
set_option linter.unusedSimpArgs false
set_option linter.unusedVariables false

/-- An experiment lies in memory. -/
structure Sc (h : Blks) (k : Nat) (es ps : List (List AV)) (cs : List Cm) (b1 b2 : Nat) (own1 own2 : Bool) (M : AV) : Prop where
  hC : CfgsOK k es
  hP : PlanOK k ps
  len : cs.length ≤ 4
  cOK : ∀ c ∈ cs, c.OK k
  hb1 : bget h b1 = some (.row own1 16 es)
  hb2 : bget h b2 = some (.row own2 6 ps)
  hM : CmdsAt h M cs
  h0 : bget h 0 = some (.row false 8 usesR)
  h1 : bget h 1 = some (.row false 1 headsR)
/-- What was there is as it was. -/
def Old (h h' : Blks) : Prop := ∀ b, b < h.length → bget h' b = bget h b
theorem Old.get {h h' : Blks} (o : Old h h') {b : Nat} {x : ABlk} (e : bget h b = some x) : bget h' b = some x := (o b (bget_lt e)).trans e
theorem CmdsAt.old {h h' : Blks} (o : Old h h') {M : AV} {cs : List Cm} (x : CmdsAt h M cs) : CmdsAt h' M cs := by
  rcases x with ⟨e, hm⟩ | ⟨e, b, own, c, hm, hb⟩
  · exact .inl ⟨e, hm⟩
  · exact .inr ⟨e, b, own, c, hm, o.get hb⟩
theorem Sc.old {h h' : Blks} (o : Old h h') {k : Nat} {es ps : List (List AV)} {cs : List Cm} {b1 b2 : Nat} {own1 own2 : Bool} {M : AV} (S : Sc h k es ps cs b1 b2 own1 own2 M) : Sc h' k es ps cs b1 b2 own1 own2 M :=
  ⟨S.hC, S.hP, S.len, S.cOK, o.get S.hb1, o.get S.hb2, S.hM.old o, o.get S.h0, o.get S.h1⟩
theorem Old.bx {h : Blks} {l : List (Option ABlk)} : Old h (bxt h l) := fun b hb => nb_old hb
theorem Sc.two_three {h : Blks} {k : Nat} {es ps : List (List AV)} {cs : List Cm} {b1 b2 : Nat} {own1 own2 : Bool} {M : AV} (S : Sc h k es ps cs b1 b2 own1 own2 M) : k = 2 ∨ k = 3 := S.hC.two_three

section
variable {F : FuncId → Option AFunc} {meth : Meth} {sm : Summ}

def H28 (sm : Summ) : Prop := ∀ (k : Nat) (es ps : List (List AV)) (cs : List Cm) (b1 b2 : Nat) (own1 own2 : Bool) (c1 c2 : Option Nat) (M : AV) (p1 p5 : Nat) (o1 o5 : Bool) (x node seq dest prio life : Int) (s : List UInt8) (m : Mem), Sc m.blks k es ps cs b1 b2 own1 own2 M → BuOK node seq dest prio life s → node ≤ k → dest ≤ k → x ≤ 199 →
  bget m.blks p1 = some (.row o1 3 [[.slice b1 0 k c1, .slice b2 0 ps.length c2, M]]) → bget m.blks p5 = some (.row o5 1 [[.int .i64 x]]) →
  sm 28 [.agg (cmd node seq dest prio life s), .ptr p1 0 0, .ptr p5 0 0] m = some (.bool true, m)
set_option maxHeartbeats 16000000 in
theorem e28 (hF : F 28 = some AF28) (s28 : ∀ vs m, sm 28 vs m = none) (h27 : H27 sm) (h29 : H29 sm) (h30 : H30 sm) (n : Nat) (h : Blks) (lg d : List Nat) {k : Nat} {es ps : List (List AV)} {cs : List Cm} {b1 b2 : Nat} {own1 own2 : Bool} {c1 c2 : Option Nat} {M : AV} {p1 p5 : Nat} {o1 o5 : Bool} {x node seq dest prio life : Int} {s : List UInt8}
    (S : Sc h k es ps cs b1 b2 own1 own2 M) (B : BuOK node seq dest prio life s) (hn : node ≤ k) (hd : dest ≤ k) (hx : x ≤ 199) (hp1 : bget h p1 = some (.row o1 3 [[.slice b1 0 k c1, .slice b2 0 ps.length c2, M]])) (hp5 : bget h p5 = some (.row o5 1 [[.int .i64 x]])) :
    Ev F meth sm (n + 2) 28 [.agg (cmd node seq dest prio life s), .ptr p1 0 0, .ptr p5 0 0] ⟨h, lg, d⟩ (.bool true) := by
  refine Ev.of ?_
  have hl1 := bget_lt hp1
  have hl5 := bget_lt hp5
  have hb1 := S.hb1
  have hb2 := S.hb2
  have hT := S.h1
  have hlb1 := bget_lt hb1
  have hlb2 := bget_lt hb2
  have hlT := bget_lt hT
  have hM := S.hM.scalar
  have g27 := fun m hm => h27 node seq dest prio life s m B hm
  have g29 := fun m hm => h29 k es dest b1 own1 c1 (.slice b2 0 ps.length c2) M m S.hC B.d1 hd rfl hM hm
  have g30 := fun m hm => h30 k ps node dest (12 + s.length) b2 own2 c2 m S.hP B.n1 hn B.d1 hd (by omega) (by have := B.s2; omega) hm
  have c1 : ¬ life ≤ x := by have := B.l1; omega
  have n1 : (node != node) = false := by simp
  unfold bu at g27
  simp (config := { maxSteps := 1000000, implicitDefEqProofs := false }) only [acall, acode, aops, awanted, aoper, AOp.isCall, j0, j1, aprim, aev, tg_zn, tg_ln, tg_rn, ts_ze, ts_zn, ts_le, ts_ln, ts_rn, tputs, aput, reduceCtorEq, j4, j5, abin, kindEq, binInt, j6, j9, j10, AV.cells?, j12, Mem.apply, Mem.applyAll, acallee, aevs, j13, j14, aun, peq, peq1, j17, j18, Nat.ble, Nat.reduceDiv, Nat.reduceMod, Nat.reduceMul, Nat.reduceAdd, Nat.reduceLeDiff, j19, ares, aresL, ares1, j20, j21, Nat.beq, Pth.succ, j22, j23, j24, bin_a, bin_b, bin_c, bputl, blen, bnth, Mem.killAll, j27, j31, j32, rowGet, rowGet0, rowSet, rowSet0, chunk, j34, j35, j37, j38, j51, j52, j54, j55, j56, j57, j58, j59, j60, j61, j62, j64, j65, refsL, AV.refs, j66, j67, j68, j79, j85, AOp.isMaker, adraw, Mem.more, j92, j93, j94, j95, mask, unmask, AOp.reads, AOpnd.top, AV.top, ins, j96, nidOf, slotIn, j98, clash, j100, j103, j104, j106, j67, j66, bmore, j79, hF, AF28, s28, cmd, g27, g29, g30, hp1, hp5, hl1, hl5, hb1, hb2, hT, hlb1, hlb2, hlT, c1, nb_old]
  exact ⟨_, rfl, keep_bx (by repeat first | exact LogOK.nil | apply LogOK.cons)⟩

def H36 (sm : Summ) : Prop := ∀ (g : FuncId) (caps : List AV) (cs : List Cm) (M : AV) (m : Mem), (g = 28 ∨ g = 35) → cs.length ≤ 4 → CmdsAt m.blks M cs → (∀ c ∈ cs, ∀ m', Old m.blks m'.blks → sm g (.agg c.av :: caps) m' = some (.bool true, m')) →
  sm 36 [M, .func g [] caps] m = some (.bool true, m)
set_option maxHeartbeats 16000000 in
theorem e36 (hF : F 36 = some AF36) (s36 : ∀ vs m, sm 36 vs m = none) (n : Nat) (h : Blks) (lg d : List Nat) {g : FuncId} {caps : List AV} {cs : List Cm} {M : AV} (hl : cs.length ≤ 4) (hM : CmdsAt h M cs) (hg : ∀ c ∈ cs, ∀ m', Old h m'.blks → sm g (.agg c.av :: caps) m' = some (.bool true, m')) :
    Ev F meth sm (n + 6) 36 [M, .func g [] caps] ⟨h, lg, d⟩ (.bool true) := by
  refine Ev.of ?_
  rcases hM with ⟨rfl, rfl | rfl⟩ | ⟨hne, b, own, c, rfl, hb⟩
  · simp (config := { maxSteps := 1000000, implicitDefEqProofs := false }) only [acall, acode, aops, awanted, aoper, AOp.isCall, j0, j1, aprim, aev, tg_zn, tg_ln, tg_rn, ts_ze, ts_zn, ts_le, ts_ln, ts_rn, tputs, aput, j5, abin, kindEq, binInt, j6, j12, Mem.applyAll, acallee, j14, j17, j18, Nat.ble, Nat.reduceAdd, ares, aresL, ares1, j20, j21, Nat.beq, Pth.succ, Mem.killAll, j27, j51, j52, j67, Int.reduceLT, j79, AOp.isMaker, adraw, Mem.more, j92, j93, j94, j95, AOp.reads, AOpnd.top, AV.top, ins, slotIn, clash, j100, j103, j67, bmore, j79, hF, AF36, s36, aloop]
    exact ⟨_, rfl, keep_bx (by repeat first | exact LogOK.nil | apply LogOK.cons)⟩
  · simp (config := { maxSteps := 1000000, implicitDefEqProofs := false }) only [acall, acode, aops, awanted, aoper, AOp.isCall, j0, j1, aprim, aev, tg_zn, tg_ln, tg_rn, ts_ze, ts_zn, ts_le, ts_ln, ts_rn, tputs, aput, j5, abin, kindEq, binInt, j6, j12, Mem.applyAll, acallee, j14, j17, j18, Nat.ble, Nat.reduceAdd, ares, aresL, ares1, j20, j21, Nat.beq, Pth.succ, Mem.killAll, j27, j51, j52, j67, Int.reduceLT, j79, AOp.isMaker, adraw, Mem.more, j92, j93, j94, j95, AOp.reads, AOpnd.top, AV.top, ins, slotIn, clash, j100, j103, j67, bmore, j79, hF, AF36, s36, aloop]
    exact ⟨_, rfl, keep_bx (by repeat first | exact LogOK.nil | apply LogOK.cons)⟩
  · have hlt := bget_lt hb
    match cs, hne, hl, hg, hb with
    | [m0], _, _, hg, hb =>
      have g0 := fun l lg' d' => hg m0 (by simp) ⟨bxt h l, lg', d'⟩ Old.bx
      simp only [Cm.av, cmd, List.map_cons, List.map_nil] at hb g0
      simp (config := { maxSteps := 1000000, implicitDefEqProofs := false }) only [acall, acode, aops, awanted, aoper, AOp.isCall, j0, j1, aprim, aev, tg_zn, tg_ln, tg_rn, ts_ze, ts_zn, ts_le, ts_ln, ts_rn, tputs, aput, j5, abin, kindEq, binInt, j6, j9, AV.cells?, j12, Mem.apply, Mem.applyAll, acallee, aevs, j13, j14, j16, aun, j17, j18, Nat.ble, Nat.reduceDiv, Nat.reduceMod, Nat.reduceMul, Nat.reduceAdd, Nat.reduceLeDiff, ares, aresL, ares1, j20, j21, Nat.beq, Pth.succ, j22, j23, j24, bin_a, bin_b, bputl, blen, bnth, Mem.killAll, j26, j27, rowGet, rowGet0, rowSet, rowSet0, chunk, j34, j35, j37, j38, j51, j52, j54, j55, j56, j57, j58, j59, j60, j62, j64, j65, refsL, AV.refs, j66, j67, j68, j71, Int.reduceLT, Int.reduceLE, Int.reduceToNat, Int.reduceAdd, Int.reduceNeg, Nat.reduceLT, wrapI, j74, j79, AOp.isMaker, adraw, Mem.more, j92, j93, j94, j95, mask, unmask, AOp.reads, AOpnd.top, AV.top, ins, nidOf, slotIn, j98, clash, j100, j103, j104, j106, j67, j66, bmore, j79, hF, AF36, s36, aloop, hb, hlt, g0, nb_old, nb_beq_ne]
      exact ⟨_, rfl, keep_bx (by repeat first | exact LogOK.nil | apply LogOK.cons)⟩
    | [m0, m1], _, _, hg, hb =>
      have g0 := fun l lg' d' => hg m0 (by simp) ⟨bxt h l, lg', d'⟩ Old.bx
      have g1 := fun l lg' d' => hg m1 (by simp) ⟨bxt h l, lg', d'⟩ Old.bx
      simp only [Cm.av, cmd, List.map_cons, List.map_nil] at hb g0 g1
      simp (config := { maxSteps := 1000000, implicitDefEqProofs := false }) only [acall, acode, aops, awanted, aoper, AOp.isCall, j0, j1, aprim, aev, tg_zn, tg_ln, tg_rn, ts_ze, ts_zn, ts_le, ts_ln, ts_rn, tputs, aput, j5, abin, kindEq, binInt, j6, j9, AV.cells?, j12, Mem.apply, Mem.applyAll, acallee, aevs, j13, j14, j16, aun, j17, j18, Nat.ble, Nat.reduceDiv, Nat.reduceMod, Nat.reduceMul, Nat.reduceAdd, Nat.reduceLeDiff, ares, aresL, ares1, j20, j21, Nat.beq, Pth.succ, j22, j23, j24, bin_a, bin_b, bin_c, bputl, blen, bnth, Mem.killAll, j26, j27, rowGet, rowGet0, rowSet, rowSet0, chunk, j34, j35, j37, j38, j51, j52, j54, j55, j56, j57, j58, j59, j60, j61, j62, j64, j65, refsL, AV.refs, j66, j67, j68, j71, Int.reduceLT, Int.reduceLE, Int.reduceToNat, Int.reduceAdd, Int.reduceNeg, Nat.reduceLT, wrapI, j74, j79, AOp.isMaker, adraw, Mem.more, j92, j93, j94, j95, mask, unmask, AOp.reads, AOpnd.top, AV.top, ins, nidOf, slotIn, j98, clash, j100, j103, j104, j106, j67, j66, bmore, j79, hF, AF36, s36, aloop, hb, hlt, g0, g1, nb_old, nb_beq_ne]
      exact ⟨_, rfl, keep_bx (by repeat first | exact LogOK.nil | apply LogOK.cons)⟩
    | [m0, m1, m2], _, _, hg, hb =>
      have g0 := fun l lg' d' => hg m0 (by simp) ⟨bxt h l, lg', d'⟩ Old.bx
      have g1 := fun l lg' d' => hg m1 (by simp) ⟨bxt h l, lg', d'⟩ Old.bx
      have g2 := fun l lg' d' => hg m2 (by simp) ⟨bxt h l, lg', d'⟩ Old.bx
      simp only [Cm.av, cmd, List.map_cons, List.map_nil] at hb g0 g1 g2
      simp (config := { maxSteps := 1000000, implicitDefEqProofs := false }) only [acall, acode, aops, awanted, aoper, AOp.isCall, j0, j1, aprim, aev, tg_zn, tg_ln, tg_rn, ts_ze, ts_zn, ts_le, ts_ln, ts_rn, tputs, aput, j5, abin, kindEq, binInt, j6, j9, AV.cells?, j12, Mem.apply, Mem.applyAll, acallee, aevs, j13, j14, j16, aun, j17, j18, Nat.ble, Nat.reduceDiv, Nat.reduceMod, Nat.reduceMul, Nat.reduceAdd, Nat.reduceLeDiff, ares, aresL, ares1, j20, j21, Nat.beq, Pth.succ, j22, j23, j24, bin_a, bin_b, bin_c, bputl, blen, bnth, Mem.killAll, j26, j27, rowGet, rowGet0, rowSet, rowSet0, chunk, j34, j35, j37, j38, j51, j52, j54, j55, j56, j57, j58, j59, j60, j61, j62, j64, j65, refsL, AV.refs, j66, j67, j68, j71, Int.reduceLT, Int.reduceLE, Int.reduceToNat, Int.reduceAdd, Int.reduceNeg, Nat.reduceLT, wrapI, j74, j79, AOp.isMaker, adraw, Mem.more, j92, j93, j94, j95, mask, unmask, AOp.reads, AOpnd.top, AV.top, ins, nidOf, slotIn, j98, clash, j100, j103, j104, j106, j67, j66, bmore, j79, hF, AF36, s36, aloop, hb, hlt, g0, g1, g2, nb_old, nb_beq_ne]
      exact ⟨_, rfl, keep_bx (by repeat first | exact LogOK.nil | apply LogOK.cons)⟩
    | [m0, m1, m2, m3], _, _, hg, hb =>
      have g0 := fun l lg' d' => hg m0 (by simp) ⟨bxt h l, lg', d'⟩ Old.bx
      have g1 := fun l lg' d' => hg m1 (by simp) ⟨bxt h l, lg', d'⟩ Old.bx
      have g2 := fun l lg' d' => hg m2 (by simp) ⟨bxt h l, lg', d'⟩ Old.bx
      have g3 := fun l lg' d' => hg m3 (by simp) ⟨bxt h l, lg', d'⟩ Old.bx
      simp only [Cm.av, cmd, List.map_cons, List.map_nil] at hb g0 g1 g2 g3
      simp (config := { maxSteps := 1000000, implicitDefEqProofs := false }) only [acall, acode, aops, awanted, aoper, AOp.isCall, j0, j1, aprim, aev, tg_zn, tg_ln, tg_rn, ts_ze, ts_zn, ts_le, ts_ln, ts_rn, tputs, aput, j5, abin, kindEq, binInt, j6, j9, AV.cells?, j12, Mem.apply, Mem.applyAll, acallee, aevs, j13, j14, j16, aun, j17, j18, Nat.ble, Nat.reduceDiv, Nat.reduceMod, Nat.reduceMul, Nat.reduceAdd, Nat.reduceLeDiff, ares, aresL, ares1, j20, j21, Nat.beq, Pth.succ, j22, j23, j24, bin_a, bin_b, bin_c, bputl, blen, bnth, Mem.killAll, j26, j27, rowGet, rowGet0, rowSet, rowSet0, chunk, j34, j35, j37, j38, j51, j52, j54, j55, j56, j57, j58, j59, j60, j61, j62, j64, j65, refsL, AV.refs, j66, j67, j68, j71, Int.reduceLT, Int.reduceLE, Int.reduceToNat, Int.reduceAdd, Int.reduceNeg, Nat.reduceLT, wrapI, j74, j79, AOp.isMaker, adraw, Mem.more, j92, j93, j94, j95, mask, unmask, AOp.reads, AOpnd.top, AV.top, ins, nidOf, slotIn, j98, clash, j100, j103, j104, j106, j67, j66, bmore, j79, hF, AF36, s36, aloop, hb, hlt, g0, g1, g2, g3, nb_old, nb_beq_ne]
      exact ⟨_, rfl, keep_bx (by repeat first | exact LogOK.nil | apply LogOK.cons)⟩
    | _ :: _ :: _ :: _ :: _ :: _, _, hl, _, _ => simp at hl

def H41 (sm : Summ) : Prop := ∀ (g : FuncId) (caps : List AV) (k : Nat) (es : List (List AV)) (b : Nat) (own : Bool) (c : Option Nat) (m : Mem), g = 34 → CfgsOK k es → bget m.blks b = some (.row own 16 es) → (∀ e ∈ es, ∀ m', Old m.blks m'.blks → sm g (.agg e :: caps) m' = some (.bool true, m')) →
  sm 41 [.slice b 0 k c, .func g [] caps] m = some (.bool true, m)
set_option maxHeartbeats 16000000 in
theorem e41 (hF : F 41 = some AF41) (s41 : ∀ vs m, sm 41 vs m = none) (n : Nat) (h : Blks) (lg d : List Nat) {g : FuncId} {caps : List AV} {k : Nat} {es : List (List AV)} {b : Nat} {own : Bool} {c : Option Nat} (hC : CfgsOK k es) (hb : bget h b = some (.row own 16 es)) (hg : ∀ e ∈ es, ∀ m', Old h m'.blks → sm g (.agg e :: caps) m' = some (.bool true, m')) :
    Ev F meth sm (n + 5) 41 [.slice b 0 k c, .func g [] caps] ⟨h, lg, d⟩ (.bool true) := by
  refine Ev.of ?_
  have hlt := bget_lt hb
  cases hC with
  | @two q w l re by_ w2 w3 rd bst q' w' l' re' by' w2' w3' rd' bst' k0 k1 =>
    have g0 := fun l lg' d' => hg _ (List.mem_cons_self) ⟨bxt h l, lg', d'⟩ Old.bx
    have g1 := fun l lg' d' => hg _ (List.mem_cons_of_mem _ List.mem_cons_self) ⟨bxt h l, lg', d'⟩ Old.bx
    simp only [cfg] at hb g0 g1
    simp (config := { maxSteps := 1000000, implicitDefEqProofs := false }) only [acall, acode, aops, awanted, aoper, AOp.isCall, j0, j1, aprim, aev, tg_zn, tg_ln, tg_rn, ts_ze, ts_zn, ts_le, ts_ln, ts_rn, tputs, aput, j4, j5, abin, kindEq, binInt, j6, j9, AV.cells?, j12, Mem.apply, Mem.applyAll, acallee, aevs, j13, j14, j16, aun, j17, j18, Nat.ble, Nat.reduceDiv, Nat.reduceMod, Nat.reduceMul, Nat.reduceAdd, Nat.reduceLeDiff, ares, aresL, ares1, j20, j21, Nat.beq, Pth.succ, j22, j23, j24, bin_a, bin_b, bin_c, bputl, blen, bnth, Mem.killAll, j26, j27, rowGet, rowGet0, rowSet, rowSet0, chunk, j34, j35, j37, j51, j52, j54, j55, j56, j57, j58, j59, j60, j61, j62, j64, j65, refsL, AV.refs, j66, j67, j68, j71, Int.reduceLT, Int.reduceLE, Int.reduceToNat, Int.reduceAdd, Int.reduceNeg, Nat.reduceLT, wrapI, j74, j79, AOp.isMaker, adraw, Mem.more, j92, j93, j94, j95, mask, unmask, AOp.reads, AOpnd.top, AV.top, ins, nidOf, slotIn, j98, clash, j100, j103, j104, j106, j67, j66, bmore, j79, hF, AF41, s41, aloop, hb, hlt, g0, g1, nb_old, nb_beq_ne]
    exact ⟨_, rfl, keep_bx (by repeat first | exact LogOK.nil | apply LogOK.cons)⟩
  | @three q w l re by_ w2 w3 rd bst q' w' l' re' by' w2' w3' rd' bst' q2 w_2 l2 re2 by2 w22 w32 rd2 bst2 k0 k1 k2 =>
    have g0 := fun l lg' d' => hg _ (List.mem_cons_self) ⟨bxt h l, lg', d'⟩ Old.bx
    have g1 := fun l lg' d' => hg _ (List.mem_cons_of_mem _ List.mem_cons_self) ⟨bxt h l, lg', d'⟩ Old.bx
    have g2 := fun l lg' d' => hg _ (List.mem_cons_of_mem _ (List.mem_cons_of_mem _ List.mem_cons_self)) ⟨bxt h l, lg', d'⟩ Old.bx
    simp only [cfg] at hb g0 g1 g2
    simp (config := { maxSteps := 1000000, implicitDefEqProofs := false }) only [acall, acode, aops, awanted, aoper, AOp.isCall, j0, j1, aprim, aev, tg_zn, tg_ln, tg_rn, ts_ze, ts_zn, ts_le, ts_ln, ts_rn, tputs, aput, j4, j5, abin, kindEq, binInt, j6, j9, AV.cells?, j12, Mem.apply, Mem.applyAll, acallee, aevs, j13, j14, j16, aun, j17, j18, Nat.ble, Nat.reduceDiv, Nat.reduceMod, Nat.reduceMul, Nat.reduceAdd, Nat.reduceLeDiff, ares, aresL, ares1, j20, j21, Nat.beq, Pth.succ, j22, j23, j24, bin_a, bin_b, bin_c, bputl, blen, bnth, Mem.killAll, j26, j27, rowGet, rowGet0, rowSet, rowSet0, chunk, j34, j35, j37, j51, j52, j54, j55, j56, j57, j58, j59, j60, j61, j62, j64, j65, refsL, AV.refs, j66, j67, j68, j71, Int.reduceLT, Int.reduceLE, Int.reduceToNat, Int.reduceAdd, Int.reduceNeg, Nat.reduceLT, wrapI, j74, j79, AOp.isMaker, adraw, Mem.more, j92, j93, j94, j95, mask, unmask, AOp.reads, AOpnd.top, AV.top, ins, nidOf, slotIn, j98, clash, j100, j103, j104, j106, j67, j66, bmore, j79, hF, AF41, s41, aloop, hb, hlt, g0, g1, g2, nb_old, nb_beq_ne]
    exact ⟨_, rfl, keep_bx (by repeat first | exact LogOK.nil | apply LogOK.cons)⟩

def H39 (sm : Summ) : Prop := ∀ (g : FuncId) (caps : List AV) (k : Nat) (ps : List (List AV)) (b : Nat) (own : Bool) (c : Option Nat) (m : Mem), g = 31 → PlanOK k ps → bget m.blks b = some (.row own 6 ps) → (∀ e ∈ ps, ∀ m', Old m.blks m'.blks → sm g (.agg e :: caps) m' = some (.bool true, m')) →
  sm 39 [.slice b 0 ps.length c, .func g [] caps] m = some (.bool true, m)
set_option maxHeartbeats 16000000 in
theorem e39 (hF : F 39 = some AF39) (s39 : ∀ vs m, sm 39 vs m = none) (n : Nat) (h : Blks) (lg d : List Nat) {g : FuncId} {caps : List AV} {k : Nat} {ps : List (List AV)} {b : Nat} {own : Bool} {c : Option Nat} (hP : PlanOK k ps) (hb : bget h b = some (.row own 6 ps)) (hg : ∀ e ∈ ps, ∀ m', Old h m'.blks → sm g (.agg e :: caps) m' = some (.bool true, m')) :
    Ev F meth sm (n + 6) 39 [.slice b 0 ps.length c, .func g [] caps] ⟨h, lg, d⟩ (.bool true) := by
  refine Ev.of ?_
  have hlt := bget_lt hb
  cases hP with
  | two k0 k1 =>
    have g0 := fun l lg' d' => hg _ (List.mem_cons_self) ⟨bxt h l, lg', d'⟩ Old.bx
    have g1 := fun l lg' d' => hg _ (List.mem_cons_of_mem _ List.mem_cons_self) ⟨bxt h l, lg', d'⟩ Old.bx
    simp only [ct] at hb g0 g1
    simp (config := { maxSteps := 1000000, implicitDefEqProofs := false }) only [acall, acode, aops, awanted, aoper, AOp.isCall, j0, j1, aprim, aev, tg_zn, tg_ln, tg_rn, ts_ze, ts_zn, ts_le, ts_ln, ts_rn, tputs, aput, j5, abin, kindEq, binInt, j6, j9, AV.cells?, j12, Mem.apply, Mem.applyAll, acallee, aevs, j13, j14, j16, aun, j17, j18, Nat.ble, Nat.reduceDiv, Nat.reduceMod, Nat.reduceMul, Nat.reduceAdd, Nat.reduceLeDiff, ares, aresL, ares1, j20, j21, Nat.beq, Pth.succ, j22, j23, j24, bin_a, bin_b, bin_c, bputl, blen, bnth, Mem.killAll, j26, j27, rowGet, rowGet0, rowSet, rowSet0, chunk, j34, j35, j37, j51, j52, j54, j55, j56, j57, j58, j59, j60, j61, j62, j64, j65, refsL, AV.refs, j66, j67, j68, j71, Int.reduceLT, Int.reduceLE, Int.reduceToNat, Int.reduceAdd, Int.reduceNeg, Nat.reduceLT, wrapI, j74, j79, AOp.isMaker, adraw, Mem.more, j92, j93, j94, j95, mask, unmask, AOp.reads, AOpnd.top, AV.top, ins, nidOf, slotIn, j98, clash, j100, j103, j104, j106, j67, j66, bmore, j79, hF, AF39, s39, aloop, hb, hlt, g0, g1, ct, nb_old, nb_beq_ne]
    exact ⟨_, rfl, keep_bx (by repeat first | exact LogOK.nil | apply LogOK.cons)⟩
  | three k0 k1 k2 k3 =>
    have g0 := fun l lg' d' => hg _ (List.mem_cons_self) ⟨bxt h l, lg', d'⟩ Old.bx
    have g1 := fun l lg' d' => hg _ (List.mem_cons_of_mem _ List.mem_cons_self) ⟨bxt h l, lg', d'⟩ Old.bx
    have g2 := fun l lg' d' => hg _ (List.mem_cons_of_mem _ (List.mem_cons_of_mem _ List.mem_cons_self)) ⟨bxt h l, lg', d'⟩ Old.bx
    have g3 := fun l lg' d' => hg _ (List.mem_cons_of_mem _ (List.mem_cons_of_mem _ (List.mem_cons_of_mem _ List.mem_cons_self))) ⟨bxt h l, lg', d'⟩ Old.bx
    simp only [ct] at hb g0 g1 g2 g3
    simp (config := { maxSteps := 1000000, implicitDefEqProofs := false }) only [acall, acode, aops, awanted, aoper, AOp.isCall, j0, j1, aprim, aev, tg_zn, tg_ln, tg_rn, ts_ze, ts_zn, ts_le, ts_ln, ts_rn, tputs, aput, j5, abin, kindEq, binInt, j6, j9, AV.cells?, j12, Mem.apply, Mem.applyAll, acallee, aevs, j13, j14, j16, aun, j17, j18, Nat.ble, Nat.reduceDiv, Nat.reduceMod, Nat.reduceMul, Nat.reduceAdd, Nat.reduceLeDiff, ares, aresL, ares1, j20, j21, Nat.beq, Pth.succ, j22, j23, j24, bin_a, bin_b, bin_c, bputl, blen, bnth, Mem.killAll, j26, j27, rowGet, rowGet0, rowSet, rowSet0, chunk, j34, j35, j37, j51, j52, j54, j55, j56, j57, j58, j59, j60, j61, j62, j64, j65, refsL, AV.refs, j66, j67, j68, j71, Int.reduceLT, Int.reduceLE, Int.reduceToNat, Int.reduceAdd, Int.reduceNeg, Nat.reduceLT, wrapI, j74, j79, AOp.isMaker, adraw, Mem.more, j92, j93, j94, j95, mask, unmask, AOp.reads, AOpnd.top, AV.top, ins, nidOf, slotIn, j98, clash, j100, j103, j104, j106, j67, j66, bmore, j79, hF, AF39, s39, aloop, hb, hlt, g0, g1, g2, g3, ct, nb_old, nb_beq_ne]
    exact ⟨_, rfl, keep_bx (by repeat first | exact LogOK.nil | apply LogOK.cons)⟩
end
section
variable {F : FuncId → Option AFunc} {meth : Meth} {sm : Summ}

/-- A configuration in a box. -/
def cfgB (i q w l re by_ w2 w3 rd bst : Int) : List (List AV) := [[.int .i64 i], [.int .u64 q], [.int .u64 100], [.int .u64 w], [.int .u64 l], [.int .i64 re], [.int .i64 10], [.int .i64 by_], [.int .i64 1], [.int .i64 w2], [.int .i64 w3], [.int .i64 100], [.int .i64 rd], [.int .i64 bst], [.int .i64 1024], [.int .i64 100]]
def H35 (sm : Summ) : Prop := ∀ (i q w l re by_ w2 w3 rd bst node seq dest prio life : Int) (s : List UInt8) (p : Nat) (own : Bool) (m : Mem), CfgOK q w l re by_ w2 w3 rd bst → BuOK node seq dest prio life s → bget m.blks 1 = some (.row false 1 headsR) → bget m.blks p = some (.row own 1 (cfgB i q w l re by_ w2 w3 rd bst)) →
  sm 35 [.agg (cmd node seq dest prio life s), .ptr p 0 0] m = some (.bool true, m)
set_option maxHeartbeats 16000000 in
theorem e35 (hF : F 35 = some AF35) (s35 : ∀ vs m, sm 35 vs m = none) (h27 : H27 sm) (n : Nat) (h : Blks) (lg d : List Nat) {i q w l re by_ w2 w3 rd bst node seq dest prio life : Int} {s : List UInt8} {p : Nat} {own : Bool} (C : CfgOK q w l re by_ w2 w3 rd bst) (B : BuOK node seq dest prio life s) (hT : bget h 1 = some (.row false 1 headsR)) (hp : bget h p = some (.row own 1 (cfgB i q w l re by_ w2 w3 rd bst))) :
    Ev F meth sm (n + 2) 35 [.agg (cmd node seq dest prio life s), .ptr p 0 0] ⟨h, lg, d⟩ (.bool true) := by
  refine Ev.of ?_
  have hlp := bget_lt hp
  have hlT := bget_lt hT
  have g27 := fun m hm => h27 node seq dest prio life s m B hm
  have s2 := B.s2
  have w1 : IntKind.u64.wrap (12 + (s.length : Int)) = 12 + (s.length : Int) := wrapU (by omega) (by omega)
  have c1 : 12 + (s.length : Int) ≤ w := by have := C.g3; omega
  unfold bu at g27
  simp only [cfgB] at hp
  simp (config := { maxSteps := 1000000, implicitDefEqProofs := false }) only [acall, acode, aops, awanted, aoper, AOp.isCall, j0, j1, aprim, aev, tg_zn, tg_ln, tg_rn, ts_ze, ts_zn, ts_ln, ts_rn, tputs, aput, reduceCtorEq, j4, j5, abin, kindEq, binInt, j6, j9, j10, AV.cells?, j12, Mem.apply, Mem.applyAll, acallee, aevs, j13, j14, j17, j18, Nat.ble, Nat.reduceDiv, Nat.reduceMod, Nat.reduceMul, Nat.reduceAdd, Nat.reduceLeDiff, j19, ares, aresL, ares1, j20, j21, Nat.beq, Pth.succ, j22, j23, j24, bin_a, bputl, blen, bnth, Mem.killAll, j26, rowGet, rowGet0, chunk, j34, j35, j37, j38, j51, j52, j54, j55, j56, j57, j58, j59, j60, j61, j64, j65, refsL, AV.refs, j66, j67, j68, j79, AOp.isMaker, adraw, Mem.more, j92, j93, j94, j95, mask, unmask, AOp.reads, AOpnd.top, AV.top, ins, nidOf, slotIn, j98, clash, j100, j103, j67, j66, bmore, j79, hF, AF35, s35, cmd, g27, hp, hlp, hT, hlT, c1, w1, nb_old]
  exact ⟨_, rfl, keep_bx (by repeat first | exact LogOK.nil | apply LogOK.cons)⟩

end
section
variable {F : FuncId → Option AFunc} {meth : Meth} {sm : Summ}

def H34 (sm : Summ) : Prop := ∀ (k : Nat) (es ps : List (List AV)) (cs : List Cm) (b1 b2 : Nat) (own1 own2 : Bool) (c1 c2 : Option Nat) (M : AV) (p1 p6 : Nat) (o1 o6 : Bool) (x i q w l re by_ w2 w3 rd bst : Int) (m : Mem), Sc m.blks k es ps cs b1 b2 own1 own2 M → CfgOK q w l re by_ w2 w3 rd bst → 0 ≤ x → x ≤ 116 →
  bget m.blks p1 = some (.row o1 3 [[.slice b1 0 k c1, .slice b2 0 ps.length c2, M]]) → bget m.blks p6 = some (.row o6 1 [[.int .i64 x]]) →
  sm 34 [.agg (cfg i q w l re by_ w2 w3 rd bst), .ptr p1 0 0, .ptr p6 0 0] m = some (.bool true, m)
set_option maxHeartbeats 16000000 in
theorem e34 (hF : F 34 = some AF34) (s34 : ∀ vs m, sm 34 vs m = none) (h35 : H35 sm) (h36 : H36 sm) (n : Nat) (h : Blks) (lg d : List Nat) {k : Nat} {es ps : List (List AV)} {cs : List Cm} {b1 b2 : Nat} {own1 own2 : Bool} {c1 c2 : Option Nat} {M : AV} {p1 p6 : Nat} {o1 o6 : Bool} {x i q w l re by_ w2 w3 rd bst : Int}
    (S : Sc h k es ps cs b1 b2 own1 own2 M) (C : CfgOK q w l re by_ w2 w3 rd bst) (x1 : 0 ≤ x) (x2 : x ≤ 116) (hp1 : bget h p1 = some (.row o1 3 [[.slice b1 0 k c1, .slice b2 0 ps.length c2, M]])) (hp6 : bget h p6 = some (.row o6 1 [[.int .i64 x]])) :
    Ev F meth sm (n + 2) 34 [.agg (cfg i q w l re by_ w2 w3 rd bst), .ptr p1 0 0, .ptr p6 0 0] ⟨h, lg, d⟩ (.bool true) := by
  refine Ev.of ?_
  have hl1 := bget_lt hp1
  have hl6 := bget_lt hp6
  have hk := S.two_three
  have hM := S.hM.scalar
  have g36 := fun m (hS : Sc m.blks k es ps cs b1 b2 own1 own2 M) (hq : bget m.blks (nb h 0) = some (.row true 1 (cfgB i q w l re by_ w2 w3 rd bst))) =>
    h36 35 [.ptr (nb h 0) 0 0] cs M m (.inr rfl) hS.len hS.hM (fun c hc m' ho => h35 i q w l re by_ w2 w3 rd bst c.node c.seq c.dest c.prio c.life c.s (nb h 0) true m' C (hS.cOK c hc).bu (ho.get hS.h1) (ho.get hq))
  have gS : ∀ l, Sc (bxt h l) k es ps cs b1 b2 own1 own2 M := fun l => S.old Old.bx
  have a1 := C.g1
  have a2 := C.g2
  have a3 := C.g3
  have a4 := C.g4
  have a5 := C.g5
  have a6 := C.g6
  have w1 : IntKind.u64.wrap x = x := wrapU (by omega) (by omega)
  simp only [cfgB] at g36
  rcases hk with rfl | rfl
  · have v1 : IntKind.u64.wrap (1 * w) = w := by rw [Int.one_mul]; exact wrapU (by omega) (by omega)
    have v2 : IntKind.u64.wrap (x + w) = x + w := wrapU (by omega) (by omega)
    have v3 : IntKind.u64.wrap (x + w + l) = x + w + l := wrapU (by omega) (by omega)
    have c3 : x + w + l ≤ q := by omega
    simp (config := { maxSteps := 1000000, implicitDefEqProofs := false }) only [acall, acode, aops, awanted, aoper, AOp.isCall, j0, j1, aprim, aev, tg_zn, tg_ln, tg_rn, ts_ze, ts_zn, ts_ln, ts_rn, tputs, aput, reduceCtorEq, j4, j5, abin, kindEq, binInt, j6, j9, j10, AV.cells?, j12, Mem.apply, Mem.applyAll, acallee, aevs, j13, j14, j17, j18, Nat.ble, Nat.reduceDiv, Nat.reduceMod, Nat.reduceMul, Nat.reduceAdd, Nat.reduceLeDiff, j19, ares, aresL, ares1, j20, j21, Pth.succ, j22, j23, j24, bin_a, bputl, blen, bnth, Mem.killAll, j26, j31, rowGet, rowGet0, chunk, j34, j35, j37, j51, j52, j54, j55, j56, j57, j58, j59, j60, j61, j64, j65, refsL, AV.refs, j66, j67, j68, j71, Int.reduceLE, Int.reduceSub, Int.reduceNeg, wrapI, wrapU, j73, j74, j79, j85, AOp.isMaker, adraw, Mem.more, j92, j93, j94, j95, mask, unmask, AOp.reads, AOpnd.top, AV.top, ins, nidOf, slotIn, j98, clash, j100, j103, j106, j67, j66, bmore, j79, hF, AF34, s34, cfg, g36, gS, hp1, hl1, hp6, hl6, w1, v1, v2, v3, c3, nb_old]
    exact ⟨_, rfl, keep_bx (by repeat first | exact LogOK.nil | apply LogOK.cons)⟩
  · have v1 : IntKind.u64.wrap (2 * w) = 2 * w := wrapU (by omega) (by omega)
    have v2 : IntKind.u64.wrap (x + 2 * w) = x + 2 * w := wrapU (by omega) (by omega)
    have v3 : IntKind.u64.wrap (x + 2 * w + l) = x + 2 * w + l := wrapU (by omega) (by omega)
    have c3 : x + 2 * w + l ≤ q := by omega
    simp (config := { maxSteps := 1000000, implicitDefEqProofs := false }) only [acall, acode, aops, awanted, aoper, AOp.isCall, j0, j1, aprim, aev, tg_zn, tg_ln, tg_rn, ts_ze, ts_zn, ts_ln, ts_rn, tputs, aput, reduceCtorEq, j4, j5, abin, kindEq, binInt, j6, j9, j10, AV.cells?, j12, Mem.apply, Mem.applyAll, acallee, aevs, j13, j14, j17, j18, Nat.ble, Nat.reduceDiv, Nat.reduceMod, Nat.reduceMul, Nat.reduceAdd, Nat.reduceLeDiff, j19, ares, aresL, ares1, j20, j21, Pth.succ, j22, j23, j24, bin_a, bputl, blen, bnth, Mem.killAll, j26, j31, rowGet, rowGet0, chunk, j34, j35, j37, j51, j52, j54, j55, j56, j57, j58, j59, j60, j61, j64, j65, refsL, AV.refs, j66, j67, j68, j71, Int.reduceLE, Int.reduceSub, Int.reduceNeg, wrapI, wrapU, j73, j74, j79, j85, AOp.isMaker, adraw, Mem.more, j92, j93, j94, j95, mask, unmask, AOp.reads, AOpnd.top, AV.top, ins, nidOf, slotIn, j98, clash, j100, j103, j106, j67, j66, bmore, j79, hF, AF34, s34, cfg, g36, gS, hp1, hl1, hp6, hl6, w1, v1, v2, v3, c3, nb_old]
    exact ⟨_, rfl, keep_bx (by repeat first | exact LogOK.nil | apply LogOK.cons)⟩

end
section
variable {F : FuncId → Option AFunc} {meth : Meth} {sm : Summ}

def H31 (sm : Summ) : Prop := ∀ (k : Nat) (es ps : List (List AV)) (cs : List Cm) (b1 b2 : Nat) (own1 own2 : Bool) (c1 c2 : Option Nat) (M : AV) (p1 p5 : Nat) (o1 o5 : Bool) (x : Int) (e : List AV) (m : Mem), Sc m.blks k es ps cs b1 b2 own1 own2 M → e ∈ ps → x ≤ 199 →
  bget m.blks p1 = some (.row o1 3 [[.slice b1 0 k c1, .slice b2 0 ps.length c2, M]]) → bget m.blks p5 = some (.row o5 1 [[.int .i64 x]]) →
  sm 31 [.agg e, .ptr p5 0 0, .ptr p1 0 0] m = some (.bool true, m)
set_option maxHeartbeats 16000000 in
theorem e31 (hF : F 31 = some AF31) (h32 : F 32 = some AF32) (h33 : F 33 = some AF33) (h53 : F 53 = some AF53) (s31 : ∀ vs m, sm 31 vs m = none) (s32 : ∀ vs m, sm 32 vs m = none) (s33 : ∀ vs m, sm 33 vs m = none) (s53 : ∀ vs m, sm 53 vs m = none) (h29 : H29 sm) (n : Nat) (h : Blks) (lg d : List Nat) {k : Nat} {es ps : List (List AV)} {cs : List Cm} {b1 b2 : Nat} {own1 own2 : Bool} {c1 c2 : Option Nat} {M : AV} {p1 p5 : Nat} {o1 o5 : Bool} {x : Int} {e : List AV}
    (S : Sc h k es ps cs b1 b2 own1 own2 M) (he : e ∈ ps) (hx : x ≤ 199) (hp1 : bget h p1 = some (.row o1 3 [[.slice b1 0 k c1, .slice b2 0 ps.length c2, M]])) (hp5 : bget h p5 = some (.row o5 1 [[.int .i64 x]])) :
    Ev F meth sm (n + 9) 31 [.agg e, .ptr p5 0 0, .ptr p1 0 0] ⟨h, lg, d⟩ (.bool true) := by
  refine Ev.of ?_
  have hl1 := bget_lt hp1
  have hl5 := bget_lt hp5
  have hb1 := S.hb1
  have hb2 := S.hb2
  have hlb1 := bget_lt hb1
  have hlb2 := bget_lt hb2
  have hM := S.hM.scalar
  obtain ⟨hC, hP, _, _, _, _, _, _, _⟩ := S
  cases hP with
  | @two x0 r0 d0 x1 r1 d1 k0 k1 =>
    have g1 := fun m hm => h29 2 es 1 b1 own1 c1 (.slice b2 0 2 c2) M m hC (by omega) (by omega) rfl hM hm
    have g2 := fun m hm => h29 2 es 2 b1 own1 c1 (.slice b2 0 2 c2) M m hC (by omega) (by omega) rfl hM hm
    have q0 : x ≤ x0 := by have := k0.a1; omega
    have q1 : x ≤ x1 := by have := k1.a1; omega
    simp only [ct, List.length_cons, List.length_nil] at hb2 hp1
    simp only [List.mem_cons, List.not_mem_nil, or_false] at he
    rcases he with rfl | rfl
    all_goals
      simp (config := { maxSteps := 1000000, implicitDefEqProofs := false }) only [acall, acode, aops, awanted, aoper, AOp.isCall, j0, j1, aprim, aev, tg_zn, tg_ln, tg_rn, ts_ze, ts_zn, ts_le, ts_ln, ts_rn, tputs, aput, reduceCtorEq, j4, j5, abin, kindEq, binInt, j6, j9, j10, AV.cells?, j12, Mem.apply, Mem.applyAll, acallee, aevs, j13, j14, j16, peq, peq1, j17, j18, Nat.ble, Nat.reduceDiv, Nat.reduceMod, Nat.reduceMul, Nat.reduceAdd, Nat.reduceLeDiff, j19, ares, aresL, ares1, j20, j21, Pth.succ, j22, j23, j24, bin_a, bin_c, bputl, blen, bnth, Mem.killAll, j26, j27, j31, j33, rowGet, rowGet0, chunk, j34, j35, j37, j51, j52, j54, j55, j56, j57, j59, j60, j61, j64, j65, refsL, AV.refs, j66, j67, j68, j71, Int.reduceLT, Int.reduceLE, Int.reduceToNat, Int.reduceAdd, Int.reduceBEq, Int.reduceNeg, Nat.reduceLT, wrapI, j73, j74, j79, j85, AOp.isMaker, adraw, Mem.more, j92, j93, j94, j95, mask, unmask, AOp.reads, AOpnd.top, AV.top, ins, j96, nidOf, slotIn, j98, clash, j100, j101, j103, j104, j105, j106, j107, j67, j66, bmore, j79, hF, h32, h33, h53, AF31, AF32, AF33, AF53, s31, s32, s33, s53, ct, g1, g2, hb1, hb2, hlb1, hlb2, hp1, hp5, hl1, hl5, q0, q1, aloop, nb_old, nb_beq_ne]
      exact ⟨_, rfl, keep_bx (by repeat first | exact LogOK.nil | apply LogOK.cons)⟩
  | @three x0 r0 d0 x1 r1 d1 x2 r2 d2 x3 r3 d3 k0 k1 k2 k3 =>
    have g1 := fun m hm => h29 3 es 1 b1 own1 c1 (.slice b2 0 4 c2) M m hC (by omega) (by omega) rfl hM hm
    have g2 := fun m hm => h29 3 es 2 b1 own1 c1 (.slice b2 0 4 c2) M m hC (by omega) (by omega) rfl hM hm
    have g3 := fun m hm => h29 3 es 3 b1 own1 c1 (.slice b2 0 4 c2) M m hC (by omega) (by omega) rfl hM hm
    have q0 : x ≤ x0 := by have := k0.a1; omega
    have q1 : x ≤ x1 := by have := k1.a1; omega
    have q2 : x ≤ x2 := by have := k2.a1; omega
    have q3 : x ≤ x3 := by have := k3.a1; omega
    simp only [ct, List.length_cons, List.length_nil] at hb2 hp1
    simp only [List.mem_cons, List.not_mem_nil, or_false] at he
    rcases he with rfl | rfl | rfl | rfl
    all_goals
      simp (config := { maxSteps := 1000000, implicitDefEqProofs := false }) only [acall, acode, aops, awanted, aoper, AOp.isCall, j0, j1, aprim, aev, tg_zn, tg_ln, tg_rn, ts_ze, ts_zn, ts_le, ts_ln, ts_rn, tputs, aput, reduceCtorEq, j4, j5, abin, kindEq, binInt, j6, j9, j10, AV.cells?, j12, Mem.apply, Mem.applyAll, acallee, aevs, j13, j14, j16, peq, peq1, j17, j18, Nat.ble, Nat.reduceDiv, Nat.reduceMod, Nat.reduceMul, Nat.reduceAdd, Nat.reduceLeDiff, j19, ares, aresL, ares1, j20, j21, Pth.succ, j22, j23, j24, bin_a, bin_c, bputl, blen, bnth, Mem.killAll, j26, j27, j31, j33, rowGet, rowGet0, chunk, j34, j35, j37, j51, j52, j54, j55, j56, j57, j59, j60, j61, j64, j65, refsL, AV.refs, j66, j67, j68, j71, Int.reduceLT, Int.reduceLE, Int.reduceToNat, Int.reduceAdd, Int.reduceBEq, Int.reduceNeg, Nat.reduceLT, wrapI, j73, j74, j79, j85, AOp.isMaker, adraw, Mem.more, j92, j93, j94, j95, mask, unmask, AOp.reads, AOpnd.top, AV.top, ins, j96, nidOf, slotIn, j98, clash, j100, j101, j103, j104, j105, j106, j107, j67, j66, bmore, j79, hF, h32, h33, h53, AF31, AF32, AF33, AF53, s31, s32, s33, s53, ct, g1, g2, g3, hb1, hb2, hlb1, hlb2, hp1, hp5, hl1, hl5, q0, q1, q2, q3, aloop, nb_old, nb_beq_ne]
      exact ⟨_, rfl, keep_bx (by repeat first | exact LogOK.nil | apply LogOK.cons)⟩
end

theorem CfgsOK.mem {k : Nat} {es : List (List AV)} (h : CfgsOK k es) {e : List AV} (he : e ∈ es) : ∃ i q w l re by_ w2 w3 rd bst : Int, e = cfg i q w l re by_ w2 w3 rd bst ∧ CfgOK q w l re by_ w2 w3 rd bst := by
  cases h with
  | two k0 k1 =>
    simp only [List.mem_cons, List.not_mem_nil, or_false] at he
    rcases he with rfl | rfl
    · exact ⟨_, _, _, _, _, _, _, _, _, _, rfl, k0⟩
    · exact ⟨_, _, _, _, _, _, _, _, _, _, rfl, k1⟩
  | three k0 k1 k2 =>
    simp only [List.mem_cons, List.not_mem_nil, or_false] at he
    rcases he with rfl | rfl | rfl
    · exact ⟨_, _, _, _, _, _, _, _, _, _, rfl, k0⟩
    · exact ⟨_, _, _, _, _, _, _, _, _, _, rfl, k1⟩
    · exact ⟨_, _, _, _, _, _, _, _, _, _, rfl, k2⟩
section
variable {F : FuncId → Option AFunc} {meth : Meth} {sm : Summ}

def H37 (sm : Summ) : Prop := ∀ (k : Nat) (es ps : List (List AV)) (cs : List Cm) (b1 b2 : Nat) (own1 own2 : Bool) (c1 c2 : Option Nat) (M : AV) (p1 p5 p9 : Nat) (o1 o5 o9 : Bool) (x : Int) (m : Mem), Sc m.blks k es ps cs b1 b2 own1 own2 M → x ≤ 199 →
  bget m.blks p1 = some (.row o1 3 [[.slice b1 0 k c1, .slice b2 0 ps.length c2, M]]) → bget m.blks p5 = some (.row o5 1 [[.int .i64 x]]) → bget m.blks p9 = some (.row o9 1 [[.func 28 [] [.ptr p1 0 0, .ptr p5 0 0]]]) →
  sm 37 [.ptr p1 0 0, .ptr p9 0 0] m = some (.bool true, m)
set_option maxHeartbeats 16000000 in
theorem e37 (hF : F 37 = some AF37) (s37 : ∀ vs m, sm 37 vs m = none) (h28 : H28 sm) (h36 : H36 sm) (n : Nat) (h : Blks) (lg d : List Nat) {k : Nat} {es ps : List (List AV)} {cs : List Cm} {b1 b2 : Nat} {own1 own2 : Bool} {c1 c2 : Option Nat} {M : AV} {p1 p5 p9 : Nat} {o1 o5 o9 : Bool} {x : Int}
    (S : Sc h k es ps cs b1 b2 own1 own2 M) (hx : x ≤ 199) (hp1 : bget h p1 = some (.row o1 3 [[.slice b1 0 k c1, .slice b2 0 ps.length c2, M]])) (hp5 : bget h p5 = some (.row o5 1 [[.int .i64 x]])) (hp9 : bget h p9 = some (.row o9 1 [[.func 28 [] [.ptr p1 0 0, .ptr p5 0 0]]])) :
    Ev F meth sm (n + 2) 37 [.ptr p1 0 0, .ptr p9 0 0] ⟨h, lg, d⟩ (.bool true) := by
  refine Ev.of ?_
  have hl1 := bget_lt hp1
  have hl5 := bget_lt hp5
  have hl9 := bget_lt hp9
  have gS : ∀ l, Sc (bxt h l) k es ps cs b1 b2 own1 own2 M := fun l => S.old Old.bx
  have g36 := fun m (hS : Sc m.blks k es ps cs b1 b2 own1 own2 M) (hp1 : bget m.blks p1 = some (.row o1 3 [[.slice b1 0 k c1, .slice b2 0 ps.length c2, M]])) (hp5 : bget m.blks p5 = some (.row o5 1 [[.int .i64 x]])) =>
    h36 28 [.ptr p1 0 0, .ptr p5 0 0] cs M m (.inl rfl) hS.len hS.hM (fun c hc m' ho => h28 k es ps cs b1 b2 own1 own2 c1 c2 M p1 p5 o1 o5 x c.node c.seq c.dest c.prio c.life c.s m' (hS.old ho) (hS.cOK c hc).bu (hS.cOK c hc).node (hS.cOK c hc).dest hx (ho.get hp1) (ho.get hp5))
  have hM := S.hM.scalar
  have hlen : LenAt M cs.length := by
    rcases S.hM with ⟨e, hm⟩ | ⟨_, b, _, c, hm, _⟩
    · exact .inl ⟨by rw [e]; rfl, hm⟩
    · exact .inr ⟨b, c, hm⟩
  have c30 : (cs.length : Int) ≤ 30 := by have := S.len; omega
  rcases hlen with ⟨_, rfl | rfl⟩ | ⟨b, c, rfl⟩
  all_goals
    simp (config := { maxSteps := 1000000, implicitDefEqProofs := false }) only [acall, acode, aops, awanted, aoper, AOp.isCall, j0, j1, aprim, aev, tg_zn, tg_ln, tg_rn, ts_ze, ts_zn, ts_ln, ts_rn, tputs, aput, reduceCtorEq, j4, j5, abin, kindEq, binInt, j6, j9, j10, j12, Mem.applyAll, acallee, aevs, j13, j14, j17, j18, Nat.ble, Nat.reduceDiv, Nat.reduceMod, Nat.reduceMul, Nat.reduceAdd, Nat.reduceLeDiff, j19, ares, aresL, ares1, j20, j21, Pth.succ, Mem.killAll, j26, j31, rowGet, rowGet0, j51, j52, j54, j55, j56, j57, j59, j60, j64, j65, j67, j68, j74, j79, AOp.isMaker, adraw, Mem.more, j92, j93, j94, j95, mask, unmask, AOp.reads, AOpnd.top, AV.top, ins, slotIn, j98, clash, j100, j103, j106, j67, bmore, j79, hF, AF37, s37, g36, gS, hp1, hp5, hp9, hl1, hl5, hl9, c30, nb_old]
    exact ⟨_, rfl, keep_bx (by repeat first | exact LogOK.nil | apply LogOK.cons)⟩

def H38 (sm : Summ) : Prop := ∀ (k : Nat) (es ps : List (List AV)) (cs : List Cm) (b1 b2 : Nat) (own1 own2 : Bool) (c1 c2 : Option Nat) (M : AV) (p1 p5 p9 : Nat) (o1 o5 o9 : Bool) (x : Int) (m : Mem), Sc m.blks k es ps cs b1 b2 own1 own2 M → x ≤ 199 →
  bget m.blks p1 = some (.row o1 3 [[.slice b1 0 k c1, .slice b2 0 ps.length c2, M]]) → bget m.blks p5 = some (.row o5 1 [[.int .i64 x]]) → bget m.blks p9 = some (.row o9 1 [[.func 31 [] [.ptr p5 0 0, .ptr p1 0 0]]]) →
  sm 38 [.ptr p1 0 0, .ptr p9 0 0] m = some (.bool true, m)
set_option maxHeartbeats 16000000 in
theorem e38 (hF : F 38 = some AF38) (s38 : ∀ vs m, sm 38 vs m = none) (h31 : H31 sm) (h39 : H39 sm) (n : Nat) (h : Blks) (lg d : List Nat) {k : Nat} {es ps : List (List AV)} {cs : List Cm} {b1 b2 : Nat} {own1 own2 : Bool} {c1 c2 : Option Nat} {M : AV} {p1 p5 p9 : Nat} {o1 o5 o9 : Bool} {x : Int}
    (S : Sc h k es ps cs b1 b2 own1 own2 M) (hx : x ≤ 199) (hp1 : bget h p1 = some (.row o1 3 [[.slice b1 0 k c1, .slice b2 0 ps.length c2, M]])) (hp5 : bget h p5 = some (.row o5 1 [[.int .i64 x]])) (hp9 : bget h p9 = some (.row o9 1 [[.func 31 [] [.ptr p5 0 0, .ptr p1 0 0]]])) :
    Ev F meth sm (n + 2) 38 [.ptr p1 0 0, .ptr p9 0 0] ⟨h, lg, d⟩ (.bool true) := by
  refine Ev.of ?_
  have hl1 := bget_lt hp1
  have hl5 := bget_lt hp5
  have hl9 := bget_lt hp9
  have gS : ∀ l, Sc (bxt h l) k es ps cs b1 b2 own1 own2 M := fun l => S.old Old.bx
  have g39 := fun m (hS : Sc m.blks k es ps cs b1 b2 own1 own2 M) (hp1 : bget m.blks p1 = some (.row o1 3 [[.slice b1 0 k c1, .slice b2 0 ps.length c2, M]])) (hp5 : bget m.blks p5 = some (.row o5 1 [[.int .i64 x]])) =>
    h39 31 [.ptr p5 0 0, .ptr p1 0 0] k ps b2 own2 c2 m rfl hS.hP hS.hb2 (fun e he m' ho => h31 k es ps cs b1 b2 own1 own2 c1 c2 M p1 p5 o1 o5 x e m' (hS.old ho) he hx (ho.get hp1) (ho.get hp5))
  have hM := S.hM.scalar
  simp (config := { maxSteps := 1000000, implicitDefEqProofs := false }) only [acall, acode, aops, awanted, aoper, AOp.isCall, j0, j1, aprim, aev, tg_zn, tg_ln, tg_rn, ts_ze, ts_zn, ts_ln, ts_rn, tputs, aput, reduceCtorEq, j4, j5, j9, j10, j12, Mem.applyAll, acallee, aevs, j13, j14, j17, j18, Nat.ble, Nat.reduceDiv, Nat.reduceMod, Nat.reduceMul, Nat.reduceAdd, Nat.reduceLeDiff, j19, ares, aresL, ares1, j20, j21, Pth.succ, Mem.killAll, rowGet, rowGet0, j51, j52, j54, j55, j56, j57, j59, j60, j64, j65, j67, j68, j79, AOp.isMaker, adraw, Mem.more, j92, j93, j94, j95, mask, unmask, AOp.reads, AOpnd.top, AV.top, ins, slotIn, j98, clash, j100, j103, j106, j67, bmore, j79, hF, AF38, s38, g39, gS, hp1, hp5, hp9, hl1, hl5, hl9, nb_old]
  exact ⟨_, rfl, keep_bx (by repeat first | exact LogOK.nil | apply LogOK.cons)⟩

def H40 (sm : Summ) : Prop := ∀ (k : Nat) (es ps : List (List AV)) (cs : List Cm) (b1 b2 : Nat) (own1 own2 : Bool) (c1 c2 : Option Nat) (M : AV) (p1 p6 p9 : Nat) (o1 o6 o9 : Bool) (x : Int) (m : Mem), Sc m.blks k es ps cs b1 b2 own1 own2 M → 0 ≤ x → x ≤ 116 →
  bget m.blks p1 = some (.row o1 3 [[.slice b1 0 k c1, .slice b2 0 ps.length c2, M]]) → bget m.blks p6 = some (.row o6 1 [[.int .i64 x]]) → bget m.blks p9 = some (.row o9 1 [[.func 34 [] [.ptr p1 0 0, .ptr p6 0 0]]]) →
  sm 40 [.ptr p6 0 0, .ptr p1 0 0, .ptr p9 0 0] m = some (.bool true, m)
set_option maxHeartbeats 16000000 in
theorem e40 (hF : F 40 = some AF40) (s40 : ∀ vs m, sm 40 vs m = none) (h34 : H34 sm) (h41 : H41 sm) (n : Nat) (h : Blks) (lg d : List Nat) {k : Nat} {es ps : List (List AV)} {cs : List Cm} {b1 b2 : Nat} {own1 own2 : Bool} {c1 c2 : Option Nat} {M : AV} {p1 p6 p9 : Nat} {o1 o6 o9 : Bool} {x : Int}
    (S : Sc h k es ps cs b1 b2 own1 own2 M) (x1 : 0 ≤ x) (x2 : x ≤ 116) (hp1 : bget h p1 = some (.row o1 3 [[.slice b1 0 k c1, .slice b2 0 ps.length c2, M]])) (hp6 : bget h p6 = some (.row o6 1 [[.int .i64 x]])) (hp9 : bget h p9 = some (.row o9 1 [[.func 34 [] [.ptr p1 0 0, .ptr p6 0 0]]])) :
    Ev F meth sm (n + 2) 40 [.ptr p6 0 0, .ptr p1 0 0, .ptr p9 0 0] ⟨h, lg, d⟩ (.bool true) := by
  refine Ev.of ?_
  have hl1 := bget_lt hp1
  have hl6 := bget_lt hp6
  have hl9 := bget_lt hp9
  have gS : ∀ l, Sc (bxt h l) k es ps cs b1 b2 own1 own2 M := fun l => S.old Old.bx
  have g41 := fun m (hS : Sc m.blks k es ps cs b1 b2 own1 own2 M) (hp1 : bget m.blks p1 = some (.row o1 3 [[.slice b1 0 k c1, .slice b2 0 ps.length c2, M]])) (hp6 : bget m.blks p6 = some (.row o6 1 [[.int .i64 x]])) =>
    h41 34 [.ptr p1 0 0, .ptr p6 0 0] k es b1 own1 c1 m rfl hS.hC hS.hb1 (fun e he m' ho => by
      obtain ⟨i, q, w, l, re, by_, w2, w3, rd, bst, rfl, C⟩ := hS.hC.mem he
      exact h34 k es ps cs b1 b2 own1 own2 c1 c2 M p1 p6 o1 o6 x i q w l re by_ w2 w3 rd bst m' (hS.old ho) C x1 x2 (ho.get hp1) (ho.get hp6))
  have hM := S.hM.scalar
  have c30 : x ≤ 8000 := by omega
  simp (config := { maxSteps := 1000000, implicitDefEqProofs := false }) only [acall, acode, aops, awanted, aoper, AOp.isCall, j0, j1, aprim, aev, tg_zn, tg_ln, tg_rn, ts_ze, ts_zn, ts_ln, ts_rn, tputs, aput, reduceCtorEq, j4, j5, abin, kindEq, binInt, j6, j9, j10, j12, Mem.applyAll, acallee, aevs, j13, j14, j17, j18, Nat.ble, Nat.reduceDiv, Nat.reduceMod, Nat.reduceMul, Nat.reduceAdd, Nat.reduceLeDiff, j19, ares, aresL, ares1, j20, j21, Pth.succ, Mem.killAll, j26, j31, rowGet, rowGet0, j51, j52, j54, j56, j57, j59, j60, j64, j65, j67, j68, j79, j85, AOp.isMaker, adraw, Mem.more, j92, j93, j94, j95, mask, unmask, AOp.reads, AOpnd.top, AV.top, ins, slotIn, j98, clash, j100, j103, j106, j67, bmore, j79, hF, AF40, s40, g41, gS, hp1, hp6, hp9, hl1, hl6, hl9, c30, nb_old]
  exact ⟨_, rfl, keep_bx (by repeat first | exact LogOK.nil | apply LogOK.cons)⟩
end
section
variable {F : FuncId → Option AFunc} {meth : Meth} {sm : Summ}
set_option maxHeartbeats 16000000 in
theorem e15_0 (hF : F 15 = some AF15) (s15 : ∀ vs m, sm 15 vs m = none) (h24 : H24 sm) (h25 : H25 sm) (h26 : H26 sm) (h27 : H27 sm) (h37 : H37 sm) (h38 : H38 sm) (h40 : H40 sm) (n : Nat) (h : Blks) (lg d : List Nat) {k : Nat} {es ps : List (List AV)} {b1 b2 : Nat} {own1 own2 : Bool} {c1 c2 : Option Nat} {M : AV}
    (S : Sc h k es ps [] b1 b2 own1 own2 M) (hM : M = .nilslice ∨ M = .slice0) :
    Ev F meth sm (n + 7) 15 [.agg [.slice b1 0 k c1, .slice b2 0 ps.length c2, M]] ⟨h, lg, d⟩ (.tuple [.bool true, .agg [.int .i64 0, .int .i64 0]]) := by
  refine Ev.of ?_
  have gS : ∀ l, Sc (bxt h l) k es ps [] b1 b2 own1 own2 M := fun l => S.old Old.bx
  have hk := S.two_three
  have g24 := fun m (hS : Sc m.blks k es ps [] b1 b2 own1 own2 M) => h24 k es ps [] b1 b2 own1 own2 c1 c2 M m hS.hC hS.hP hS.len hS.cOK hS.hb1 hS.hb2 hS.hM hS.h0
  obtain ⟨r, dl, r1, r2, d1, d2, h25⟩ := h25 k ps S.hP
  have hL : LenAt M 0 := .inl ⟨rfl, hM⟩
  have g25 := fun m (hS : Sc m.blks k es ps [] b1 b2 own1 own2 M) => h25 0 b1 b2 own2 c1 c2 M m hL hS.hb2
  obtain ⟨x, x1, x2, g26⟩ := h26 k 0 r dl (by omega) (by omega) (by omega) (by omega) r1 r2 d1 d2
  have g37 := fun m p9 (hS : Sc m.blks k es ps [] b1 b2 own1 own2 M) hp1 hp5 hp9 => h37 k es ps [] b1 b2 own1 own2 c1 c2 M (nb h 0) (nb h 3) p9 true true true x m hS x2 hp1 hp5 hp9
  have g38 := fun m p9 (hS : Sc m.blks k es ps [] b1 b2 own1 own2 M) hp1 hp5 hp9 => h38 k es ps [] b1 b2 own1 own2 c1 c2 M (nb h 0) (nb h 3) p9 true true true x m hS x2 hp1 hp5 hp9
  have g40 := fun m p9 (hS : Sc m.blks k es ps [] b1 b2 own1 own2 M) hp1 hp6 hp9 => h40 k es ps [] b1 b2 own1 own2 c1 c2 M (nb h 0) (nb h 4) p9 true true true 0 m hS (by omega) (by omega) hp1 hp6 hp9
  have hMs := S.hM.scalar
  have hT := S.h1
  have hlT := bget_lt hT
  simp only [tm] at g25 g26
  rcases hM with rfl | rfl
  all_goals
    simp (config := { maxSteps := 1000000, implicitDefEqProofs := false }) only [acall, acode, aops, awanted, aoper, AOp.isCall, j0, j1, aprim, aev, tg_zn, tg_ln, tg_rn, ts_ze, ts_zn, ts_le, ts_ln, ts_re, ts_rn, tputs, aput, reduceCtorEq, j4, j5, abin, kindEq, binInt, j6, j9, j10, AV.cells?, j12, Mem.apply, Mem.applyAll, acallee, aevs, j13, j14, j16, aun, peq, peq1, j17, j18, Nat.ble, Nat.reduceDiv, Nat.reduceMod, Nat.reduceMul, Nat.reduceAdd, Nat.reduceLeDiff, j19, ares, aresL, ares1, j20, j21, Nat.beq, j22, j23, j24, bin_a, bin_b, bin_c, bputl, blen, bnth, Mem.killAll, j26, j27, j31, rowGet, rowGet0, rowSet, rowSet0, chunk, j34, j35, j37, j43, j47, j51, j52, j54, j55, j56, j57, j58, j59, j60, j61, j62, j63, j64, j65, refsL, refsLL, AV.refs, j66, j67, j68, j71, Int.reduceLT, Int.reduceLE, Int.reduceToNat, Int.reduceAdd, Int.reduceNeg, Nat.reduceLT, Nat.reduceEqDiff, wrapI, j74, j79, j85, fillC, fillE, j88, AOp.isMaker, j89, j90, adraw, Mem.more, j92, j93, j94, j95, mask, unmask, AOp.reads, AOpnd.top, AV.top, ins, j96, nidOf, slotIn, j98, clash, j100, j101, j103, j104, j105, j106, j67, j66, bmore, j79, hF, AF15, s15, g24, g25, g26, g37, g38, g40, gS, hMs, aloop]
    exact ⟨_, rfl, keep_bx (by repeat first | exact LogOK.nil | apply LogOK.cons)⟩
set_option maxHeartbeats 16000000 in
theorem e15_1 (hF : F 15 = some AF15) (s15 : ∀ vs m, sm 15 vs m = none) (h24 : H24 sm) (h25 : H25 sm) (h26 : H26 sm) (h27 : H27 sm) (h37 : H37 sm) (h38 : H38 sm) (h40 : H40 sm) (n : Nat) (h : Blks) (lg d : List Nat) {k : Nat} {es ps : List (List AV)} {m0 : Cm} {b1 b2 : Nat} {own1 own2 : Bool} {c1 c2 : Option Nat} {M : AV}
    (S : Sc h k es ps [m0] b1 b2 own1 own2 M) {b3 : Nat} {own3 : Bool} {c3 : Option Nat} (hM : M = .slice b3 0 1 c3) (hb3 : bget h b3 = some (.row own3 15 [m0.av])) :
    Ev F meth sm (n + 7) 15 [.agg [.slice b1 0 k c1, .slice b2 0 ps.length c2, M]] ⟨h, lg, d⟩ (.tuple [.bool true, .agg [.int .i64 0, .int .i64 0]]) := by
  refine Ev.of ?_
  have gS : ∀ l, Sc (bxt h l) k es ps [m0] b1 b2 own1 own2 M := fun l => S.old Old.bx
  have hk := S.two_three
  have g24 := fun m (hS : Sc m.blks k es ps [m0] b1 b2 own1 own2 M) => h24 k es ps [m0] b1 b2 own1 own2 c1 c2 M m hS.hC hS.hP hS.len hS.cOK hS.hb1 hS.hb2 hS.hM hS.h0
  obtain ⟨r, dl, r1, r2, d1, d2, h25⟩ := h25 k ps S.hP
  have hL : LenAt M 1 := .inr ⟨b3, c3, hM⟩
  have g25 := fun m (hS : Sc m.blks k es ps [m0] b1 b2 own1 own2 M) => h25 1 b1 b2 own2 c1 c2 M m hL hS.hb2
  obtain ⟨x, x1, x2, g26⟩ := h26 k 1 r dl (by omega) (by omega) (by omega) (by omega) r1 r2 d1 d2
  have g37 := fun m p9 (hS : Sc m.blks k es ps [m0] b1 b2 own1 own2 M) hp1 hp5 hp9 => h37 k es ps [m0] b1 b2 own1 own2 c1 c2 M (nb h 0) (nb h 3) p9 true true true x m hS x2 hp1 hp5 hp9
  have g38 := fun m p9 (hS : Sc m.blks k es ps [m0] b1 b2 own1 own2 M) hp1 hp5 hp9 => h38 k es ps [m0] b1 b2 own1 own2 c1 c2 M (nb h 0) (nb h 3) p9 true true true x m hS x2 hp1 hp5 hp9
  have B0 := (S.cOK m0 (by simp)).bu
  have l0 := B0.s2
  have g27_0 := fun m hm => h27 m0.node m0.seq m0.dest m0.prio m0.life m0.s m B0 hm
  have z0 : 0 + (12 + (m0.s.length : Int)) = (12 + (m0.s.length : Int)) := Int.zero_add _
  have w0 : IntKind.i64.wrap (12 + (m0.s.length : Int)) = (12 + (m0.s.length : Int)) := wrapI (by omega) (by omega)
  have g40 := fun m p9 (hS : Sc m.blks k es ps [m0] b1 b2 own1 own2 M) hp1 hp6 hp9 => h40 k es ps [m0] b1 b2 own1 own2 c1 c2 M (nb h 0) (nb h 4) p9 true true true (12 + (m0.s.length : Int)) m hS (by omega) (by omega) hp1 hp6 hp9
  have hMs := S.hM.scalar
  have hT := S.h1
  have hlT := bget_lt hT
  simp only [tm] at g25 g26
  have hl3 := bget_lt hb3
  simp only [Cm.av, cmd] at hb3
  simp only [bu] at g27_0
  subst hM
  simp (config := { maxSteps := 1000000, implicitDefEqProofs := false }) only [acall, acode, aops, awanted, aoper, AOp.isCall, j0, j1, aprim, aev, tg_zn, tg_ln, tg_rn, ts_ze, ts_zn, ts_le, ts_ln, ts_re, ts_rn, tputs, aput, reduceCtorEq, j4, j5, abin, kindEq, binInt, j6, j9, j10, AV.cells?, j12, Mem.apply, Mem.applyAll, acallee, aevs, j13, j14, j16, aun, peq, peq1, j17, j18, Nat.ble, Nat.reduceDiv, Nat.reduceMod, Nat.reduceMul, Nat.reduceAdd, Nat.reduceLeDiff, j19, ares, aresL, ares1, j20, j21, Nat.beq, j22, j23, j24, bin_a, bin_b, bin_c, bputl, blen, bnth, Mem.killAll, j26, j27, j31, rowGet, rowGet0, rowSet, rowSet0, chunk, j34, j35, j37, j38, j43, j47, j51, j52, j54, j55, j56, j57, j58, j59, j60, j61, j62, j63, j64, j65, refsL, refsLL, AV.refs, j66, j67, j68, j71, Int.reduceLT, Int.reduceLE, Int.reduceToNat, Int.reduceAdd, Int.reduceNeg, Nat.reduceLT, Nat.reduceEqDiff, wrapI, j74, j79, j85, fillC, fillE, j88, AOp.isMaker, j89, j90, adraw, Mem.more, j92, j93, j94, j95, mask, unmask, AOp.reads, AOpnd.top, AV.top, ins, j96, nidOf, slotIn, j98, clash, j100, j101, j103, j104, j105, j106, j67, j66, bmore, j79, hF, AF15, s15, g24, g25, g26, g37, g38, g40, gS, hMs, hT, hlT, z0, w0, g27_0, hb3, hl3, nb_old, nb_beq_ne, aloop]
  exact ⟨_, rfl, keep_bx (by repeat first | exact LogOK.nil | apply LogOK.cons)⟩
set_option maxHeartbeats 16000000 in
theorem e15_2 (hF : F 15 = some AF15) (s15 : ∀ vs m, sm 15 vs m = none) (h24 : H24 sm) (h25 : H25 sm) (h26 : H26 sm) (h27 : H27 sm) (h37 : H37 sm) (h38 : H38 sm) (h40 : H40 sm) (n : Nat) (h : Blks) (lg d : List Nat) {k : Nat} {es ps : List (List AV)} {m0 m1 : Cm} {b1 b2 : Nat} {own1 own2 : Bool} {c1 c2 : Option Nat} {M : AV}
    (S : Sc h k es ps [m0, m1] b1 b2 own1 own2 M) {b3 : Nat} {own3 : Bool} {c3 : Option Nat} (hM : M = .slice b3 0 2 c3) (hb3 : bget h b3 = some (.row own3 15 [m0.av, m1.av])) :
    Ev F meth sm (n + 7) 15 [.agg [.slice b1 0 k c1, .slice b2 0 ps.length c2, M]] ⟨h, lg, d⟩ (.tuple [.bool true, .agg [.int .i64 0, .int .i64 0]]) := by
  refine Ev.of ?_
  have gS : ∀ l, Sc (bxt h l) k es ps [m0, m1] b1 b2 own1 own2 M := fun l => S.old Old.bx
  have hk := S.two_three
  have g24 := fun m (hS : Sc m.blks k es ps [m0, m1] b1 b2 own1 own2 M) => h24 k es ps [m0, m1] b1 b2 own1 own2 c1 c2 M m hS.hC hS.hP hS.len hS.cOK hS.hb1 hS.hb2 hS.hM hS.h0
  obtain ⟨r, dl, r1, r2, d1, d2, h25⟩ := h25 k ps S.hP
  have hL : LenAt M 2 := .inr ⟨b3, c3, hM⟩
  have g25 := fun m (hS : Sc m.blks k es ps [m0, m1] b1 b2 own1 own2 M) => h25 2 b1 b2 own2 c1 c2 M m hL hS.hb2
  obtain ⟨x, x1, x2, g26⟩ := h26 k 2 r dl (by omega) (by omega) (by omega) (by omega) r1 r2 d1 d2
  have g37 := fun m p9 (hS : Sc m.blks k es ps [m0, m1] b1 b2 own1 own2 M) hp1 hp5 hp9 => h37 k es ps [m0, m1] b1 b2 own1 own2 c1 c2 M (nb h 0) (nb h 3) p9 true true true x m hS x2 hp1 hp5 hp9
  have g38 := fun m p9 (hS : Sc m.blks k es ps [m0, m1] b1 b2 own1 own2 M) hp1 hp5 hp9 => h38 k es ps [m0, m1] b1 b2 own1 own2 c1 c2 M (nb h 0) (nb h 3) p9 true true true x m hS x2 hp1 hp5 hp9
  have B0 := (S.cOK m0 (by simp)).bu
  have l0 := B0.s2
  have g27_0 := fun m hm => h27 m0.node m0.seq m0.dest m0.prio m0.life m0.s m B0 hm
  have z0 : 0 + (12 + (m0.s.length : Int)) = (12 + (m0.s.length : Int)) := Int.zero_add _
  have w0 : IntKind.i64.wrap (12 + (m0.s.length : Int)) = (12 + (m0.s.length : Int)) := wrapI (by omega) (by omega)
  have B1 := (S.cOK m1 (by simp)).bu
  have l1 := B1.s2
  have g27_1 := fun m hm => h27 m1.node m1.seq m1.dest m1.prio m1.life m1.s m B1 hm
  have w1 : IntKind.i64.wrap ((12 + (m0.s.length : Int)) + (12 + (m1.s.length : Int))) = ((12 + (m0.s.length : Int)) + (12 + (m1.s.length : Int))) := wrapI (by omega) (by omega)
  have g40 := fun m p9 (hS : Sc m.blks k es ps [m0, m1] b1 b2 own1 own2 M) hp1 hp6 hp9 => h40 k es ps [m0, m1] b1 b2 own1 own2 c1 c2 M (nb h 0) (nb h 4) p9 true true true ((12 + (m0.s.length : Int)) + (12 + (m1.s.length : Int))) m hS (by omega) (by omega) hp1 hp6 hp9
  have hMs := S.hM.scalar
  have hT := S.h1
  have hlT := bget_lt hT
  simp only [tm] at g25 g26
  have hl3 := bget_lt hb3
  simp only [Cm.av, cmd] at hb3
  simp only [bu] at g27_0 g27_1
  subst hM
  simp (config := { maxSteps := 1000000, implicitDefEqProofs := false }) only [acall, acode, aops, awanted, aoper, AOp.isCall, j0, j1, aprim, aev, tg_zn, tg_ln, tg_rn, ts_ze, ts_zn, ts_le, ts_ln, ts_re, ts_rn, tputs, aput, reduceCtorEq, j4, j5, abin, kindEq, binInt, j6, j9, j10, AV.cells?, j12, Mem.apply, Mem.applyAll, acallee, aevs, j13, j14, j16, aun, peq, peq1, j17, j18, Nat.ble, Nat.reduceDiv, Nat.reduceMod, Nat.reduceMul, Nat.reduceAdd, Nat.reduceLeDiff, j19, ares, aresL, ares1, j20, j21, Nat.beq, j22, j23, j24, bin_a, bin_b, bin_c, bputl, blen, bnth, Mem.killAll, j26, j27, j31, rowGet, rowGet0, rowSet, rowSet0, chunk, j34, j35, j37, j38, j43, j47, j51, j52, j54, j55, j56, j57, j58, j59, j60, j61, j62, j63, j64, j65, refsL, refsLL, AV.refs, j66, j67, j68, j71, Int.reduceLT, Int.reduceLE, Int.reduceToNat, Int.reduceAdd, Int.reduceNeg, Nat.reduceLT, Nat.reduceEqDiff, wrapI, j74, j79, j85, fillC, fillE, j88, AOp.isMaker, j89, j90, adraw, Mem.more, j92, j93, j94, j95, mask, unmask, AOp.reads, AOpnd.top, AV.top, ins, j96, nidOf, slotIn, j98, clash, j100, j101, j103, j104, j105, j106, j67, j66, bmore, j79, hF, AF15, s15, g24, g25, g26, g37, g38, g40, gS, hMs, hT, hlT, z0, w0, g27_0, w1, g27_1, hb3, hl3, nb_old, nb_beq_ne, aloop]
  exact ⟨_, rfl, keep_bx (by repeat first | exact LogOK.nil | apply LogOK.cons)⟩
set_option maxHeartbeats 16000000 in
theorem e15_3 (hF : F 15 = some AF15) (s15 : ∀ vs m, sm 15 vs m = none) (h24 : H24 sm) (h25 : H25 sm) (h26 : H26 sm) (h27 : H27 sm) (h37 : H37 sm) (h38 : H38 sm) (h40 : H40 sm) (n : Nat) (h : Blks) (lg d : List Nat) {k : Nat} {es ps : List (List AV)} {m0 m1 m2 : Cm} {b1 b2 : Nat} {own1 own2 : Bool} {c1 c2 : Option Nat} {M : AV}
    (S : Sc h k es ps [m0, m1, m2] b1 b2 own1 own2 M) {b3 : Nat} {own3 : Bool} {c3 : Option Nat} (hM : M = .slice b3 0 3 c3) (hb3 : bget h b3 = some (.row own3 15 [m0.av, m1.av, m2.av])) :
    Ev F meth sm (n + 7) 15 [.agg [.slice b1 0 k c1, .slice b2 0 ps.length c2, M]] ⟨h, lg, d⟩ (.tuple [.bool true, .agg [.int .i64 0, .int .i64 0]]) := by
  refine Ev.of ?_
  have gS : ∀ l, Sc (bxt h l) k es ps [m0, m1, m2] b1 b2 own1 own2 M := fun l => S.old Old.bx
  have hk := S.two_three
  have g24 := fun m (hS : Sc m.blks k es ps [m0, m1, m2] b1 b2 own1 own2 M) => h24 k es ps [m0, m1, m2] b1 b2 own1 own2 c1 c2 M m hS.hC hS.hP hS.len hS.cOK hS.hb1 hS.hb2 hS.hM hS.h0
  obtain ⟨r, dl, r1, r2, d1, d2, h25⟩ := h25 k ps S.hP
  have hL : LenAt M 3 := .inr ⟨b3, c3, hM⟩
  have g25 := fun m (hS : Sc m.blks k es ps [m0, m1, m2] b1 b2 own1 own2 M) => h25 3 b1 b2 own2 c1 c2 M m hL hS.hb2
  obtain ⟨x, x1, x2, g26⟩ := h26 k 3 r dl (by omega) (by omega) (by omega) (by omega) r1 r2 d1 d2
  have g37 := fun m p9 (hS : Sc m.blks k es ps [m0, m1, m2] b1 b2 own1 own2 M) hp1 hp5 hp9 => h37 k es ps [m0, m1, m2] b1 b2 own1 own2 c1 c2 M (nb h 0) (nb h 3) p9 true true true x m hS x2 hp1 hp5 hp9
  have g38 := fun m p9 (hS : Sc m.blks k es ps [m0, m1, m2] b1 b2 own1 own2 M) hp1 hp5 hp9 => h38 k es ps [m0, m1, m2] b1 b2 own1 own2 c1 c2 M (nb h 0) (nb h 3) p9 true true true x m hS x2 hp1 hp5 hp9
  have B0 := (S.cOK m0 (by simp)).bu
  have l0 := B0.s2
  have g27_0 := fun m hm => h27 m0.node m0.seq m0.dest m0.prio m0.life m0.s m B0 hm
  have z0 : 0 + (12 + (m0.s.length : Int)) = (12 + (m0.s.length : Int)) := Int.zero_add _
  have w0 : IntKind.i64.wrap (12 + (m0.s.length : Int)) = (12 + (m0.s.length : Int)) := wrapI (by omega) (by omega)
  have B1 := (S.cOK m1 (by simp)).bu
  have l1 := B1.s2
  have g27_1 := fun m hm => h27 m1.node m1.seq m1.dest m1.prio m1.life m1.s m B1 hm
  have w1 : IntKind.i64.wrap ((12 + (m0.s.length : Int)) + (12 + (m1.s.length : Int))) = ((12 + (m0.s.length : Int)) + (12 + (m1.s.length : Int))) := wrapI (by omega) (by omega)
  have B2 := (S.cOK m2 (by simp)).bu
  have l2 := B2.s2
  have g27_2 := fun m hm => h27 m2.node m2.seq m2.dest m2.prio m2.life m2.s m B2 hm
  have w2 : IntKind.i64.wrap (((12 + (m0.s.length : Int)) + (12 + (m1.s.length : Int))) + (12 + (m2.s.length : Int))) = (((12 + (m0.s.length : Int)) + (12 + (m1.s.length : Int))) + (12 + (m2.s.length : Int))) := wrapI (by omega) (by omega)
  have g40 := fun m p9 (hS : Sc m.blks k es ps [m0, m1, m2] b1 b2 own1 own2 M) hp1 hp6 hp9 => h40 k es ps [m0, m1, m2] b1 b2 own1 own2 c1 c2 M (nb h 0) (nb h 4) p9 true true true (((12 + (m0.s.length : Int)) + (12 + (m1.s.length : Int))) + (12 + (m2.s.length : Int))) m hS (by omega) (by omega) hp1 hp6 hp9
  have hMs := S.hM.scalar
  have hT := S.h1
  have hlT := bget_lt hT
  simp only [tm] at g25 g26
  have hl3 := bget_lt hb3
  simp only [Cm.av, cmd] at hb3
  simp only [bu] at g27_0 g27_1 g27_2
  subst hM
  simp (config := { maxSteps := 1000000, implicitDefEqProofs := false }) only [acall, acode, aops, awanted, aoper, AOp.isCall, j0, j1, aprim, aev, tg_zn, tg_ln, tg_rn, ts_ze, ts_zn, ts_le, ts_ln, ts_re, ts_rn, tputs, aput, reduceCtorEq, j4, j5, abin, kindEq, binInt, j6, j9, j10, AV.cells?, j12, Mem.apply, Mem.applyAll, acallee, aevs, j13, j14, j16, aun, peq, peq1, j17, j18, Nat.ble, Nat.reduceDiv, Nat.reduceMod, Nat.reduceMul, Nat.reduceAdd, Nat.reduceLeDiff, j19, ares, aresL, ares1, j20, j21, Nat.beq, j22, j23, j24, bin_a, bin_b, bin_c, bputl, blen, bnth, Mem.killAll, j26, j27, j31, rowGet, rowGet0, rowSet, rowSet0, chunk, j34, j35, j37, j38, j43, j47, j51, j52, j54, j55, j56, j57, j58, j59, j60, j61, j62, j63, j64, j65, refsL, refsLL, AV.refs, j66, j67, j68, j71, Int.reduceLT, Int.reduceLE, Int.reduceToNat, Int.reduceAdd, Int.reduceNeg, Nat.reduceLT, Nat.reduceEqDiff, wrapI, j74, j79, j85, fillC, fillE, j88, AOp.isMaker, j89, j90, adraw, Mem.more, j92, j93, j94, j95, mask, unmask, AOp.reads, AOpnd.top, AV.top, ins, j96, nidOf, slotIn, j98, clash, j100, j101, j103, j104, j105, j106, j67, j66, bmore, j79, hF, AF15, s15, g24, g25, g26, g37, g38, g40, gS, hMs, hT, hlT, z0, w0, g27_0, w1, g27_1, w2, g27_2, hb3, hl3, nb_old, nb_beq_ne, aloop]
  exact ⟨_, rfl, keep_bx (by repeat first | exact LogOK.nil | apply LogOK.cons)⟩
set_option maxHeartbeats 16000000 in
theorem e15_4 (hF : F 15 = some AF15) (s15 : ∀ vs m, sm 15 vs m = none) (h24 : H24 sm) (h25 : H25 sm) (h26 : H26 sm) (h27 : H27 sm) (h37 : H37 sm) (h38 : H38 sm) (h40 : H40 sm) (n : Nat) (h : Blks) (lg d : List Nat) {k : Nat} {es ps : List (List AV)} {m0 m1 m2 m3 : Cm} {b1 b2 : Nat} {own1 own2 : Bool} {c1 c2 : Option Nat} {M : AV}
    (S : Sc h k es ps [m0, m1, m2, m3] b1 b2 own1 own2 M) {b3 : Nat} {own3 : Bool} {c3 : Option Nat} (hM : M = .slice b3 0 4 c3) (hb3 : bget h b3 = some (.row own3 15 [m0.av, m1.av, m2.av, m3.av])) :
    Ev F meth sm (n + 7) 15 [.agg [.slice b1 0 k c1, .slice b2 0 ps.length c2, M]] ⟨h, lg, d⟩ (.tuple [.bool true, .agg [.int .i64 0, .int .i64 0]]) := by
  refine Ev.of ?_
  have gS : ∀ l, Sc (bxt h l) k es ps [m0, m1, m2, m3] b1 b2 own1 own2 M := fun l => S.old Old.bx
  have hk := S.two_three
  have g24 := fun m (hS : Sc m.blks k es ps [m0, m1, m2, m3] b1 b2 own1 own2 M) => h24 k es ps [m0, m1, m2, m3] b1 b2 own1 own2 c1 c2 M m hS.hC hS.hP hS.len hS.cOK hS.hb1 hS.hb2 hS.hM hS.h0
  obtain ⟨r, dl, r1, r2, d1, d2, h25⟩ := h25 k ps S.hP
  have hL : LenAt M 4 := .inr ⟨b3, c3, hM⟩
  have g25 := fun m (hS : Sc m.blks k es ps [m0, m1, m2, m3] b1 b2 own1 own2 M) => h25 4 b1 b2 own2 c1 c2 M m hL hS.hb2
  obtain ⟨x, x1, x2, g26⟩ := h26 k 4 r dl (by omega) (by omega) (by omega) (by omega) r1 r2 d1 d2
  have g37 := fun m p9 (hS : Sc m.blks k es ps [m0, m1, m2, m3] b1 b2 own1 own2 M) hp1 hp5 hp9 => h37 k es ps [m0, m1, m2, m3] b1 b2 own1 own2 c1 c2 M (nb h 0) (nb h 3) p9 true true true x m hS x2 hp1 hp5 hp9
  have g38 := fun m p9 (hS : Sc m.blks k es ps [m0, m1, m2, m3] b1 b2 own1 own2 M) hp1 hp5 hp9 => h38 k es ps [m0, m1, m2, m3] b1 b2 own1 own2 c1 c2 M (nb h 0) (nb h 3) p9 true true true x m hS x2 hp1 hp5 hp9
  have B0 := (S.cOK m0 (by simp)).bu
  have l0 := B0.s2
  have g27_0 := fun m hm => h27 m0.node m0.seq m0.dest m0.prio m0.life m0.s m B0 hm
  have z0 : 0 + (12 + (m0.s.length : Int)) = (12 + (m0.s.length : Int)) := Int.zero_add _
  have w0 : IntKind.i64.wrap (12 + (m0.s.length : Int)) = (12 + (m0.s.length : Int)) := wrapI (by omega) (by omega)
  have B1 := (S.cOK m1 (by simp)).bu
  have l1 := B1.s2
  have g27_1 := fun m hm => h27 m1.node m1.seq m1.dest m1.prio m1.life m1.s m B1 hm
  have w1 : IntKind.i64.wrap ((12 + (m0.s.length : Int)) + (12 + (m1.s.length : Int))) = ((12 + (m0.s.length : Int)) + (12 + (m1.s.length : Int))) := wrapI (by omega) (by omega)
  have B2 := (S.cOK m2 (by simp)).bu
  have l2 := B2.s2
  have g27_2 := fun m hm => h27 m2.node m2.seq m2.dest m2.prio m2.life m2.s m B2 hm
  have w2 : IntKind.i64.wrap (((12 + (m0.s.length : Int)) + (12 + (m1.s.length : Int))) + (12 + (m2.s.length : Int))) = (((12 + (m0.s.length : Int)) + (12 + (m1.s.length : Int))) + (12 + (m2.s.length : Int))) := wrapI (by omega) (by omega)
  have B3 := (S.cOK m3 (by simp)).bu
  have l3 := B3.s2
  have g27_3 := fun m hm => h27 m3.node m3.seq m3.dest m3.prio m3.life m3.s m B3 hm
  have w3 : IntKind.i64.wrap ((((12 + (m0.s.length : Int)) + (12 + (m1.s.length : Int))) + (12 + (m2.s.length : Int))) + (12 + (m3.s.length : Int))) = ((((12 + (m0.s.length : Int)) + (12 + (m1.s.length : Int))) + (12 + (m2.s.length : Int))) + (12 + (m3.s.length : Int))) := wrapI (by omega) (by omega)
  have g40 := fun m p9 (hS : Sc m.blks k es ps [m0, m1, m2, m3] b1 b2 own1 own2 M) hp1 hp6 hp9 => h40 k es ps [m0, m1, m2, m3] b1 b2 own1 own2 c1 c2 M (nb h 0) (nb h 4) p9 true true true ((((12 + (m0.s.length : Int)) + (12 + (m1.s.length : Int))) + (12 + (m2.s.length : Int))) + (12 + (m3.s.length : Int))) m hS (by omega) (by omega) hp1 hp6 hp9
  have hMs := S.hM.scalar
  have hT := S.h1
  have hlT := bget_lt hT
  simp only [tm] at g25 g26
  have hl3 := bget_lt hb3
  simp only [Cm.av, cmd] at hb3
  simp only [bu] at g27_0 g27_1 g27_2 g27_3
  subst hM
  simp (config := { maxSteps := 1000000, implicitDefEqProofs := false }) only [acall, acode, aops, awanted, aoper, AOp.isCall, j0, j1, aprim, aev, tg_zn, tg_ln, tg_rn, ts_ze, ts_zn, ts_le, ts_ln, ts_re, ts_rn, tputs, aput, reduceCtorEq, j4, j5, abin, kindEq, binInt, j6, j9, j10, AV.cells?, j12, Mem.apply, Mem.applyAll, acallee, aevs, j13, j14, j16, aun, peq, peq1, j17, j18, Nat.ble, Nat.reduceDiv, Nat.reduceMod, Nat.reduceMul, Nat.reduceAdd, Nat.reduceLeDiff, j19, ares, aresL, ares1, j20, j21, Nat.beq, j22, j23, j24, bin_a, bin_b, bin_c, bputl, blen, bnth, Mem.killAll, j26, j27, j31, rowGet, rowGet0, rowSet, rowSet0, chunk, j34, j35, j37, j38, j43, j47, j51, j52, j54, j55, j56, j57, j58, j59, j60, j61, j62, j63, j64, j65, refsL, refsLL, AV.refs, j66, j67, j68, j71, Int.reduceLT, Int.reduceLE, Int.reduceToNat, Int.reduceAdd, Int.reduceNeg, Nat.reduceLT, Nat.reduceEqDiff, wrapI, j74, j79, j85, fillC, fillE, j88, AOp.isMaker, j89, j90, adraw, Mem.more, j92, j93, j94, j95, mask, unmask, AOp.reads, AOpnd.top, AV.top, ins, j96, nidOf, slotIn, j98, clash, j100, j101, j103, j104, j105, j106, j67, j66, bmore, j79, hF, AF15, s15, g24, g25, g26, g37, g38, g40, gS, hMs, hT, hlT, z0, w0, g27_0, w1, g27_1, w2, g27_2, w3, g27_3, hb3, hl3, nb_old, nb_beq_ne, aloop]
  exact ⟨_, rfl, keep_bx (by repeat first | exact LogOK.nil | apply LogOK.cons)⟩
end
section
variable {F : FuncId → Option AFunc} {meth : Meth} {sm : Summ}
/-- A list of commands: its five lengths. -/
theorem CmdsAt.five {h : Blks} {M : AV} {cs : List Cm} (hM : CmdsAt h M cs) (hl : cs.length ≤ 4) {P : List Cm → Prop}
    (p0 : (M = .nilslice ∨ M = .slice0) → P [])
    (p1 : ∀ m0 b own c, M = .slice b 0 1 c → bget h b = some (.row own 15 [m0.av]) → P [m0])
    (p2 : ∀ m0 m1 b own c, M = .slice b 0 2 c → bget h b = some (.row own 15 [m0.av, m1.av]) → P [m0, m1])
    (p3 : ∀ m0 m1 m2 b own c, M = .slice b 0 3 c → bget h b = some (.row own 15 [m0.av, m1.av, m2.av]) → P [m0, m1, m2])
    (p4 : ∀ m0 m1 m2 m3 b own c, M = .slice b 0 4 c → bget h b = some (.row own 15 [m0.av, m1.av, m2.av, m3.av]) → P [m0, m1, m2, m3]) : P cs := by
  rcases hM with ⟨rfl, hm⟩ | ⟨hne, b, own, c, hm, hb⟩
  · exact p0 hm
  · rcases cs with _ | ⟨m0, _ | ⟨m1, _ | ⟨m2, _ | ⟨m3, _ | ⟨m4, r⟩⟩⟩⟩⟩
    · exact absurd rfl hne
    · exact p1 m0 b own c hm hb
    · exact p2 m0 m1 b own c hm hb
    · exact p3 m0 m1 m2 b own c hm hb
    · exact p4 m0 m1 m2 m3 b own c hm hb
    · simp at hl

def H15 (sm : Summ) : Prop := ∀ (k : Nat) (es ps : List (List AV)) (cs : List Cm) (b1 b2 : Nat) (own1 own2 : Bool) (c1 c2 : Option Nat) (M : AV) (m : Mem), Sc m.blks k es ps cs b1 b2 own1 own2 M →
  sm 15 [.agg [.slice b1 0 k c1, .slice b2 0 ps.length c2, M]] m = some (.tuple [.bool true, .agg [.int .i64 0, .int .i64 0]], m)
theorem e15 (hF : F 15 = some AF15) (s15 : ∀ vs m, sm 15 vs m = none) (h24 : H24 sm) (h25 : H25 sm) (h26 : H26 sm) (h27 : H27 sm) (h37 : H37 sm) (h38 : H38 sm) (h40 : H40 sm) (n : Nat) (h : Blks) (lg d : List Nat) {k : Nat} {es ps : List (List AV)} {cs : List Cm} {b1 b2 : Nat} {own1 own2 : Bool} {c1 c2 : Option Nat} {M : AV}
    (S : Sc h k es ps cs b1 b2 own1 own2 M) : Ev F meth sm (n + 7) 15 [.agg [.slice b1 0 k c1, .slice b2 0 ps.length c2, M]] ⟨h, lg, d⟩ (.tuple [.bool true, .agg [.int .i64 0, .int .i64 0]]) := by
  refine S.hM.five S.len (P := fun cs => Sc h k es ps cs b1 b2 own1 own2 M → Ev F meth sm (n + 7) 15 [.agg [.slice b1 0 k c1, .slice b2 0 ps.length c2, M]] ⟨h, lg, d⟩ (.tuple [.bool true, .agg [.int .i64 0, .int .i64 0]])) ?_ ?_ ?_ ?_ ?_ S
  · intro hm S
    exact e15_0 hF s15 h24 h25 h26 h27 h37 h38 h40 n h lg d S hm
  · intro m0 b own c hm hb S
    exact e15_1 hF s15 h24 h25 h26 h27 h37 h38 h40 n h lg d S hm hb
  · intro m0 m1 b own c hm hb S
    exact e15_2 hF s15 h24 h25 h26 h27 h37 h38 h40 n h lg d S hm hb
  · intro m0 m1 m2 b own c hm hb S
    exact e15_3 hF s15 h24 h25 h26 h27 h37 h38 h40 n h lg d S hm hb
  · intro m0 m1 m2 m3 b own c hm hb S
    exact e15_4 hF s15 h24 h25 h26 h27 h37 h38 h40 n h lg d S hm hb

def H8 (sm : Summ) : Prop := ∀ (k : Nat) (es ps : List (List AV)) (cs : List Cm) (b1 b2 : Nat) (own1 own2 : Bool) (c1 c2 : Option Nat) (M : AV) (m : Mem), Sc m.blks k es ps cs b1 b2 own1 own2 M →
  sm 8 [.agg [.slice b1 0 k c1, .slice b2 0 ps.length c2, M]] m = some (.bool true, m)
theorem e8 (hF : F 8 = some AF8) (s8 : ∀ vs m, sm 8 vs m = none) (h15 : H15 sm) (n : Nat) (h : Blks) (lg d : List Nat) {k : Nat} {es ps : List (List AV)} {cs : List Cm} {b1 b2 : Nat} {own1 own2 : Bool} {c1 c2 : Option Nat} {M : AV}
    (S : Sc h k es ps cs b1 b2 own1 own2 M) : Ev F meth sm (n + 2) 8 [.agg [.slice b1 0 k c1, .slice b2 0 ps.length c2, M]] ⟨h, lg, d⟩ (.bool true) := by
  refine Ev.of ?_
  have gS : ∀ l, Sc (bxt h l) k es ps cs b1 b2 own1 own2 M := fun l => S.old Old.bx
  have g15 := fun m (hS : Sc m.blks k es ps cs b1 b2 own1 own2 M) => h15 k es ps cs b1 b2 own1 own2 c1 c2 M m hS
  have hMs := S.hM.scalar
  simp (config := { maxSteps := 1000000, implicitDefEqProofs := false }) only [acall, acode, aops, awanted, aoper, AOp.isCall, j0, j1, aprim, aev, tg_zn, tg_ln, tg_rn, ts_ze, ts_zn, ts_le, ts_ln, ts_rn, tputs, aput, reduceCtorEq, j4, j5, kindEq, j6, j9, j10, AV.cells?, j12, Mem.apply, Mem.applyAll, acallee, aevs, j13, j14, j16, peq, peq1, j17, j18, Nat.ble, Nat.reduceDiv, Nat.reduceMod, Nat.reduceMul, Nat.reduceAdd, Nat.reduceLeDiff, j19, ares, aresL, ares1, j20, j21, j22, j23, j24, bin_a, bin_b, bin_c, bputl, blen, bnth, Mem.killAll, j27, j31, rowGet, rowGet0, rowSet, rowSet0, chunk, j34, j35, j37, j43, j51, j52, j54, j55, j56, j57, j58, j59, j60, j61, j62, j64, j65, refsL, AV.refs, j66, j67, j68, j79, j85, AOp.isMaker, adraw, Mem.more, j92, j93, j94, j95, mask, unmask, AOp.reads, AOpnd.top, AV.top, ins, j96, nidOf, slotIn, j98, clash, j100, j103, j104, j105, j106, j67, j66, bmore, j79, hF, AF8, s8, g15, gS, hMs]
  exact ⟨_, rfl, keep_bx (by repeat first | exact LogOK.nil | apply LogOK.cons)⟩

set_option maxHeartbeats 4000000 in
theorem e24 (hF : F 24 = some AF24) (s24 : ∀ vs m, sm 24 vs m = none) (h44 : H44 sm) (h45 : H45 sm) (h46 : H46 sm) (n : Nat) (h : Blks) (lg d : List Nat) {k : Nat} {es ps : List (List AV)} {cs : List Cm} {b1 b2 : Nat} {own1 own2 : Bool} {c1 c2 : Option Nat} {M : AV}
    (hC : CfgsOK k es) (hP : PlanOK k ps) (hl : cs.length ≤ 4) (hO : ∀ c ∈ cs, c.OK k) (hb1 : bget h b1 = some (.row own1 16 es)) (hb2 : bget h b2 = some (.row own2 6 ps)) (hM : CmdsAt h M cs) (hT : bget h 0 = some (.row false 8 usesR)) :
    Ev F meth sm (n + 6) 24 [.agg [.slice b1 0 k c1, .slice b2 0 ps.length c2, M]] ⟨h, lg, d⟩ (.agg [.int .i64 0, .int .i64 0]) := by
  refine hM.five hl (P := fun cs => (∀ c ∈ cs, c.OK k) → Ev F meth sm (n + 6) 24 [.agg [.slice b1 0 k c1, .slice b2 0 ps.length c2, M]] ⟨h, lg, d⟩ (.agg [.int .i64 0, .int .i64 0])) ?_ ?_ ?_ ?_ ?_ hO
  · intro hm hO
    cases hC with
    | two k0 k1 => exact e24_20 hF s24 h44 h45 h46 n h lg d k0 k1 hP hb1 hb2 hm hT
    | three k0 k1 k2 => exact e24_30 hF s24 h44 h45 h46 n h lg d k0 k1 k2 hP hb1 hb2 hm hT
  · intro m0 b own c hm hb hO
    have z0 := hO m0 (by simp)
    cases hC with
    | two k0 k1 => exact e24_21 hF s24 h44 h45 h46 n h lg d k0 k1 z0 hP hb1 hb2 hm hb hT
    | three k0 k1 k2 => exact e24_31 hF s24 h44 h45 h46 n h lg d k0 k1 k2 z0 hP hb1 hb2 hm hb hT
  · intro m0 m1 b own c hm hb hO
    have z0 := hO m0 (by simp)
    have z1 := hO m1 (by simp)
    cases hC with
    | two k0 k1 => exact e24_22 hF s24 h44 h45 h46 n h lg d k0 k1 z0 z1 hP hb1 hb2 hm hb hT
    | three k0 k1 k2 => exact e24_32 hF s24 h44 h45 h46 n h lg d k0 k1 k2 z0 z1 hP hb1 hb2 hm hb hT
  · intro m0 m1 m2 b own c hm hb hO
    have z0 := hO m0 (by simp)
    have z1 := hO m1 (by simp)
    have z2 := hO m2 (by simp)
    cases hC with
    | two k0 k1 => exact e24_23 hF s24 h44 h45 h46 n h lg d k0 k1 z0 z1 z2 hP hb1 hb2 hm hb hT
    | three k0 k1 k2 => exact e24_33 hF s24 h44 h45 h46 n h lg d k0 k1 k2 z0 z1 z2 hP hb1 hb2 hm hb hT
  · intro m0 m1 m2 m3 b own c hm hb hO
    have z0 := hO m0 (by simp)
    have z1 := hO m1 (by simp)
    have z2 := hO m2 (by simp)
    have z3 := hO m3 (by simp)
    cases hC with
    | two k0 k1 => exact e24_24 hF s24 h44 h45 h46 n h lg d k0 k1 z0 z1 z2 z3 hP hb1 hb2 hm hb hT
    | three k0 k1 k2 => exact e24_34 hF s24 h44 h45 h46 n h lg d k0 k1 k2 z0 z1 z2 z3 hP hb1 hb2 hm hb hT
end
end Go.Proofs.YtcphofamajcimaaDoor
end
