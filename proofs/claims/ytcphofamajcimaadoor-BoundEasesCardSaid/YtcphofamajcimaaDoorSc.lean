/- Functions of the program on symbolic values: part Sc.
   Conditions: none; these are lemmas. -/
import Derived.Test.YtcphofamajcimaaDoorSb
import Derived.Test.YtcphofamajcimaaDoorSy
noncomputable section
namespace Go.Proofs.YtcphofamajcimaaDoor
open Go Go.Abs
set_option maxRecDepth 100000
set_option linter.unusedSimpArgs false
set_option linter.unusedVariables false
/-- What a command is made of. -/
structure Cm where
  node : Int
  seq : Int
  dest : Int
  prio : Int
  life : Int
  s : List UInt8
def Cm.av (c : Cm) : List AV := cmd c.node c.seq c.dest c.prio c.life c.s
structure Cm.OK (k : Nat) (c : Cm) : Prop where
  bu : BuOK c.node c.seq c.dest c.prio c.life c.s
  node : c.node ≤ k
  dest : c.dest ≤ k
/-- A list of commands: no memory, or a row of it. -/
def CmdsAt (h : Blks) (M : AV) (cs : List Cm) : Prop := (cs = [] ∧ (M = .nilslice ∨ M = .slice0)) ∨ (cs ≠ [] ∧ ∃ b own c, M = .slice b 0 cs.length c ∧ bget h b = some (.row own 15 (cs.map Cm.av)))
theorem CmdsAt.scalar {h : Blks} {M : AV} {cs : List Cm} (x : CmdsAt h M cs) : M.scalar = true := by
  rcases x with ⟨_, rfl | rfl⟩ | ⟨_, b, own, c, rfl, _⟩ <;> rfl
section
variable {F : FuncId → Option AFunc} {meth : Meth} {sm : Summ}

def H24 (sm : Summ) : Prop := ∀ (k : Nat) (es ps : List (List AV)) (cs : List Cm) (b1 b2 : Nat) (own1 own2 : Bool) (c1 c2 : Option Nat) (M : AV) (m : Mem), CfgsOK k es → PlanOK k ps → cs.length ≤ 4 → (∀ c ∈ cs, c.OK k) → bget m.blks b1 = some (.row own1 16 es) → bget m.blks b2 = some (.row own2 6 ps) → CmdsAt m.blks M cs → bget m.blks 0 = some (.row false 8 usesR) →
  sm 24 [.agg [.slice b1 0 k c1, .slice b2 0 ps.length c2, M]] m = some (.agg [.int .i64 0, .int .i64 0], m)
end
section
variable {F : FuncId → Option AFunc} {meth : Meth} {sm : Summ}
set_option maxHeartbeats 16000000 in
theorem e24_20 (hF : F 24 = some AF24) (s24 : ∀ vs m, sm 24 vs m = none) (h44 : H44 sm) (h45 : H45 sm) (h46 : H46 sm) (n : Nat) (h : Blks) (lg d : List Nat) {ps : List (List AV)} {q w l re by_ w2 w3 rd bst q' w' l' re' by' w2' w3' rd' bst' : Int} (k0 : CfgOK q w l re by_ w2 w3 rd bst) (k1 : CfgOK q' w' l' re' by' w2' w3' rd' bst')  {b1 b2 : Nat} {own1 own2 : Bool} {c1 c2 : Option Nat} {M : AV}
    (hP : PlanOK 2 ps) (hb1 : bget h b1 = some (.row own1 16 [cfg 1 q w l re by_ w2 w3 rd bst, cfg 2 q' w' l' re' by' w2' w3' rd' bst'])) (hb2 : bget h b2 = some (.row own2 6 ps)) (hM : M = .nilslice ∨ M = .slice0) (hT : bget h 0 = some (.row false 8 usesR)) :
    Ev F meth sm (n + 6) 24 [.agg [.slice b1 0 2 c1, .slice b2 0 ps.length c2, M]] ⟨h, lg, d⟩ (.agg [.int .i64 0, .int .i64 0]) := by
  refine Ev.of ?_
  have hl1 := bget_lt hb1
  have hl2 := bget_lt hb2
  have hl0 := bget_lt hT
  have g0 := fun m => h44 1 q w l re by_ w2 w3 rd bst m (by omega) (by omega) k0
  have g1 := fun m => h44 2 q' w' l' re' by' w2' w3' rd' bst' m (by omega) (by omega) k1
  have gp := fun m hm => h45 2 ps b2 own2 c2 m hP hm
  unfold cfg at hb1 g0 g1
  rcases hM with rfl | rfl
  all_goals
    simp (config := { maxSteps := 1000000, implicitDefEqProofs := false }) only [acall, acode, aops, awanted, aoper, AOp.isCall, j0, j1, aprim, aev, tg_zn, tg_ln, tg_rn, ts_ze, ts_zn, ts_le, ts_ln, ts_re, ts_rn, tputs, aput, reduceCtorEq, j4, j5, abin, kindEq, binInt, j6, j9, j10, AV.cells?, j12, Mem.apply, Mem.applyAll, acallee, aevs, j13, j14, j16, peq, peq1, j17, j18, Nat.ble, Nat.reduceDiv, Nat.reduceMod, Nat.reduceMul, Nat.reduceAdd, Nat.reduceLeDiff, j19, ares, aresL, ares1, j20, j21, Nat.beq, j22, j23, j24, bin_a, bin_b, bin_c, bputl, blen, bnth, Mem.killAll, j26, j27, j31, j33, rowGet, rowGet0, rowSet, rowSet0, chunk, j34, j35, j37, j41, j42, j43, j51, j52, j54, j55, j56, j57, j58, j59, j60, j61, j62, j64, j65, refsL, AV.refs, j66, j67, j68, j71, Int.reduceLT, Int.reduceLE, Int.reduceToNat, Int.reduceAdd, Int.reduceSub, Int.reduceBEq, Int.reduceNeg, Nat.reduceLT, wrapI, j72, j74, j79, j85, fillC, AOp.isMaker, adraw, Mem.more, j92, j93, j94, j95, mask, unmask, AOp.reads, AOpnd.top, AV.top, ins, j96, nidOf, slotIn, j98, clash, j100, j103, j104, j105, j106, j67, j66, bmore, j79, hF, AF24, s24, g0, g1, gp, hb1, hb2, hl1, hl2, nb_old, nb_beq_ne, aloop]
    exact ⟨_, rfl, keep_bx (by repeat first | exact LogOK.nil | apply LogOK.cons)⟩
set_option maxHeartbeats 16000000 in
theorem e24_21 (hF : F 24 = some AF24) (s24 : ∀ vs m, sm 24 vs m = none) (h44 : H44 sm) (h45 : H45 sm) (h46 : H46 sm) (n : Nat) (h : Blks) (lg d : List Nat) {ps : List (List AV)} {q w l re by_ w2 w3 rd bst q' w' l' re' by' w2' w3' rd' bst' : Int} (k0 : CfgOK q w l re by_ w2 w3 rd bst) (k1 : CfgOK q' w' l' re' by' w2' w3' rd' bst') {m0 : Cm} (z0 : Cm.OK 2 m0) {b1 b2 : Nat} {own1 own2 : Bool} {c1 c2 : Option Nat} {M : AV}
    (hP : PlanOK 2 ps) (hb1 : bget h b1 = some (.row own1 16 [cfg 1 q w l re by_ w2 w3 rd bst, cfg 2 q' w' l' re' by' w2' w3' rd' bst'])) (hb2 : bget h b2 = some (.row own2 6 ps)) {b3 : Nat} {own3 : Bool} {c3 : Option Nat} (hM : M = .slice b3 0 1 c3) (hb3 : bget h b3 = some (.row own3 15 [m0.av])) (hT : bget h 0 = some (.row false 8 usesR)) :
    Ev F meth sm (n + 6) 24 [.agg [.slice b1 0 2 c1, .slice b2 0 ps.length c2, M]] ⟨h, lg, d⟩ (.agg [.int .i64 0, .int .i64 0]) := by
  refine Ev.of ?_
  have hl1 := bget_lt hb1
  have hl2 := bget_lt hb2
  have hl0 := bget_lt hT
  have g0 := fun m => h44 1 q w l re by_ w2 w3 rd bst m (by omega) (by omega) k0
  have g1 := fun m => h44 2 q' w' l' re' by' w2' w3' rd' bst' m (by omega) (by omega) k1
  have gp := fun m hm => h45 2 ps b2 own2 c2 m hP hm
  have hl3 := bget_lt hb3
  have gc0 := fun m hm hT => h46 2 _ m0.node m0.seq m0.dest m0.prio m0.life m0.s b1 own1 c1 (.slice b2 0 ps.length c2) (.slice b3 0 1 c3) m (CfgsOK.two k0 k1) z0.bu z0.node rfl rfl hm hT
  unfold cfg at hb1 g0 g1 gc0
  simp only [Cm.av, cmd] at hb3 gc0
  subst hM
  simp (config := { maxSteps := 1000000, implicitDefEqProofs := false }) only [acall, acode, aops, awanted, aoper, AOp.isCall, j0, j1, aprim, aev, tg_zn, tg_ln, tg_rn, ts_ze, ts_zn, ts_le, ts_ln, ts_re, ts_rn, tputs, aput, reduceCtorEq, j4, j5, abin, kindEq, binInt, j6, j9, j10, AV.cells?, j12, Mem.apply, Mem.applyAll, acallee, aevs, j13, j14, j16, peq, peq1, j17, j18, Nat.ble, Nat.reduceDiv, Nat.reduceMod, Nat.reduceMul, Nat.reduceAdd, Nat.reduceLeDiff, j19, ares, aresL, ares1, j20, j21, Nat.beq, j22, j23, j24, bin_a, bin_b, bin_c, bputl, blen, bnth, Mem.killAll, j26, j27, j31, j33, rowGet, rowGet0, rowSet, rowSet0, chunk, j34, j35, j37, j38, j43, j51, j52, j54, j55, j56, j57, j58, j59, j60, j61, j62, j64, j65, refsL, AV.refs, j66, j67, j68, j71, Int.reduceLT, Int.reduceLE, Int.reduceToNat, Int.reduceAdd, Int.reduceSub, Int.reduceBEq, Int.reduceNeg, Nat.reduceLT, wrapI, j72, j74, j79, j85, fillC, AOp.isMaker, adraw, Mem.more, j92, j93, j94, j95, mask, unmask, AOp.reads, AOpnd.top, AV.top, ins, j96, nidOf, slotIn, j98, clash, j100, j103, j104, j105, j106, j67, j66, bmore, j79, hF, AF24, s24, g0, g1, gp, gc0, hb1, hb2, hb3, hT, hl0, hl1, hl2, hl3, nb_old, nb_beq_ne, aloop]
  exact ⟨_, rfl, keep_bx (by repeat first | exact LogOK.nil | apply LogOK.cons)⟩
set_option maxHeartbeats 16000000 in
theorem e24_22 (hF : F 24 = some AF24) (s24 : ∀ vs m, sm 24 vs m = none) (h44 : H44 sm) (h45 : H45 sm) (h46 : H46 sm) (n : Nat) (h : Blks) (lg d : List Nat) {ps : List (List AV)} {q w l re by_ w2 w3 rd bst q' w' l' re' by' w2' w3' rd' bst' : Int} (k0 : CfgOK q w l re by_ w2 w3 rd bst) (k1 : CfgOK q' w' l' re' by' w2' w3' rd' bst') {m0 m1 : Cm} (z0 : Cm.OK 2 m0) (z1 : Cm.OK 2 m1) {b1 b2 : Nat} {own1 own2 : Bool} {c1 c2 : Option Nat} {M : AV}
    (hP : PlanOK 2 ps) (hb1 : bget h b1 = some (.row own1 16 [cfg 1 q w l re by_ w2 w3 rd bst, cfg 2 q' w' l' re' by' w2' w3' rd' bst'])) (hb2 : bget h b2 = some (.row own2 6 ps)) {b3 : Nat} {own3 : Bool} {c3 : Option Nat} (hM : M = .slice b3 0 2 c3) (hb3 : bget h b3 = some (.row own3 15 [m0.av, m1.av])) (hT : bget h 0 = some (.row false 8 usesR)) :
    Ev F meth sm (n + 6) 24 [.agg [.slice b1 0 2 c1, .slice b2 0 ps.length c2, M]] ⟨h, lg, d⟩ (.agg [.int .i64 0, .int .i64 0]) := by
  refine Ev.of ?_
  have hl1 := bget_lt hb1
  have hl2 := bget_lt hb2
  have hl0 := bget_lt hT
  have g0 := fun m => h44 1 q w l re by_ w2 w3 rd bst m (by omega) (by omega) k0
  have g1 := fun m => h44 2 q' w' l' re' by' w2' w3' rd' bst' m (by omega) (by omega) k1
  have gp := fun m hm => h45 2 ps b2 own2 c2 m hP hm
  have hl3 := bget_lt hb3
  have gc0 := fun m hm hT => h46 2 _ m0.node m0.seq m0.dest m0.prio m0.life m0.s b1 own1 c1 (.slice b2 0 ps.length c2) (.slice b3 0 2 c3) m (CfgsOK.two k0 k1) z0.bu z0.node rfl rfl hm hT
  have gc1 := fun m hm hT => h46 2 _ m1.node m1.seq m1.dest m1.prio m1.life m1.s b1 own1 c1 (.slice b2 0 ps.length c2) (.slice b3 0 2 c3) m (CfgsOK.two k0 k1) z1.bu z1.node rfl rfl hm hT
  unfold cfg at hb1 g0 g1 gc0 gc1
  simp only [Cm.av, cmd] at hb3 gc0 gc1
  subst hM
  simp (config := { maxSteps := 1000000, implicitDefEqProofs := false }) only [acall, acode, aops, awanted, aoper, AOp.isCall, j0, j1, aprim, aev, tg_zn, tg_ln, tg_rn, ts_ze, ts_zn, ts_le, ts_ln, ts_re, ts_rn, tputs, aput, reduceCtorEq, j4, j5, abin, kindEq, binInt, j6, j9, j10, AV.cells?, j12, Mem.apply, Mem.applyAll, acallee, aevs, j13, j14, j16, peq, peq1, j17, j18, Nat.ble, Nat.reduceDiv, Nat.reduceMod, Nat.reduceMul, Nat.reduceAdd, Nat.reduceLeDiff, j19, ares, aresL, ares1, j20, j21, Nat.beq, j22, j23, j24, bin_a, bin_b, bin_c, bputl, blen, bnth, Mem.killAll, j26, j27, j31, j33, rowGet, rowGet0, rowSet, rowSet0, chunk, j34, j35, j37, j38, j43, j51, j52, j54, j55, j56, j57, j58, j59, j60, j61, j62, j64, j65, refsL, AV.refs, j66, j67, j68, j71, Int.reduceLT, Int.reduceLE, Int.reduceToNat, Int.reduceAdd, Int.reduceSub, Int.reduceBEq, Int.reduceNeg, Nat.reduceLT, wrapI, j72, j74, j79, j85, fillC, AOp.isMaker, adraw, Mem.more, j92, j93, j94, j95, mask, unmask, AOp.reads, AOpnd.top, AV.top, ins, j96, nidOf, slotIn, j98, clash, j100, j103, j104, j105, j106, j67, j66, bmore, j79, hF, AF24, s24, g0, g1, gp, gc0, gc1, hb1, hb2, hb3, hT, hl0, hl1, hl2, hl3, nb_old, nb_beq_ne, aloop]
  exact ⟨_, rfl, keep_bx (by repeat first | exact LogOK.nil | apply LogOK.cons)⟩
set_option maxHeartbeats 16000000 in
theorem e24_23 (hF : F 24 = some AF24) (s24 : ∀ vs m, sm 24 vs m = none) (h44 : H44 sm) (h45 : H45 sm) (h46 : H46 sm) (n : Nat) (h : Blks) (lg d : List Nat) {ps : List (List AV)} {q w l re by_ w2 w3 rd bst q' w' l' re' by' w2' w3' rd' bst' : Int} (k0 : CfgOK q w l re by_ w2 w3 rd bst) (k1 : CfgOK q' w' l' re' by' w2' w3' rd' bst') {m0 m1 m2 : Cm} (z0 : Cm.OK 2 m0) (z1 : Cm.OK 2 m1) (z2 : Cm.OK 2 m2) {b1 b2 : Nat} {own1 own2 : Bool} {c1 c2 : Option Nat} {M : AV}
    (hP : PlanOK 2 ps) (hb1 : bget h b1 = some (.row own1 16 [cfg 1 q w l re by_ w2 w3 rd bst, cfg 2 q' w' l' re' by' w2' w3' rd' bst'])) (hb2 : bget h b2 = some (.row own2 6 ps)) {b3 : Nat} {own3 : Bool} {c3 : Option Nat} (hM : M = .slice b3 0 3 c3) (hb3 : bget h b3 = some (.row own3 15 [m0.av, m1.av, m2.av])) (hT : bget h 0 = some (.row false 8 usesR)) :
    Ev F meth sm (n + 6) 24 [.agg [.slice b1 0 2 c1, .slice b2 0 ps.length c2, M]] ⟨h, lg, d⟩ (.agg [.int .i64 0, .int .i64 0]) := by
  refine Ev.of ?_
  have hl1 := bget_lt hb1
  have hl2 := bget_lt hb2
  have hl0 := bget_lt hT
  have g0 := fun m => h44 1 q w l re by_ w2 w3 rd bst m (by omega) (by omega) k0
  have g1 := fun m => h44 2 q' w' l' re' by' w2' w3' rd' bst' m (by omega) (by omega) k1
  have gp := fun m hm => h45 2 ps b2 own2 c2 m hP hm
  have hl3 := bget_lt hb3
  have gc0 := fun m hm hT => h46 2 _ m0.node m0.seq m0.dest m0.prio m0.life m0.s b1 own1 c1 (.slice b2 0 ps.length c2) (.slice b3 0 3 c3) m (CfgsOK.two k0 k1) z0.bu z0.node rfl rfl hm hT
  have gc1 := fun m hm hT => h46 2 _ m1.node m1.seq m1.dest m1.prio m1.life m1.s b1 own1 c1 (.slice b2 0 ps.length c2) (.slice b3 0 3 c3) m (CfgsOK.two k0 k1) z1.bu z1.node rfl rfl hm hT
  have gc2 := fun m hm hT => h46 2 _ m2.node m2.seq m2.dest m2.prio m2.life m2.s b1 own1 c1 (.slice b2 0 ps.length c2) (.slice b3 0 3 c3) m (CfgsOK.two k0 k1) z2.bu z2.node rfl rfl hm hT
  unfold cfg at hb1 g0 g1 gc0 gc1 gc2
  simp only [Cm.av, cmd] at hb3 gc0 gc1 gc2
  subst hM
  simp (config := { maxSteps := 1000000, implicitDefEqProofs := false }) only [acall, acode, aops, awanted, aoper, AOp.isCall, j0, j1, aprim, aev, tg_zn, tg_ln, tg_rn, ts_ze, ts_zn, ts_le, ts_ln, ts_re, ts_rn, tputs, aput, reduceCtorEq, j4, j5, abin, kindEq, binInt, j6, j9, j10, AV.cells?, j12, Mem.apply, Mem.applyAll, acallee, aevs, j13, j14, j16, peq, peq1, j17, j18, Nat.ble, Nat.reduceDiv, Nat.reduceMod, Nat.reduceMul, Nat.reduceAdd, Nat.reduceLeDiff, j19, ares, aresL, ares1, j20, j21, Nat.beq, j22, j23, j24, bin_a, bin_b, bin_c, bputl, blen, bnth, Mem.killAll, j26, j27, j31, j33, rowGet, rowGet0, rowSet, rowSet0, chunk, j34, j35, j37, j38, j43, j51, j52, j54, j55, j56, j57, j58, j59, j60, j61, j62, j64, j65, refsL, AV.refs, j66, j67, j68, j71, Int.reduceLT, Int.reduceLE, Int.reduceToNat, Int.reduceAdd, Int.reduceSub, Int.reduceBEq, Int.reduceNeg, Nat.reduceLT, wrapI, j72, j74, j79, j85, fillC, AOp.isMaker, adraw, Mem.more, j92, j93, j94, j95, mask, unmask, AOp.reads, AOpnd.top, AV.top, ins, j96, nidOf, slotIn, j98, clash, j100, j103, j104, j105, j106, j67, j66, bmore, j79, hF, AF24, s24, g0, g1, gp, gc0, gc1, gc2, hb1, hb2, hb3, hT, hl0, hl1, hl2, hl3, nb_old, nb_beq_ne, aloop]
  exact ⟨_, rfl, keep_bx (by repeat first | exact LogOK.nil | apply LogOK.cons)⟩
set_option maxHeartbeats 16000000 in
theorem e24_24 (hF : F 24 = some AF24) (s24 : ∀ vs m, sm 24 vs m = none) (h44 : H44 sm) (h45 : H45 sm) (h46 : H46 sm) (n : Nat) (h : Blks) (lg d : List Nat) {ps : List (List AV)} {q w l re by_ w2 w3 rd bst q' w' l' re' by' w2' w3' rd' bst' : Int} (k0 : CfgOK q w l re by_ w2 w3 rd bst) (k1 : CfgOK q' w' l' re' by' w2' w3' rd' bst') {m0 m1 m2 m3 : Cm} (z0 : Cm.OK 2 m0) (z1 : Cm.OK 2 m1) (z2 : Cm.OK 2 m2) (z3 : Cm.OK 2 m3) {b1 b2 : Nat} {own1 own2 : Bool} {c1 c2 : Option Nat} {M : AV}
    (hP : PlanOK 2 ps) (hb1 : bget h b1 = some (.row own1 16 [cfg 1 q w l re by_ w2 w3 rd bst, cfg 2 q' w' l' re' by' w2' w3' rd' bst'])) (hb2 : bget h b2 = some (.row own2 6 ps)) {b3 : Nat} {own3 : Bool} {c3 : Option Nat} (hM : M = .slice b3 0 4 c3) (hb3 : bget h b3 = some (.row own3 15 [m0.av, m1.av, m2.av, m3.av])) (hT : bget h 0 = some (.row false 8 usesR)) :
    Ev F meth sm (n + 6) 24 [.agg [.slice b1 0 2 c1, .slice b2 0 ps.length c2, M]] ⟨h, lg, d⟩ (.agg [.int .i64 0, .int .i64 0]) := by
  refine Ev.of ?_
  have hl1 := bget_lt hb1
  have hl2 := bget_lt hb2
  have hl0 := bget_lt hT
  have g0 := fun m => h44 1 q w l re by_ w2 w3 rd bst m (by omega) (by omega) k0
  have g1 := fun m => h44 2 q' w' l' re' by' w2' w3' rd' bst' m (by omega) (by omega) k1
  have gp := fun m hm => h45 2 ps b2 own2 c2 m hP hm
  have hl3 := bget_lt hb3
  have gc0 := fun m hm hT => h46 2 _ m0.node m0.seq m0.dest m0.prio m0.life m0.s b1 own1 c1 (.slice b2 0 ps.length c2) (.slice b3 0 4 c3) m (CfgsOK.two k0 k1) z0.bu z0.node rfl rfl hm hT
  have gc1 := fun m hm hT => h46 2 _ m1.node m1.seq m1.dest m1.prio m1.life m1.s b1 own1 c1 (.slice b2 0 ps.length c2) (.slice b3 0 4 c3) m (CfgsOK.two k0 k1) z1.bu z1.node rfl rfl hm hT
  have gc2 := fun m hm hT => h46 2 _ m2.node m2.seq m2.dest m2.prio m2.life m2.s b1 own1 c1 (.slice b2 0 ps.length c2) (.slice b3 0 4 c3) m (CfgsOK.two k0 k1) z2.bu z2.node rfl rfl hm hT
  have gc3 := fun m hm hT => h46 2 _ m3.node m3.seq m3.dest m3.prio m3.life m3.s b1 own1 c1 (.slice b2 0 ps.length c2) (.slice b3 0 4 c3) m (CfgsOK.two k0 k1) z3.bu z3.node rfl rfl hm hT
  unfold cfg at hb1 g0 g1 gc0 gc1 gc2 gc3
  simp only [Cm.av, cmd] at hb3 gc0 gc1 gc2 gc3
  subst hM
  simp (config := { maxSteps := 1000000, implicitDefEqProofs := false }) only [acall, acode, aops, awanted, aoper, AOp.isCall, j0, j1, aprim, aev, tg_zn, tg_ln, tg_rn, ts_ze, ts_zn, ts_le, ts_ln, ts_re, ts_rn, tputs, aput, reduceCtorEq, j4, j5, abin, kindEq, binInt, j6, j9, j10, AV.cells?, j12, Mem.apply, Mem.applyAll, acallee, aevs, j13, j14, j16, peq, peq1, j17, j18, Nat.ble, Nat.reduceDiv, Nat.reduceMod, Nat.reduceMul, Nat.reduceAdd, Nat.reduceLeDiff, j19, ares, aresL, ares1, j20, j21, Nat.beq, j22, j23, j24, bin_a, bin_b, bin_c, bputl, blen, bnth, Mem.killAll, j26, j27, j31, j33, rowGet, rowGet0, rowSet, rowSet0, chunk, j34, j35, j37, j38, j43, j51, j52, j54, j55, j56, j57, j58, j59, j60, j61, j62, j64, j65, refsL, AV.refs, j66, j67, j68, j71, Int.reduceLT, Int.reduceLE, Int.reduceToNat, Int.reduceAdd, Int.reduceSub, Int.reduceBEq, Int.reduceNeg, Nat.reduceLT, wrapI, j72, j74, j79, j85, fillC, AOp.isMaker, adraw, Mem.more, j92, j93, j94, j95, mask, unmask, AOp.reads, AOpnd.top, AV.top, ins, j96, nidOf, slotIn, j98, clash, j100, j103, j104, j105, j106, j67, j66, bmore, j79, hF, AF24, s24, g0, g1, gp, gc0, gc1, gc2, gc3, hb1, hb2, hb3, hT, hl0, hl1, hl2, hl3, nb_old, nb_beq_ne, aloop]
  exact ⟨_, rfl, keep_bx (by repeat first | exact LogOK.nil | apply LogOK.cons)⟩
end
section
variable {F : FuncId → Option AFunc} {meth : Meth} {sm : Summ}
set_option maxHeartbeats 16000000 in
theorem e24_30 (hF : F 24 = some AF24) (s24 : ∀ vs m, sm 24 vs m = none) (h44 : H44 sm) (h45 : H45 sm) (h46 : H46 sm) (n : Nat) (h : Blks) (lg d : List Nat) {ps : List (List AV)} {q w l re by_ w2 w3 rd bst q' w' l' re' by' w2' w3' rd' bst' q2 w_2 l2 re2 by2 w22 w32 rd2 bst2 : Int} (k0 : CfgOK q w l re by_ w2 w3 rd bst) (k1 : CfgOK q' w' l' re' by' w2' w3' rd' bst') (k2 : CfgOK q2 w_2 l2 re2 by2 w22 w32 rd2 bst2)  {b1 b2 : Nat} {own1 own2 : Bool} {c1 c2 : Option Nat} {M : AV}
    (hP : PlanOK 3 ps) (hb1 : bget h b1 = some (.row own1 16 [cfg 1 q w l re by_ w2 w3 rd bst, cfg 2 q' w' l' re' by' w2' w3' rd' bst', cfg 3 q2 w_2 l2 re2 by2 w22 w32 rd2 bst2])) (hb2 : bget h b2 = some (.row own2 6 ps)) (hM : M = .nilslice ∨ M = .slice0) (hT : bget h 0 = some (.row false 8 usesR)) :
    Ev F meth sm (n + 6) 24 [.agg [.slice b1 0 3 c1, .slice b2 0 ps.length c2, M]] ⟨h, lg, d⟩ (.agg [.int .i64 0, .int .i64 0]) := by
  refine Ev.of ?_
  have hl1 := bget_lt hb1
  have hl2 := bget_lt hb2
  have hl0 := bget_lt hT
  have g0 := fun m => h44 1 q w l re by_ w2 w3 rd bst m (by omega) (by omega) k0
  have g1 := fun m => h44 2 q' w' l' re' by' w2' w3' rd' bst' m (by omega) (by omega) k1
  have g2 := fun m => h44 3 q2 w_2 l2 re2 by2 w22 w32 rd2 bst2 m (by omega) (by omega) k2
  have gp := fun m hm => h45 3 ps b2 own2 c2 m hP hm
  unfold cfg at hb1 g0 g1 g2
  rcases hM with rfl | rfl
  all_goals
    simp (config := { maxSteps := 1000000, implicitDefEqProofs := false }) only [acall, acode, aops, awanted, aoper, AOp.isCall, j0, j1, aprim, aev, tg_zn, tg_ln, tg_rn, ts_ze, ts_zn, ts_le, ts_ln, ts_re, ts_rn, tputs, aput, reduceCtorEq, j4, j5, abin, kindEq, binInt, j6, j9, j10, AV.cells?, j12, Mem.apply, Mem.applyAll, acallee, aevs, j13, j14, j16, peq, peq1, j17, j18, Nat.ble, Nat.reduceDiv, Nat.reduceMod, Nat.reduceMul, Nat.reduceAdd, Nat.reduceLeDiff, j19, ares, aresL, ares1, j20, j21, Nat.beq, j22, j23, j24, bin_a, bin_b, bin_c, bputl, blen, bnth, Mem.killAll, j26, j27, j31, j33, rowGet, rowGet0, rowSet, rowSet0, chunk, j34, j35, j37, j41, j42, j43, j51, j52, j54, j55, j56, j57, j58, j59, j60, j61, j62, j64, j65, refsL, AV.refs, j66, j67, j68, j71, Int.reduceLT, Int.reduceLE, Int.reduceToNat, Int.reduceAdd, Int.reduceSub, Int.reduceBEq, Int.reduceNeg, Nat.reduceLT, wrapI, j72, j74, j79, j85, fillC, AOp.isMaker, adraw, Mem.more, j92, j93, j94, j95, mask, unmask, AOp.reads, AOpnd.top, AV.top, ins, j96, nidOf, slotIn, j98, clash, j100, j103, j104, j105, j106, j67, j66, bmore, j79, hF, AF24, s24, g0, g1, g2, gp, hb1, hb2, hl1, hl2, nb_old, nb_beq_ne, aloop]
    exact ⟨_, rfl, keep_bx (by repeat first | exact LogOK.nil | apply LogOK.cons)⟩
set_option maxHeartbeats 16000000 in
theorem e24_31 (hF : F 24 = some AF24) (s24 : ∀ vs m, sm 24 vs m = none) (h44 : H44 sm) (h45 : H45 sm) (h46 : H46 sm) (n : Nat) (h : Blks) (lg d : List Nat) {ps : List (List AV)} {q w l re by_ w2 w3 rd bst q' w' l' re' by' w2' w3' rd' bst' q2 w_2 l2 re2 by2 w22 w32 rd2 bst2 : Int} (k0 : CfgOK q w l re by_ w2 w3 rd bst) (k1 : CfgOK q' w' l' re' by' w2' w3' rd' bst') (k2 : CfgOK q2 w_2 l2 re2 by2 w22 w32 rd2 bst2) {m0 : Cm} (z0 : Cm.OK 3 m0) {b1 b2 : Nat} {own1 own2 : Bool} {c1 c2 : Option Nat} {M : AV}
    (hP : PlanOK 3 ps) (hb1 : bget h b1 = some (.row own1 16 [cfg 1 q w l re by_ w2 w3 rd bst, cfg 2 q' w' l' re' by' w2' w3' rd' bst', cfg 3 q2 w_2 l2 re2 by2 w22 w32 rd2 bst2])) (hb2 : bget h b2 = some (.row own2 6 ps)) {b3 : Nat} {own3 : Bool} {c3 : Option Nat} (hM : M = .slice b3 0 1 c3) (hb3 : bget h b3 = some (.row own3 15 [m0.av])) (hT : bget h 0 = some (.row false 8 usesR)) :
    Ev F meth sm (n + 6) 24 [.agg [.slice b1 0 3 c1, .slice b2 0 ps.length c2, M]] ⟨h, lg, d⟩ (.agg [.int .i64 0, .int .i64 0]) := by
  refine Ev.of ?_
  have hl1 := bget_lt hb1
  have hl2 := bget_lt hb2
  have hl0 := bget_lt hT
  have g0 := fun m => h44 1 q w l re by_ w2 w3 rd bst m (by omega) (by omega) k0
  have g1 := fun m => h44 2 q' w' l' re' by' w2' w3' rd' bst' m (by omega) (by omega) k1
  have g2 := fun m => h44 3 q2 w_2 l2 re2 by2 w22 w32 rd2 bst2 m (by omega) (by omega) k2
  have gp := fun m hm => h45 3 ps b2 own2 c2 m hP hm
  have hl3 := bget_lt hb3
  have gc0 := fun m hm hT => h46 3 _ m0.node m0.seq m0.dest m0.prio m0.life m0.s b1 own1 c1 (.slice b2 0 ps.length c2) (.slice b3 0 1 c3) m (CfgsOK.three k0 k1 k2) z0.bu z0.node rfl rfl hm hT
  unfold cfg at hb1 g0 g1 g2 gc0
  simp only [Cm.av, cmd] at hb3 gc0
  subst hM
  simp (config := { maxSteps := 1000000, implicitDefEqProofs := false }) only [acall, acode, aops, awanted, aoper, AOp.isCall, j0, j1, aprim, aev, tg_zn, tg_ln, tg_rn, ts_ze, ts_zn, ts_le, ts_ln, ts_re, ts_rn, tputs, aput, reduceCtorEq, j4, j5, abin, kindEq, binInt, j6, j9, j10, AV.cells?, j12, Mem.apply, Mem.applyAll, acallee, aevs, j13, j14, j16, peq, peq1, j17, j18, Nat.ble, Nat.reduceDiv, Nat.reduceMod, Nat.reduceMul, Nat.reduceAdd, Nat.reduceLeDiff, j19, ares, aresL, ares1, j20, j21, Nat.beq, j22, j23, j24, bin_a, bin_b, bin_c, bputl, blen, bnth, Mem.killAll, j26, j27, j31, j33, rowGet, rowGet0, rowSet, rowSet0, chunk, j34, j35, j37, j38, j43, j51, j52, j54, j55, j56, j57, j58, j59, j60, j61, j62, j64, j65, refsL, AV.refs, j66, j67, j68, j71, Int.reduceLT, Int.reduceLE, Int.reduceToNat, Int.reduceAdd, Int.reduceSub, Int.reduceBEq, Int.reduceNeg, Nat.reduceLT, wrapI, j72, j74, j79, j85, fillC, AOp.isMaker, adraw, Mem.more, j92, j93, j94, j95, mask, unmask, AOp.reads, AOpnd.top, AV.top, ins, j96, nidOf, slotIn, j98, clash, j100, j103, j104, j105, j106, j67, j66, bmore, j79, hF, AF24, s24, g0, g1, g2, gp, gc0, hb1, hb2, hb3, hT, hl0, hl1, hl2, hl3, nb_old, nb_beq_ne, aloop]
  exact ⟨_, rfl, keep_bx (by repeat first | exact LogOK.nil | apply LogOK.cons)⟩
set_option maxHeartbeats 16000000 in
theorem e24_32 (hF : F 24 = some AF24) (s24 : ∀ vs m, sm 24 vs m = none) (h44 : H44 sm) (h45 : H45 sm) (h46 : H46 sm) (n : Nat) (h : Blks) (lg d : List Nat) {ps : List (List AV)} {q w l re by_ w2 w3 rd bst q' w' l' re' by' w2' w3' rd' bst' q2 w_2 l2 re2 by2 w22 w32 rd2 bst2 : Int} (k0 : CfgOK q w l re by_ w2 w3 rd bst) (k1 : CfgOK q' w' l' re' by' w2' w3' rd' bst') (k2 : CfgOK q2 w_2 l2 re2 by2 w22 w32 rd2 bst2) {m0 m1 : Cm} (z0 : Cm.OK 3 m0) (z1 : Cm.OK 3 m1) {b1 b2 : Nat} {own1 own2 : Bool} {c1 c2 : Option Nat} {M : AV}
    (hP : PlanOK 3 ps) (hb1 : bget h b1 = some (.row own1 16 [cfg 1 q w l re by_ w2 w3 rd bst, cfg 2 q' w' l' re' by' w2' w3' rd' bst', cfg 3 q2 w_2 l2 re2 by2 w22 w32 rd2 bst2])) (hb2 : bget h b2 = some (.row own2 6 ps)) {b3 : Nat} {own3 : Bool} {c3 : Option Nat} (hM : M = .slice b3 0 2 c3) (hb3 : bget h b3 = some (.row own3 15 [m0.av, m1.av])) (hT : bget h 0 = some (.row false 8 usesR)) :
    Ev F meth sm (n + 6) 24 [.agg [.slice b1 0 3 c1, .slice b2 0 ps.length c2, M]] ⟨h, lg, d⟩ (.agg [.int .i64 0, .int .i64 0]) := by
  refine Ev.of ?_
  have hl1 := bget_lt hb1
  have hl2 := bget_lt hb2
  have hl0 := bget_lt hT
  have g0 := fun m => h44 1 q w l re by_ w2 w3 rd bst m (by omega) (by omega) k0
  have g1 := fun m => h44 2 q' w' l' re' by' w2' w3' rd' bst' m (by omega) (by omega) k1
  have g2 := fun m => h44 3 q2 w_2 l2 re2 by2 w22 w32 rd2 bst2 m (by omega) (by omega) k2
  have gp := fun m hm => h45 3 ps b2 own2 c2 m hP hm
  have hl3 := bget_lt hb3
  have gc0 := fun m hm hT => h46 3 _ m0.node m0.seq m0.dest m0.prio m0.life m0.s b1 own1 c1 (.slice b2 0 ps.length c2) (.slice b3 0 2 c3) m (CfgsOK.three k0 k1 k2) z0.bu z0.node rfl rfl hm hT
  have gc1 := fun m hm hT => h46 3 _ m1.node m1.seq m1.dest m1.prio m1.life m1.s b1 own1 c1 (.slice b2 0 ps.length c2) (.slice b3 0 2 c3) m (CfgsOK.three k0 k1 k2) z1.bu z1.node rfl rfl hm hT
  unfold cfg at hb1 g0 g1 g2 gc0 gc1
  simp only [Cm.av, cmd] at hb3 gc0 gc1
  subst hM
  simp (config := { maxSteps := 1000000, implicitDefEqProofs := false }) only [acall, acode, aops, awanted, aoper, AOp.isCall, j0, j1, aprim, aev, tg_zn, tg_ln, tg_rn, ts_ze, ts_zn, ts_le, ts_ln, ts_re, ts_rn, tputs, aput, reduceCtorEq, j4, j5, abin, kindEq, binInt, j6, j9, j10, AV.cells?, j12, Mem.apply, Mem.applyAll, acallee, aevs, j13, j14, j16, peq, peq1, j17, j18, Nat.ble, Nat.reduceDiv, Nat.reduceMod, Nat.reduceMul, Nat.reduceAdd, Nat.reduceLeDiff, j19, ares, aresL, ares1, j20, j21, Nat.beq, j22, j23, j24, bin_a, bin_b, bin_c, bputl, blen, bnth, Mem.killAll, j26, j27, j31, j33, rowGet, rowGet0, rowSet, rowSet0, chunk, j34, j35, j37, j38, j43, j51, j52, j54, j55, j56, j57, j58, j59, j60, j61, j62, j64, j65, refsL, AV.refs, j66, j67, j68, j71, Int.reduceLT, Int.reduceLE, Int.reduceToNat, Int.reduceAdd, Int.reduceSub, Int.reduceBEq, Int.reduceNeg, Nat.reduceLT, wrapI, j72, j74, j79, j85, fillC, AOp.isMaker, adraw, Mem.more, j92, j93, j94, j95, mask, unmask, AOp.reads, AOpnd.top, AV.top, ins, j96, nidOf, slotIn, j98, clash, j100, j103, j104, j105, j106, j67, j66, bmore, j79, hF, AF24, s24, g0, g1, g2, gp, gc0, gc1, hb1, hb2, hb3, hT, hl0, hl1, hl2, hl3, nb_old, nb_beq_ne, aloop]
  exact ⟨_, rfl, keep_bx (by repeat first | exact LogOK.nil | apply LogOK.cons)⟩
set_option maxHeartbeats 16000000 in
theorem e24_33 (hF : F 24 = some AF24) (s24 : ∀ vs m, sm 24 vs m = none) (h44 : H44 sm) (h45 : H45 sm) (h46 : H46 sm) (n : Nat) (h : Blks) (lg d : List Nat) {ps : List (List AV)} {q w l re by_ w2 w3 rd bst q' w' l' re' by' w2' w3' rd' bst' q2 w_2 l2 re2 by2 w22 w32 rd2 bst2 : Int} (k0 : CfgOK q w l re by_ w2 w3 rd bst) (k1 : CfgOK q' w' l' re' by' w2' w3' rd' bst') (k2 : CfgOK q2 w_2 l2 re2 by2 w22 w32 rd2 bst2) {m0 m1 m2 : Cm} (z0 : Cm.OK 3 m0) (z1 : Cm.OK 3 m1) (z2 : Cm.OK 3 m2) {b1 b2 : Nat} {own1 own2 : Bool} {c1 c2 : Option Nat} {M : AV}
    (hP : PlanOK 3 ps) (hb1 : bget h b1 = some (.row own1 16 [cfg 1 q w l re by_ w2 w3 rd bst, cfg 2 q' w' l' re' by' w2' w3' rd' bst', cfg 3 q2 w_2 l2 re2 by2 w22 w32 rd2 bst2])) (hb2 : bget h b2 = some (.row own2 6 ps)) {b3 : Nat} {own3 : Bool} {c3 : Option Nat} (hM : M = .slice b3 0 3 c3) (hb3 : bget h b3 = some (.row own3 15 [m0.av, m1.av, m2.av])) (hT : bget h 0 = some (.row false 8 usesR)) :
    Ev F meth sm (n + 6) 24 [.agg [.slice b1 0 3 c1, .slice b2 0 ps.length c2, M]] ⟨h, lg, d⟩ (.agg [.int .i64 0, .int .i64 0]) := by
  refine Ev.of ?_
  have hl1 := bget_lt hb1
  have hl2 := bget_lt hb2
  have hl0 := bget_lt hT
  have g0 := fun m => h44 1 q w l re by_ w2 w3 rd bst m (by omega) (by omega) k0
  have g1 := fun m => h44 2 q' w' l' re' by' w2' w3' rd' bst' m (by omega) (by omega) k1
  have g2 := fun m => h44 3 q2 w_2 l2 re2 by2 w22 w32 rd2 bst2 m (by omega) (by omega) k2
  have gp := fun m hm => h45 3 ps b2 own2 c2 m hP hm
  have hl3 := bget_lt hb3
  have gc0 := fun m hm hT => h46 3 _ m0.node m0.seq m0.dest m0.prio m0.life m0.s b1 own1 c1 (.slice b2 0 ps.length c2) (.slice b3 0 3 c3) m (CfgsOK.three k0 k1 k2) z0.bu z0.node rfl rfl hm hT
  have gc1 := fun m hm hT => h46 3 _ m1.node m1.seq m1.dest m1.prio m1.life m1.s b1 own1 c1 (.slice b2 0 ps.length c2) (.slice b3 0 3 c3) m (CfgsOK.three k0 k1 k2) z1.bu z1.node rfl rfl hm hT
  have gc2 := fun m hm hT => h46 3 _ m2.node m2.seq m2.dest m2.prio m2.life m2.s b1 own1 c1 (.slice b2 0 ps.length c2) (.slice b3 0 3 c3) m (CfgsOK.three k0 k1 k2) z2.bu z2.node rfl rfl hm hT
  unfold cfg at hb1 g0 g1 g2 gc0 gc1 gc2
  simp only [Cm.av, cmd] at hb3 gc0 gc1 gc2
  subst hM
  simp (config := { maxSteps := 1000000, implicitDefEqProofs := false }) only [acall, acode, aops, awanted, aoper, AOp.isCall, j0, j1, aprim, aev, tg_zn, tg_ln, tg_rn, ts_ze, ts_zn, ts_le, ts_ln, ts_re, ts_rn, tputs, aput, reduceCtorEq, j4, j5, abin, kindEq, binInt, j6, j9, j10, AV.cells?, j12, Mem.apply, Mem.applyAll, acallee, aevs, j13, j14, j16, peq, peq1, j17, j18, Nat.ble, Nat.reduceDiv, Nat.reduceMod, Nat.reduceMul, Nat.reduceAdd, Nat.reduceLeDiff, j19, ares, aresL, ares1, j20, j21, Nat.beq, j22, j23, j24, bin_a, bin_b, bin_c, bputl, blen, bnth, Mem.killAll, j26, j27, j31, j33, rowGet, rowGet0, rowSet, rowSet0, chunk, j34, j35, j37, j38, j43, j51, j52, j54, j55, j56, j57, j58, j59, j60, j61, j62, j64, j65, refsL, AV.refs, j66, j67, j68, j71, Int.reduceLT, Int.reduceLE, Int.reduceToNat, Int.reduceAdd, Int.reduceSub, Int.reduceBEq, Int.reduceNeg, Nat.reduceLT, wrapI, j72, j74, j79, j85, fillC, AOp.isMaker, adraw, Mem.more, j92, j93, j94, j95, mask, unmask, AOp.reads, AOpnd.top, AV.top, ins, j96, nidOf, slotIn, j98, clash, j100, j103, j104, j105, j106, j67, j66, bmore, j79, hF, AF24, s24, g0, g1, g2, gp, gc0, gc1, gc2, hb1, hb2, hb3, hT, hl0, hl1, hl2, hl3, nb_old, nb_beq_ne, aloop]
  exact ⟨_, rfl, keep_bx (by repeat first | exact LogOK.nil | apply LogOK.cons)⟩
set_option maxHeartbeats 16000000 in
theorem e24_34 (hF : F 24 = some AF24) (s24 : ∀ vs m, sm 24 vs m = none) (h44 : H44 sm) (h45 : H45 sm) (h46 : H46 sm) (n : Nat) (h : Blks) (lg d : List Nat) {ps : List (List AV)} {q w l re by_ w2 w3 rd bst q' w' l' re' by' w2' w3' rd' bst' q2 w_2 l2 re2 by2 w22 w32 rd2 bst2 : Int} (k0 : CfgOK q w l re by_ w2 w3 rd bst) (k1 : CfgOK q' w' l' re' by' w2' w3' rd' bst') (k2 : CfgOK q2 w_2 l2 re2 by2 w22 w32 rd2 bst2) {m0 m1 m2 m3 : Cm} (z0 : Cm.OK 3 m0) (z1 : Cm.OK 3 m1) (z2 : Cm.OK 3 m2) (z3 : Cm.OK 3 m3) {b1 b2 : Nat} {own1 own2 : Bool} {c1 c2 : Option Nat} {M : AV}
    (hP : PlanOK 3 ps) (hb1 : bget h b1 = some (.row own1 16 [cfg 1 q w l re by_ w2 w3 rd bst, cfg 2 q' w' l' re' by' w2' w3' rd' bst', cfg 3 q2 w_2 l2 re2 by2 w22 w32 rd2 bst2])) (hb2 : bget h b2 = some (.row own2 6 ps)) {b3 : Nat} {own3 : Bool} {c3 : Option Nat} (hM : M = .slice b3 0 4 c3) (hb3 : bget h b3 = some (.row own3 15 [m0.av, m1.av, m2.av, m3.av])) (hT : bget h 0 = some (.row false 8 usesR)) :
    Ev F meth sm (n + 6) 24 [.agg [.slice b1 0 3 c1, .slice b2 0 ps.length c2, M]] ⟨h, lg, d⟩ (.agg [.int .i64 0, .int .i64 0]) := by
  refine Ev.of ?_
  have hl1 := bget_lt hb1
  have hl2 := bget_lt hb2
  have hl0 := bget_lt hT
  have g0 := fun m => h44 1 q w l re by_ w2 w3 rd bst m (by omega) (by omega) k0
  have g1 := fun m => h44 2 q' w' l' re' by' w2' w3' rd' bst' m (by omega) (by omega) k1
  have g2 := fun m => h44 3 q2 w_2 l2 re2 by2 w22 w32 rd2 bst2 m (by omega) (by omega) k2
  have gp := fun m hm => h45 3 ps b2 own2 c2 m hP hm
  have hl3 := bget_lt hb3
  have gc0 := fun m hm hT => h46 3 _ m0.node m0.seq m0.dest m0.prio m0.life m0.s b1 own1 c1 (.slice b2 0 ps.length c2) (.slice b3 0 4 c3) m (CfgsOK.three k0 k1 k2) z0.bu z0.node rfl rfl hm hT
  have gc1 := fun m hm hT => h46 3 _ m1.node m1.seq m1.dest m1.prio m1.life m1.s b1 own1 c1 (.slice b2 0 ps.length c2) (.slice b3 0 4 c3) m (CfgsOK.three k0 k1 k2) z1.bu z1.node rfl rfl hm hT
  have gc2 := fun m hm hT => h46 3 _ m2.node m2.seq m2.dest m2.prio m2.life m2.s b1 own1 c1 (.slice b2 0 ps.length c2) (.slice b3 0 4 c3) m (CfgsOK.three k0 k1 k2) z2.bu z2.node rfl rfl hm hT
  have gc3 := fun m hm hT => h46 3 _ m3.node m3.seq m3.dest m3.prio m3.life m3.s b1 own1 c1 (.slice b2 0 ps.length c2) (.slice b3 0 4 c3) m (CfgsOK.three k0 k1 k2) z3.bu z3.node rfl rfl hm hT
  unfold cfg at hb1 g0 g1 g2 gc0 gc1 gc2 gc3
  simp only [Cm.av, cmd] at hb3 gc0 gc1 gc2 gc3
  subst hM
  simp (config := { maxSteps := 1000000, implicitDefEqProofs := false }) only [acall, acode, aops, awanted, aoper, AOp.isCall, j0, j1, aprim, aev, tg_zn, tg_ln, tg_rn, ts_ze, ts_zn, ts_le, ts_ln, ts_re, ts_rn, tputs, aput, reduceCtorEq, j4, j5, abin, kindEq, binInt, j6, j9, j10, AV.cells?, j12, Mem.apply, Mem.applyAll, acallee, aevs, j13, j14, j16, peq, peq1, j17, j18, Nat.ble, Nat.reduceDiv, Nat.reduceMod, Nat.reduceMul, Nat.reduceAdd, Nat.reduceLeDiff, j19, ares, aresL, ares1, j20, j21, Nat.beq, j22, j23, j24, bin_a, bin_b, bin_c, bputl, blen, bnth, Mem.killAll, j26, j27, j31, j33, rowGet, rowGet0, rowSet, rowSet0, chunk, j34, j35, j37, j38, j43, j51, j52, j54, j55, j56, j57, j58, j59, j60, j61, j62, j64, j65, refsL, AV.refs, j66, j67, j68, j71, Int.reduceLT, Int.reduceLE, Int.reduceToNat, Int.reduceAdd, Int.reduceSub, Int.reduceBEq, Int.reduceNeg, Nat.reduceLT, wrapI, j72, j74, j79, j85, fillC, AOp.isMaker, adraw, Mem.more, j92, j93, j94, j95, mask, unmask, AOp.reads, AOpnd.top, AV.top, ins, j96, nidOf, slotIn, j98, clash, j100, j103, j104, j105, j106, j67, j66, bmore, j79, hF, AF24, s24, g0, g1, g2, gp, gc0, gc1, gc2, gc3, hb1, hb2, hb3, hT, hl0, hl1, hl2, hl3, nb_old, nb_beq_ne, aloop]
  exact ⟨_, rfl, keep_bx (by repeat first | exact LogOK.nil | apply LogOK.cons)⟩
end
section
variable {F : FuncId → Option AFunc} {meth : Meth} {sm : Summ}

def mn (a b : Int) : Int := if b < a then b else a
def mx (a b : Int) : Int := if a < b then b else a
theorem mnE (a b : Int) : (if b < a then b else a) = mn a b := rfl
theorem mxE (a b : Int) : (if a < b then b else a) = mx a b := rfl
theorem mn_lo {a b l : Int} (h1 : l ≤ a) (h2 : l ≤ b) : l ≤ mn a b := by unfold mn; split <;> omega
theorem mn_hi {a b u : Int} (h1 : a ≤ u) (h2 : b ≤ u) : mn a b ≤ u := by unfold mn; split <;> omega
theorem mx_lo {a b l : Int} (h1 : l ≤ a) (h2 : l ≤ b) : l ≤ mx a b := by unfold mx; split <;> omega
theorem mx_hi {a b u : Int} (h1 : a ≤ u) (h2 : b ≤ u) : mx a b ≤ u := by unfold mx; split <;> omega

/-- What the length of a list of commands is. -/
def LenAt (M : AV) (nc : Nat) : Prop := (nc = 0 ∧ (M = .nilslice ∨ M = .slice0)) ∨ ∃ b c, M = .slice b 0 nc c
def tm (k nc r d : Int) : AV := .agg [.int .i64 k, .int .i64 nc, .int .i64 r, .int .i64 d]
def H25 (sm : Summ) : Prop := ∀ (k : Nat) (ps : List (List AV)), PlanOK k ps → ∃ r d : Int, 300 ≤ r ∧ r ≤ 999 ∧ 0 ≤ d ∧ d ≤ 2 ∧ ∀ (nc b1 b2 : Nat) (own2 : Bool) (c1 c2 : Option Nat) (M : AV) (m : Mem), LenAt M nc → bget m.blks b2 = some (.row own2 6 ps) →
  sm 25 [.agg [.slice b1 0 k c1, .slice b2 0 ps.length c2, M]] m = some (tm k nc r d, m)
set_option maxHeartbeats 16000000 in
theorem e25 (hF : F 25 = some AF25) (s25 : ∀ vs m, sm 25 vs m = none) (n k : Nat) (ps : List (List AV)) (hP : PlanOK k ps) : ∃ r d : Int, 300 ≤ r ∧ r ≤ 999 ∧ 0 ≤ d ∧ d ≤ 2 ∧ ∀ (nc b1 b2 : Nat) (own2 : Bool) (c1 c2 : Option Nat) (M : AV) (h : Blks) (lg dd : List Nat), LenAt M nc → bget h b2 = some (.row own2 6 ps) →
    Ev F meth sm (n + 6) 25 [.agg [.slice b1 0 k c1, .slice b2 0 ps.length c2, M]] ⟨h, lg, dd⟩ (tm k nc r d) := by
  cases hP with
  | @two x0 r0 d0 x1 r1 d1 k0 k1 =>
    refine ⟨mn (mn r0 r0) r1, mx (mx 0 d0) d1, mn_lo (mn_lo k0.a3 k0.a3) k1.a3, mn_hi (mn_hi k0.a4 k0.a4) k1.a4, mx_lo (mx_lo (by omega) k0.a5) k1.a5, mx_hi (mx_hi (by omega) k0.a6) k1.a6, fun nc b1 b2 own2 c1 c2 M h lg dd hM hb => Ev.of ?_⟩
    have hlt := bget_lt hb
    unfold ct at hb
    rcases hM with ⟨rfl, rfl | rfl⟩ | ⟨b3, c3, rfl⟩
    all_goals
      simp (config := { maxSteps := 1000000, implicitDefEqProofs := false }) only [acall, acode, aops, awanted, aoper, AOp.isCall, j0, j1, aprim, aev, tg_zn, tg_ln, tg_rn, ts_ze, ts_zn, ts_le, ts_ln, ts_rn, tputs, aput, reduceCtorEq, j4, j5, abin, kindEq, binInt, j6, j9, j10, AV.cells?, j12, Mem.apply, Mem.applyAll, acallee, j13, j14, j16, peq, peq1, j17, j18, Nat.ble, Nat.reduceDiv, Nat.reduceMod, Nat.reduceMul, Nat.reduceAdd, Nat.reduceLeDiff, j19, ares, aresL, ares1, j20, j21, Nat.beq, j22, j23, j24, bin_a, bin_b, bin_c, bputl, blen, bnth, Mem.killAll, j26, j27, j31, rowGet, rowGet0, rowSet, rowSet0, chunk, j34, j35, j37, j41, j42, j43, j51, j52, j54, j55, j56, j57, j58, j59, j60, j61, j62, j64, j65, aminmax, refsL, AV.refs, j66, j67, j68, j71, Int.reduceLT, Int.reduceLE, Int.reduceToNat, Int.reduceAdd, Int.reduceBEq, Int.reduceNeg, Nat.reduceLT, Nat.reduceEqDiff, wrapI, j72, j74, j79, j85, fillC, AOp.isMaker, adraw, Mem.more, j92, j93, j94, j95, AOp.reads, AOpnd.top, AV.top, ins, j96, nidOf, slotIn, j98, clash, j100, j101, j102, j103, j104, j105, j106, j67, j66, bmore, j79, hF, AF25, s25, tm, hb, hlt, mnE, mxE, nb_old, nb_beq_ne, aloop]
      exact ⟨_, rfl, keep_bx (by repeat first | exact LogOK.nil | apply LogOK.cons)⟩
  | @three x0 r0 d0 x1 r1 d1 x2 r2 d2 x3 r3 d3 k0 k1 k2 k3 =>
    refine ⟨mn (mn (mn (mn r0 r0) r1) r2) r3, mx (mx (mx (mx 0 d0) d1) d2) d3, mn_lo (mn_lo (mn_lo (mn_lo k0.a3 k0.a3) k1.a3) k2.a3) k3.a3, mn_hi (mn_hi (mn_hi (mn_hi k0.a4 k0.a4) k1.a4) k2.a4) k3.a4, mx_lo (mx_lo (mx_lo (mx_lo (by omega) k0.a5) k1.a5) k2.a5) k3.a5, mx_hi (mx_hi (mx_hi (mx_hi (by omega) k0.a6) k1.a6) k2.a6) k3.a6, fun nc b1 b2 own2 c1 c2 M h lg dd hM hb => Ev.of ?_⟩
    have hlt := bget_lt hb
    unfold ct at hb
    rcases hM with ⟨rfl, rfl | rfl⟩ | ⟨b3, c3, rfl⟩
    all_goals
      simp (config := { maxSteps := 1000000, implicitDefEqProofs := false }) only [acall, acode, aops, awanted, aoper, AOp.isCall, j0, j1, aprim, aev, tg_zn, tg_ln, tg_rn, ts_ze, ts_zn, ts_le, ts_ln, ts_rn, tputs, aput, reduceCtorEq, j4, j5, abin, kindEq, binInt, j6, j9, j10, AV.cells?, j12, Mem.apply, Mem.applyAll, acallee, j13, j14, j16, peq, peq1, j17, j18, Nat.ble, Nat.reduceDiv, Nat.reduceMod, Nat.reduceMul, Nat.reduceAdd, Nat.reduceLeDiff, j19, ares, aresL, ares1, j20, j21, Nat.beq, j22, j23, j24, bin_a, bin_b, bin_c, bputl, blen, bnth, Mem.killAll, j26, j27, j31, rowGet, rowGet0, rowSet, rowSet0, chunk, j34, j35, j37, j41, j42, j43, j51, j52, j54, j55, j56, j57, j58, j59, j60, j61, j62, j64, j65, aminmax, refsL, AV.refs, j66, j67, j68, j71, Int.reduceLT, Int.reduceLE, Int.reduceToNat, Int.reduceAdd, Int.reduceBEq, Int.reduceNeg, Nat.reduceLT, Nat.reduceEqDiff, wrapI, j72, j74, j79, j85, fillC, AOp.isMaker, adraw, Mem.more, j92, j93, j94, j95, AOp.reads, AOpnd.top, AV.top, ins, j96, nidOf, slotIn, j98, clash, j100, j101, j102, j103, j104, j105, j106, j67, j66, bmore, j79, hF, AF25, s25, tm, hb, hlt, mnE, mxE, nb_old, nb_beq_ne, aloop]
      exact ⟨_, rfl, keep_bx (by repeat first | exact LogOK.nil | apply LogOK.cons)⟩

def wt (r : Int) : Int := Int.tdiv 1199 r + 2
theorem wtE (r : Int) : Int.tdiv 1199 r + 2 = wt r := rfl
theorem wt_b {r : Int} (h1 : 300 ≤ r) (h2 : r ≤ 999) : 3 ≤ wt r ∧ wt r ≤ 5 := by
  unfold wt
  rw [Int.tdiv_eq_ediv_of_nonneg (by omega)]
  have a1 : 1199 / r < 4 := Int.ediv_lt_of_lt_mul (by omega) (by omega)
  have a2 : 1 ≤ 1199 / r := Int.le_ediv_of_mul_le (by omega) (by omega)
  omega

def H47 (sm : Summ) : Prop := ∀ (k nc r d : Int) (m : Mem), 300 ≤ r → r ≤ 999 → sm 47 [tm k nc r d] m = some (.int .i64 (wt r), m)
theorem e47 (hF : F 47 = some AF47) (s47 : ∀ vs m, sm 47 vs m = none) (n : Nat) (h : Blks) (lg dd : List Nat) {k nc r d : Int} (r1 : 300 ≤ r) (r2 : r ≤ 999) : Ev F meth sm (n + 1) 47 [tm k nc r d] ⟨h, lg, dd⟩ (.int .i64 (wt r)) := by
  refine Ev.of ?_
  obtain ⟨b1, b2⟩ := wt_b r1 r2
  have c1 : ¬ r = 0 := by omega
  have w1 : IntKind.i64.wrap (Int.tdiv 1199 r) = Int.tdiv 1199 r := wrapI (by unfold wt at b1; omega) (by unfold wt at b2; omega)
  have w2 : IntKind.i64.wrap (wt r) = wt r := wrapI (by omega) (by omega)
  simp (config := { maxSteps := 1000000, implicitDefEqProofs := false }) only [acall, acode, aops, awanted, aoper, AOp.isCall, j0, j1, aprim, aev, tg_zn, tg_ln, tg_rn, ts_ze, ts_zn, ts_ln, ts_rn, tputs, aput, reduceCtorEq, j4, j5, abin, kindEq, binInt, j6, j9, j10, AV.cells?, j12, Mem.apply, Mem.applyAll, acallee, j14, j17, j18, Nat.ble, Nat.reduceDiv, Nat.reduceMod, Nat.reduceMul, Nat.reduceAdd, Nat.reduceLeDiff, j19, ares, aresL, ares1, j20, j21, j22, j23, j24, bin_a, bputl, blen, bnth, Mem.killAll, rowGet, rowGet0, chunk, j34, j35, j37, j51, j52, j54, j55, j56, j57, j59, j60, j65, refsL, AV.refs, j66, j67, j68, j79, AOp.isMaker, adraw, Mem.more, j92, j93, j94, j95, AOp.reads, AOpnd.top, AV.top, ins, nidOf, slotIn, j98, clash, j100, j103, j67, j66, bmore, j79, hF, AF47, s47, tm, c1, w1, w2, wtE]
  exact ⟨_, rfl, keep_bx (by repeat first | exact LogOK.nil | apply LogOK.cons)⟩

def H42 (sm : Summ) : Prop := ∀ (k nc r d : Int) (m : Mem), 2 ≤ k → k ≤ 3 → 0 ≤ nc → nc ≤ 4 → 300 ≤ r → r ≤ 999 → sm 42 [tm k nc r d] m = some (.int .i64 (10 + nc * k * (wt r + 2)), m)
theorem e42 (hF : F 42 = some AF42) (s42 : ∀ vs m, sm 42 vs m = none) (h47 : H47 sm) (n : Nat) (h : Blks) (lg dd : List Nat) {k nc r d : Int} (k1 : 2 ≤ k) (k2 : k ≤ 3) (n1 : 0 ≤ nc) (n2 : nc ≤ 4) (r1 : 300 ≤ r) (r2 : r ≤ 999) : Ev F meth sm (n + 2) 42 [tm k nc r d] ⟨h, lg, dd⟩ (.int .i64 (10 + nc * k * (wt r + 2))) := by
  refine Ev.of ?_
  obtain ⟨b1, b2⟩ := wt_b r1 r2
  have g1 := fun k nc d m => h47 k nc r d m r1 r2
  have w2 : IntKind.i64.wrap (wt r + 2) = wt r + 2 := wrapI (by omega) (by omega)
  have q : 0 ≤ nc * k ∧ nc * k ≤ 12 := by
    rcases (by omega : k = 2 ∨ k = 3) with rfl | rfl <;> omega
  have q2 : 0 ≤ nc * k * (wt r + 2) ∧ nc * k * (wt r + 2) ≤ 84 := ⟨Int.mul_nonneg q.1 (by omega), Int.le_trans (Int.mul_le_mul q.2 (by omega : wt r + 2 ≤ 7) (by omega) (by omega)) (by omega)⟩
  have w1 : IntKind.i64.wrap (nc * k) = nc * k := wrapI (by omega) (by omega)
  have w3 : IntKind.i64.wrap (nc * k * (wt r + 2)) = nc * k * (wt r + 2) := wrapI (by omega) (by omega)
  have w4 : IntKind.i64.wrap (10 + nc * k * (wt r + 2)) = 10 + nc * k * (wt r + 2) := wrapI (by omega) (by omega)
  simp only [tm] at g1
  simp (config := { maxSteps := 1000000, implicitDefEqProofs := false }) only [acall, acode, aops, awanted, aoper, AOp.isCall, j0, j1, aprim, aev, tg_zn, tg_ln, tg_rn, ts_ze, ts_zn, ts_ln, ts_rn, tputs, aput, reduceCtorEq, j4, j5, abin, kindEq, binInt, j6, j9, j10, AV.cells?, j12, Mem.apply, Mem.applyAll, acallee, aevs, j13, j14, j17, j18, Nat.ble, Nat.reduceDiv, Nat.reduceMod, Nat.reduceMul, Nat.reduceAdd, Nat.reduceLeDiff, j19, ares, aresL, ares1, j20, j21, Nat.beq, j22, j23, j24, bin_a, bputl, blen, bnth, Mem.killAll, rowGet, rowGet0, chunk, j34, j35, j37, j51, j52, j54, j55, j56, j57, j59, j60, j64, j65, refsL, AV.refs, j66, j67, j68, j79, j85, AOp.isMaker, adraw, Mem.more, j92, j93, j94, j95, mask, unmask, AOp.reads, AOpnd.top, AV.top, ins, nidOf, slotIn, j98, clash, j100, j103, j106, j67, j66, bmore, j79, hF, AF42, s42, tm, g1, w1, w2, w3, w4]
  exact ⟨_, rfl, keep_bx (by repeat first | exact LogOK.nil | apply LogOK.cons)⟩

def H26 (sm : Summ) : Prop := ∀ (k nc r d : Int), 2 ≤ k → k ≤ 3 → 0 ≤ nc → nc ≤ 4 → 300 ≤ r → r ≤ 999 → 0 ≤ d → d ≤ 2 → ∃ x : Int, 0 ≤ x ∧ x ≤ 199 ∧ ∀ m, sm 26 [tm k nc r d] m = some (.int .i64 x, m)
theorem e26 (hF : F 26 = some AF26) (s26 : ∀ vs m, sm 26 vs m = none) (h47 : H47 sm) (h42 : H42 sm) (n : Nat) {k nc r d : Int} (k1 : 2 ≤ k) (k2 : k ≤ 3) (n1 : 0 ≤ nc) (n2 : nc ≤ 4) (r1 : 300 ≤ r) (r2 : r ≤ 999) (d1 : 0 ≤ d) (d2 : d ≤ 2) : ∃ x : Int, 0 ≤ x ∧ x ≤ 199 ∧ ∀ (h : Blks) (lg dd : List Nat), Ev F meth sm (n + 2) 26 [tm k nc r d] ⟨h, lg, dd⟩ (.int .i64 x) := by
  obtain ⟨b1, b2⟩ := wt_b r1 r2
  have q : 0 ≤ nc * k ∧ nc * k ≤ 12 := by
    rcases (by omega : k = 2 ∨ k = 3) with rfl | rfl <;> omega
  have q2 : 0 ≤ nc * k * (wt r + 2) ∧ nc * k * (wt r + 2) ≤ 84 := ⟨Int.mul_nonneg q.1 (by omega), Int.le_trans (Int.mul_le_mul q.2 (by omega : wt r + 2 ≤ 7) (by omega) (by omega)) (by omega)⟩
  have q3 : 0 ≤ k * (wt r + d + 2) ∧ k * (wt r + d + 2) ≤ 27 := by
    rcases (by omega : k = 2 ∨ k = 3) with rfl | rfl <;> omega
  refine ⟨10 + nc * k * (wt r + 2) + k * (wt r + d + 2), by omega, by omega, fun h lg dd => Ev.of ?_⟩
  have g1 := fun m => h47 k nc r d m r1 r2
  have g2 := fun m => h42 k nc r d m k1 k2 n1 n2 r1 r2
  have w1 : IntKind.i64.wrap (wt r + d) = wt r + d := wrapI (by omega) (by omega)
  have w2 : IntKind.i64.wrap (wt r + d + 2) = wt r + d + 2 := wrapI (by omega) (by omega)
  have w3 : IntKind.i64.wrap (k * (wt r + d + 2)) = k * (wt r + d + 2) := wrapI (by omega) (by omega)
  have w4 : IntKind.i64.wrap (10 + nc * k * (wt r + 2) + k * (wt r + d + 2)) = 10 + nc * k * (wt r + 2) + k * (wt r + d + 2) := wrapI (by omega) (by omega)
  simp only [tm] at g1 g2
  simp (config := { maxSteps := 1000000, implicitDefEqProofs := false }) only [acall, acode, aops, awanted, aoper, AOp.isCall, j0, j1, aprim, aev, tg_zn, tg_ln, tg_rn, ts_ze, ts_zn, ts_ln, ts_rn, tputs, aput, reduceCtorEq, j4, j5, abin, kindEq, binInt, j6, j9, j10, AV.cells?, j12, Mem.apply, Mem.applyAll, acallee, aevs, j13, j14, j17, j18, Nat.ble, Nat.reduceDiv, Nat.reduceMod, Nat.reduceMul, Nat.reduceAdd, Nat.reduceLeDiff, j19, ares, aresL, ares1, j20, j21, Nat.beq, j22, j23, j24, bin_a, bputl, blen, bnth, Mem.killAll, rowGet, rowGet0, chunk, j34, j35, j37, j51, j52, j54, j55, j56, j57, j59, j60, j64, j65, refsL, AV.refs, j66, j67, j68, j79, j85, AOp.isMaker, adraw, Mem.more, j92, j93, j94, j95, mask, unmask, AOp.reads, AOpnd.top, AV.top, ins, nidOf, slotIn, j98, clash, j100, j103, j106, j67, j66, bmore, j79, hF, AF26, s26, tm, g1, g2, w1, w2, w3, w4]
  exact ⟨_, rfl, keep_bx (by repeat first | exact LogOK.nil | apply LogOK.cons)⟩

def H27 (sm : Summ) : Prop := ∀ (node seq dest prio life : Int) (s : List UInt8) (m : Mem), BuOK node seq dest prio life s → bget m.blks 1 = some (.row false 1 headsR) → sm 27 [.agg (bu node seq dest prio life s)] m = some (.int .i64 (12 + s.length), m)
theorem e27 (hF : F 27 = some AF27) (s27 : ∀ vs m, sm 27 vs m = none) (h48 : H48 sm) (n : Nat) (h : Blks) (lg d : List Nat) {node seq dest prio life : Int} {s : List UInt8} (B : BuOK node seq dest prio life s)
    (hT : bget h 1 = some (.row false 1 headsR)) : Ev F meth sm (n + 2) 27 [.agg (bu node seq dest prio life s)] ⟨h, lg, d⟩ (.int .i64 (12 + s.length)) := by
  refine Ev.of ?_
  have hlt := bget_lt hT
  have g1 := fun m hm => h48 node seq dest prio life s m B hm
  unfold bu at g1
  simp (config := { maxSteps := 1000000, implicitDefEqProofs := false }) only [acall, acode, aops, awanted, aoper, AOp.isCall, j0, j1, aprim, aev, tg_zn, tg_ln, tg_rn, ts_ze, ts_zn, ts_le, ts_ln, ts_rn, tputs, aput, j5, j9, AV.cells?, j12, Mem.apply, Mem.applyAll, acallee, aevs, j13, j14, j17, j18, Nat.ble, Nat.reduceDiv, Nat.reduceMod, Nat.reduceMul, Nat.reduceAdd, Nat.reduceLeDiff, ares, aresL, ares1, j20, j21, j22, j23, j24, bin_a, bputl, blen, bnth, Mem.killAll, rowGet, rowGet0, chunk, j34, j35, j37, j38, j51, j52, j54, j56, j59, j60, j61, j64, j65, refsL, AV.refs, j66, j67, j68, j79, AOp.isMaker, adraw, Mem.more, j92, j93, j94, j95, mask, unmask, AOp.reads, AOpnd.top, AV.top, ins, nidOf, slotIn, j98, clash, j100, j103, j106, j67, j66, bmore, j79, hF, AF27, s27, g1, bu, hT, hlt, nb_old]
  exact ⟨_, rfl, keep_bx (by repeat first | exact LogOK.nil | apply LogOK.cons)⟩

def H29 (sm : Summ) : Prop := ∀ (k : Nat) (es : List (List AV)) (x : Int) (b1 : Nat) (own1 : Bool) (c1 : Option Nat) (X Y : AV) (m : Mem), CfgsOK k es → 1 ≤ x → x ≤ k → X.scalar = true → Y.scalar = true → bget m.blks b1 = some (.row own1 16 es) → sm 29 [.agg [.slice b1 0 k c1, X, Y], .int .i64 x] m = some (.bool true, m)
theorem e29 (hF : F 29 = some AF29) (s29 : ∀ vs m, sm 29 vs m = none) (h49 : H49 sm 50) (n : Nat) (h : Blks) (lg d : List Nat) {k : Nat} {es : List (List AV)} {x : Int} {b1 : Nat} {own1 : Bool} {c1 : Option Nat} {X Y : AV} (hC : CfgsOK k es) (x1 : 1 ≤ x) (x2 : x ≤ k) (hX : X.scalar = true) (hY : Y.scalar = true) (hb : bget h b1 = some (.row own1 16 es)) :
    Ev F meth sm (n + 2) 29 [.agg [.slice b1 0 k c1, X, Y], .int .i64 x] ⟨h, lg, d⟩ (.bool true) := by
  refine Ev.of ?_
  have hlt := bget_lt hb
  have g1 := fun p own' m hm hp => h49 k es x b1 p own1 own' c1 m hC x1 x2 hm hp
  have g1 := fun p m => g1 p true m
  simp (config := { maxSteps := 1000000, implicitDefEqProofs := false }) only [acall, acode, aops, awanted, aoper, AOp.isCall, j0, j1, aprim, aev, tg_zn, tg_ln, tg_rn, ts_ze, ts_zn, ts_ln, ts_rn, tputs, aput, reduceCtorEq, j4, j5, j9, j10, AV.cells?, j12, Mem.apply, Mem.applyAll, acallee, aevs, j13, j14, j16, j17, j18, Nat.ble, Nat.reduceDiv, Nat.reduceMod, Nat.reduceMul, Nat.reduceAdd, Nat.reduceLeDiff, j19, ares, aresL, ares1, j20, j21, Pth.succ, j22, j23, j24, bin_a, bin_c, bputl, blen, bnth, Mem.killAll, j27, rowGet, rowGet0, chunk, j34, j35, j37, j43, j51, j52, j54, j56, j57, j59, j60, j65, refsL, AV.refs, j66, j67, j68, j79, j85, AOp.isMaker, adraw, Mem.more, j92, j93, j94, j95, mask, unmask, AOp.reads, AOpnd.top, AV.top, ins, j96, nidOf, slotIn, j98, clash, j100, j103, j104, j105, j106, j67, j66, bmore, j79, hF, AF29, s29, g1, hb, hlt, hX, hY, nb_old]
  exact ⟨_, rfl, keep_bx (by repeat first | exact LogOK.nil | apply LogOK.cons)⟩
end
end Go.Proofs.YtcphofamajcimaaDoor
end
