/- Functions of the program on symbolic values: part Sf.
   Conditions: none; these are lemmas. -/
import Derived.Test.YtcphofamajcimaaDoorSe
import Derived.Test.YtcphofamajcimaaDoorSy
noncomputable section
namespace Go.Proofs.YtcphofamajcimaaDoor
open Go Go.Abs
set_option maxRecDepth 100000
set_option linter.unusedSimpArgs false
set_option linter.unusedVariables false
section
variable {F : FuncId → Option AFunc} {meth : Meth} {sm : Summ}
set_option maxHeartbeats 64000000 in
theorem e5_23 (hF : F 5 = some AF5) (s5 : ∀ vs m, sm 5 vs m = none) (h7 : H7 sm) (h12 : H12 sm) (h13 : H13 sm) (n : Nat) (h : Blks) (lg d : List Nat) {l : List Int} {N : AV}
    {b : Nat} {own : Bool} {c : Option Nat} (hN0 : N = .slice b 0 l.length c) (hb : bget h b = some (.row own 1 (l.map fun x => [.int .i64 x]))) (hl : l.length = 9) (hk : md (atL l 0) 2 = 0) (hT0 : bget h 0 = some (.row false 8 usesR)) (hT1 : bget h 1 = some (.row false 1 headsR)) : Made F meth sm (n + 8) N h lg d := by
  have hN : NumsAt h N l := .inr ⟨b, own, c, hN0, hb⟩
  have hlb := bget_lt hb
  have hl0 := bget_lt hT0
  have hl1 := bget_lt hT1
  have g12_0 := fun m hm => h12 l N 0 m (by omega) hm
  have g7_0 := fun m => h7 (atL l 0) 2 m (by omega) (by omega)
  rw [hk] at g7_0
  have gN : ∀ L, NumsAt (bxt h L) N l := fun L => hN.old Old.bx
  have g12_1 := fun m hm => h12 l N 1 m (by omega) hm
  have g7_1 := fun m => h7 (atL l 1) 1048576 m (by omega) (by omega)
  have al1 := md_lo (a := atL l 1) (n := 1048576) (by omega)
  have ah1 := md_hi (a := atL l 1) (n := 1048576) (by omega)
  generalize md (atL l 1) 1048576 = a1 at g7_1 al1 ah1
  have t1_500 := tq (n := 500) al1 (by omega)
  have t1_200 := tq (n := 200) al1 (by omega)
  have t1_50 := tq (n := 50) al1 (by omega)
  have t1_4 := tq (n := 4) al1 (by omega)
  have t1_3 := tq (n := 3) al1 (by omega)
  have t1_2 := tq (n := 2) al1 (by omega)
  have t1_300 := tq (n := 300) al1 (by omega)
  have x1_1 : IntKind.i64.wrap (1200 + a1.tmod 500) = 1200 + a1.tmod 500 := wrapI (by omega) (by omega)
  have x1_2 : IntKind.u64.wrap (1200 + a1.tmod 500) = 1200 + a1.tmod 500 := wrapU (by omega) (by omega)
  have x1_3 : IntKind.i64.wrap (60 + a1.tmod 200) = 60 + a1.tmod 200 := wrapI (by omega) (by omega)
  have x1_4 : IntKind.u64.wrap (60 + a1.tmod 200) = 60 + a1.tmod 200 := wrapU (by omega) (by omega)
  have x1_5 : IntKind.u64.wrap (a1.tmod 50) = a1.tmod 50 := wrapU (by omega) (by omega)
  have x1_6 : IntKind.i64.wrap (1 + a1.tmod 4) = 1 + a1.tmod 4 := wrapI (by omega) (by omega)
  have x1_7 : IntKind.i64.wrap (1 + a1.tmod 2) = 1 + a1.tmod 2 := wrapI (by omega) (by omega)
  have x1_8 : IntKind.i64.wrap (1 + a1.tmod 3) = 1 + a1.tmod 3 := wrapI (by omega) (by omega)
  have x1_9 : IntKind.i64.wrap (200 + a1.tmod 300) = 200 + a1.tmod 300 := wrapI (by omega) (by omega)
  have C1 : CfgOK (1200 + a1.tmod 500) (60 + a1.tmod 200) (a1.tmod 50) (1 + a1.tmod 4) (a1.tmod 3) (1 + a1.tmod 2) (1 + a1.tmod 3) (1 + a1.tmod 2) (200 + a1.tmod 300) := by constructor <;> omega
  have g12_2 := fun m hm => h12 l N 2 m (by omega) hm
  have g7_2 := fun m => h7 (atL l 2) 1048576 m (by omega) (by omega)
  have al2 := md_lo (a := atL l 2) (n := 1048576) (by omega)
  have ah2 := md_hi (a := atL l 2) (n := 1048576) (by omega)
  generalize md (atL l 2) 1048576 = a2 at g7_2 al2 ah2
  have t2_500 := tq (n := 500) al2 (by omega)
  have t2_200 := tq (n := 200) al2 (by omega)
  have t2_50 := tq (n := 50) al2 (by omega)
  have t2_4 := tq (n := 4) al2 (by omega)
  have t2_3 := tq (n := 3) al2 (by omega)
  have t2_2 := tq (n := 2) al2 (by omega)
  have t2_300 := tq (n := 300) al2 (by omega)
  have x2_1 : IntKind.i64.wrap (1200 + a2.tmod 500) = 1200 + a2.tmod 500 := wrapI (by omega) (by omega)
  have x2_2 : IntKind.u64.wrap (1200 + a2.tmod 500) = 1200 + a2.tmod 500 := wrapU (by omega) (by omega)
  have x2_3 : IntKind.i64.wrap (60 + a2.tmod 200) = 60 + a2.tmod 200 := wrapI (by omega) (by omega)
  have x2_4 : IntKind.u64.wrap (60 + a2.tmod 200) = 60 + a2.tmod 200 := wrapU (by omega) (by omega)
  have x2_5 : IntKind.u64.wrap (a2.tmod 50) = a2.tmod 50 := wrapU (by omega) (by omega)
  have x2_6 : IntKind.i64.wrap (1 + a2.tmod 4) = 1 + a2.tmod 4 := wrapI (by omega) (by omega)
  have x2_7 : IntKind.i64.wrap (1 + a2.tmod 2) = 1 + a2.tmod 2 := wrapI (by omega) (by omega)
  have x2_8 : IntKind.i64.wrap (1 + a2.tmod 3) = 1 + a2.tmod 3 := wrapI (by omega) (by omega)
  have x2_9 : IntKind.i64.wrap (200 + a2.tmod 300) = 200 + a2.tmod 300 := wrapI (by omega) (by omega)
  have C2 : CfgOK (1200 + a2.tmod 500) (60 + a2.tmod 200) (a2.tmod 50) (1 + a2.tmod 4) (a2.tmod 3) (1 + a2.tmod 2) (1 + a2.tmod 3) (1 + a2.tmod 2) (200 + a2.tmod 300) := by constructor <;> omega
  have g12_4 := fun m hm => h12 l N 4 m (by omega) hm
  have g7_4 := fun m => h7 (atL l 4) 1048576 m (by omega) (by omega)
  have al4 := md_lo (a := atL l 4) (n := 1048576) (by omega)
  have ah4 := md_hi (a := atL l 4) (n := 1048576) (by omega)
  generalize md (atL l 4) 1048576 = p1 at g7_4 al4 ah4
  have t4_100 := tq (n := 100) al4 (by omega)
  have t4_700 := tq (n := 700) al4 (by omega)
  have t4_3 := tq (n := 3) al4 (by omega)
  have d4 := td (n := 700) al4 (by omega)
  have t4_7 := tq (n := 700) d4.1 (by omega)
  have x4_1 : IntKind.i64.wrap (300 + p1.tmod 100) = 300 + p1.tmod 100 := wrapI (by omega) (by omega)
  have x4_2 : IntKind.i64.wrap (300 + p1.tmod 700) = 300 + p1.tmod 700 := wrapI (by omega) (by omega)
  have x4_3 : IntKind.i64.wrap (p1.tdiv 700) = p1.tdiv 700 := wrapI (by omega) (by omega)
  have x4_4 : IntKind.i64.wrap (300 + (p1.tdiv 700).tmod 700) = 300 + (p1.tdiv 700).tmod 700 := wrapI (by omega) (by omega)
  have K1 : CtOK (300 + p1.tmod 100) (300 + p1.tmod 700) (p1.tmod 3) := by constructor <;> omega
  have J1 : CtOK (300 + p1.tmod 100) (300 + (p1.tdiv 700).tmod 700) (p1.tmod 3) := by constructor <;> omega
  have v6 : (List.map (fun x => [AV.int .i64 x]) l)[6]? = some [AV.int .i64 (atL l 6)] := by
    have q : 6 < l.length := by omega
    rw [List.getElem?_map, List.getElem?_eq_getElem q]
    simp [atL, List.getElem?_eq_getElem q]
  have u6 : 6 < l.length := by omega
  have y6 : (6:Int) < (l.length : Int) := by omega
  have g7_6 := fun m => h7 (atL l 6) 268435456 m (by omega) (by omega)
  have al6 := md_lo (a := atL l 6) (n := 268435456) (by omega)
  have ah6 := md_hi (a := atL l 6) (n := 268435456) (by omega)
  generalize md (atL l 6) 268435456 = q6 at g7_6 al6 ah6
  obtain ⟨bx6, by6, bd6, pr6, bb6, bl6, _, sx6, ⟨pl6, ph6, rfl, sl6, sh6⟩, g13_6⟩ := h13 q6
  have t6_1 := tq (n := 2) al6 (by omega)
  have t6_2 := tq (n := 100) al6 (by omega)
  have d6 := td (n := 4) al6 (by omega)
  have t6_3 := tq (n := 2) d6.1 (by omega)
  have x6_1 : IntKind.i64.wrap (1 + q6.tmod 2) = 1 + q6.tmod 2 := wrapI (by omega) (by omega)
  have x6_2 : IntKind.i64.wrap (200 + q6.tmod 100) = 200 + q6.tmod 100 := wrapI (by omega) (by omega)
  have x6_3 : IntKind.i64.wrap (q6.tdiv 4) = q6.tdiv 4 := wrapI (by omega) (by omega)
  have x6_4 : IntKind.i64.wrap (1 + (q6.tdiv 4).tmod 2) = 1 + (q6.tdiv 4).tmod 2 := wrapI (by omega) (by omega)
  have B6 : BuOK (1 + q6.tmod 2) 6 (1 + (q6.tdiv 4).tmod 2) pr6 (200 + q6.tmod 100) sx6 := by constructor <;> omega
  have z6 : Cm.OK 2 ⟨1 + q6.tmod 2, 6, 1 + (q6.tdiv 4).tmod 2, pr6, 200 + q6.tmod 100, sx6⟩ := ⟨B6, by show 1 + q6.tmod 2 ≤ _; omega, by show 1 + (q6.tdiv 4).tmod 2 ≤ _; omega⟩
  have v7 : (List.map (fun x => [AV.int .i64 x]) l)[7]? = some [AV.int .i64 (atL l 7)] := by
    have q : 7 < l.length := by omega
    rw [List.getElem?_map, List.getElem?_eq_getElem q]
    simp [atL, List.getElem?_eq_getElem q]
  have u7 : 7 < l.length := by omega
  have y7 : (7:Int) < (l.length : Int) := by omega
  have g7_7 := fun m => h7 (atL l 7) 268435456 m (by omega) (by omega)
  have al7 := md_lo (a := atL l 7) (n := 268435456) (by omega)
  have ah7 := md_hi (a := atL l 7) (n := 268435456) (by omega)
  generalize md (atL l 7) 268435456 = q7 at g7_7 al7 ah7
  obtain ⟨bx7, by7, bd7, pr7, bb7, bl7, _, sx7, ⟨pl7, ph7, rfl, sl7, sh7⟩, g13_7⟩ := h13 q7
  have t7_1 := tq (n := 2) al7 (by omega)
  have t7_2 := tq (n := 100) al7 (by omega)
  have d7 := td (n := 4) al7 (by omega)
  have t7_3 := tq (n := 2) d7.1 (by omega)
  have x7_1 : IntKind.i64.wrap (1 + q7.tmod 2) = 1 + q7.tmod 2 := wrapI (by omega) (by omega)
  have x7_2 : IntKind.i64.wrap (200 + q7.tmod 100) = 200 + q7.tmod 100 := wrapI (by omega) (by omega)
  have x7_3 : IntKind.i64.wrap (q7.tdiv 4) = q7.tdiv 4 := wrapI (by omega) (by omega)
  have x7_4 : IntKind.i64.wrap (1 + (q7.tdiv 4).tmod 2) = 1 + (q7.tdiv 4).tmod 2 := wrapI (by omega) (by omega)
  have B7 : BuOK (1 + q7.tmod 2) 7 (1 + (q7.tdiv 4).tmod 2) pr7 (200 + q7.tmod 100) sx7 := by constructor <;> omega
  have z7 : Cm.OK 2 ⟨1 + q7.tmod 2, 7, 1 + (q7.tdiv 4).tmod 2, pr7, 200 + q7.tmod 100, sx7⟩ := ⟨B7, by show 1 + q7.tmod 2 ≤ _; omega, by show 1 + (q7.tdiv 4).tmod 2 ≤ _; omega⟩
  have v8 : (List.map (fun x => [AV.int .i64 x]) l)[8]? = some [AV.int .i64 (atL l 8)] := by
    have q : 8 < l.length := by omega
    rw [List.getElem?_map, List.getElem?_eq_getElem q]
    simp [atL, List.getElem?_eq_getElem q]
  have u8 : 8 < l.length := by omega
  have y8 : (8:Int) < (l.length : Int) := by omega
  have g7_8 := fun m => h7 (atL l 8) 268435456 m (by omega) (by omega)
  have al8 := md_lo (a := atL l 8) (n := 268435456) (by omega)
  have ah8 := md_hi (a := atL l 8) (n := 268435456) (by omega)
  generalize md (atL l 8) 268435456 = q8 at g7_8 al8 ah8
  obtain ⟨bx8, by8, bd8, pr8, bb8, bl8, _, sx8, ⟨pl8, ph8, rfl, sl8, sh8⟩, g13_8⟩ := h13 q8
  have t8_1 := tq (n := 2) al8 (by omega)
  have t8_2 := tq (n := 100) al8 (by omega)
  have d8 := td (n := 4) al8 (by omega)
  have t8_3 := tq (n := 2) d8.1 (by omega)
  have x8_1 : IntKind.i64.wrap (1 + q8.tmod 2) = 1 + q8.tmod 2 := wrapI (by omega) (by omega)
  have x8_2 : IntKind.i64.wrap (200 + q8.tmod 100) = 200 + q8.tmod 100 := wrapI (by omega) (by omega)
  have x8_3 : IntKind.i64.wrap (q8.tdiv 4) = q8.tdiv 4 := wrapI (by omega) (by omega)
  have x8_4 : IntKind.i64.wrap (1 + (q8.tdiv 4).tmod 2) = 1 + (q8.tdiv 4).tmod 2 := wrapI (by omega) (by omega)
  have B8 : BuOK (1 + q8.tmod 2) 8 (1 + (q8.tdiv 4).tmod 2) pr8 (200 + q8.tmod 100) sx8 := by constructor <;> omega
  have z8 : Cm.OK 2 ⟨1 + q8.tmod 2, 8, 1 + (q8.tdiv 4).tmod 2, pr8, 200 + q8.tmod 100, sx8⟩ := ⟨B8, by show 1 + q8.tmod 2 ≤ _; omega, by show 1 + (q8.tdiv 4).tmod 2 ≤ _; omega⟩
  have yn : ¬ (9:Int) < (l.length : Int) := by omega
  subst hN0
  refine ⟨2, [cfg 1 (1200 + a1.tmod 500) (60 + a1.tmod 200) (a1.tmod 50) (1 + a1.tmod 4) (a1.tmod 3) (1 + a1.tmod 2) (1 + a1.tmod 3) (1 + a1.tmod 2) (200 + a1.tmod 300), cfg 2 (1200 + a2.tmod 500) (60 + a2.tmod 200) (a2.tmod 50) (1 + a2.tmod 4) (a2.tmod 3) (1 + a2.tmod 2) (1 + a2.tmod 3) (1 + a2.tmod 2) (200 + a2.tmod 300)], [ct 1 2 0 (300 + p1.tmod 100) (300 + p1.tmod 700) (p1.tmod 3), ct 2 1 0 (300 + p1.tmod 100) (300 + (p1.tdiv 700).tmod 700) (p1.tmod 3)], [⟨1 + q6.tmod 2, 6, 1 + (q6.tdiv 4).tmod 2, pr6, 200 + q6.tmod 100, sx6⟩, ⟨1 + q7.tmod 2, 7, 1 + (q7.tdiv 4).tmod 2, pr7, 200 + q7.tmod 100, sx7⟩, ⟨1 + q8.tmod 2, 8, 1 + (q8.tdiv 4).tmod 2, pr8, 200 + q8.tmod 100, sx8⟩], ?_⟩
  apply Exists.intro
  apply Exists.intro
  apply Exists.intro
  apply Exists.intro
  apply Exists.intro
  refine And.intro ?ev (And.intro ?lg (And.intro ?sc ?cq))
  case ev =>
    simp (config := { maxSteps := 1000000, implicitDefEqProofs := false }) only [acall, acode, aops, awanted, aoper, AOp.isCall, j0, j1, aprim, aev, tg_zn, tg_ln, tg_rn, ts_ze, ts_zn, ts_le, ts_ln, ts_re, ts_rn, tputs, aput, reduceCtorEq, j4, j5, abin, kindEq, binInt, j6, j9, j10, j11, AV.cells?, j12, Mem.apply, Mem.applyAll, acallee, aevs, j13, j14, j16, j17, j18, Nat.ble, Nat.reduceDiv, Nat.reduceMod, Nat.reduceMul, Nat.reduceAdd, Nat.reduceLeDiff, j19, ares, aresL, ares1, j20, j21, Nat.beq, j22, j23, j24, bin_a, bin_b, bin_c, bputl, blen, bnth, Mem.killAll, j26, j27, j29, j31, j33, rowGet, rowGet0, rowSet, rowSet0, chunk, j34, j35, j37, j38, j43, j51, j52, j54, j55, j56, j57, j58, j59, j60, j62, j63, j64, j65, refsL, refsLL, AV.refs, j66, j67, ne_eq, j68, j69, Int.reduceLT, Int.reduceLE, Int.reduceToNat, Int.reduceAdd, Int.reduceNeg, Int.reduceEq, Nat.reduceLT, Nat.reduceEqDiff, wrapI, wrapU, j74, j79, aappend, elemsOf, winGet, roomMost, j80, j85, fillC, fillE, j88, AOp.isMaker, j89, j90, adraw, Mem.more, j92, j93, j94, j95, mask, unmask, AOp.reads, AOpnd.top, AV.top, ins, j96, nidOf, slotIn, j98, clash, j100, j101, j103, j104, j105, j106, j67, j66, bmore, j79, hF, AF5, s5, g12_0, g7_0, gN, g12_1, g7_1, x1_1, x1_2, x1_3, x1_4, x1_5, x1_6, x1_7, x1_8, x1_9, g12_2, g7_2, x2_1, x2_2, x2_3, x2_4, x2_5, x2_6, x2_7, x2_8, x2_9, g12_4, g7_4, x4_1, x4_2, x4_3, x4_4, v6, u6, y6, g7_6, g13_6, x6_1, x6_2, x6_3, x6_4, v7, u7, y7, g7_7, g13_7, x7_1, x7_2, x7_3, x7_4, v8, u8, y8, g7_8, g13_8, x8_1, x8_2, x8_3, x8_4, yn, hb, hlb, aloop, nb_old, roomMost]
    rfl
  case lg => repeat first | exact LogOK.nil | apply LogOK.cons
  case sc => exact ⟨CfgsOK.two C1 C2, PlanOK.two K1 J1, by simp, (by intro c hc; simp only [List.mem_cons, List.not_mem_nil, or_false] at hc; rcases hc with rfl | rfl | rfl <;> first | exact z6 | exact z7 | exact z8), nb_get, nb_get, .inr ⟨by simp, _, true, none, rfl, nb_get⟩, Old.bx.get hT0, Old.bx.get hT1⟩
  case cq => exact CfgsQ.two C1 (by omega) C2 (by omega)
end
section
variable {F : FuncId → Option AFunc} {meth : Meth} {sm : Summ}
set_option maxHeartbeats 64000000 in
theorem e5_24 (hF : F 5 = some AF5) (s5 : ∀ vs m, sm 5 vs m = none) (h7 : H7 sm) (h12 : H12 sm) (h13 : H13 sm) (n : Nat) (h : Blks) (lg d : List Nat) {l : List Int} {N : AV}
    {b : Nat} {own : Bool} {c : Option Nat} (hN0 : N = .slice b 0 l.length c) (hb : bget h b = some (.row own 1 (l.map fun x => [.int .i64 x]))) (hl : 10 ≤ l.length) (hk : md (atL l 0) 2 = 0) (hT0 : bget h 0 = some (.row false 8 usesR)) (hT1 : bget h 1 = some (.row false 1 headsR)) : Made F meth sm (n + 8) N h lg d := by
  have hN : NumsAt h N l := .inr ⟨b, own, c, hN0, hb⟩
  have hlb := bget_lt hb
  have hl0 := bget_lt hT0
  have hl1 := bget_lt hT1
  have g12_0 := fun m hm => h12 l N 0 m (by omega) hm
  have g7_0 := fun m => h7 (atL l 0) 2 m (by omega) (by omega)
  rw [hk] at g7_0
  have gN : ∀ L, NumsAt (bxt h L) N l := fun L => hN.old Old.bx
  have g12_1 := fun m hm => h12 l N 1 m (by omega) hm
  have g7_1 := fun m => h7 (atL l 1) 1048576 m (by omega) (by omega)
  have al1 := md_lo (a := atL l 1) (n := 1048576) (by omega)
  have ah1 := md_hi (a := atL l 1) (n := 1048576) (by omega)
  generalize md (atL l 1) 1048576 = a1 at g7_1 al1 ah1
  have t1_500 := tq (n := 500) al1 (by omega)
  have t1_200 := tq (n := 200) al1 (by omega)
  have t1_50 := tq (n := 50) al1 (by omega)
  have t1_4 := tq (n := 4) al1 (by omega)
  have t1_3 := tq (n := 3) al1 (by omega)
  have t1_2 := tq (n := 2) al1 (by omega)
  have t1_300 := tq (n := 300) al1 (by omega)
  have x1_1 : IntKind.i64.wrap (1200 + a1.tmod 500) = 1200 + a1.tmod 500 := wrapI (by omega) (by omega)
  have x1_2 : IntKind.u64.wrap (1200 + a1.tmod 500) = 1200 + a1.tmod 500 := wrapU (by omega) (by omega)
  have x1_3 : IntKind.i64.wrap (60 + a1.tmod 200) = 60 + a1.tmod 200 := wrapI (by omega) (by omega)
  have x1_4 : IntKind.u64.wrap (60 + a1.tmod 200) = 60 + a1.tmod 200 := wrapU (by omega) (by omega)
  have x1_5 : IntKind.u64.wrap (a1.tmod 50) = a1.tmod 50 := wrapU (by omega) (by omega)
  have x1_6 : IntKind.i64.wrap (1 + a1.tmod 4) = 1 + a1.tmod 4 := wrapI (by omega) (by omega)
  have x1_7 : IntKind.i64.wrap (1 + a1.tmod 2) = 1 + a1.tmod 2 := wrapI (by omega) (by omega)
  have x1_8 : IntKind.i64.wrap (1 + a1.tmod 3) = 1 + a1.tmod 3 := wrapI (by omega) (by omega)
  have x1_9 : IntKind.i64.wrap (200 + a1.tmod 300) = 200 + a1.tmod 300 := wrapI (by omega) (by omega)
  have C1 : CfgOK (1200 + a1.tmod 500) (60 + a1.tmod 200) (a1.tmod 50) (1 + a1.tmod 4) (a1.tmod 3) (1 + a1.tmod 2) (1 + a1.tmod 3) (1 + a1.tmod 2) (200 + a1.tmod 300) := by constructor <;> omega
  have g12_2 := fun m hm => h12 l N 2 m (by omega) hm
  have g7_2 := fun m => h7 (atL l 2) 1048576 m (by omega) (by omega)
  have al2 := md_lo (a := atL l 2) (n := 1048576) (by omega)
  have ah2 := md_hi (a := atL l 2) (n := 1048576) (by omega)
  generalize md (atL l 2) 1048576 = a2 at g7_2 al2 ah2
  have t2_500 := tq (n := 500) al2 (by omega)
  have t2_200 := tq (n := 200) al2 (by omega)
  have t2_50 := tq (n := 50) al2 (by omega)
  have t2_4 := tq (n := 4) al2 (by omega)
  have t2_3 := tq (n := 3) al2 (by omega)
  have t2_2 := tq (n := 2) al2 (by omega)
  have t2_300 := tq (n := 300) al2 (by omega)
  have x2_1 : IntKind.i64.wrap (1200 + a2.tmod 500) = 1200 + a2.tmod 500 := wrapI (by omega) (by omega)
  have x2_2 : IntKind.u64.wrap (1200 + a2.tmod 500) = 1200 + a2.tmod 500 := wrapU (by omega) (by omega)
  have x2_3 : IntKind.i64.wrap (60 + a2.tmod 200) = 60 + a2.tmod 200 := wrapI (by omega) (by omega)
  have x2_4 : IntKind.u64.wrap (60 + a2.tmod 200) = 60 + a2.tmod 200 := wrapU (by omega) (by omega)
  have x2_5 : IntKind.u64.wrap (a2.tmod 50) = a2.tmod 50 := wrapU (by omega) (by omega)
  have x2_6 : IntKind.i64.wrap (1 + a2.tmod 4) = 1 + a2.tmod 4 := wrapI (by omega) (by omega)
  have x2_7 : IntKind.i64.wrap (1 + a2.tmod 2) = 1 + a2.tmod 2 := wrapI (by omega) (by omega)
  have x2_8 : IntKind.i64.wrap (1 + a2.tmod 3) = 1 + a2.tmod 3 := wrapI (by omega) (by omega)
  have x2_9 : IntKind.i64.wrap (200 + a2.tmod 300) = 200 + a2.tmod 300 := wrapI (by omega) (by omega)
  have C2 : CfgOK (1200 + a2.tmod 500) (60 + a2.tmod 200) (a2.tmod 50) (1 + a2.tmod 4) (a2.tmod 3) (1 + a2.tmod 2) (1 + a2.tmod 3) (1 + a2.tmod 2) (200 + a2.tmod 300) := by constructor <;> omega
  have g12_4 := fun m hm => h12 l N 4 m (by omega) hm
  have g7_4 := fun m => h7 (atL l 4) 1048576 m (by omega) (by omega)
  have al4 := md_lo (a := atL l 4) (n := 1048576) (by omega)
  have ah4 := md_hi (a := atL l 4) (n := 1048576) (by omega)
  generalize md (atL l 4) 1048576 = p1 at g7_4 al4 ah4
  have t4_100 := tq (n := 100) al4 (by omega)
  have t4_700 := tq (n := 700) al4 (by omega)
  have t4_3 := tq (n := 3) al4 (by omega)
  have d4 := td (n := 700) al4 (by omega)
  have t4_7 := tq (n := 700) d4.1 (by omega)
  have x4_1 : IntKind.i64.wrap (300 + p1.tmod 100) = 300 + p1.tmod 100 := wrapI (by omega) (by omega)
  have x4_2 : IntKind.i64.wrap (300 + p1.tmod 700) = 300 + p1.tmod 700 := wrapI (by omega) (by omega)
  have x4_3 : IntKind.i64.wrap (p1.tdiv 700) = p1.tdiv 700 := wrapI (by omega) (by omega)
  have x4_4 : IntKind.i64.wrap (300 + (p1.tdiv 700).tmod 700) = 300 + (p1.tdiv 700).tmod 700 := wrapI (by omega) (by omega)
  have K1 : CtOK (300 + p1.tmod 100) (300 + p1.tmod 700) (p1.tmod 3) := by constructor <;> omega
  have J1 : CtOK (300 + p1.tmod 100) (300 + (p1.tdiv 700).tmod 700) (p1.tmod 3) := by constructor <;> omega
  have v6 : (List.map (fun x => [AV.int .i64 x]) l)[6]? = some [AV.int .i64 (atL l 6)] := by
    have q : 6 < l.length := by omega
    rw [List.getElem?_map, List.getElem?_eq_getElem q]
    simp [atL, List.getElem?_eq_getElem q]
  have u6 : 6 < l.length := by omega
  have y6 : (6:Int) < (l.length : Int) := by omega
  have g7_6 := fun m => h7 (atL l 6) 268435456 m (by omega) (by omega)
  have al6 := md_lo (a := atL l 6) (n := 268435456) (by omega)
  have ah6 := md_hi (a := atL l 6) (n := 268435456) (by omega)
  generalize md (atL l 6) 268435456 = q6 at g7_6 al6 ah6
  obtain ⟨bx6, by6, bd6, pr6, bb6, bl6, _, sx6, ⟨pl6, ph6, rfl, sl6, sh6⟩, g13_6⟩ := h13 q6
  have t6_1 := tq (n := 2) al6 (by omega)
  have t6_2 := tq (n := 100) al6 (by omega)
  have d6 := td (n := 4) al6 (by omega)
  have t6_3 := tq (n := 2) d6.1 (by omega)
  have x6_1 : IntKind.i64.wrap (1 + q6.tmod 2) = 1 + q6.tmod 2 := wrapI (by omega) (by omega)
  have x6_2 : IntKind.i64.wrap (200 + q6.tmod 100) = 200 + q6.tmod 100 := wrapI (by omega) (by omega)
  have x6_3 : IntKind.i64.wrap (q6.tdiv 4) = q6.tdiv 4 := wrapI (by omega) (by omega)
  have x6_4 : IntKind.i64.wrap (1 + (q6.tdiv 4).tmod 2) = 1 + (q6.tdiv 4).tmod 2 := wrapI (by omega) (by omega)
  have B6 : BuOK (1 + q6.tmod 2) 6 (1 + (q6.tdiv 4).tmod 2) pr6 (200 + q6.tmod 100) sx6 := by constructor <;> omega
  have z6 : Cm.OK 2 ⟨1 + q6.tmod 2, 6, 1 + (q6.tdiv 4).tmod 2, pr6, 200 + q6.tmod 100, sx6⟩ := ⟨B6, by show 1 + q6.tmod 2 ≤ _; omega, by show 1 + (q6.tdiv 4).tmod 2 ≤ _; omega⟩
  have v7 : (List.map (fun x => [AV.int .i64 x]) l)[7]? = some [AV.int .i64 (atL l 7)] := by
    have q : 7 < l.length := by omega
    rw [List.getElem?_map, List.getElem?_eq_getElem q]
    simp [atL, List.getElem?_eq_getElem q]
  have u7 : 7 < l.length := by omega
  have y7 : (7:Int) < (l.length : Int) := by omega
  have g7_7 := fun m => h7 (atL l 7) 268435456 m (by omega) (by omega)
  have al7 := md_lo (a := atL l 7) (n := 268435456) (by omega)
  have ah7 := md_hi (a := atL l 7) (n := 268435456) (by omega)
  generalize md (atL l 7) 268435456 = q7 at g7_7 al7 ah7
  obtain ⟨bx7, by7, bd7, pr7, bb7, bl7, _, sx7, ⟨pl7, ph7, rfl, sl7, sh7⟩, g13_7⟩ := h13 q7
  have t7_1 := tq (n := 2) al7 (by omega)
  have t7_2 := tq (n := 100) al7 (by omega)
  have d7 := td (n := 4) al7 (by omega)
  have t7_3 := tq (n := 2) d7.1 (by omega)
  have x7_1 : IntKind.i64.wrap (1 + q7.tmod 2) = 1 + q7.tmod 2 := wrapI (by omega) (by omega)
  have x7_2 : IntKind.i64.wrap (200 + q7.tmod 100) = 200 + q7.tmod 100 := wrapI (by omega) (by omega)
  have x7_3 : IntKind.i64.wrap (q7.tdiv 4) = q7.tdiv 4 := wrapI (by omega) (by omega)
  have x7_4 : IntKind.i64.wrap (1 + (q7.tdiv 4).tmod 2) = 1 + (q7.tdiv 4).tmod 2 := wrapI (by omega) (by omega)
  have B7 : BuOK (1 + q7.tmod 2) 7 (1 + (q7.tdiv 4).tmod 2) pr7 (200 + q7.tmod 100) sx7 := by constructor <;> omega
  have z7 : Cm.OK 2 ⟨1 + q7.tmod 2, 7, 1 + (q7.tdiv 4).tmod 2, pr7, 200 + q7.tmod 100, sx7⟩ := ⟨B7, by show 1 + q7.tmod 2 ≤ _; omega, by show 1 + (q7.tdiv 4).tmod 2 ≤ _; omega⟩
  have v8 : (List.map (fun x => [AV.int .i64 x]) l)[8]? = some [AV.int .i64 (atL l 8)] := by
    have q : 8 < l.length := by omega
    rw [List.getElem?_map, List.getElem?_eq_getElem q]
    simp [atL, List.getElem?_eq_getElem q]
  have u8 : 8 < l.length := by omega
  have y8 : (8:Int) < (l.length : Int) := by omega
  have g7_8 := fun m => h7 (atL l 8) 268435456 m (by omega) (by omega)
  have al8 := md_lo (a := atL l 8) (n := 268435456) (by omega)
  have ah8 := md_hi (a := atL l 8) (n := 268435456) (by omega)
  generalize md (atL l 8) 268435456 = q8 at g7_8 al8 ah8
  obtain ⟨bx8, by8, bd8, pr8, bb8, bl8, _, sx8, ⟨pl8, ph8, rfl, sl8, sh8⟩, g13_8⟩ := h13 q8
  have t8_1 := tq (n := 2) al8 (by omega)
  have t8_2 := tq (n := 100) al8 (by omega)
  have d8 := td (n := 4) al8 (by omega)
  have t8_3 := tq (n := 2) d8.1 (by omega)
  have x8_1 : IntKind.i64.wrap (1 + q8.tmod 2) = 1 + q8.tmod 2 := wrapI (by omega) (by omega)
  have x8_2 : IntKind.i64.wrap (200 + q8.tmod 100) = 200 + q8.tmod 100 := wrapI (by omega) (by omega)
  have x8_3 : IntKind.i64.wrap (q8.tdiv 4) = q8.tdiv 4 := wrapI (by omega) (by omega)
  have x8_4 : IntKind.i64.wrap (1 + (q8.tdiv 4).tmod 2) = 1 + (q8.tdiv 4).tmod 2 := wrapI (by omega) (by omega)
  have B8 : BuOK (1 + q8.tmod 2) 8 (1 + (q8.tdiv 4).tmod 2) pr8 (200 + q8.tmod 100) sx8 := by constructor <;> omega
  have z8 : Cm.OK 2 ⟨1 + q8.tmod 2, 8, 1 + (q8.tdiv 4).tmod 2, pr8, 200 + q8.tmod 100, sx8⟩ := ⟨B8, by show 1 + q8.tmod 2 ≤ _; omega, by show 1 + (q8.tdiv 4).tmod 2 ≤ _; omega⟩
  have v9 : (List.map (fun x => [AV.int .i64 x]) l)[9]? = some [AV.int .i64 (atL l 9)] := by
    have q : 9 < l.length := by omega
    rw [List.getElem?_map, List.getElem?_eq_getElem q]
    simp [atL, List.getElem?_eq_getElem q]
  have u9 : 9 < l.length := by omega
  have y9 : (9:Int) < (l.length : Int) := by omega
  have g7_9 := fun m => h7 (atL l 9) 268435456 m (by omega) (by omega)
  have al9 := md_lo (a := atL l 9) (n := 268435456) (by omega)
  have ah9 := md_hi (a := atL l 9) (n := 268435456) (by omega)
  generalize md (atL l 9) 268435456 = q9 at g7_9 al9 ah9
  obtain ⟨bx9, by9, bd9, pr9, bb9, bl9, _, sx9, ⟨pl9, ph9, rfl, sl9, sh9⟩, g13_9⟩ := h13 q9
  have t9_1 := tq (n := 2) al9 (by omega)
  have t9_2 := tq (n := 100) al9 (by omega)
  have d9 := td (n := 4) al9 (by omega)
  have t9_3 := tq (n := 2) d9.1 (by omega)
  have x9_1 : IntKind.i64.wrap (1 + q9.tmod 2) = 1 + q9.tmod 2 := wrapI (by omega) (by omega)
  have x9_2 : IntKind.i64.wrap (200 + q9.tmod 100) = 200 + q9.tmod 100 := wrapI (by omega) (by omega)
  have x9_3 : IntKind.i64.wrap (q9.tdiv 4) = q9.tdiv 4 := wrapI (by omega) (by omega)
  have x9_4 : IntKind.i64.wrap (1 + (q9.tdiv 4).tmod 2) = 1 + (q9.tdiv 4).tmod 2 := wrapI (by omega) (by omega)
  have B9 : BuOK (1 + q9.tmod 2) 9 (1 + (q9.tdiv 4).tmod 2) pr9 (200 + q9.tmod 100) sx9 := by constructor <;> omega
  have z9 : Cm.OK 2 ⟨1 + q9.tmod 2, 9, 1 + (q9.tdiv 4).tmod 2, pr9, 200 + q9.tmod 100, sx9⟩ := ⟨B9, by show 1 + q9.tmod 2 ≤ _; omega, by show 1 + (q9.tdiv 4).tmod 2 ≤ _; omega⟩
  by_cases y10 : (10:Int) < (l.length : Int)
  · subst hN0
    refine ⟨2, [cfg 1 (1200 + a1.tmod 500) (60 + a1.tmod 200) (a1.tmod 50) (1 + a1.tmod 4) (a1.tmod 3) (1 + a1.tmod 2) (1 + a1.tmod 3) (1 + a1.tmod 2) (200 + a1.tmod 300), cfg 2 (1200 + a2.tmod 500) (60 + a2.tmod 200) (a2.tmod 50) (1 + a2.tmod 4) (a2.tmod 3) (1 + a2.tmod 2) (1 + a2.tmod 3) (1 + a2.tmod 2) (200 + a2.tmod 300)], [ct 1 2 0 (300 + p1.tmod 100) (300 + p1.tmod 700) (p1.tmod 3), ct 2 1 0 (300 + p1.tmod 100) (300 + (p1.tdiv 700).tmod 700) (p1.tmod 3)], [⟨1 + q6.tmod 2, 6, 1 + (q6.tdiv 4).tmod 2, pr6, 200 + q6.tmod 100, sx6⟩, ⟨1 + q7.tmod 2, 7, 1 + (q7.tdiv 4).tmod 2, pr7, 200 + q7.tmod 100, sx7⟩, ⟨1 + q8.tmod 2, 8, 1 + (q8.tdiv 4).tmod 2, pr8, 200 + q8.tmod 100, sx8⟩, ⟨1 + q9.tmod 2, 9, 1 + (q9.tdiv 4).tmod 2, pr9, 200 + q9.tmod 100, sx9⟩], ?_⟩
    apply Exists.intro
    apply Exists.intro
    apply Exists.intro
    apply Exists.intro
    apply Exists.intro
    refine And.intro ?ev0 (And.intro ?lg0 (And.intro ?sc0 ?cq0))
    case ev0 =>
      simp (config := { maxSteps := 1000000, implicitDefEqProofs := false }) only [acall, acode, aops, awanted, aoper, AOp.isCall, j0, j1, aprim, aev, tg_zn, tg_ln, tg_rn, ts_ze, ts_zn, ts_le, ts_ln, ts_re, ts_rn, tputs, aput, reduceCtorEq, j4, j5, abin, kindEq, binInt, j6, j9, j10, j11, AV.cells?, j12, Mem.apply, Mem.applyAll, acallee, aevs, j13, j14, j16, j17, j18, Nat.ble, Nat.reduceDiv, Nat.reduceMod, Nat.reduceMul, Nat.reduceAdd, Nat.reduceLeDiff, j19, ares, aresL, ares1, j20, j21, Nat.beq, j22, j23, j24, bin_a, bin_b, bin_c, bputl, blen, bnth, Mem.killAll, j26, j27, j29, j31, rowGet, rowGet0, rowSet, rowSet0, chunk, j34, j35, j37, j38, j43, j51, j52, j54, j55, j56, j57, j58, j59, j60, j62, j63, j64, j65, refsL, refsLL, AV.refs, j66, j67, ne_eq, j68, j69, Int.reduceLT, Int.reduceLE, Int.reduceToNat, Int.reduceAdd, Int.reduceNeg, Int.reduceEq, Nat.reduceLT, Nat.reduceEqDiff, wrapI, wrapU, j74, j79, aappend, elemsOf, winGet, roomMost, j80, j85, fillC, fillE, j88, AOp.isMaker, j89, j90, adraw, Mem.more, j92, j93, j94, j95, mask, unmask, AOp.reads, AOpnd.top, AV.top, ins, j96, nidOf, slotIn, j98, clash, j100, j101, j103, j104, j105, j106, j67, j66, bmore, j79, hF, AF5, s5, g12_0, g7_0, gN, g12_1, g7_1, x1_1, x1_2, x1_3, x1_4, x1_5, x1_6, x1_7, x1_8, x1_9, g12_2, g7_2, x2_1, x2_2, x2_3, x2_4, x2_5, x2_6, x2_7, x2_8, x2_9, g12_4, g7_4, x4_1, x4_2, x4_3, x4_4, v6, u6, y6, g7_6, g13_6, x6_1, x6_2, x6_3, x6_4, v7, u7, y7, g7_7, g13_7, x7_1, x7_2, x7_3, x7_4, v8, u8, y8, g7_8, g13_8, x8_1, x8_2, x8_3, x8_4, v9, u9, y9, g7_9, g13_9, x9_1, x9_2, x9_3, x9_4, hb, hlb, y10, aloop, nb_old, roomMost]
      rfl
    case lg0 => repeat first | exact LogOK.nil | apply LogOK.cons
    case sc0 => exact ⟨CfgsOK.two C1 C2, PlanOK.two K1 J1, by simp, (by intro c hc; simp only [List.mem_cons, List.not_mem_nil, or_false] at hc; rcases hc with rfl | rfl | rfl | rfl <;> first | exact z6 | exact z7 | exact z8 | exact z9), nb_get, nb_get, .inr ⟨by simp, _, true, none, rfl, nb_get⟩, Old.bx.get hT0, Old.bx.get hT1⟩
    case cq0 => exact CfgsQ.two C1 (by omega) C2 (by omega)
  · subst hN0
    refine ⟨2, [cfg 1 (1200 + a1.tmod 500) (60 + a1.tmod 200) (a1.tmod 50) (1 + a1.tmod 4) (a1.tmod 3) (1 + a1.tmod 2) (1 + a1.tmod 3) (1 + a1.tmod 2) (200 + a1.tmod 300), cfg 2 (1200 + a2.tmod 500) (60 + a2.tmod 200) (a2.tmod 50) (1 + a2.tmod 4) (a2.tmod 3) (1 + a2.tmod 2) (1 + a2.tmod 3) (1 + a2.tmod 2) (200 + a2.tmod 300)], [ct 1 2 0 (300 + p1.tmod 100) (300 + p1.tmod 700) (p1.tmod 3), ct 2 1 0 (300 + p1.tmod 100) (300 + (p1.tdiv 700).tmod 700) (p1.tmod 3)], [⟨1 + q6.tmod 2, 6, 1 + (q6.tdiv 4).tmod 2, pr6, 200 + q6.tmod 100, sx6⟩, ⟨1 + q7.tmod 2, 7, 1 + (q7.tdiv 4).tmod 2, pr7, 200 + q7.tmod 100, sx7⟩, ⟨1 + q8.tmod 2, 8, 1 + (q8.tdiv 4).tmod 2, pr8, 200 + q8.tmod 100, sx8⟩, ⟨1 + q9.tmod 2, 9, 1 + (q9.tdiv 4).tmod 2, pr9, 200 + q9.tmod 100, sx9⟩], ?_⟩
    apply Exists.intro
    apply Exists.intro
    apply Exists.intro
    apply Exists.intro
    apply Exists.intro
    refine And.intro ?ev1 (And.intro ?lg1 (And.intro ?sc1 ?cq1))
    case ev1 =>
      simp (config := { maxSteps := 1000000, implicitDefEqProofs := false }) only [acall, acode, aops, awanted, aoper, AOp.isCall, j0, j1, aprim, aev, tg_zn, tg_ln, tg_rn, ts_ze, ts_zn, ts_le, ts_ln, ts_re, ts_rn, tputs, aput, reduceCtorEq, j4, j5, abin, kindEq, binInt, j6, j9, j10, j11, AV.cells?, j12, Mem.apply, Mem.applyAll, acallee, aevs, j13, j14, j16, j17, j18, Nat.ble, Nat.reduceDiv, Nat.reduceMod, Nat.reduceMul, Nat.reduceAdd, Nat.reduceLeDiff, j19, ares, aresL, ares1, j20, j21, Nat.beq, j22, j23, j24, bin_a, bin_b, bin_c, bputl, blen, bnth, Mem.killAll, j26, j27, j29, j31, j33, rowGet, rowGet0, rowSet, rowSet0, chunk, j34, j35, j37, j38, j43, j51, j52, j54, j55, j56, j57, j58, j59, j60, j62, j63, j64, j65, refsL, refsLL, AV.refs, j66, j67, ne_eq, j68, j69, Int.reduceLT, Int.reduceLE, Int.reduceToNat, Int.reduceAdd, Int.reduceNeg, Int.reduceEq, Nat.reduceLT, Nat.reduceEqDiff, wrapI, wrapU, j74, j79, aappend, elemsOf, winGet, roomMost, j80, j85, fillC, fillE, j88, AOp.isMaker, j89, j90, adraw, Mem.more, j92, j93, j94, j95, mask, unmask, AOp.reads, AOpnd.top, AV.top, ins, j96, nidOf, slotIn, j98, clash, j100, j101, j103, j104, j105, j106, j67, j66, bmore, j79, hF, AF5, s5, g12_0, g7_0, gN, g12_1, g7_1, x1_1, x1_2, x1_3, x1_4, x1_5, x1_6, x1_7, x1_8, x1_9, g12_2, g7_2, x2_1, x2_2, x2_3, x2_4, x2_5, x2_6, x2_7, x2_8, x2_9, g12_4, g7_4, x4_1, x4_2, x4_3, x4_4, v6, u6, y6, g7_6, g13_6, x6_1, x6_2, x6_3, x6_4, v7, u7, y7, g7_7, g13_7, x7_1, x7_2, x7_3, x7_4, v8, u8, y8, g7_8, g13_8, x8_1, x8_2, x8_3, x8_4, v9, u9, y9, g7_9, g13_9, x9_1, x9_2, x9_3, x9_4, hb, hlb, y10, aloop, nb_old, roomMost]
      rfl
    case lg1 => repeat first | exact LogOK.nil | apply LogOK.cons
    case sc1 => exact ⟨CfgsOK.two C1 C2, PlanOK.two K1 J1, by simp, (by intro c hc; simp only [List.mem_cons, List.not_mem_nil, or_false] at hc; rcases hc with rfl | rfl | rfl | rfl <;> first | exact z6 | exact z7 | exact z8 | exact z9), nb_get, nb_get, .inr ⟨by simp, _, true, none, rfl, nb_get⟩, Old.bx.get hT0, Old.bx.get hT1⟩
    case cq1 => exact CfgsQ.two C1 (by omega) C2 (by omega)
end
end Go.Proofs.YtcphofamajcimaaDoor
end
