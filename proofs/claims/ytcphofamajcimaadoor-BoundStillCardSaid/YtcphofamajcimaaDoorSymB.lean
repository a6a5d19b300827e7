/- Functions 19 to 22 on symbolic values.
   Conditions: none; these are lemmas. -/
import Derived.Test.YtcphofamajcimaaDoorFok
noncomputable section
namespace Go.Proofs.YtcphofamajcimaaDoor
open Go Go.Abs
set_option maxRecDepth 100000
set_option linter.unusedSimpArgs false
set_option linter.unusedVariables false
section

variable {F : FuncId → Option AFunc} {meth : Meth} {sm : Summ}
/-- An element: its cells are any values; that of the list is a slice of so many elements. -/
def E26 (k : Nat) : List AV := [.opq, .opq, .opq, .opq, .opq, .opq, .opq, .opq, .opq, .opq, .opq, .opq, .opq, .opq, .opq, .opq, .opq, .opq, .opq, .opq, .opq, .opq, .osl k, .opq, .opq, .opq]
theorem E26_len (k : Nat) : (E26 k).length = 26 := rfl
theorem E26_sc (k : Nat) : (E26 k).all AV.scalar = true := rfl
theorem E26_get (k : Nat) : rowGet 1 (chunk 1 26 (E26 k)) 0 22 1 = some [.osl k] := rfl
theorem E26_whole (k : Nat) : rowGet 1 (chunk 1 26 (E26 k)) 0 0 26 = some (E26 k) := rfl
theorem E26_row {ks : List Nat} {i k : Nat} (h : ks[i]? = some k) : rowGet 26 (ks.map E26) i 0 26 = some (E26 k) := by
  simp [rowGet, rowGet0, Nat.ble, h, List.getElem?_map, E26]
theorem E26_one {ks : List Nat} {i k : Nat} (h : ks[i]? = some k) : rowGet 26 (ks.map E26) i 22 1 = some [.osl k] := by
  simp [rowGet, rowGet0, Nat.ble, h, List.getElem?_map, E26]
def zero26 : List (List AV) := [[(.int .i64 0)], [(.int .u64 0)], [(.int .u64 0)], [(.int .u64 0)], [(.int .u64 0)], [(.int .i64 0)], [(.int .i64 0)], [(.int .i64 0)], [(.int .i64 0)], [(.int .i64 0)], [(.int .i64 0)], [(.int .i64 0)], [(.int .i64 0)], [(.int .i64 0)], [(.int .i64 0)], [(.int .i64 0)], [(.bool false)], [(.int .i64 0)], [(.int .u64 0)], [(.int .i64 0)], [(.int .u64 0)], [(.int .i64 0)], [.nilslice], [.nilslice], [.nilslice], [.nilslice]]
theorem E26_set (k : Nat) : rowSet 1 zero26 0 0 (E26 k) = some (chunk 1 26 (E26 k)) := by
  have hl : (E26 k).length = 26 := rfl
  unfold rowSet rowSet0
  rw [hl]
  rfl
def m20 (k : Nat) (m : Mem) : Mem := { blks := bput m.blks m.blks.length (some (.row true 1 (chunk 1 26 (E26 k)))), log := m.blks.length :: m.log, dfrs := m.dfrs }
theorem keep20 (k : Nat) (m : Mem) : Keep m (m20 k m) := ((Keep.refl m).new (b := m.blks.length) (x := some (.row true 1 (chunk 1 26 (E26 k)))) (Nat.le_refl _) (Nat.le_refl _) [])

theorem e20 (h20 : F 20 = some AF20) (hs : ∀ vs m, sm 20 vs m = none) (n k : Nat) (m : Mem) : acall F meth sm (n + 1) (.fn 20) [.agg (E26 k)] m = some (.bool ((k : Int) == 0), m20 k m) := by
  simp only [acall, hs, h20, AF20, acode, aops, awanted, aoper, AOp.isCall, cond_false, cond_true, aprim, aev, tget_tset, tputs, aput, reduceCtorEq, Pth.l.injEq, Pth.r.injEq, if_false, if_true, abin, kindEq, binInt, Option.map_some, Int.toNat_natCast, Int.natCast_nonneg, and_self, AV.cells?, Nat.zero_add, apply_blks, Mem.applyAll, bget_new, bget_new2, acallee, aevs, List.nil_append, List.append_nil, List.singleton_append, aun, peq, peq1, List.length_cons, List.length_nil, Nat.ble, Nat.reduceDiv, Nat.reduceAdd, Bool.false_eq_true, ares, aresL, ares1, Bool.not_true, Bool.not_false, Nat.beq, E26_len, E26_sc, E26_get]
  rfl

/-- The body of the loop of function 19. -/
def loop19 : ACode := match AF19.body with
  | .seq _ (.seq (.seq _ (.block _ (.loop c))) _) => c
  | _ => .bad

structure Inv19 (X : AV) (n i : Nat) (T : Tr) : Prop where
  s : tget (.l (.l (.l .z))) T = X
  n : tget (.r (.l (.l .z))) T = .int .i64 n
  i : tget (.l (.r (.l .z))) T = .int .i64 i
  f : tget (.l .z) T = .func 20 [] []
  r : tget (.r (.l .z)) T = .bool false

theorem round19 (h20 : F 20 = some AF20) (hs : ∀ vs m, sm 20 vs m = none) {b i k fu nn : Nat} {c : Option Nat} {ks : List Nat} {own : Bool} {T : Tr} {m : Mem} (hI : Inv19 (.slice b 0 ks.length c) ks.length i T) (hk : ks[i]? = some k) (hm : bget m.blks b = some (.row own 26 (ks.map E26))) (hw : ks.length ≤ 1000) :
    ∃ T' m', acode (acall F meth sm (nn + 1)) meth fu false loop19 T m = some (if (k : Int) == 0 then .normal else .ret, T', m') ∧ Keep m m' ∧ tget (.r (.l .z)) T' = .bool false ∧ (k = 0 → Inv19 (.slice b 0 ks.length c) ks.length (i + 1) T') := by
  have hlt : i < ks.length := (List.getElem?_eq_some_iff.1 hk).1
  have hd : decide ((i : Int) < (ks.length : Int)) = true := by simpa using hlt
  have hr := E26_row hk
  have hwr : IntKind.i64.wrap ((i : Int) + 1) = ((i + 1 : Nat) : Int) := by rw [wrap_i64 (by omega) (by omega)]; simp
  have hadd := e20 (F := F) (meth := meth) (sm := sm) h20 hs nn k
  have hset := E26_set k
  unfold zero26 at hset
  have hkp : ∀ x y : ABlk, Keep m (m20 k ((m.apply ⟨m.blks.length, some x, []⟩).apply ⟨m.blks.length, some y, refsL (E26 k)⟩)) := fun x y =>
    ((((Keep.refl m).new (Nat.le_refl _) (Nat.le_refl _) _).new (Nat.le_refl _) (by rw [apply_blks, len_new]; omega) _)).trans (keep20 k _)
  by_cases hk0 : k = 0
  · subst hk0
    have hb : (((0 : Nat) : Int) == 0) = true := rfl
    simp only [loop19, AF19, acode, aops, awanted, aoper, AOp.isCall, cond_false, cond_true, aprim, aev, tget_tset, tputs, aput, reduceCtorEq, Pth.l.injEq, Pth.r.injEq, if_false, if_true, abin, kindEq, binInt, Option.map_some, Int.toNat_natCast, Int.natCast_nonneg, and_self, AV.cells?, Nat.zero_add, apply_blks, Mem.applyAll, bget_new, bget_new2, acallee, aevs, List.nil_append, List.append_nil, List.singleton_append, aun, peq, peq1, List.length_cons, List.length_nil, Nat.ble, Nat.reduceDiv, Nat.reduceAdd, Bool.false_eq_true, ares, aresL, ares1, Bool.not_true, Bool.not_false, Nat.beq, hI.s, hI.n, hI.i, hI.f, hd, hm, hlt, hr, E26_len, E26_sc, hset, E26_whole, hadd, hwr, hb]
    refine ⟨_, _, rfl, hkp _ _, ?_, fun _ => ⟨?_, ?_, ?_, ?_, ?_⟩⟩ <;> simp only [tget_tset, reduceCtorEq, Pth.l.injEq, Pth.r.injEq, if_false, if_true, hI.s, hI.n, hI.f, hI.r]
  · have hb : ((k : Int) == 0) = false := by simp; omega
    simp only [loop19, AF19, acode, aops, awanted, aoper, AOp.isCall, cond_false, cond_true, aprim, aev, tget_tset, tputs, aput, reduceCtorEq, Pth.l.injEq, Pth.r.injEq, if_false, if_true, abin, kindEq, binInt, Option.map_some, Int.toNat_natCast, Int.natCast_nonneg, and_self, AV.cells?, Nat.zero_add, apply_blks, Mem.applyAll, bget_new, bget_new2, acallee, aevs, List.nil_append, List.append_nil, List.singleton_append, aun, peq, peq1, List.length_cons, List.length_nil, Nat.ble, Nat.reduceDiv, Nat.reduceAdd, Bool.false_eq_true, ares, aresL, ares1, Bool.not_true, Bool.not_false, Nat.beq, hI.s, hI.n, hI.i, hI.f, hd, hm, hlt, hr, E26_len, E26_sc, hset, E26_whole, hadd, hwr, hb]
    exact ⟨_, _, rfl, hkp _ _, by simp only [tget_tset, if_true], fun h => absurd h hk0⟩

theorem stop19 {call : CallF} {X : AV} {n fu : Nat} {T : Tr} {m : Mem} (hI : Inv19 X n n T) :
    ∃ T', acode call meth fu false loop19 T m = some (.exit 0, T', m) := by
  have hd : decide ((n : Int) < (n : Int)) = false := by simp
  simp only [loop19, AF19, acode, aops, awanted, aoper, AOp.isCall, cond_false, cond_true, aprim, aev, tget_tset, tputs, aput, reduceCtorEq, Pth.l.injEq, Pth.r.injEq, if_false, if_true, abin, kindEq, binInt, Option.map_some, Int.toNat_natCast, Int.natCast_nonneg, and_self, AV.cells?, Nat.zero_add, apply_blks, Mem.applyAll, bget_new, bget_new2, acallee, aevs, List.nil_append, List.append_nil, List.singleton_append, aun, peq, peq1, List.length_cons, List.length_nil, Nat.ble, Nat.reduceDiv, Nat.reduceAdd, Bool.false_eq_true, ares, aresL, ares1, Bool.not_true, Bool.not_false, Nat.beq, hI.s, hI.n, hI.i, hI.f, hd]
  exact ⟨_, rfl⟩

theorem loop19_all (h20 : F 20 = some AF20) (hs : ∀ vs m, sm 20 vs m = none) {b fu nn : Nat} {c : Option Nat} {ks : List Nat} (hw : ks.length ≤ 1000) {own : Bool} {X : AV} :
    ∀ (r i f : Nat) (T : Tr) (m : Mem), i + r = ks.length → r < f → Inv19 X ks.length i T → ((X = .osl 0 ∧ ks = []) ∨ (X = .slice b 0 ks.length c ∧ bget m.blks b = some (.row own 26 (ks.map E26)))) →
      ∃ T' m', aloop (acode (acall F meth sm (nn + 1)) meth fu false loop19) f T m = some (if (ks.drop i).all (fun k => (k : Int) == 0) then .exit 0 else .ret, T', m') ∧ Keep m m' ∧ ((ks.drop i).all (fun k => (k : Int) == 0) = false → tget (.r (.l .z)) T' = .bool false) := by
  intro r
  induction r with
  | zero =>
    intro i f T m hi hf hI hm
    obtain ⟨f, rfl⟩ : ∃ f', f = f' + 1 := ⟨f - 1, by omega⟩
    have e : i = ks.length := by omega
    subst e
    obtain ⟨T', h⟩ := stop19 (call := acall F meth sm (nn + 1)) (meth := meth) (fu := fu) (m := m) hI
    refine ⟨T', m, ?_, Keep.refl _, fun h => ?_⟩
    · simp only [aloop, h, List.drop_length, List.all_nil, if_true]
    · simp at h
  | succ r ih =>
    intro i f T m hi hf hI hm
    obtain ⟨f, rfl⟩ : ∃ f', f = f' + 1 := ⟨f - 1, by omega⟩
    have hlt : i < ks.length := by omega
    have hk : ks[i]? = some ks[i] := List.getElem?_eq_getElem hlt
    rcases hm with ⟨_, hnil⟩ | ⟨rfl, hm⟩
    · rw [hnil] at hlt; simp at hlt
    obtain ⟨T1, m1, h1, k1, r1, i1⟩ := round19 (meth := meth) (fu := fu) (nn := nn) h20 hs hI hk hm hw
    have hdrop : ks.drop i = ks[i] :: ks.drop (i + 1) := List.drop_eq_getElem_cons hlt
    cases hb : ((ks[i] : Int) == 0) with
    | true =>
      have hk0 : ks[i] = 0 := by simpa using hb
      have hblt : b < m.blks.length := bget_lt hm
      obtain ⟨T2, m2, h2, k2, r2⟩ := ih (i + 1) f T1 m1 (by omega) (by omega) (i1 hk0) (.inr ⟨rfl, (k1.get b hblt).trans hm⟩)
      refine ⟨T2, m2, ?_, k1.trans k2, ?_⟩
      · simp only [aloop, h1, hb, if_true, h2, hdrop, List.all_cons, Bool.true_and]
      · rw [hdrop, List.all_cons, hb, Bool.true_and]
        exact r2
    | false =>
      refine ⟨T1, m1, ?_, k1, fun _ => r1⟩
      simp only [aloop, h1, hb, hdrop, List.all_cons, Bool.false_and, if_false, Bool.false_eq_true]

theorem e19 (h19 : F 19 = some AF19) (h20 : F 20 = some AF20) (hs : ∀ f vs m, f ≠ 9 → sm f vs m = none) {b n : Nat} {c : Option Nat} {ks : List Nat} (hw : ks.length ≤ 1000) (hn : ks.length + 1 < n) {own : Bool} {m : Mem} {X : AV}
    (hX : (X = .osl 0 ∧ ks = []) ∨ (X = .slice b 0 ks.length c ∧ bget m.blks b = some (.row own 26 (ks.map E26)))) :
    ∃ m', acall F meth sm (n + 1) (.fn 19) [X, .func 20 [] []] m = some (.bool (ks.all fun k => (k : Int) == 0), m') ∧ Keep m m' := by
  obtain ⟨n, rfl⟩ : ∃ n', n = n' + 1 := ⟨n - 1, by omega⟩
  have hs20 : ∀ vs m, sm 20 vs m = none := fun vs m => hs 20 vs m (by decide)
  have hs19 : ∀ vs m, sm 19 vs m = none := fun vs m => hs 19 vs m (by decide)
  have hl : ∀ T, Inv19 X ks.length 0 T → ∃ T' m', aloop (acode (acall F meth sm (n + 1)) meth (n + 1) false loop19) (n + 1) T ⟨m.blks, m.log, []⟩ = some (if ks.all (fun k => (k : Int) == 0) then .exit 0 else .ret, T', m') ∧ Keep ⟨m.blks, m.log, []⟩ m' ∧ (ks.all (fun k => (k : Int) == 0) = false → tget (.r (.l .z)) T' = .bool false) := fun T hI =>
    loop19_all (F := F) (meth := meth) (sm := sm) (fu := n + 1) (nn := n) h20 hs20 hw ks.length 0 (n + 1) T ⟨m.blks, m.log, []⟩ (by omega) (by omega) hI hX
  have e : AF19.body = .seq (.region false 0 [⟨some (.r (.l .z)), .mv (.c (.bool false)), none, none, []⟩]) (.seq (.seq (.region false 0 [
    ⟨(some (.l (.l (.l .z)))), .mv (.t .z), none, none, []⟩,
    ⟨(some (.r (.l (.l .z)))), .len .slice (.t (.l (.l (.l .z)))), none, none, []⟩,
    ⟨(some (.l (.r (.l .z)))), .mv (.c (.int .i64 0)), none, none, []⟩]) (.block 0 (.loop loop19))) (.seq (.region false 0 [⟨some (.r (.l .z)), .mv (.c (.bool true)), none, none, []⟩]) .ret)) := rfl
  have e2 : AF19.ntmps = 18 := rfl
  have e3 : AF19.results = [.tmp (.r (.l .z))] := rfl
  obtain ⟨T1, m1, h1, k1, r1⟩ := hl (tset (.int .i64 0) (.l (.r (.l .z))) (tset (.int .i64 ks.length) (.r (.l (.l .z))) (tset X (.l (.l (.l .z))) (tset (.bool false) (.r (.l .z)) (tset (.func 20 [] []) (.l .z) (tset X .z .e)))))) ⟨by simp only [tget_tset, reduceCtorEq, Pth.l.injEq, Pth.r.injEq, if_false, if_true], by simp only [tget_tset, reduceCtorEq, Pth.l.injEq, Pth.r.injEq, if_false, if_true], by simp only [tget_tset, if_true]; rfl, by simp only [tget_tset, reduceCtorEq, Pth.l.injEq, Pth.r.injEq, if_false, if_true], by simp only [tget_tset, reduceCtorEq, Pth.l.injEq, Pth.r.injEq, if_false, if_true]⟩
  have kk : Keep m { m1 with dfrs := m.dfrs } := ⟨k1.len, k1.get, rfl, k1.log⟩
  have hd1 : m1.dfrs = [] := k1.dfrs
  have hlen : (match LK.slice, X with
    | .slice, .osl n => some (AV.int .i64 n, ([] : List Chg))
    | .slice, .slice _ _ n _ => some (.int .i64 n, [])
    | _, _ => none) = some (.int .i64 ks.length, []) := by
    rcases hX with ⟨rfl, rfl⟩ | ⟨rfl, _⟩ <;> rfl
  cases hb : ks.all (fun k => (k : Int) == 0) with
  | true =>
    rw [hb] at h1
    simp only [if_true] at h1
    refine ⟨{ m1 with dfrs := m.dfrs }, ?_, kk⟩
    rcases hX with ⟨rfl, rfl⟩ | ⟨rfl, _⟩
    · simp only [List.length_nil, Int.ofNat_zero] at h1
      simp only [acall, hs19, h19, e, e2, e3, acode, aops, awanted, aoper, AOp.isCall, cond_false, cond_true, aprim, aev, tget_tset, tputs, aput, reduceCtorEq, Pth.l.injEq, Pth.r.injEq, if_false, if_true, abin, kindEq, binInt, Option.map_some, Int.toNat_natCast, Int.natCast_nonneg, and_self, AV.cells?, Nat.zero_add, apply_blks, Mem.applyAll, bget_new, bget_new2, acallee, aevs, List.nil_append, List.append_nil, List.singleton_append, aun, peq, peq1, List.length_cons, List.length_nil, Nat.ble, Nat.reduceDiv, Nat.reduceAdd, Bool.false_eq_true, ares, aresL, ares1, Bool.not_true, Bool.not_false, Nat.beq, Pth.succ, Int.ofNat_zero, h1, hd1, Mem.killAll]
    · simp only [acall, hs19, h19, e, e2, e3, acode, aops, awanted, aoper, AOp.isCall, cond_false, cond_true, aprim, aev, tget_tset, tputs, aput, reduceCtorEq, Pth.l.injEq, Pth.r.injEq, if_false, if_true, abin, kindEq, binInt, Option.map_some, Int.toNat_natCast, Int.natCast_nonneg, and_self, AV.cells?, Nat.zero_add, apply_blks, Mem.applyAll, bget_new, bget_new2, acallee, aevs, List.nil_append, List.append_nil, List.singleton_append, aun, peq, peq1, List.length_cons, List.length_nil, Nat.ble, Nat.reduceDiv, Nat.reduceAdd, Bool.false_eq_true, ares, aresL, ares1, Bool.not_true, Bool.not_false, Nat.beq, Pth.succ, h1, hd1, Mem.killAll]
  | false =>
    rw [hb] at h1
    simp only [Bool.false_eq_true, if_false] at h1
    refine ⟨{ m1 with dfrs := m.dfrs }, ?_, kk⟩
    have hr := r1 hb
    rcases hX with ⟨rfl, rfl⟩ | ⟨rfl, _⟩
    · simp at hb
    · simp only [acall, hs19, h19, e, e2, e3, acode, aops, awanted, aoper, AOp.isCall, cond_false, cond_true, aprim, aev, tget_tset, tputs, aput, reduceCtorEq, Pth.l.injEq, Pth.r.injEq, if_false, if_true, abin, kindEq, binInt, Option.map_some, Int.toNat_natCast, Int.natCast_nonneg, and_self, AV.cells?, Nat.zero_add, apply_blks, Mem.applyAll, bget_new, bget_new2, acallee, aevs, List.nil_append, List.append_nil, List.singleton_append, aun, peq, peq1, List.length_cons, List.length_nil, Nat.ble, Nat.reduceDiv, Nat.reduceAdd, Bool.false_eq_true, ares, aresL, ares1, Bool.not_true, Bool.not_false, Nat.beq, Pth.succ, h1, hd1, Mem.killAll, hr]
end
section

variable {F : FuncId → Option AFunc} {meth : Meth} {sm : Summ}
/-- An element: its cells are any values; that of the list is a slice of so many elements. -/
def E3 (k : Nat) : List AV := [.opq, .opq, .osl k]
theorem E3_len (k : Nat) : (E3 k).length = 3 := rfl
theorem E3_sc (k : Nat) : (E3 k).all AV.scalar = true := rfl
theorem E3_get (k : Nat) : rowGet 3 (chunk 3 1 (E3 k)) 0 2 1 = some [.osl k] := rfl
theorem E3_whole (k : Nat) : rowGet 3 (chunk 3 1 (E3 k)) 0 0 3 = some (E3 k) := rfl
theorem E3_row {ks : List Nat} {i k : Nat} (h : ks[i]? = some k) : rowGet 3 (ks.map E3) i 0 3 = some (E3 k) := by
  simp [rowGet, rowGet0, Nat.ble, h, List.getElem?_map, E3]
theorem E3_one {ks : List Nat} {i k : Nat} (h : ks[i]? = some k) : rowGet 3 (ks.map E3) i 2 1 = some [.osl k] := by
  simp [rowGet, rowGet0, Nat.ble, h, List.getElem?_map, E3]
def zero3 : List (List AV) := [[(.int .i64 0), (.int .i64 0), .nilslice]]
theorem E3_set (k : Nat) : rowSet 3 zero3 0 0 (E3 k) = some (chunk 3 1 (E3 k)) := by
  have hl : (E3 k).length = 3 := rfl
  unfold rowSet rowSet0
  rw [hl]
  rfl
def m22 (k : Nat) (m : Mem) : Mem := { blks := bput m.blks m.blks.length (some (.row true 3 (chunk 3 1 (E3 k)))), log := m.blks.length :: m.log, dfrs := m.dfrs }
theorem keep22 (k : Nat) (m : Mem) : Keep m (m22 k m) := ((Keep.refl m).new (b := m.blks.length) (x := some (.row true 3 (chunk 3 1 (E3 k)))) (Nat.le_refl _) (Nat.le_refl _) [])

theorem e22 (h22 : F 22 = some AF22) (hs : ∀ vs m, sm 22 vs m = none) (n k : Nat) (m : Mem) : acall F meth sm (n + 1) (.fn 22) [.agg (E3 k)] m = some (.bool ((k : Int) == 0), m22 k m) := by
  simp only [acall, hs, h22, AF22, acode, aops, awanted, aoper, AOp.isCall, cond_false, cond_true, aprim, aev, tget_tset, tputs, aput, reduceCtorEq, Pth.l.injEq, Pth.r.injEq, if_false, if_true, abin, kindEq, binInt, Option.map_some, Int.toNat_natCast, Int.natCast_nonneg, and_self, AV.cells?, Nat.zero_add, apply_blks, Mem.applyAll, bget_new, bget_new2, acallee, aevs, List.nil_append, List.append_nil, List.singleton_append, aun, peq, peq1, List.length_cons, List.length_nil, Nat.ble, Nat.reduceDiv, Nat.reduceAdd, Bool.false_eq_true, ares, aresL, ares1, Bool.not_true, Bool.not_false, Nat.beq, E3_len, E3_sc, E3_get]
  rfl

/-- The body of the loop of function 21. -/
def loop21 : ACode := match AF21.body with
  | .seq _ (.seq (.seq _ (.block _ (.loop c))) _) => c
  | _ => .bad

structure Inv21 (X : AV) (n i : Nat) (T : Tr) : Prop where
  s : tget (.l (.l (.l .z))) T = X
  n : tget (.r (.l (.l .z))) T = .int .i64 n
  i : tget (.l (.r (.l .z))) T = .int .i64 i
  f : tget (.l .z) T = .func 22 [] []
  r : tget (.r (.l .z)) T = .bool false

theorem round21 (h22 : F 22 = some AF22) (hs : ∀ vs m, sm 22 vs m = none) {b i k fu nn : Nat} {c : Option Nat} {ks : List Nat} {own : Bool} {T : Tr} {m : Mem} (hI : Inv21 (.slice b 0 ks.length c) ks.length i T) (hk : ks[i]? = some k) (hm : bget m.blks b = some (.row own 3 (ks.map E3))) (hw : ks.length ≤ 1000) :
    ∃ T' m', acode (acall F meth sm (nn + 1)) meth fu false loop21 T m = some (if (k : Int) == 0 then .normal else .ret, T', m') ∧ Keep m m' ∧ tget (.r (.l .z)) T' = .bool false ∧ (k = 0 → Inv21 (.slice b 0 ks.length c) ks.length (i + 1) T') := by
  have hlt : i < ks.length := (List.getElem?_eq_some_iff.1 hk).1
  have hd : decide ((i : Int) < (ks.length : Int)) = true := by simpa using hlt
  have hr := E3_row hk
  have hwr : IntKind.i64.wrap ((i : Int) + 1) = ((i + 1 : Nat) : Int) := by rw [wrap_i64 (by omega) (by omega)]; simp
  have hadd := e22 (F := F) (meth := meth) (sm := sm) h22 hs nn k
  have hset := E3_set k
  unfold zero3 at hset
  have hkp : ∀ x y : ABlk, Keep m (m22 k ((m.apply ⟨m.blks.length, some x, []⟩).apply ⟨m.blks.length, some y, refsL (E3 k)⟩)) := fun x y =>
    ((((Keep.refl m).new (Nat.le_refl _) (Nat.le_refl _) _).new (Nat.le_refl _) (by rw [apply_blks, len_new]; omega) _)).trans (keep22 k _)
  by_cases hk0 : k = 0
  · subst hk0
    have hb : (((0 : Nat) : Int) == 0) = true := rfl
    simp only [loop21, AF21, acode, aops, awanted, aoper, AOp.isCall, cond_false, cond_true, aprim, aev, tget_tset, tputs, aput, reduceCtorEq, Pth.l.injEq, Pth.r.injEq, if_false, if_true, abin, kindEq, binInt, Option.map_some, Int.toNat_natCast, Int.natCast_nonneg, and_self, AV.cells?, Nat.zero_add, apply_blks, Mem.applyAll, bget_new, bget_new2, acallee, aevs, List.nil_append, List.append_nil, List.singleton_append, aun, peq, peq1, List.length_cons, List.length_nil, Nat.ble, Nat.reduceDiv, Nat.reduceAdd, Bool.false_eq_true, ares, aresL, ares1, Bool.not_true, Bool.not_false, Nat.beq, hI.s, hI.n, hI.i, hI.f, hd, hm, hlt, hr, E3_len, E3_sc, hset, E3_whole, hadd, hwr, hb]
    refine ⟨_, _, rfl, hkp _ _, ?_, fun _ => ⟨?_, ?_, ?_, ?_, ?_⟩⟩ <;> simp only [tget_tset, reduceCtorEq, Pth.l.injEq, Pth.r.injEq, if_false, if_true, hI.s, hI.n, hI.f, hI.r]
  · have hb : ((k : Int) == 0) = false := by simp; omega
    simp only [loop21, AF21, acode, aops, awanted, aoper, AOp.isCall, cond_false, cond_true, aprim, aev, tget_tset, tputs, aput, reduceCtorEq, Pth.l.injEq, Pth.r.injEq, if_false, if_true, abin, kindEq, binInt, Option.map_some, Int.toNat_natCast, Int.natCast_nonneg, and_self, AV.cells?, Nat.zero_add, apply_blks, Mem.applyAll, bget_new, bget_new2, acallee, aevs, List.nil_append, List.append_nil, List.singleton_append, aun, peq, peq1, List.length_cons, List.length_nil, Nat.ble, Nat.reduceDiv, Nat.reduceAdd, Bool.false_eq_true, ares, aresL, ares1, Bool.not_true, Bool.not_false, Nat.beq, hI.s, hI.n, hI.i, hI.f, hd, hm, hlt, hr, E3_len, E3_sc, hset, E3_whole, hadd, hwr, hb]
    exact ⟨_, _, rfl, hkp _ _, by simp only [tget_tset, if_true], fun h => absurd h hk0⟩

theorem stop21 {call : CallF} {X : AV} {n fu : Nat} {T : Tr} {m : Mem} (hI : Inv21 X n n T) :
    ∃ T', acode call meth fu false loop21 T m = some (.exit 0, T', m) := by
  have hd : decide ((n : Int) < (n : Int)) = false := by simp
  simp only [loop21, AF21, acode, aops, awanted, aoper, AOp.isCall, cond_false, cond_true, aprim, aev, tget_tset, tputs, aput, reduceCtorEq, Pth.l.injEq, Pth.r.injEq, if_false, if_true, abin, kindEq, binInt, Option.map_some, Int.toNat_natCast, Int.natCast_nonneg, and_self, AV.cells?, Nat.zero_add, apply_blks, Mem.applyAll, bget_new, bget_new2, acallee, aevs, List.nil_append, List.append_nil, List.singleton_append, aun, peq, peq1, List.length_cons, List.length_nil, Nat.ble, Nat.reduceDiv, Nat.reduceAdd, Bool.false_eq_true, ares, aresL, ares1, Bool.not_true, Bool.not_false, Nat.beq, hI.s, hI.n, hI.i, hI.f, hd]
  exact ⟨_, rfl⟩

theorem loop21_all (h22 : F 22 = some AF22) (hs : ∀ vs m, sm 22 vs m = none) {b fu nn : Nat} {c : Option Nat} {ks : List Nat} (hw : ks.length ≤ 1000) {own : Bool} {X : AV} :
    ∀ (r i f : Nat) (T : Tr) (m : Mem), i + r = ks.length → r < f → Inv21 X ks.length i T → ((X = .osl 0 ∧ ks = []) ∨ (X = .slice b 0 ks.length c ∧ bget m.blks b = some (.row own 3 (ks.map E3)))) →
      ∃ T' m', aloop (acode (acall F meth sm (nn + 1)) meth fu false loop21) f T m = some (if (ks.drop i).all (fun k => (k : Int) == 0) then .exit 0 else .ret, T', m') ∧ Keep m m' ∧ ((ks.drop i).all (fun k => (k : Int) == 0) = false → tget (.r (.l .z)) T' = .bool false) := by
  intro r
  induction r with
  | zero =>
    intro i f T m hi hf hI hm
    obtain ⟨f, rfl⟩ : ∃ f', f = f' + 1 := ⟨f - 1, by omega⟩
    have e : i = ks.length := by omega
    subst e
    obtain ⟨T', h⟩ := stop21 (call := acall F meth sm (nn + 1)) (meth := meth) (fu := fu) (m := m) hI
    refine ⟨T', m, ?_, Keep.refl _, fun h => ?_⟩
    · simp only [aloop, h, List.drop_length, List.all_nil, if_true]
    · simp at h
  | succ r ih =>
    intro i f T m hi hf hI hm
    obtain ⟨f, rfl⟩ : ∃ f', f = f' + 1 := ⟨f - 1, by omega⟩
    have hlt : i < ks.length := by omega
    have hk : ks[i]? = some ks[i] := List.getElem?_eq_getElem hlt
    rcases hm with ⟨_, hnil⟩ | ⟨rfl, hm⟩
    · rw [hnil] at hlt; simp at hlt
    obtain ⟨T1, m1, h1, k1, r1, i1⟩ := round21 (meth := meth) (fu := fu) (nn := nn) h22 hs hI hk hm hw
    have hdrop : ks.drop i = ks[i] :: ks.drop (i + 1) := List.drop_eq_getElem_cons hlt
    cases hb : ((ks[i] : Int) == 0) with
    | true =>
      have hk0 : ks[i] = 0 := by simpa using hb
      have hblt : b < m.blks.length := bget_lt hm
      obtain ⟨T2, m2, h2, k2, r2⟩ := ih (i + 1) f T1 m1 (by omega) (by omega) (i1 hk0) (.inr ⟨rfl, (k1.get b hblt).trans hm⟩)
      refine ⟨T2, m2, ?_, k1.trans k2, ?_⟩
      · simp only [aloop, h1, hb, if_true, h2, hdrop, List.all_cons, Bool.true_and]
      · rw [hdrop, List.all_cons, hb, Bool.true_and]
        exact r2
    | false =>
      refine ⟨T1, m1, ?_, k1, fun _ => r1⟩
      simp only [aloop, h1, hb, hdrop, List.all_cons, Bool.false_and, if_false, Bool.false_eq_true]

theorem e21 (h21 : F 21 = some AF21) (h22 : F 22 = some AF22) (hs : ∀ f vs m, f ≠ 9 → sm f vs m = none) {b n : Nat} {c : Option Nat} {ks : List Nat} (hw : ks.length ≤ 1000) (hn : ks.length + 1 < n) {own : Bool} {m : Mem} {X : AV}
    (hX : (X = .osl 0 ∧ ks = []) ∨ (X = .slice b 0 ks.length c ∧ bget m.blks b = some (.row own 3 (ks.map E3)))) :
    ∃ m', acall F meth sm (n + 1) (.fn 21) [X, .func 22 [] []] m = some (.bool (ks.all fun k => (k : Int) == 0), m') ∧ Keep m m' := by
  obtain ⟨n, rfl⟩ : ∃ n', n = n' + 1 := ⟨n - 1, by omega⟩
  have hs22 : ∀ vs m, sm 22 vs m = none := fun vs m => hs 22 vs m (by decide)
  have hs21 : ∀ vs m, sm 21 vs m = none := fun vs m => hs 21 vs m (by decide)
  have hl : ∀ T, Inv21 X ks.length 0 T → ∃ T' m', aloop (acode (acall F meth sm (n + 1)) meth (n + 1) false loop21) (n + 1) T ⟨m.blks, m.log, []⟩ = some (if ks.all (fun k => (k : Int) == 0) then .exit 0 else .ret, T', m') ∧ Keep ⟨m.blks, m.log, []⟩ m' ∧ (ks.all (fun k => (k : Int) == 0) = false → tget (.r (.l .z)) T' = .bool false) := fun T hI =>
    loop21_all (F := F) (meth := meth) (sm := sm) (fu := n + 1) (nn := n) h22 hs22 hw ks.length 0 (n + 1) T ⟨m.blks, m.log, []⟩ (by omega) (by omega) hI hX
  have e : AF21.body = .seq (.region false 0 [⟨some (.r (.l .z)), .mv (.c (.bool false)), none, none, []⟩]) (.seq (.seq (.region false 0 [
    ⟨(some (.l (.l (.l .z)))), .mv (.t .z), none, none, []⟩,
    ⟨(some (.r (.l (.l .z)))), .len .slice (.t (.l (.l (.l .z)))), none, none, []⟩,
    ⟨(some (.l (.r (.l .z)))), .mv (.c (.int .i64 0)), none, none, []⟩]) (.block 0 (.loop loop21))) (.seq (.region false 0 [⟨some (.r (.l .z)), .mv (.c (.bool true)), none, none, []⟩]) .ret)) := rfl
  have e2 : AF21.ntmps = 18 := rfl
  have e3 : AF21.results = [.tmp (.r (.l .z))] := rfl
  obtain ⟨T1, m1, h1, k1, r1⟩ := hl (tset (.int .i64 0) (.l (.r (.l .z))) (tset (.int .i64 ks.length) (.r (.l (.l .z))) (tset X (.l (.l (.l .z))) (tset (.bool false) (.r (.l .z)) (tset (.func 22 [] []) (.l .z) (tset X .z .e)))))) ⟨by simp only [tget_tset, reduceCtorEq, Pth.l.injEq, Pth.r.injEq, if_false, if_true], by simp only [tget_tset, reduceCtorEq, Pth.l.injEq, Pth.r.injEq, if_false, if_true], by simp only [tget_tset, if_true]; rfl, by simp only [tget_tset, reduceCtorEq, Pth.l.injEq, Pth.r.injEq, if_false, if_true], by simp only [tget_tset, reduceCtorEq, Pth.l.injEq, Pth.r.injEq, if_false, if_true]⟩
  have kk : Keep m { m1 with dfrs := m.dfrs } := ⟨k1.len, k1.get, rfl, k1.log⟩
  have hd1 : m1.dfrs = [] := k1.dfrs
  have hlen : (match LK.slice, X with
    | .slice, .osl n => some (AV.int .i64 n, ([] : List Chg))
    | .slice, .slice _ _ n _ => some (.int .i64 n, [])
    | _, _ => none) = some (.int .i64 ks.length, []) := by
    rcases hX with ⟨rfl, rfl⟩ | ⟨rfl, _⟩ <;> rfl
  cases hb : ks.all (fun k => (k : Int) == 0) with
  | true =>
    rw [hb] at h1
    simp only [if_true] at h1
    refine ⟨{ m1 with dfrs := m.dfrs }, ?_, kk⟩
    rcases hX with ⟨rfl, rfl⟩ | ⟨rfl, _⟩
    · simp only [List.length_nil, Int.ofNat_zero] at h1
      simp only [acall, hs21, h21, e, e2, e3, acode, aops, awanted, aoper, AOp.isCall, cond_false, cond_true, aprim, aev, tget_tset, tputs, aput, reduceCtorEq, Pth.l.injEq, Pth.r.injEq, if_false, if_true, abin, kindEq, binInt, Option.map_some, Int.toNat_natCast, Int.natCast_nonneg, and_self, AV.cells?, Nat.zero_add, apply_blks, Mem.applyAll, bget_new, bget_new2, acallee, aevs, List.nil_append, List.append_nil, List.singleton_append, aun, peq, peq1, List.length_cons, List.length_nil, Nat.ble, Nat.reduceDiv, Nat.reduceAdd, Bool.false_eq_true, ares, aresL, ares1, Bool.not_true, Bool.not_false, Nat.beq, Pth.succ, Int.ofNat_zero, h1, hd1, Mem.killAll]
    · simp only [acall, hs21, h21, e, e2, e3, acode, aops, awanted, aoper, AOp.isCall, cond_false, cond_true, aprim, aev, tget_tset, tputs, aput, reduceCtorEq, Pth.l.injEq, Pth.r.injEq, if_false, if_true, abin, kindEq, binInt, Option.map_some, Int.toNat_natCast, Int.natCast_nonneg, and_self, AV.cells?, Nat.zero_add, apply_blks, Mem.applyAll, bget_new, bget_new2, acallee, aevs, List.nil_append, List.append_nil, List.singleton_append, aun, peq, peq1, List.length_cons, List.length_nil, Nat.ble, Nat.reduceDiv, Nat.reduceAdd, Bool.false_eq_true, ares, aresL, ares1, Bool.not_true, Bool.not_false, Nat.beq, Pth.succ, h1, hd1, Mem.killAll]
  | false =>
    rw [hb] at h1
    simp only [Bool.false_eq_true, if_false] at h1
    refine ⟨{ m1 with dfrs := m.dfrs }, ?_, kk⟩
    have hr := r1 hb
    rcases hX with ⟨rfl, rfl⟩ | ⟨rfl, _⟩
    · simp at hb
    · simp only [acall, hs21, h21, e, e2, e3, acode, aops, awanted, aoper, AOp.isCall, cond_false, cond_true, aprim, aev, tget_tset, tputs, aput, reduceCtorEq, Pth.l.injEq, Pth.r.injEq, if_false, if_true, abin, kindEq, binInt, Option.map_some, Int.toNat_natCast, Int.natCast_nonneg, and_self, AV.cells?, Nat.zero_add, apply_blks, Mem.applyAll, bget_new, bget_new2, acallee, aevs, List.nil_append, List.append_nil, List.singleton_append, aun, peq, peq1, List.length_cons, List.length_nil, Nat.ble, Nat.reduceDiv, Nat.reduceAdd, Bool.false_eq_true, ares, aresL, ares1, Bool.not_true, Bool.not_false, Nat.beq, Pth.succ, h1, hd1, Mem.killAll, hr]
end
end Go.Proofs.YtcphofamajcimaaDoor
end
