/- Functions of the program on symbolic values: part Sn.
   Conditions: none; these are lemmas. -/
import Derived.Test.YtcphofamajcimaaDoorSe
import Derived.Test.YtcphofamajcimaaDoorSf
import Derived.Test.YtcphofamajcimaaDoorSg
import Derived.Test.YtcphofamajcimaaDoorSh
import Derived.Test.YtcphofamajcimaaDoorSi
import Derived.Test.YtcphofamajcimaaDoorSj
import Derived.Test.YtcphofamajcimaaDoorSk
import Derived.Test.YtcphofamajcimaaDoorSl
import Derived.Test.YtcphofamajcimaaDoorSm
import Derived.Test.YtcphofamajcimaaDoorSy
noncomputable section
namespace Go.Proofs.YtcphofamajcimaaDoor
open Go Go.Abs
set_option maxRecDepth 100000
set_option linter.unusedSimpArgs false
set_option linter.unusedVariables false
/-- The functions in the order in which they are known. -/
def Ls : List FuncId := [73, 56, 92, 94, 95, 90, 71, 52, 58, 75, 57, 45, 30, 64, 82, 63, 62, 48, 44, 49, 46, 24, 25, 47, 42, 26, 27, 29, 28, 35, 36, 31, 39, 34, 41, 37, 38, 40, 15, 8, 7, 12, 23, 13]
def Ln (i : Nat) : FuncId := (Ls[i]?).getD 0
noncomputable def smN (F : FuncId → Option AFunc) (meth : Meth) (sm0 : Summ) : Nat → Summ
  | 0 => sm0
  | i + 1 => pureSum (fun f => f == Ln i) F meth (smN F meth sm0 i) 60
def clear (f : FuncId) (i j : Nat) : Bool := (List.range j).all fun t => decide (t < i) || !(f == Ln t)
section
variable {F : FuncId → Option AFunc} {meth : Meth} {sm0 : Summ}
theorem smN_skip {f : FuncId} (i : Nat) : ∀ (j : Nat), i ≤ j → clear f i j = true → smN F meth sm0 j f = smN F meth sm0 i f
  | 0, h, _ => by rw [Nat.le_zero.1 h]
  | j + 1, h, c => by
    rcases Nat.lt_or_ge i (j + 1) with q | q
    · have c' : clear f i j = true ∧ (f == Ln j) = false := by
        simp only [clear, List.range_succ, List.all_append, List.all_cons, List.all_nil, Bool.and_true, Bool.and_eq_true] at c
        refine ⟨c.1, ?_⟩
        have := c.2
        simp only [show ¬ j < i by omega, decide_false, Bool.false_or] at this
        simpa using this
      rw [← smN_skip i j (by omega) c'.1]
      funext vs m
      exact pureSum_skip c'.2
    · rw [show j + 1 = i by omega]
/-- The table has the functions. -/
structure FT (F : FuncId → Option AFunc) : Prop where
  f3 : F 3 = some AF3
  f5 : F 5 = some AF5
  f6 : F 6 = some AF6
  f14 : F 14 = some AF14
  f15 : F 15 = some AF15
  f7 : F 7 = some AF7
  f8 : F 8 = some AF8
  f12 : F 12 = some AF12
  f13 : F 13 = some AF13
  f23 : F 23 = some AF23
  f24 : F 24 = some AF24
  f25 : F 25 = some AF25
  f26 : F 26 = some AF26
  f27 : F 27 = some AF27
  f28 : F 28 = some AF28
  f29 : F 29 = some AF29
  f30 : F 30 = some AF30
  f31 : F 31 = some AF31
  f32 : F 32 = some AF32
  f33 : F 33 = some AF33
  f34 : F 34 = some AF34
  f35 : F 35 = some AF35
  f36 : F 36 = some AF36
  f37 : F 37 = some AF37
  f38 : F 38 = some AF38
  f39 : F 39 = some AF39
  f40 : F 40 = some AF40
  f41 : F 41 = some AF41
  f42 : F 42 = some AF42
  f44 : F 44 = some AF44
  f45 : F 45 = some AF45
  f46 : F 46 = some AF46
  f47 : F 47 = some AF47
  f48 : F 48 = some AF48
  f49 : F 49 = some AF49
  f50 : F 50 = some AF50
  f51 : F 51 = some AF51
  f52 : F 52 = some AF52
  f53 : F 53 = some AF53
  f54 : F 54 = some AF54
  f55 : F 55 = some AF55
  f56 : F 56 = some AF56
  f57 : F 57 = some AF57
  f58 : F 58 = some AF58
  f59 : F 59 = some AF59
  f60 : F 60 = some AF60
  f61 : F 61 = some AF61
  f62 : F 62 = some AF62
  f63 : F 63 = some AF63
  f64 : F 64 = some AF64
  f65 : F 65 = some AF65
  f66 : F 66 = some AF66
  f67 : F 67 = some AF67
  f68 : F 68 = some AF68
  f69 : F 69 = some AF69
  f70 : F 70 = some AF70
  f71 : F 71 = some AF71
  f72 : F 72 = some AF72
  f73 : F 73 = some AF73
  f74 : F 74 = some AF74
  f75 : F 75 = some AF75
  f76 : F 76 = some AF76
  f77 : F 77 = some AF77
  f78 : F 78 = some AF78
  f79 : F 79 = some AF79
  f80 : F 80 = some AF80
  f81 : F 81 = some AF81
  f82 : F 82 = some AF82
  f83 : F 83 = some AF83
  f84 : F 84 = some AF84
  f85 : F 85 = some AF85
  f86 : F 86 = some AF86
  f87 : F 87 = some AF87
  f88 : F 88 = some AF88
  f89 : F 89 = some AF89
  f90 : F 90 = some AF90
  f91 : F 91 = some AF91
  f92 : F 92 = some AF92
  f93 : F 93 = some AF93
  f94 : F 94 = some AF94
  f95 : F 95 = some AF95
  f96 : F 96 = some AF96
  f97 : F 97 = some AF97
  f115 : F 115 = some AF115
  f116 : F 116 = some AF116
  f117 : F 117 = some AF117
  f118 : F 118 = some AF118
structure MT (meth : Meth) : Prop where
  mL : meth 126 "Len" = some (69, some (false, 1))
  mE : meth 126 "Less" = some (115, some (false, 1))
  mS : meth 126 "Swap" = some (118, some (false, 1))
  mO : meth 126 "Pop" = some (116, none)
  mU : meth 126 "Push" = some (117, none)
/-- What is known at first: of one function at most. -/
def Z0 (sm0 : Summ) : Prop := ∀ f vs m, f ≠ 9 → sm0 f vs m = none
theorem smN_none (Z : Z0 sm0) {f : FuncId} (i : Nat) (h9 : f ≠ 9) (c : clear f 0 i = true) : ∀ vs m, smN F meth sm0 i f vs m = none := fun vs m => by
  rw [smN_skip 0 i (Nat.zero_le i) c]
  exact Z f vs m h9
theorem H73.lift {sm sm' : Summ} (e : sm' 73 = sm 73) (h : H73 sm) : H73 sm' := by unfold H73 at h ⊢; rw [e]; exact h
theorem H56.lift {sm sm' : Summ} (e : sm' 56 = sm 56) (h : H56 sm) : H56 sm' := by unfold H56 at h ⊢; rw [e]; exact h
theorem H92.lift {sm sm' : Summ} (e : sm' 92 = sm 92) (h : H92 sm) : H92 sm' := by unfold H92 at h ⊢; rw [e]; exact h
theorem H94.lift {sm sm' : Summ} (e : sm' 94 = sm 94) (h : H94 sm) : H94 sm' := by unfold H94 at h ⊢; rw [e]; exact h
theorem H95.lift {sm sm' : Summ} (e : sm' 95 = sm 95) (h : H95 sm) : H95 sm' := by unfold H95 at h ⊢; rw [e]; exact h
theorem H90.lift {sm sm' : Summ} (e : sm' 90 = sm 90) (h : H90 sm) : H90 sm' := by unfold H90 at h ⊢; rw [e]; exact h
theorem H71.lift {sm sm' : Summ} (e : sm' 71 = sm 71) (h : H71 sm) : H71 sm' := by unfold H71 at h ⊢; rw [e]; exact h
theorem H64.lift {sm sm' : Summ} (e : sm' 64 = sm 64) (h : H64 sm) : H64 sm' := by unfold H64 at h ⊢; rw [e]; exact h
theorem H82.lift {sm sm' : Summ} (e : sm' 82 = sm 82) (h : H82 sm) : H82 sm' := by unfold H82 at h ⊢; rw [e]; exact h
theorem H82b.lift {sm sm' : Summ} (e : sm' 82 = sm 82) (h : H82b sm) : H82b sm' := by unfold H82b at h ⊢; rw [e]; exact h
theorem H63.lift {sm sm' : Summ} (e : sm' 63 = sm 63) (h : H63 sm) : H63 sm' := by unfold H63 at h ⊢; rw [e]; exact h
theorem H62.lift {sm sm' : Summ} (e : sm' 62 = sm 62) (h : H62 sm) : H62 sm' := by unfold H62 at h ⊢; rw [e]; exact h
theorem H48.lift {sm sm' : Summ} (e : sm' 48 = sm 48) (h : H48 sm) : H48 sm' := by unfold H48 at h ⊢; rw [e]; exact h
theorem H58.lift {sm sm' : Summ} (e : sm' 58 = sm 58) (h : H58 sm) : H58 sm' := by unfold H58 at h ⊢; rw [e]; exact h
theorem H75.lift {sm sm' : Summ} (e : sm' 75 = sm 75) (h : H75 sm) : H75 sm' := by unfold H75 at h ⊢; rw [e]; exact h
theorem H57.lift {sm sm' : Summ} (e : sm' 57 = sm 57) (h : H57 sm) : H57 sm' := by unfold H57 at h ⊢; rw [e]; exact h
theorem H45.lift {sm sm' : Summ} (e : sm' 45 = sm 45) (h : H45 sm) : H45 sm' := by unfold H45 at h ⊢; rw [e]; exact h
theorem H52.lift {sm sm' : Summ} (e : sm' 52 = sm 52) (h : H52 sm) : H52 sm' := by unfold H52 at h ⊢; rw [e]; exact h
theorem H30.lift {sm sm' : Summ} (e : sm' 30 = sm 30) (h : H30 sm) : H30 sm' := by unfold H30 at h ⊢; rw [e]; exact h
theorem H44.lift {sm sm' : Summ} (e : sm' 44 = sm 44) (h : H44 sm) : H44 sm' := by unfold H44 at h ⊢; rw [e]; exact h
theorem H49.lift {sm sm' : Summ} {g : FuncId} (e : sm' 49 = sm 49) (h : H49 sm g) : H49 sm' g := by unfold H49 at h ⊢; rw [e]; exact h
theorem H46.lift {sm sm' : Summ} (e : sm' 46 = sm 46) (h : H46 sm) : H46 sm' := by unfold H46 at h ⊢; rw [e]; exact h
theorem H24.lift {sm sm' : Summ} (e : sm' 24 = sm 24) (h : H24 sm) : H24 sm' := by unfold H24 at h ⊢; rw [e]; exact h
theorem H25.lift {sm sm' : Summ} (e : sm' 25 = sm 25) (h : H25 sm) : H25 sm' := by unfold H25 at h ⊢; rw [e]; exact h
theorem H47.lift {sm sm' : Summ} (e : sm' 47 = sm 47) (h : H47 sm) : H47 sm' := by unfold H47 at h ⊢; rw [e]; exact h
theorem H42.lift {sm sm' : Summ} (e : sm' 42 = sm 42) (h : H42 sm) : H42 sm' := by unfold H42 at h ⊢; rw [e]; exact h
theorem H26.lift {sm sm' : Summ} (e : sm' 26 = sm 26) (h : H26 sm) : H26 sm' := by unfold H26 at h ⊢; rw [e]; exact h
theorem H27.lift {sm sm' : Summ} (e : sm' 27 = sm 27) (h : H27 sm) : H27 sm' := by unfold H27 at h ⊢; rw [e]; exact h
theorem H29.lift {sm sm' : Summ} (e : sm' 29 = sm 29) (h : H29 sm) : H29 sm' := by unfold H29 at h ⊢; rw [e]; exact h
theorem H28.lift {sm sm' : Summ} (e : sm' 28 = sm 28) (h : H28 sm) : H28 sm' := by unfold H28 at h ⊢; rw [e]; exact h
theorem H35.lift {sm sm' : Summ} (e : sm' 35 = sm 35) (h : H35 sm) : H35 sm' := by unfold H35 at h ⊢; rw [e]; exact h
theorem H34.lift {sm sm' : Summ} (e : sm' 34 = sm 34) (h : H34 sm) : H34 sm' := by unfold H34 at h ⊢; rw [e]; exact h
theorem H31.lift {sm sm' : Summ} (e : sm' 31 = sm 31) (h : H31 sm) : H31 sm' := by unfold H31 at h ⊢; rw [e]; exact h
theorem H37.lift {sm sm' : Summ} (e : sm' 37 = sm 37) (h : H37 sm) : H37 sm' := by unfold H37 at h ⊢; rw [e]; exact h
theorem H38.lift {sm sm' : Summ} (e : sm' 38 = sm 38) (h : H38 sm) : H38 sm' := by unfold H38 at h ⊢; rw [e]; exact h
theorem H40.lift {sm sm' : Summ} (e : sm' 40 = sm 40) (h : H40 sm) : H40 sm' := by unfold H40 at h ⊢; rw [e]; exact h
theorem H15.lift {sm sm' : Summ} (e : sm' 15 = sm 15) (h : H15 sm) : H15 sm' := by unfold H15 at h ⊢; rw [e]; exact h
theorem H8.lift {sm sm' : Summ} (e : sm' 8 = sm 8) (h : H8 sm) : H8 sm' := by unfold H8 at h ⊢; rw [e]; exact h
theorem H7.lift {sm sm' : Summ} (e : sm' 7 = sm 7) (h : H7 sm) : H7 sm' := by unfold H7 at h ⊢; rw [e]; exact h
theorem H12.lift {sm sm' : Summ} (e : sm' 12 = sm 12) (h : H12 sm) : H12 sm' := by unfold H12 at h ⊢; rw [e]; exact h
theorem H23.lift {sm sm' : Summ} (e : sm' 23 = sm 23) (h : H23 sm) : H23 sm' := by unfold H23 at h ⊢; rw [e]; exact h
theorem H13.lift {sm sm' : Summ} (e : sm' 13 = sm 13) (h : H13 sm) : H13 sm' := by unfold H13 at h ⊢; rw [e]; exact h
end
section
variable {F : FuncId → Option AFunc} {meth : Meth} {sm0 : Summ}
set_option maxHeartbeats 2000000 in
theorem c73 (T : FT F) (X : MT meth) (Z : Z0 sm0) : H73 (smN F meth sm0 1) := by
  unfold H73
  intro f t b own c m
  intros
  exact Ev.pure (S := fun f => f == Ln 0) (F := F) (meth := meth) (sm := smN F meth sm0 0) (n := 60) (e73 (f := f) (t := t) (b := b) (own := own) (c := c) T.f73 (smN_none Z 0 (by decide) (by decide)) _ _ _ _ (by assumption) (by assumption) (by assumption) (by assumption) (by assumption)) rfl (by simp [AV.refs])
set_option maxHeartbeats 2000000 in
theorem c56 (T : FT F) (X : MT meth) (Z : Z0 sm0) : H56 (smN F meth sm0 2) := by
  have lH73 : H73 (smN F meth sm0 1) := (c73 T X Z).lift (smN_skip 1 1 (by decide) (by decide))
  unfold H56
  intro f t e r dl m
  intros
  exact Ev.pure (S := fun f => f == Ln 1) (F := F) (meth := meth) (sm := smN F meth sm0 1) (n := 60) (e56 (f := f) (t := t) (e := e) (r := r) (dl := dl) T.f56 lH73 (smN_none Z 1 (by decide) (by decide)) _ _ _ _ (by assumption) (by assumption) (by assumption) (by assumption) (by assumption) (by assumption) (by assumption) (by assumption) (by assumption) (by assumption) (by assumption)) rfl (by simp [AV.refs])
set_option maxHeartbeats 2000000 in
theorem c92 (T : FT F) (X : MT meth) (Z : Z0 sm0) : H92 (smN F meth sm0 3) := by
  unfold H92
  intro f t e r dl m
  intros
  exact Ev.pure (S := fun f => f == Ln 2) (F := F) (meth := meth) (sm := smN F meth sm0 2) (n := 60) (e92 (f := f) (t := t) (e := e) (r := r) (dl := dl) T.f92 (smN_none Z 2 (by decide) (by decide)) _ _ _ _ (by assumption) (by assumption) (by assumption) (by assumption)) rfl (by simp [AV.refs])
set_option maxHeartbeats 2000000 in
theorem c94 (T : FT F) (X : MT meth) (Z : Z0 sm0) : H94 (smN F meth sm0 4) := by
  unfold H94
  intro f t e r dl a m
  intros
  exact Ev.pure (S := fun f => f == Ln 3) (F := F) (meth := meth) (sm := smN F meth sm0 3) (n := 60) (e94 (f := f) (t := t) (e := e) (r := r) (dl := dl) (a := a) T.f94 T.f97 (smN_none Z 3 (by decide) (by decide)) (smN_none Z 3 (by decide) (by decide)) _ _ _ _ (by assumption) (by assumption) (by assumption) (by assumption) (by assumption) (by assumption)) rfl (by simp [AV.refs])
set_option maxHeartbeats 2000000 in
theorem c95 (T : FT F) (X : MT meth) (Z : Z0 sm0) : H95 (smN F meth sm0 5) := by
  unfold H95
  intro f t e r dl a z m
  intros
  exact Ev.pure (S := fun f => f == Ln 4) (F := F) (meth := meth) (sm := smN F meth sm0 4) (n := 60) (e95 (f := f) (t := t) (e := e) (r := r) (dl := dl) (a := a) (z := z) T.f95 (smN_none Z 4 (by decide) (by decide)) _ _ _ _ (by assumption) (by assumption) (by assumption) (by assumption) (by assumption) (by assumption)) rfl (by simp [AV.refs])
set_option maxHeartbeats 2000000 in
theorem c90 (T : FT F) (X : MT meth) (Z : Z0 sm0) : H90 (smN F meth sm0 6) := by
  have lH56 : H56 (smN F meth sm0 5) := (c56 T X Z).lift (smN_skip 2 5 (by decide) (by decide))
  have lH92 : H92 (smN F meth sm0 5) := (c92 T X Z).lift (smN_skip 3 5 (by decide) (by decide))
  have lH94 : H94 (smN F meth sm0 5) := (c94 T X Z).lift (smN_skip 4 5 (by decide) (by decide))
  have lH95 : H95 (smN F meth sm0 5) := (c95 T X Z).lift (smN_skip 5 5 (by decide) (by decide))
  unfold H90
  intro f t e r dl a z m
  intros
  exact Ev.pure (S := fun f => f == Ln 5) (F := F) (meth := meth) (sm := smN F meth sm0 5) (n := 60) (e90 (f := f) (t := t) (e := e) (r := r) (dl := dl) (a := a) (z := z) T.f90 T.f91 T.f93 T.f96 lH56 lH92 lH94 lH95 (fun f vs m h => by rcases h with rfl | rfl | rfl | rfl <;> exact smN_none Z 5 (by decide) (by decide) vs m) _ _ _ _ (by assumption) (by assumption) (by assumption) (by assumption) (by assumption) (by assumption) (by assumption) (by assumption) (by assumption) (by assumption) (by assumption) (by assumption) (by assumption) (by assumption) (by assumption)) rfl (by simp [AV.refs, refsL])
set_option maxHeartbeats 2000000 in
theorem c71 (T : FT F) (X : MT meth) (Z : Z0 sm0) : H71 (smN F meth sm0 7) := by
  have lH90 : H90 (smN F meth sm0 6) := (c90 T X Z).lift (smN_skip 6 6 (by decide) (by decide))
  unfold H71
  intro f t e r dl a z m
  intros
  exact Ev.pure (S := fun f => f == Ln 6) (F := F) (meth := meth) (sm := smN F meth sm0 6) (n := 60) (e71 (f := f) (t := t) (e := e) (r := r) (dl := dl) (a := a) (z := z) T.f71 T.f86 lH90 (smN_none Z 6 (by decide) (by decide)) (smN_none Z 6 (by decide) (by decide)) _ _ _ _ (by assumption) (by assumption) (by assumption) (by assumption) (by assumption) (by assumption) (by assumption) (by assumption) (by assumption) (by assumption) (by assumption) (by assumption) (by assumption) (by assumption) (by assumption)) rfl (by simp [AV.refs, refsL])
set_option maxHeartbeats 2000000 in
theorem c52 (T : FT F) (X : MT meth) (Z : Z0 sm0) : H52 (smN F meth sm0 8) := by
  have lH71 : H71 (smN F meth sm0 7) := (c71 T X Z).lift (smN_skip 7 7 (by decide) (by decide))
  have lHeap : Heap F meth (smN F meth sm0 7) := ⟨T.f52, T.f69, T.f70, T.f72, T.f85, T.f87, T.f115, T.f116, T.f117, T.f118, X.mL, X.mE, X.mS, X.mO, X.mU, smN_none Z 7 (by decide) (by decide), smN_none Z 7 (by decide) (by decide), smN_none Z 7 (by decide) (by decide), smN_none Z 7 (by decide) (by decide), smN_none Z 7 (by decide) (by decide), smN_none Z 7 (by decide) (by decide), smN_none Z 7 (by decide) (by decide), smN_none Z 7 (by decide) (by decide), smN_none Z 7 (by decide) (by decide), smN_none Z 7 (by decide) (by decide)⟩
  unfold H52
  intro k es f z
  intros
  obtain ⟨x1, x2, x3, q1, q2, q3, g⟩ := e52 (F := F) (meth := meth) (sm := smN F meth sm0 7) lHeap lH71 38 k es f z (by assumption) (by assumption) (by assumption) (by assumption) (by assumption)
  refine ⟨x1, x2, x3, q1, q2, q3, ?_⟩
  intros
  exact Ev.pure (S := fun f => f == Ln 7) (F := F) (meth := meth) (sm := smN F meth sm0 7) (n := 60) (g _ _ _ _ _ _ (by assumption)) rfl (by simp [AV.refs, refsL, arr])
set_option maxHeartbeats 2000000 in
theorem c58 (T : FT F) (X : MT meth) (Z : Z0 sm0) : H58 (smN F meth sm0 9) := by
  unfold H58
  intro f t s e r dl m
  intros
  exact Ev.pure (S := fun f => f == Ln 8) (F := F) (meth := meth) (sm := smN F meth sm0 8) (n := 60) (e58 T.f58 (smN_none Z 8 (by decide) (by decide)) _ _ _ _ f t s e r dl) rfl (by simp [AV.refs, refsL])
set_option maxHeartbeats 2000000 in
theorem c75 (T : FT F) (X : MT meth) (Z : Z0 sm0) : H75 (smN F meth sm0 10) := by
  unfold H75
  intro x y m
  have e := fun h lg d => e75 (F := F) (meth := meth) (sm := smN F meth sm0 9) T.f75 T.f88 (smN_none Z 9 (by decide) (by decide)) (smN_none Z 9 (by decide) (by decide)) 58 h lg d x y
  exact ⟨fun q => Ev.pure (S := fun f => f == Ln 9) (F := F) (meth := meth) (sm := smN F meth sm0 9) (n := 60) ((e _ _ _).1 q) rfl (by simp [AV.refs]), fun q => Ev.pure (S := fun f => f == Ln 9) (F := F) (meth := meth) (sm := smN F meth sm0 9) (n := 60) ((e _ _ _).2.1 q) rfl (by simp [AV.refs]), fun q => Ev.pure (S := fun f => f == Ln 9) (F := F) (meth := meth) (sm := smN F meth sm0 9) (n := 60) ((e _ _ _).2.2 q) rfl (by simp [AV.refs])⟩
set_option maxHeartbeats 2000000 in
theorem c57 (T : FT F) (X : MT meth) (Z : Z0 sm0) : H57 (smN F meth sm0 11) := by
  have lH75 : H75 (smN F meth sm0 10) := (c75 T X Z).lift (smN_skip 10 10 (by decide) (by decide))
  unfold H57
  intro f t e r dl f' t' e' r' dl' m
  intros
  exact Ev.pure (S := fun f => f == Ln 10) (F := F) (meth := meth) (sm := smN F meth sm0 10) (n := 60) (e57 T.f57 T.f74 (smN_none Z 10 (by decide) (by decide)) (smN_none Z 10 (by decide) (by decide)) lH75 _ _ _ _ f t e r dl f' t' e' r' dl' (by assumption)) rfl (by simp [AV.refs])
set_option maxHeartbeats 2000000 in
theorem c45 (T : FT F) (X : MT meth) (Z : Z0 sm0) : H45 (smN F meth sm0 12) := by
  have lH56 : H56 (smN F meth sm0 11) := (c56 T X Z).lift (smN_skip 2 11 (by decide) (by decide))
  have lH57 : H57 (smN F meth sm0 11) := (c57 T X Z).lift (smN_skip 11 11 (by decide) (by decide))
  have lH58 : H58 (smN F meth sm0 11) := (c58 T X Z).lift (smN_skip 9 11 (by decide) (by decide))
  unfold H45
  intro k es b own c m hP hb
  cases hP with
  | two k0 k1 => exact Ev.pure (S := fun f => f == Ln 11) (F := F) (meth := meth) (sm := smN F meth sm0 11) (n := 60) (e45_2 T.f45 (smN_none Z 11 (by decide) (by decide)) lH56 lH57 lH58 _ _ _ _ hb k0 k1) rfl (by simp [AV.refs, refsL])
  | three k0 k1 k2 k3 => exact Ev.pure (S := fun f => f == Ln 11) (F := F) (meth := meth) (sm := smN F meth sm0 11) (n := 60) (e45_3 T.f45 (smN_none Z 11 (by decide) (by decide)) lH56 lH57 lH58 _ _ _ _ hb k0 k1 k2 k3) rfl (by simp [AV.refs, refsL])
set_option maxHeartbeats 2000000 in
theorem c30 (T : FT F) (X : MT meth) (Z : Z0 sm0) : H30 (smN F meth sm0 13) := by
  have lH45 : H45 (smN F meth sm0 12) := (c45 T X Z).lift (smN_skip 12 12 (by decide) (by decide))
  have lH52 : H52 (smN F meth sm0 12) := (c52 T X Z).lift (smN_skip 8 12 (by decide) (by decide))
  unfold H30
  intro k es f t z b own c m
  intros
  exact Ev.pure (S := fun f => f == Ln 12) (F := F) (meth := meth) (sm := smN F meth sm0 12) (n := 60) (e30 (k := k) (es := es) (f := f) (t := t) (z := z) (b := b) (own := own) (c := c) T.f30 T.f51 T.f66 T.f67 T.f68 T.f84 (smN_none Z 12 (by decide) (by decide)) (smN_none Z 12 (by decide) (by decide)) (smN_none Z 12 (by decide) (by decide)) (smN_none Z 12 (by decide) (by decide)) (smN_none Z 12 (by decide) (by decide)) (smN_none Z 12 (by decide) (by decide)) lH45 lH52 _ _ _ _ (by assumption) (by assumption) (by assumption) (by assumption) (by assumption) (by assumption) (by assumption) (by assumption)) rfl (by simp [AV.refs, refsL])
set_option maxHeartbeats 2000000 in
theorem c64 (T : FT F) (X : MT meth) (Z : Z0 sm0) : H64 (smN F meth sm0 14) := by
  unfold H64
  intro x m
  intros
  exact Ev.pure (S := fun f => f == Ln 13) (F := F) (meth := meth) (sm := smN F meth sm0 13) (n := 60) (e64 (x := x) T.f64 T.f83 T.f89 (smN_none Z 13 (by decide) (by decide)) (smN_none Z 13 (by decide) (by decide)) (smN_none Z 13 (by decide) (by decide)) _ _ _ _ (by assumption) (by assumption)) rfl (by simp [AV.refs])
set_option maxHeartbeats 2000000 in
theorem c82 (T : FT F) (X : MT meth) (Z : Z0 sm0) : H82 (smN F meth sm0 15) := by
  unfold H82
  intro x m
  intros
  exact Ev.pure (S := fun f => f == Ln 14) (F := F) (meth := meth) (sm := smN F meth sm0 14) (n := 60) (e82 (x := x) T.f82 T.f83 T.f89 (smN_none Z 14 (by decide) (by decide)) (smN_none Z 14 (by decide) (by decide)) (smN_none Z 14 (by decide) (by decide)) _ _ _ _ (by assumption) (by assumption)) rfl (by simp [AV.refs])
set_option maxHeartbeats 2000000 in
theorem c82b (T : FT F) (X : MT meth) (Z : Z0 sm0) : H82b (smN F meth sm0 15) := by
  unfold H82b
  intro x m
  intros
  exact Ev.pure (S := fun f => f == Ln 14) (F := F) (meth := meth) (sm := smN F meth sm0 14) (n := 60) (e82b (x := x) T.f82 T.f83 T.f89 (smN_none Z 14 (by decide) (by decide)) (smN_none Z 14 (by decide) (by decide)) (smN_none Z 14 (by decide) (by decide)) _ _ _ _ (by assumption) (by assumption)) rfl (by simp [AV.refs])
set_option maxHeartbeats 2000000 in
theorem c63 (T : FT F) (X : MT meth) (Z : Z0 sm0) : H63 (smN F meth sm0 16) := by
  have lH82 : H82 (smN F meth sm0 15) := (c82 T X Z).lift (smN_skip 15 15 (by decide) (by decide))
  have lH82b : H82b (smN F meth sm0 15) := (c82b T X Z).lift (smN_skip 15 15 (by decide) (by decide))
  unfold H63
  intro node seq dest prio life s m
  intros
  exact Ev.pure (S := fun f => f == Ln 15) (F := F) (meth := meth) (sm := smN F meth sm0 15) (n := 60) (e63 (node := node) (seq := seq) (dest := dest) (prio := prio) (life := life) (s := s) T.f63 T.f80 T.f81 (smN_none Z 15 (by decide) (by decide)) (smN_none Z 15 (by decide) (by decide)) (smN_none Z 15 (by decide) (by decide)) lH82 lH82b _ _ _ _ (by assumption) (by assumption)) rfl (by simp [AV.refs])
set_option maxHeartbeats 2000000 in
theorem c62 (T : FT F) (X : MT meth) (Z : Z0 sm0) : H62 (smN F meth sm0 17) := by
  unfold H62
  intro node seq dest prio life s m
  intros
  exact Ev.pure (S := fun f => f == Ln 16) (F := F) (meth := meth) (sm := smN F meth sm0 16) (n := 60) (e62 (node := node) (seq := seq) (dest := dest) (prio := prio) (life := life) (s := s) T.f62 T.f78 T.f79 (smN_none Z 16 (by decide) (by decide)) (smN_none Z 16 (by decide) (by decide)) (smN_none Z 16 (by decide) (by decide)) _ _ _ _ (by assumption)) rfl (by simp [AV.refs])
set_option maxHeartbeats 2000000 in
theorem c48 (T : FT F) (X : MT meth) (Z : Z0 sm0) : H48 (smN F meth sm0 18) := by
  have lH62 : H62 (smN F meth sm0 17) := (c62 T X Z).lift (smN_skip 17 17 (by decide) (by decide))
  have lH63 : H63 (smN F meth sm0 17) := (c63 T X Z).lift (smN_skip 16 17 (by decide) (by decide))
  have lH64 : H64 (smN F meth sm0 17) := (c64 T X Z).lift (smN_skip 14 17 (by decide) (by decide))
  unfold H48
  intro node seq dest prio life s m
  intros
  exact Ev.pure (S := fun f => f == Ln 17) (F := F) (meth := meth) (sm := smN F meth sm0 17) (n := 60) (e48 (node := node) (seq := seq) (dest := dest) (prio := prio) (life := life) (s := s) T.f48 (smN_none Z 17 (by decide) (by decide)) lH62 lH63 lH64 _ _ _ _ (by assumption) (by assumption)) rfl (by simp [AV.refs, refsL])
set_option maxHeartbeats 2000000 in
theorem c44 (T : FT F) (X : MT meth) (Z : Z0 sm0) : H44 (smN F meth sm0 19) := by
  unfold H44
  intro i q w l re by_ w2 w3 rd bst m
  intros
  exact Ev.pure (S := fun f => f == Ln 18) (F := F) (meth := meth) (sm := smN F meth sm0 18) (n := 60) (e44 (i := i) (q := q) (w := w) (l := l) (re := re) (by_ := by_) (w2 := w2) (w3 := w3) (rd := rd) (bst := bst) T.f44 T.f54 T.f55 (smN_none Z 18 (by decide) (by decide)) (smN_none Z 18 (by decide) (by decide)) (smN_none Z 18 (by decide) (by decide)) _ _ _ _ (by assumption) (by assumption) (by assumption)) rfl (by simp [AV.refs])
set_option maxHeartbeats 2000000 in
theorem c49_61 (T : FT F) (X : MT meth) (Z : Z0 sm0) : H49 (smN F meth sm0 20) 61 := by
  unfold H49
  intros
  exact Ev.pure (S := fun f => f == Ln 19) (F := F) (meth := meth) (sm := smN F meth sm0 19) (n := 60) (e49 (g := 61) (.inl ⟨rfl, T.f61, smN_none Z 19 (by decide) (by decide)⟩) T.f49 T.f65 (smN_none Z 19 (by decide) (by decide)) (smN_none Z 19 (by decide) (by decide)) _ _ _ _ (by assumption) (by assumption) (by assumption) (by assumption) (by assumption)) rfl (by simp [AV.refs])
set_option maxHeartbeats 2000000 in
theorem c49_50 (T : FT F) (X : MT meth) (Z : Z0 sm0) : H49 (smN F meth sm0 20) 50 := by
  unfold H49
  intros
  exact Ev.pure (S := fun f => f == Ln 19) (F := F) (meth := meth) (sm := smN F meth sm0 19) (n := 60) (e49 (g := 50) (.inr ⟨rfl, T.f50, smN_none Z 19 (by decide) (by decide)⟩) T.f49 T.f65 (smN_none Z 19 (by decide) (by decide)) (smN_none Z 19 (by decide) (by decide)) _ _ _ _ (by assumption) (by assumption) (by assumption) (by assumption) (by assumption)) rfl (by simp [AV.refs])
set_option maxHeartbeats 2000000 in
theorem c46 (T : FT F) (X : MT meth) (Z : Z0 sm0) : H46 (smN F meth sm0 21) := by
  have lH49_61 : H49 (smN F meth sm0 20) 61 := (c49_61 T X Z).lift (smN_skip 20 20 (by decide) (by decide))
  have lH62 : H62 (smN F meth sm0 20) := (c62 T X Z).lift (smN_skip 17 20 (by decide) (by decide))
  unfold H46
  intro k es node seq dest prio life s b own c X Y m
  intros
  exact Ev.pure (S := fun f => f == Ln 20) (F := F) (meth := meth) (sm := smN F meth sm0 20) (n := 60) (e46 (k := k) (es := es) (node := node) (seq := seq) (dest := dest) (prio := prio) (life := life) (s := s) (b := b) (own := own) (c := c) (X := X) (Y := Y) T.f46 T.f59 T.f60 T.f76 T.f77 (smN_none Z 20 (by decide) (by decide)) (smN_none Z 20 (by decide) (by decide)) (smN_none Z 20 (by decide) (by decide)) (smN_none Z 20 (by decide) (by decide)) (smN_none Z 20 (by decide) (by decide)) lH49_61 lH62 _ _ _ _ (by assumption) (by assumption) (by assumption) (by assumption) (by assumption) (by assumption) (by assumption)) rfl (by simp [AV.refs])
set_option maxHeartbeats 2000000 in
theorem c24 (T : FT F) (X : MT meth) (Z : Z0 sm0) : H24 (smN F meth sm0 22) := by
  have lH44 : H44 (smN F meth sm0 21) := (c44 T X Z).lift (smN_skip 19 21 (by decide) (by decide))
  have lH45 : H45 (smN F meth sm0 21) := (c45 T X Z).lift (smN_skip 12 21 (by decide) (by decide))
  have lH46 : H46 (smN F meth sm0 21) := (c46 T X Z).lift (smN_skip 21 21 (by decide) (by decide))
  unfold H24
  intro k es ps cs b1 b2 own1 own2 c1 c2 M m
  intros
  exact Ev.pure (S := fun f => f == Ln 21) (F := F) (meth := meth) (sm := smN F meth sm0 21) (n := 60) (e24 (k := k) (es := es) (ps := ps) (cs := cs) (b1 := b1) (b2 := b2) (own1 := own1) (own2 := own2) (c1 := c1) (c2 := c2) (M := M) T.f24 (smN_none Z 21 (by decide) (by decide)) lH44 lH45 lH46 _ _ _ _ (by assumption) (by assumption) (by assumption) (by assumption) (by assumption) (by assumption) (by assumption) (by assumption)) rfl (by simp [AV.refs, refsL])
set_option maxHeartbeats 2000000 in
theorem c25 (T : FT F) (X : MT meth) (Z : Z0 sm0) : H25 (smN F meth sm0 23) := by
  unfold H25
  intro k ps
  intros
  obtain ⟨r, d, q1, q2, q3, q4, g⟩ := e25 (F := F) (meth := meth) (sm := smN F meth sm0 22) T.f25 (smN_none Z 22 (by decide) (by decide)) 54 k ps (by assumption)
  refine ⟨r, d, q1, q2, q3, q4, ?_⟩
  intros
  exact Ev.pure (S := fun f => f == Ln 22) (F := F) (meth := meth) (sm := smN F meth sm0 22) (n := 60) (g _ _ _ _ _ _ _ _ _ _ (by assumption) (by assumption)) rfl (by simp [AV.refs, refsL, tm])
set_option maxHeartbeats 2000000 in
theorem c47 (T : FT F) (X : MT meth) (Z : Z0 sm0) : H47 (smN F meth sm0 24) := by
  unfold H47
  intro k nc r d m
  intros
  exact Ev.pure (S := fun f => f == Ln 23) (F := F) (meth := meth) (sm := smN F meth sm0 23) (n := 60) (e47 (k := k) (nc := nc) (r := r) (d := d) T.f47 (smN_none Z 23 (by decide) (by decide)) _ _ _ _ (by assumption) (by assumption)) rfl (by simp [AV.refs])
set_option maxHeartbeats 2000000 in
theorem c42 (T : FT F) (X : MT meth) (Z : Z0 sm0) : H42 (smN F meth sm0 25) := by
  have lH47 : H47 (smN F meth sm0 24) := (c47 T X Z).lift (smN_skip 24 24 (by decide) (by decide))
  unfold H42
  intro k nc r d m
  intros
  exact Ev.pure (S := fun f => f == Ln 24) (F := F) (meth := meth) (sm := smN F meth sm0 24) (n := 60) (e42 (k := k) (nc := nc) (r := r) (d := d) T.f42 (smN_none Z 24 (by decide) (by decide)) lH47 _ _ _ _ (by assumption) (by assumption) (by assumption) (by assumption) (by assumption) (by assumption)) rfl (by simp [AV.refs])
set_option maxHeartbeats 2000000 in
theorem c26 (T : FT F) (X : MT meth) (Z : Z0 sm0) : H26 (smN F meth sm0 26) := by
  have lH42 : H42 (smN F meth sm0 25) := (c42 T X Z).lift (smN_skip 25 25 (by decide) (by decide))
  have lH47 : H47 (smN F meth sm0 25) := (c47 T X Z).lift (smN_skip 24 25 (by decide) (by decide))
  unfold H26
  intro k nc r d
  intros
  obtain ⟨x, q1, q2, g⟩ := e26 (F := F) (meth := meth) (sm := smN F meth sm0 25) (k := k) (nc := nc) (r := r) (d := d) T.f26 (smN_none Z 25 (by decide) (by decide)) lH47 lH42 58 (by assumption) (by assumption) (by assumption) (by assumption) (by assumption) (by assumption) (by assumption) (by assumption)
  refine ⟨x, q1, q2, ?_⟩
  intros
  exact Ev.pure (S := fun f => f == Ln 25) (F := F) (meth := meth) (sm := smN F meth sm0 25) (n := 60) (g _ _ _) rfl (by simp [AV.refs])
set_option maxHeartbeats 2000000 in
theorem c27 (T : FT F) (X : MT meth) (Z : Z0 sm0) : H27 (smN F meth sm0 27) := by
  have lH48 : H48 (smN F meth sm0 26) := (c48 T X Z).lift (smN_skip 18 26 (by decide) (by decide))
  unfold H27
  intro node seq dest prio life s m
  intros
  exact Ev.pure (S := fun f => f == Ln 26) (F := F) (meth := meth) (sm := smN F meth sm0 26) (n := 60) (e27 (node := node) (seq := seq) (dest := dest) (prio := prio) (life := life) (s := s) T.f27 (smN_none Z 26 (by decide) (by decide)) lH48 _ _ _ _ (by assumption) (by assumption)) rfl (by simp [AV.refs])
set_option maxHeartbeats 2000000 in
theorem c29 (T : FT F) (X : MT meth) (Z : Z0 sm0) : H29 (smN F meth sm0 28) := by
  have lH49_50 : H49 (smN F meth sm0 27) 50 := (c49_50 T X Z).lift (smN_skip 20 27 (by decide) (by decide))
  unfold H29
  intro k es x b1 own1 c1 X Y m
  intros
  exact Ev.pure (S := fun f => f == Ln 27) (F := F) (meth := meth) (sm := smN F meth sm0 27) (n := 60) (e29 (k := k) (es := es) (x := x) (b1 := b1) (own1 := own1) (c1 := c1) (X := X) (Y := Y) T.f29 (smN_none Z 27 (by decide) (by decide)) lH49_50 _ _ _ _ (by assumption) (by assumption) (by assumption) (by assumption) (by assumption) (by assumption)) rfl (by simp [AV.refs])
set_option maxHeartbeats 2000000 in
theorem c28 (T : FT F) (X : MT meth) (Z : Z0 sm0) : H28 (smN F meth sm0 29) := by
  have lH27 : H27 (smN F meth sm0 28) := (c27 T X Z).lift (smN_skip 27 28 (by decide) (by decide))
  have lH29 : H29 (smN F meth sm0 28) := (c29 T X Z).lift (smN_skip 28 28 (by decide) (by decide))
  have lH30 : H30 (smN F meth sm0 28) := (c30 T X Z).lift (smN_skip 13 28 (by decide) (by decide))
  unfold H28
  intro k es ps cs b1 b2 own1 own2 c1 c2 M p1 p5 o1 o5 x node seq dest prio life s m
  intros
  exact Ev.pure (S := fun f => f == Ln 28) (F := F) (meth := meth) (sm := smN F meth sm0 28) (n := 60) (e28 (k := k) (es := es) (ps := ps) (cs := cs) (b1 := b1) (b2 := b2) (own1 := own1) (own2 := own2) (c1 := c1) (c2 := c2) (M := M) (p1 := p1) (p5 := p5) (o1 := o1) (o5 := o5) (x := x) (node := node) (seq := seq) (dest := dest) (prio := prio) (life := life) (s := s) T.f28 (smN_none Z 28 (by decide) (by decide)) lH27 lH29 lH30 _ _ _ _ (by assumption) (by assumption) (by assumption) (by assumption) (by assumption) (by assumption) (by assumption)) rfl (by simp [AV.refs])
set_option maxHeartbeats 2000000 in
theorem c35 (T : FT F) (X : MT meth) (Z : Z0 sm0) : H35 (smN F meth sm0 30) := by
  have lH27 : H27 (smN F meth sm0 29) := (c27 T X Z).lift (smN_skip 27 29 (by decide) (by decide))
  unfold H35
  intro i q w l re by_ w2 w3 rd bst node seq dest prio life s p own m
  intros
  exact Ev.pure (S := fun f => f == Ln 29) (F := F) (meth := meth) (sm := smN F meth sm0 29) (n := 60) (e35 (i := i) (q := q) (w := w) (l := l) (re := re) (by_ := by_) (w2 := w2) (w3 := w3) (rd := rd) (bst := bst) (node := node) (seq := seq) (dest := dest) (prio := prio) (life := life) (s := s) (p := p) (own := own) T.f35 (smN_none Z 29 (by decide) (by decide)) lH27 _ _ _ _ (by assumption) (by assumption) (by assumption) (by assumption)) rfl (by simp [AV.refs])
set_option maxHeartbeats 2000000 in
theorem c31 (T : FT F) (X : MT meth) (Z : Z0 sm0) : H31 (smN F meth sm0 32) := by
  have lH29 : H29 (smN F meth sm0 31) := (c29 T X Z).lift (smN_skip 28 31 (by decide) (by decide))
  unfold H31
  intro k es ps cs b1 b2 own1 own2 c1 c2 M p1 p5 o1 o5 x e m
  intros
  exact Ev.pure (S := fun f => f == Ln 31) (F := F) (meth := meth) (sm := smN F meth sm0 31) (n := 60) (e31 (k := k) (es := es) (ps := ps) (cs := cs) (b1 := b1) (b2 := b2) (own1 := own1) (own2 := own2) (c1 := c1) (c2 := c2) (M := M) (p1 := p1) (p5 := p5) (o1 := o1) (o5 := o5) (x := x) (e := e) T.f31 T.f32 T.f33 T.f53 (smN_none Z 31 (by decide) (by decide)) (smN_none Z 31 (by decide) (by decide)) (smN_none Z 31 (by decide) (by decide)) (smN_none Z 31 (by decide) (by decide)) lH29 _ _ _ _ (by assumption) (by assumption) (by assumption) (by assumption) (by assumption)) rfl (by simp [AV.refs])
set_option maxHeartbeats 2000000 in
theorem c7 (T : FT F) (X : MT meth) (Z : Z0 sm0) : H7 (smN F meth sm0 41) := by
  unfold H7
  intro a n m
  intros
  exact Ev.pure (S := fun f => f == Ln 40) (F := F) (meth := meth) (sm := smN F meth sm0 40) (n := 60) (e7 (a := a) T.f7 (smN_none Z 40 (by decide) (by decide)) _ _ _ _ (by assumption) (by assumption)) rfl (by simp [AV.refs])
set_option maxHeartbeats 2000000 in
theorem c12 (T : FT F) (X : MT meth) (Z : Z0 sm0) : H12 (smN F meth sm0 42) := by
  unfold H12
  intro l N i m
  intros
  exact Ev.pure (S := fun f => f == Ln 41) (F := F) (meth := meth) (sm := smN F meth sm0 41) (n := 60) (e12 (l := l) (N := N) (i := i) T.f12 (smN_none Z 41 (by decide) (by decide)) _ _ _ _ (by assumption) (by assumption)) rfl (by simp [AV.refs])
set_option maxHeartbeats 2000000 in
theorem c23 (T : FT F) (X : MT meth) (Z : Z0 sm0) : H23 (smN F meth sm0 43) := by
  have lH7 : H7 (smN F meth sm0 42) := (c7 T X Z).lift (smN_skip 41 42 (by decide) (by decide))
  unfold H23
  intro a
  intros
  obtain ⟨x, y, g⟩ := e23 (F := F) (meth := meth) (sm := smN F meth sm0 42) T.f23 (smN_none Z 42 (by decide) (by decide)) lH7 58 a
  refine ⟨x, y, ?_⟩
  intros
  exact Ev.pure (S := fun f => f == Ln 42) (F := F) (meth := meth) (sm := smN F meth sm0 42) (n := 60) (g _ _ _) rfl (by simp [AV.refs, refsL])
set_option maxHeartbeats 2000000 in
theorem c13 (T : FT F) (X : MT meth) (Z : Z0 sm0) : H13 (smN F meth sm0 44) := by
  have lH23 : H23 (smN F meth sm0 43) := (c23 T X Z).lift (smN_skip 43 43 (by decide) (by decide))
  have lH7 : H7 (smN F meth sm0 43) := (c7 T X Z).lift (smN_skip 41 43 (by decide) (by decide))
  unfold H13
  intro a
  intros
  obtain ⟨x, y, z1, z2, z3, z4, z5, s, q, g⟩ := e13 (F := F) (meth := meth) (sm := smN F meth sm0 43) T.f13 (smN_none Z 43 (by decide) (by decide)) lH7 lH23 40 a
  refine ⟨x, y, z1, z2, z3, z4, z5, s, q, ?_⟩
  intros
  exact Ev.pure (S := fun f => f == Ln 43) (F := F) (meth := meth) (sm := smN F meth sm0 43) (n := 60) (g _ _ _) rfl (by simp [AV.refs, refsL])
end
section
variable {F : FuncId → Option AFunc} {meth : Meth} {sm0 : Summ}
set_option maxHeartbeats 2000000 in
theorem c36 (T : FT F) (X : MT meth) (Z : Z0 sm0) : H36 (smN F meth sm0 31) := by
  unfold H36
  intro g caps cs M m hq hl hM hg
  have hg' : ∀ c ∈ cs, ∀ m', Old m.blks m'.blks → smN F meth sm0 30 g (.agg c.av :: caps) m' = some (.bool true, m') := by
    rcases hq with rfl | rfl
    · rw [smN_skip (f := 28) 29 31 (by decide) (by decide)] at hg
      rw [smN_skip (f := 28) 29 30 (by decide) (by decide)]
      exact hg
    · rw [smN_skip (f := 35) 30 31 (by decide) (by decide)] at hg
      rw [smN_skip (f := 35) 30 30 (by decide) (by decide)]
      exact hg
  exact Ev.pure (S := fun f => f == Ln 30) (F := F) (meth := meth) (sm := smN F meth sm0 30) (n := 60) (e36 T.f36 (smN_none Z 30 (by decide) (by decide)) _ _ _ _ hl hM hg') rfl (by simp [AV.refs])
set_option maxHeartbeats 2000000 in
theorem c39 (T : FT F) (X : MT meth) (Z : Z0 sm0) : H39 (smN F meth sm0 33) := by
  unfold H39
  intro g caps k ps b own c m hq hP hb hg
  subst hq
  have hg' : ∀ e ∈ ps, ∀ m', Old m.blks m'.blks → smN F meth sm0 32 31 (.agg e :: caps) m' = some (.bool true, m') := by
    rw [smN_skip (f := 31) 32 33 (by decide) (by decide)] at hg
    rw [smN_skip (f := 31) 32 32 (by decide) (by decide)]
    exact hg
  exact Ev.pure (S := fun f => f == Ln 32) (F := F) (meth := meth) (sm := smN F meth sm0 32) (n := 60) (e39 T.f39 (smN_none Z 32 (by decide) (by decide)) _ _ _ _ hP hb hg') rfl (by simp [AV.refs])
set_option maxHeartbeats 2000000 in
theorem c34 (T : FT F) (X : MT meth) (Z : Z0 sm0) : H34 (smN F meth sm0 34) := by
  have lH35 : H35 (smN F meth sm0 33) := (c35 T X Z).lift (smN_skip 30 33 (by decide) (by decide))
  have lH36 : H36 (smN F meth sm0 33) := by
    intro g caps cs M m hq hl hM hg
    rw [smN_skip (f := 36) 31 33 (by decide) (by decide)]
    refine c36 T X Z g caps cs M m hq hl hM ?_
    rcases hq with rfl | rfl
    · rw [smN_skip (f := 28) 29 33 (by decide) (by decide)] at hg
      rw [smN_skip (f := 28) 29 31 (by decide) (by decide)]
      exact hg
    · rw [smN_skip (f := 35) 30 33 (by decide) (by decide)] at hg
      rw [smN_skip (f := 35) 30 31 (by decide) (by decide)]
      exact hg
  unfold H34
  intro k es ps cs b1 b2 own1 own2 c1 c2 M p1 p6 o1 o6 x i q w l re by_ w2 w3 rd bst m
  intros
  exact Ev.pure (S := fun f => f == Ln 33) (F := F) (meth := meth) (sm := smN F meth sm0 33) (n := 60) (e34 (k := k) (es := es) (ps := ps) (cs := cs) (b1 := b1) (b2 := b2) (own1 := own1) (own2 := own2) (c1 := c1) (c2 := c2) (M := M) (p1 := p1) (p6 := p6) (o1 := o1) (o6 := o6) (x := x) (i := i) (q := q) (w := w) (l := l) (re := re) (by_ := by_) (w2 := w2) (w3 := w3) (rd := rd) (bst := bst) T.f34 (smN_none Z 33 (by decide) (by decide)) lH35 lH36 _ _ _ _ (by assumption) (by assumption) (by assumption) (by assumption) (by assumption) (by assumption)) rfl (by simp [AV.refs])
set_option maxHeartbeats 2000000 in
theorem c41 (T : FT F) (X : MT meth) (Z : Z0 sm0) : H41 (smN F meth sm0 35) := by
  unfold H41
  intro g caps k es b own c m hq hP hb hg
  subst hq
  have hg' : ∀ e ∈ es, ∀ m', Old m.blks m'.blks → smN F meth sm0 34 34 (.agg e :: caps) m' = some (.bool true, m') := by
    rw [smN_skip (f := 34) 34 35 (by decide) (by decide)] at hg
    rw [smN_skip (f := 34) 34 34 (by decide) (by decide)]
    exact hg
  exact Ev.pure (S := fun f => f == Ln 34) (F := F) (meth := meth) (sm := smN F meth sm0 34) (n := 60) (e41 T.f41 (smN_none Z 34 (by decide) (by decide)) _ _ _ _ hP hb hg') rfl (by simp [AV.refs])
set_option maxHeartbeats 2000000 in
theorem c37 (T : FT F) (X : MT meth) (Z : Z0 sm0) : H37 (smN F meth sm0 36) := by
  have lH28 : H28 (smN F meth sm0 35) := (c28 T X Z).lift (smN_skip 29 35 (by decide) (by decide))
  have lH36 : H36 (smN F meth sm0 35) := by
    intro g caps cs M m hq hl hM hg
    rw [smN_skip (f := 36) 31 35 (by decide) (by decide)]
    refine c36 T X Z g caps cs M m hq hl hM ?_
    rcases hq with rfl | rfl
    · rw [smN_skip (f := 28) 29 35 (by decide) (by decide)] at hg
      rw [smN_skip (f := 28) 29 31 (by decide) (by decide)]
      exact hg
    · rw [smN_skip (f := 35) 30 35 (by decide) (by decide)] at hg
      rw [smN_skip (f := 35) 30 31 (by decide) (by decide)]
      exact hg
  unfold H37
  intro k es ps cs b1 b2 own1 own2 c1 c2 M p1 p5 p9 o1 o5 o9 x m
  intros
  exact Ev.pure (S := fun f => f == Ln 35) (F := F) (meth := meth) (sm := smN F meth sm0 35) (n := 60) (e37 (k := k) (es := es) (ps := ps) (cs := cs) (b1 := b1) (b2 := b2) (own1 := own1) (own2 := own2) (c1 := c1) (c2 := c2) (M := M) (p1 := p1) (p5 := p5) (p9 := p9) (o1 := o1) (o5 := o5) (o9 := o9) (x := x) T.f37 (smN_none Z 35 (by decide) (by decide)) lH28 lH36 _ _ _ _ (by assumption) (by assumption) (by assumption) (by assumption) (by assumption)) rfl (by simp [AV.refs])
set_option maxHeartbeats 2000000 in
theorem c38 (T : FT F) (X : MT meth) (Z : Z0 sm0) : H38 (smN F meth sm0 37) := by
  have lH31 : H31 (smN F meth sm0 36) := (c31 T X Z).lift (smN_skip 32 36 (by decide) (by decide))
  have lH39 : H39 (smN F meth sm0 36) := by
    intro g caps k ps b own c m hq hP hb hg
    subst hq
    rw [smN_skip (f := 39) 33 36 (by decide) (by decide)]
    refine c39 T X Z 31 caps k ps b own c m rfl hP hb ?_
    rw [smN_skip (f := 31) 32 36 (by decide) (by decide)] at hg
    rw [smN_skip (f := 31) 32 33 (by decide) (by decide)]
    exact hg
  unfold H38
  intro k es ps cs b1 b2 own1 own2 c1 c2 M p1 p5 p9 o1 o5 o9 x m
  intros
  exact Ev.pure (S := fun f => f == Ln 36) (F := F) (meth := meth) (sm := smN F meth sm0 36) (n := 60) (e38 (k := k) (es := es) (ps := ps) (cs := cs) (b1 := b1) (b2 := b2) (own1 := own1) (own2 := own2) (c1 := c1) (c2 := c2) (M := M) (p1 := p1) (p5 := p5) (p9 := p9) (o1 := o1) (o5 := o5) (o9 := o9) (x := x) T.f38 (smN_none Z 36 (by decide) (by decide)) lH31 lH39 _ _ _ _ (by assumption) (by assumption) (by assumption) (by assumption) (by assumption)) rfl (by simp [AV.refs])
set_option maxHeartbeats 2000000 in
theorem c40 (T : FT F) (X : MT meth) (Z : Z0 sm0) : H40 (smN F meth sm0 38) := by
  have lH34 : H34 (smN F meth sm0 37) := (c34 T X Z).lift (smN_skip 34 37 (by decide) (by decide))
  have lH41 : H41 (smN F meth sm0 37) := by
    intro g caps k es b own c m hq hP hb hg
    subst hq
    rw [smN_skip (f := 41) 35 37 (by decide) (by decide)]
    refine c41 T X Z 34 caps k es b own c m rfl hP hb ?_
    rw [smN_skip (f := 34) 34 37 (by decide) (by decide)] at hg
    rw [smN_skip (f := 34) 34 35 (by decide) (by decide)]
    exact hg
  unfold H40
  intro k es ps cs b1 b2 own1 own2 c1 c2 M p1 p6 p9 o1 o6 o9 x m
  intros
  exact Ev.pure (S := fun f => f == Ln 37) (F := F) (meth := meth) (sm := smN F meth sm0 37) (n := 60) (e40 (k := k) (es := es) (ps := ps) (cs := cs) (b1 := b1) (b2 := b2) (own1 := own1) (own2 := own2) (c1 := c1) (c2 := c2) (M := M) (p1 := p1) (p6 := p6) (p9 := p9) (o1 := o1) (o6 := o6) (o9 := o9) (x := x) T.f40 (smN_none Z 37 (by decide) (by decide)) lH34 lH41 _ _ _ _ (by assumption) (by assumption) (by assumption) (by assumption) (by assumption) (by assumption)) rfl (by simp [AV.refs])
set_option maxHeartbeats 2000000 in
theorem c15 (T : FT F) (X : MT meth) (Z : Z0 sm0) : H15 (smN F meth sm0 39) := by
  have lH24 : H24 (smN F meth sm0 38) := (c24 T X Z).lift (smN_skip 22 38 (by decide) (by decide))
  have lH25 : H25 (smN F meth sm0 38) := (c25 T X Z).lift (smN_skip 23 38 (by decide) (by decide))
  have lH26 : H26 (smN F meth sm0 38) := (c26 T X Z).lift (smN_skip 26 38 (by decide) (by decide))
  have lH27 : H27 (smN F meth sm0 38) := (c27 T X Z).lift (smN_skip 27 38 (by decide) (by decide))
  have lH37 : H37 (smN F meth sm0 38) := (c37 T X Z).lift (smN_skip 36 38 (by decide) (by decide))
  have lH38 : H38 (smN F meth sm0 38) := (c38 T X Z).lift (smN_skip 37 38 (by decide) (by decide))
  have lH40 : H40 (smN F meth sm0 38) := (c40 T X Z).lift (smN_skip 38 38 (by decide) (by decide))
  unfold H15
  intro k es ps cs b1 b2 own1 own2 c1 c2 M m
  intros
  exact Ev.pure (S := fun f => f == Ln 38) (F := F) (meth := meth) (sm := smN F meth sm0 38) (n := 60) (e15 (k := k) (es := es) (ps := ps) (cs := cs) (b1 := b1) (b2 := b2) (own1 := own1) (own2 := own2) (c1 := c1) (c2 := c2) (M := M) T.f15 (smN_none Z 38 (by decide) (by decide)) lH24 lH25 lH26 lH27 lH37 lH38 lH40 _ _ _ _ (by assumption)) rfl (by simp [AV.refs, refsL])
set_option maxHeartbeats 2000000 in
theorem c8 (T : FT F) (X : MT meth) (Z : Z0 sm0) : H8 (smN F meth sm0 40) := by
  have lH15 : H15 (smN F meth sm0 39) := (c15 T X Z).lift (smN_skip 39 39 (by decide) (by decide))
  unfold H8
  intro k es ps cs b1 b2 own1 own2 c1 c2 M m
  intros
  exact Ev.pure (S := fun f => f == Ln 39) (F := F) (meth := meth) (sm := smN F meth sm0 39) (n := 60) (e8 (k := k) (es := es) (ps := ps) (cs := cs) (b1 := b1) (b2 := b2) (own1 := own1) (own2 := own2) (c1 := c1) (c2 := c2) (M := M) T.f8 (smN_none Z 39 (by decide) (by decide)) lH15 _ _ _ _ (by assumption)) rfl (by simp [AV.refs])
end
section
variable {F : FuncId → Option AFunc} {meth : Meth} {sm : Summ}
theorem made_all (hF : F 5 = some AF5) (s5 : ∀ vs m, sm 5 vs m = none) (h7 : H7 sm) (h12 : H12 sm) (h13 : H13 sm) (n : Nat) (h : Blks) (lg d : List Nat) {l : List Int} {N : AV}
    (hN : NumsAt h N l) (hT0 : bget h 0 = some (.row false 8 usesR)) (hT1 : bget h 1 = some (.row false 1 headsR)) : Made F meth sm (n + 8) N h lg d := by
  have q1 := md_lo (a := atL l 0) (n := 2) (by omega)
  have q2 := md_hi (a := atL l 0) (n := 2) (by omega)
  have hN' := hN
  rcases hN with ⟨e, hm⟩ | ⟨b, own, c, hm, hb⟩
  · rcases (by omega : md (atL l 0) 2 = 0 ∨ md (atL l 0) 2 = 1) with hk | hk
    · exact e5_20 hF s5 h7 h12 h13 n h lg d hN' (.inl hm) hk hT0 hT1
    · exact e5_30 hF s5 h7 h12 h13 n h lg d hN' (.inl hm) hk hT0 hT1
  · rcases (by omega : l.length ≤ 6 ∨ l.length = 7 ∨ l.length = 8 ∨ l.length = 9 ∨ 10 ≤ l.length) with hl | hl | hl | hl | hl
    · rcases (by omega : md (atL l 0) 2 = 0 ∨ md (atL l 0) 2 = 1) with hk | hk
      · exact e5_20 hF s5 h7 h12 h13 n h lg d hN' (.inr ⟨b, c, hm, hl⟩) hk hT0 hT1
      · exact e5_30 hF s5 h7 h12 h13 n h lg d hN' (.inr ⟨b, c, hm, hl⟩) hk hT0 hT1
    · rcases (by omega : md (atL l 0) 2 = 0 ∨ md (atL l 0) 2 = 1) with hk | hk
      · exact e5_21 hF s5 h7 h12 h13 n h lg d hm hb hl hk hT0 hT1
      · exact e5_31 hF s5 h7 h12 h13 n h lg d hm hb hl hk hT0 hT1
    · rcases (by omega : md (atL l 0) 2 = 0 ∨ md (atL l 0) 2 = 1) with hk | hk
      · exact e5_22 hF s5 h7 h12 h13 n h lg d hm hb hl hk hT0 hT1
      · exact e5_32 hF s5 h7 h12 h13 n h lg d hm hb hl hk hT0 hT1
    · rcases (by omega : md (atL l 0) 2 = 0 ∨ md (atL l 0) 2 = 1) with hk | hk
      · exact e5_23 hF s5 h7 h12 h13 n h lg d hm hb hl hk hT0 hT1
      · exact e5_33 hF s5 h7 h12 h13 n h lg d hm hb hl hk hT0 hT1
    · rcases (by omega : md (atL l 0) 2 = 0 ∨ md (atL l 0) 2 = 1) with hk | hk
      · exact e5_24 hF s5 h7 h12 h13 n h lg d hm hb hl hk hT0 hT1
      · exact e5_34 hF s5 h7 h12 h13 n h lg d hm hb hl hk hT0 hT1

/-- What is behind the making. -/
theorem rest_all (T : FT F) (s3 : ∀ vs m, sm 3 vs m = none) (s6 : ∀ vs m, sm 6 vs m = none) (s14 : ∀ vs m, sm 14 vs m = none) (h7 : H7 sm) (h8 : H8 sm) (h9 : ∀ m : Mem, bget m.blks 0 = some (.row false 8 usesR) → bget m.blks 1 = some (.row false 1 headsR) → sm 9 [] m = some (.bool true, m)) (n : Nat) (h h' : Blks) (lg lg' d : List Nat) {N M : AV} {a x : Int} (hN : N.scalar = true)
    {k : Nat} {es ps : List (List AV)} {cs : List Cm} {b1 b2 : Nat} (S : Sc h' k es ps cs b1 b2 true true M) (Q : CfgsQ k es) : Rest F meth sm (n + 8) N a x h h' lg lg' d k ps.length b1 b2 M := by
  refine S.hM.five S.len (P := fun cs => Sc h' k es ps cs b1 b2 true true M → Rest F meth sm (n + 8) N a x h h' lg lg' d k ps.length b1 b2 M) ?_ ?_ ?_ ?_ ?_ S
  · intro hm S
    cases Q with
    | two C0 Q0 C1 Q1 =>
      cases S.hP with
      | two => exact e3_20 T.f3 T.f6 T.f14 s3 s6 s14 h7 h8 h9 n h h' lg lg' d hN S hm C0 Q0 C1 Q1
    | three C0 Q0 C1 Q1 C2 Q2 =>
      cases S.hP with
      | three => exact e3_30 T.f3 T.f6 T.f14 s3 s6 s14 h7 h8 h9 n h h' lg lg' d hN S hm C0 Q0 C1 Q1 C2 Q2
  · intro m0 b own c hm hb S
    cases Q with
    | two C0 Q0 C1 Q1 =>
      cases S.hP with
      | two => exact e3_21 T.f3 T.f6 T.f14 s3 s6 s14 h7 h8 h9 n h h' lg lg' d hN S hm hb C0 Q0 C1 Q1
    | three C0 Q0 C1 Q1 C2 Q2 =>
      cases S.hP with
      | three => exact e3_31 T.f3 T.f6 T.f14 s3 s6 s14 h7 h8 h9 n h h' lg lg' d hN S hm hb C0 Q0 C1 Q1 C2 Q2
  · intro m0 m1 b own c hm hb S
    cases Q with
    | two C0 Q0 C1 Q1 =>
      cases S.hP with
      | two => exact e3_22 T.f3 T.f6 T.f14 s3 s6 s14 h7 h8 h9 n h h' lg lg' d hN S hm hb C0 Q0 C1 Q1
    | three C0 Q0 C1 Q1 C2 Q2 =>
      cases S.hP with
      | three => exact e3_32 T.f3 T.f6 T.f14 s3 s6 s14 h7 h8 h9 n h h' lg lg' d hN S hm hb C0 Q0 C1 Q1 C2 Q2
  · intro m0 m1 m2 b own c hm hb S
    cases Q with
    | two C0 Q0 C1 Q1 =>
      cases S.hP with
      | two => exact e3_23 T.f3 T.f6 T.f14 s3 s6 s14 h7 h8 h9 n h h' lg lg' d hN S hm hb C0 Q0 C1 Q1
    | three C0 Q0 C1 Q1 C2 Q2 =>
      cases S.hP with
      | three => exact e3_33 T.f3 T.f6 T.f14 s3 s6 s14 h7 h8 h9 n h h' lg lg' d hN S hm hb C0 Q0 C1 Q1 C2 Q2
  · intro m0 m1 m2 m3 b own c hm hb S
    cases Q with
    | two C0 Q0 C1 Q1 =>
      cases S.hP with
      | two => exact e3_24 T.f3 T.f6 T.f14 s3 s6 s14 h7 h8 h9 n h h' lg lg' d hN S hm hb C0 Q0 C1 Q1
    | three C0 Q0 C1 Q1 C2 Q2 =>
      cases S.hP with
      | three => exact e3_34 T.f3 T.f6 T.f14 s3 s6 s14 h7 h8 h9 n h h' lg lg' d hN S hm hb C0 Q0 C1 Q1 C2 Q2
end

/-- A function known by its run. -/
def runSum (f0 : FuncId) (F : FuncId → Option AFunc) (meth : Meth) (sm : Summ) (N : Nat) : Summ := fun f vs m => if f = f0 then acall F meth sm N (.fn f) vs m else sm f vs m
section
variable {F : FuncId → Option AFunc} {meth : Meth} {sm0 : Summ}
theorem law_all (T : FT F) (X : MT meth) (Z : Z0 sm0) (h9 : ∀ m : Mem, bget m.blks 0 = some (.row false 8 usesR) → bget m.blks 1 = some (.row false 1 headsR) → sm0 9 [] m = some (.bool true, m)) (n : Nat) (h : Blks) (lg d : List Nat) {l : List Int} {N : AV} (a x : Int)
    (hN : NumsAt h N l) (hT0 : bget h 0 = some (.row false 8 usesR)) (hT1 : bget h 1 = some (.row false 1 headsR)) :
    ∃ m', acall F meth (runSum 5 F meth (smN F meth sm0 45) 60) (n + 8) (.fn 3) [N, .int .i64 a, .int .i64 x] ⟨h, lg, d⟩ = some (.bool true, m') := by
  have lift : ∀ f, f ≠ 5 → runSum 5 F meth (smN F meth sm0 45) 60 f = smN F meth sm0 45 f := fun f hf => by
    funext vs m
    exact if_neg hf
  have h7 := (c7 T X Z).lift (smN_skip (f := 7) (F := F) (meth := meth) (sm0 := sm0) 41 45 (by decide) (by decide))
  have h8 := (c8 T X Z).lift (smN_skip (f := 8) (F := F) (meth := meth) (sm0 := sm0) 40 45 (by decide) (by decide))
  have h12 := (c12 T X Z).lift (smN_skip (f := 12) (F := F) (meth := meth) (sm0 := sm0) 42 45 (by decide) (by decide))
  have h13 := (c13 T X Z).lift (smN_skip (f := 13) (F := F) (meth := meth) (sm0 := sm0) 44 45 (by decide) (by decide))
  obtain ⟨k, es, ps, cs, b1, b2, M, L, lg', e, hl, S, Q⟩ := made_all (F := F) (meth := meth) T.f5 (smN_none Z 45 (by decide) (by decide)) h7 h12 h13 52 h lg [] hN hT0 hT1
  have none_ : ∀ f, f ≠ 5 → f ≠ 9 → clear f 0 45 = true → ∀ vs m, runSum 5 F meth (smN F meth sm0 45) 60 f vs m = none := fun f hf hf9 hc vs m => by
    rw [lift f hf]
    exact smN_none Z 45 hf9 hc vs m
  exact rest_all T (none_ 3 (by decide) (by decide) (by decide)) (none_ 6 (by decide) (by decide) (by decide)) (none_ 14 (by decide) (by decide) (by decide)) (h7.lift (lift 7 (by decide))) (h8.lift (lift 8 (by decide)))
    (fun m q0 q1 => by rw [lift 9 (by decide), smN_skip (f := 9) 0 45 (by decide) (by decide)]; exact h9 m q0 q1) n h _ lg lg' d hN.scalar S Q e
end
theorem SumOK.run {P : Program} {glob : Nat → Option AV} {F : FuncId → Option AFunc} {sm : Summ} {f0 : FuncId} {N : Nat} (hs : SumOK P glob sm) (hF : FOK P glob F) (hmix : P.follows .mixedOrders = true) : SumOK P glob (runSum f0 F (cmeth P) sm N) := by
  have hOK : ∀ (g : Goroutine) (w : World), (fun _ _ => True : Goroutine → World → Prop) g w := fun _ _ => trivial
  refine ⟨fun c vs m v m' h => ?_, fun c vs m v m' h => ?_, fun K w0 w ρ m m' c vs vs' v hL h R hg hvs hy => ?_⟩
  · cases c with
    | yield l => cases h
    | fn f =>
      by_cases q : f = f0
      · exact acall_dfrs F (cmeth P) hs.dfrs N (.fn f) vs m v m' ((if_pos q).symm.trans h)
      · exact hs.dfrs (.fn f) vs m v m' ((if_neg q).symm.trans h)
  · cases c with
    | yield l => cases h
    | fn f =>
      by_cases q : f = f0
      · exact acall_trk F (cmeth P) hs.dfrs hs.trk N (.fn f) vs m v m' ((if_pos q).symm.trans h)
      · exact hs.trk (.fn f) vs m v m' ((if_neg q).symm.trans h)
  · cases c with
    | yield l => cases h
    | fn f =>
      by_cases q : f = f0
      · exact acall_sound (main := true) hs.dfrs hs.trk hs.ok hOK hF hmix N K w0 w ρ m m' (.fn f) vs vs' v hL ((if_pos q).symm.trans h) R hg hvs hy
      · exact hs.ok K w0 w ρ m m' (.fn f) vs vs' v hL ((if_neg q).symm.trans h) R hg hvs hy
theorem SumOK.layers {P : Program} {glob : Nat → Option AV} {F : FuncId → Option AFunc} {sm0 : Summ} (hs : SumOK P glob sm0) (hF : FOK P glob F) (hmix : P.follows .mixedOrders = true) : ∀ i, SumOK P glob (smN F (cmeth P) sm0 i)
  | 0 => hs
  | i + 1 => SumOK.pure (SumOK.layers hs hF hmix i) hF hmix
section
variable {H : Type} {P : Program} {w : World} {held : Bool} {enc : TypeId × Value → H}

/-- A slice that was read with its spare places, its elements as the evaluator says. -/
theorem slice_readG {ι : Type} [Inhabited ι] {fuel t e : Nat} {c : Value} {x : DataW H × List MemPlace} {E : ι → List AV} (hu : P.underlying t = some (.slice e)) (hpos : 0 < P.cellsOf e) (hlen : ∀ k, (E k).length = P.cellsOf e) (hsc : ∀ k, ∀ a ∈ E k, a.scalar = true)
    (hE : ∀ (fuel : Nat) (cs : List Value) (x : DataW H × List MemPlace), DataW.trod enc P w 0 (fun _ => true) held fuel e cs = some x → ∃ k, ∀ ρ, VRs ρ (E k) cs) (h : DataW.trod enc P w 0 (fun _ => true) held fuel t [c] = some x) :
    (∃ a cap, c = .slice a 0 cap) ∨ ∃ (p : Pl) (ks : List ι) (cap : Nat), RowAt w p (ks.map E) ∧ p.esz = P.cellsOf e ∧ p.lim = cap ∧ ks.length ≤ cap ∧ cap ≤ maxLen ∧ c = .slice (some (p.at_ 0 0)) ks.length cap := by
  rcases DataW.trod_slice hu h with ⟨hc, _⟩ | ⟨a, len, cap, elems, rest, n, _, hc, _, _, hle, hmax, hel, hrd, hsp, _⟩
  · simp only [List.cons.injEq, and_true] at hc
    exact .inl ⟨none, 0, hc⟩
  · simp only [List.cons.injEq, and_true] at hc
    obtain ⟨hsp1, hsp2⟩ := hsp rfl
    rcases Nat.eq_zero_or_pos len with h0 | h0
    · subst h0
      exact .inl ⟨some a, cap, hc⟩
    · right
      -- each element's cells
      have hcells : ∀ i, i < len → ∃ cs x, w.cells? 0 (a.add (i * P.cellsOf e)) (P.cellsOf e) = some cs ∧ DataW.trod enc P w 0 (fun _ => true) held n e cs = some x := fun i hi => by
        have := hrd i hi
        rw [List.getElem?_eq_getElem (by omega)] at this
        obtain ⟨cs, h1, h2⟩ := Option.bind_eq_some_iff.1 this
        exact ⟨cs, _, h1, h2⟩
      have hall : ∀ i, i < cap → ∃ cs, w.cells? 0 (a.add (i * P.cellsOf e)) (P.cellsOf e) = some cs := fun i hi => by
        rcases Nat.lt_or_ge i len with hlt | hge
        · obtain ⟨cs, _, h1, _⟩ := hcells i hlt
          exact ⟨cs, h1⟩
        · have := hsp2 (i - len) (by omega)
          rw [List.getElem?_eq_getElem (by omega), show len + (i - len) = i by omega] at this
          obtain ⟨cs, h1, _⟩ := Option.bind_eq_some_iff.1 this
          exact ⟨cs, h1⟩
      -- the block
      obtain ⟨cs0, _, h1, _⟩ := hcells 0 h0
      obtain ⟨l0, g0⟩ := cells_get h1
      have hc0 := g0 0 hpos
      rw [List.getElem?_eq_getElem (by omega)] at hc0
      have hblk : a.spot = none ∧ ∃ arr el fr, w.heap[a.block]? = some (.cells arr el fr) := by
        have e0 : (a.add (0 * P.cellsOf e)).add 0 = a := by simp [Addr.add]
        rw [e0] at hc0
        simp only [World.cell?] at hc0
        split at hc0
        · rename_i arr el fr hh
          split at hc0
          · cases hc0
          · rename_i hs
            exact ⟨by simpa using hs, arr, el, fr, hh⟩
        · cases hc0
      obtain ⟨hspot, arr, el, fr, hh⟩ := hblk
      obtain ⟨bb, oo, ss⟩ := a
      simp only at hspot hh
      subst hspot
      simp only [add_none] at hcells hall
      have hcell : ∀ k v, w.cell? ⟨bb, oo + k, none⟩ = some v → arr[oo + k]? = some v := fun k v hv => by
        simp only [World.cell?, hh] at hv
        simpa using hv
      have hat : ∀ i cs, w.cells? 0 ⟨bb, oo + i * P.cellsOf e, none⟩ (P.cellsOf e) = some cs → ∀ j v, cs[j]? = some v → arr[oo + (i * P.cellsOf e + j)]? = some v := fun i cs hcs j v hv => by
        obtain ⟨l1, g1⟩ := cells_get hcs
        have hj : j < P.cellsOf e := by rw [← l1]; exact (List.getElem?_eq_some_iff.1 hv).1
        have := (g1 j hj).trans hv
        refine hcell _ _ ?_
        rw [← this, add_none, Nat.add_assoc]
      have hk : ∀ i, ∃ k, i < len → ∀ (ρ : Rho) (j : Nat) (b : AV), (E k)[j]? = some b → ∃ v, arr[oo + (i * P.cellsOf e + j)]? = some v ∧ VR ρ b v := fun i => by
        rcases Nat.lt_or_ge i len with hlt | hge
        · obtain ⟨cs, x, hcs, hx⟩ := hcells i hlt
          obtain ⟨k, hk⟩ := hE n cs x hx
          refine ⟨k, fun _ ρ j b hb => ?_⟩
          obtain ⟨v, hv, hr⟩ := (hk ρ).get hb
          exact ⟨v, hat i cs hcs j v hv, hr⟩
        · exact ⟨default, fun h => absurd h (by omega)⟩
      obtain ⟨kf, hkf⟩ := Classical.axiomOfChoice hk
      have hll : ((List.range len).map kf).length = len := by simp
      refine ⟨⟨bb, oo, P.cellsOf e, cap⟩, (List.range len).map kf, cap, ⟨hpos, fun x hx => ?_, by simp only [List.length_map, hll]; exact hle, fun b hb => ?_, arr, el, fr, hh, ?_, fun ρ q b hb => ?_⟩, rfl, rfl, by omega, hmax, ?_⟩
      · obtain ⟨k, _, rfl⟩ := List.mem_map.1 hx
        exact hlen k
      · obtain ⟨l, hl, hbl⟩ := List.mem_flatten.1 hb
        obtain ⟨k, _, rfl⟩ := List.mem_map.1 hl
        exact hsc k b hbl
      · obtain ⟨cs, hcs⟩ := hall (cap - 1) (by omega)
        obtain ⟨l1, _⟩ := cells_get hcs
        have hv : cs[P.cellsOf e - 1]? = some (cs[P.cellsOf e - 1]'(by omega)) := List.getElem?_eq_getElem (by omega)
        have := (Array.getElem?_eq_some_iff.1 (hat _ cs hcs _ _ hv)).1
        have hm : (cap - 1) * P.cellsOf e + P.cellsOf e = cap * P.cellsOf e := by
          rw [← Nat.succ_mul]
          congr 1
          omega
        simp only
        omega
      · have hall' : ∀ x ∈ ((List.range len).map kf).map E, x.length = P.cellsOf e := fun x hx => by
          obtain ⟨k, _, rfl⟩ := List.mem_map.1 hx
          exact hlen k
        rw [flatten_at hpos _ _ hall'] at hb
        obtain ⟨es, he, hb⟩ := Option.bind_eq_some_iff.1 hb
        rw [List.map_map, List.getElem?_map] at he
        obtain ⟨i, hi, rfl⟩ := Option.map_eq_some_iff.1 he
        have hi' := List.getElem?_eq_some_iff.1 hi
        simp only [List.length_range, List.getElem_range] at hi'
        obtain ⟨hlt, hii⟩ := hi'
        obtain ⟨v, hv, hr⟩ := hkf i (by omega) ρ _ b hb
        refine ⟨v, ?_, hr⟩
        rw [← hv]
        congr 2
        rw [← hii, Nat.mul_comm]
        exact (Nat.div_add_mod q (P.cellsOf e)).symm
      · rw [hc, hll]
        simp [Pl.at_]
end
theorem numsL_read {w : World} {c : Value} (h : (∃ a cap, c = .slice a 0 cap) ∨ ∃ (p : Pl) (ks : List Int) (cap : Nat), RowAt w p (ks.map fun x => [AV.int .i64 x]) ∧ p.esz = 1 ∧ p.lim = cap ∧ ks.length ≤ cap ∧ cap ≤ maxLen ∧ c = .slice (some (p.at_ 0 0)) ks.length cap) :
    ∃ (l : RowsL) (ks : List Int) (X : Nat → AV), (∀ x ∈ l, RowAt w x.1 x.2) ∧ ∀ (pre : RowsL), NumsAt (rowsB (pre ++ l) ⟨0, .e⟩) (X pre.length) ks ∧ VR (rowsR (pre ++ l)) (X pre.length) c := by
  rcases h with ⟨a, cap, rfl⟩ | ⟨p, ks, cap, hR, he, hlim, hle, hmax, rfl⟩
  · exact ⟨[], [], fun _ => .osl 0, fun x hx => (by cases hx), fun pre => ⟨.inl ⟨rfl, rfl⟩, a, cap, rfl⟩⟩
  · refine ⟨[(p, ks.map fun x => [AV.int .i64 x])], ks, fun b => .slice b 0 ks.length (some cap), fun x hx => ?_, fun pre => ⟨.inr ⟨pre.length, false, some cap, rfl, ?_⟩, ?_⟩⟩
    · rw [List.mem_singleton] at hx
      subst hx
      exact hR
    · show bget (rowsB _ _) _ = _
      rw [rows_get, List.getElem?_append_right (Nat.le_refl _), Nat.sub_self]
      simp [he]
    · refine ⟨p, p.at_ 0 0, cap, ?_, rfl, hle, .inr ⟨rfl, by omega⟩, fun m hm => (by cases hm; rfl), fun hm => (by cases hm), hmax⟩
      show ((pre ++ _)[pre.length]?).map _ = _
      rw [List.getElem?_append_right (Nat.le_refl _), Nat.sub_self]
      rfl
section
variable {H : Type} {P : Program} {w : World} {held : Bool} {enc : TypeId × Value → H}
/-- A list of numbers that was read. -/
theorem nums_read {fuel t e : Nat} {c : Value} {x : DataW H × List MemPlace} (hu : P.underlying t = some (.slice e)) (hi : P.underlying e = some (.int .i64)) (h1 : P.cellsOf e = 1) (h : DataW.trod enc P w 0 (fun _ => true) held fuel t [c] = some x) :
    ∃ (l : RowsL) (ks : List Int) (X : Nat → AV), (∀ x ∈ l, RowAt w x.1 x.2) ∧ ∀ (pre : RowsL), NumsAt (rowsB (pre ++ l) ⟨0, .e⟩) (X pre.length) ks ∧ VR (rowsR (pre ++ l)) (X pre.length) c := by
  refine numsL_read ?_
  have s := slice_readG (E := fun x : Int => [AV.int .i64 x]) hu (by rw [h1]; decide) (fun k => by rw [h1]; rfl) (fun k a ha => by simp at ha; subst ha; rfl) (fun fuel cs x hx => by
    obtain ⟨i, rfl, _⟩ := DataW.trod_int hi hx
    exact ⟨i, fun ρ => ⟨_, [], rfl, rfl, rfl⟩⟩) h
  rw [h1] at s
  exact s
/-- A number that was read. -/
theorem num_read {fuel t : Nat} {c : Value} {x : DataW H × List MemPlace} (hi : P.underlying t = some (.int .i64)) (h : DataW.trod enc P w 0 (fun _ => true) held fuel t [c] = some x) : ∃ i : Int, c = .int .i64 i := by
  obtain ⟨i, e, _⟩ := DataW.trod_int hi h
  simp only [List.cons.injEq, and_true] at e
  exact ⟨i, e⟩
end
end Go.Proofs.YtcphofamajcimaaDoor
end
