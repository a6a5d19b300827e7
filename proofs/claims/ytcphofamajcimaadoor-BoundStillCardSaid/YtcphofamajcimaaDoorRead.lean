/- What the law's argument reads as, for the evaluator.
   Conditions: none; these are lemmas. -/
import Derived.Test.YtcphofamajcimaaDoorSymD
import Derived.Test.YtcphofamajcimaaDoorRows
namespace Go.Proofs.YtcphofamajcimaaDoor
open Go Go.Abs
set_option maxRecDepth 100000

theorem flat69 : flatT Tryd.prog 8 69 = true := by kernel_rfl
theorem flat74 : flatT Tryd.prog 8 74 = true := by kernel_rfl
theorem c69 : Tryd.prog.cellsOf 69 = 26 := by kernel_rfl
theorem c67 : Tryd.prog.cellsOf 67 = 8 := by kernel_rfl
theorem c63 : Tryd.prog.cellsOf 63 = 1 := by kernel_rfl
theorem c74 : Tryd.prog.cellsOf 74 = 3 := by kernel_rfl
theorem c72 : Tryd.prog.cellsOf 72 = 1 := by kernel_rfl
theorem c41 : Tryd.prog.cellsOf 41 = 3 := by kernel_rfl
theorem c3 : Tryd.prog.cellsOf 3 = 1 := by kernel_rfl
theorem c38 : Tryd.prog.cellsOf 38 = 1 := by kernel_rfl
theorem c39 : Tryd.prog.cellsOf 39 = 1 := by kernel_rfl

theorem E26_at (k : Nat) : ∀ i x, (E26 k)[i]? = some x → (i = 22 ∧ x = .osl k) ∨ x = .opq := by
  intro i x h
  have e : E26 k = List.replicate 22 .opq ++ .osl k :: List.replicate 3 .opq := rfl
  rw [e] at h
  rcases Nat.lt_trichotomy i 22 with hi | hi | hi
  · rw [List.getElem?_append_left (by simpa using hi)] at h
    exact .inr (List.mem_replicate.1 (List.mem_of_getElem? h)).2
  · subst hi
    rw [List.getElem?_append_right (by simp)] at h
    simp at h
    exact .inl ⟨rfl, h.symm⟩
  · rw [List.getElem?_append_right (by simp; omega)] at h
    obtain ⟨j, hj⟩ : ∃ j, i - (List.replicate 22 AV.opq).length = j + 1 := ⟨i - 23, by simp; omega⟩
    rw [hj, List.getElem?_cons_succ] at h
    exact .inr (List.mem_replicate.1 (List.mem_of_getElem? h)).2
theorem E3_at (k : Nat) : ∀ i x, (E3 k)[i]? = some x → (i = 2 ∧ x = .osl k) ∨ x = .opq := by
  intro i x h
  have e : E3 k = [.opq, .opq, .osl k] := rfl
  rw [e] at h
  rcases i with _ | _ | _ | i
  · simp at h; exact .inr h.symm
  · simp at h; exact .inr h.symm
  · simp at h; exact .inl ⟨rfl, h.symm⟩
  · simp at h

section
variable {H : Type} {w : World} {held : Bool} {enc : TypeId × Value → H}
theorem node_read (fuel : Nat) (cs : List Value) (x : DataW H × List MemPlace) (h : DataW.trod enc Tryd.prog w 0 (fun _ => true) held fuel 69 cs = some x) : ∃ k, ∀ ρ, VRs ρ (E26 k) cs := by
  have hf := flat_sound 8 fuel 69 cs x flat69 h
  obtain ⟨xs, n, rfl, rfl, hl, hn, hel⟩ := DataW.trod_struct Tryd.underlying69 h
  have h2 := hel 2 _ rfl
  have hn4 : xs.length = 4 := hn
  rw [List.getElem?_eq_getElem (by omega)] at h2
  obtain ⟨ys, m, rfl, _, hl2, hn2, hel2⟩ := DataW.trod_struct Tryd.underlying67 h2
  have hn6 : ys.length = 6 := hn2
  have h3 : DataW.trod enc Tryd.prog w 0 (fun _ => true) held _ 63 ((((cs.drop 17).take (Tryd.prog.cellsOf 67)).drop 5).take (Tryd.prog.cellsOf 63)) = ys[3]? := hel2 3 _ rfl
  rw [List.getElem?_eq_getElem (by omega)] at h3
  rw [c67, c63] at h3
  have hcell : ∃ a k cap, (((cs.drop 17).take 8).drop 5).take 1 = [Value.slice a k cap] := by
    rcases DataW.trod_slice Tryd.underlying63 h3 with ⟨e, _⟩ | ⟨a, len, cap, _, _, _, _, e, _⟩
    · exact ⟨_, _, _, e⟩
    · exact ⟨_, _, _, e⟩
  obtain ⟨a, k, cap, hcell⟩ := hcell
  have h22 : cs[22]? = some (.slice a k cap) := by
    have := congrArg (fun l => l[0]?) hcell
    simp only [List.getElem?_take, List.getElem?_drop] at this
    simpa using this
  exact ⟨k, elem_VRs (by rw [hl, c69]; rfl) hf h22 (E26_at k)⟩
theorem link_read (fuel : Nat) (cs : List Value) (x : DataW H × List MemPlace) (h : DataW.trod enc Tryd.prog w 0 (fun _ => true) held fuel 74 cs = some x) : ∃ k, ∀ ρ, VRs ρ (E3 k) cs := by
  have hf := flat_sound 8 fuel 74 cs x flat74 h
  obtain ⟨xs, n, rfl, rfl, hl, hn, hel⟩ := DataW.trod_struct Tryd.underlying74 h
  have h2 : DataW.trod enc Tryd.prog w 0 (fun _ => true) held _ 72 ((cs.drop 2).take (Tryd.prog.cellsOf 72)) = xs[2]? := hel 2 _ rfl
  have hn4 : xs.length = 3 := hn
  rw [List.getElem?_eq_getElem (by omega)] at h2
  rw [c72] at h2
  have hcell : ∃ a k cap, (cs.drop 2).take 1 = [Value.slice a k cap] := by
    rcases DataW.trod_slice Tryd.underlying72 h2 with ⟨e, _⟩ | ⟨a, len, cap, _, _, _, _, e, _⟩
    · exact ⟨_, _, _, e⟩
    · exact ⟨_, _, _, e⟩
  obtain ⟨a, k, cap, hcell⟩ := hcell
  have h22 : cs[2]? = some (.slice a k cap) := by
    have := congrArg (fun l => l[0]?) hcell
    simp only [List.getElem?_take, List.getElem?_drop] at this
    simpa using this
  exact ⟨k, elem_VRs (by rw [hl, c74]; rfl) hf h22 (E3_at k)⟩

/-- The argument: its two lists as rows of the evaluator's memory. -/
theorem snap_read {v : Value} {d : DataW H} {ps : List MemPlace} (hv : ∃ cs, v = .agg cs ∧ cs.size = 3) (h : DataW.Trod enc Tryd.prog w 0 (fun _ => true) held 41 v d ps) :
    ∃ (l1 l2 : RowsL) (ns ls : List Nat) (c1 c2 : Option Nat) (X1 X2 : Nat → AV), (∀ x ∈ l1, RowAt w x.1 x.2) ∧ (∀ x ∈ l2, RowAt w x.1 x.2) ∧
      ∀ pre : RowsL, ListAt { blks := rowsB (pre ++ (l1 ++ l2)) ⟨0, .e⟩ } pre.length 26 c1 E26 ns (X1 pre.length) ∧ ListAt { blks := rowsB (pre ++ (l1 ++ l2)) ⟨0, .e⟩ } (pre ++ l1).length 3 c2 E3 ls (X2 (pre ++ l1).length) ∧
        VR (rowsR (pre ++ (l1 ++ l2))) (.agg [.opq, X1 pre.length, X2 (pre ++ l1).length]) v := by
  obtain ⟨fuel, h⟩ := h
  obtain ⟨cs, rfl, hsz⟩ := hv
  have hcs : (Value.agg cs).cells.toList = cs.toList := rfl
  rw [hcs] at h
  obtain ⟨xs, n, rfl, _, hl, hn, hel⟩ := DataW.trod_struct Tryd.underlying41 h
  have hn3 : xs.length = 3 := hn
  obtain ⟨a0, a1, a2, e⟩ : ∃ a0 a1 a2, cs.toList = [a0, a1, a2] := by
    match hc : cs.toList, (show cs.toList.length = 3 by simpa using hsz) with
    | [a0, a1, a2], _ => exact ⟨a0, a1, a2, rfl⟩
  have g0 : DataW.trod enc Tryd.prog w 0 (fun _ => true) held _ 3 ((cs.toList.drop 0).take (Tryd.prog.cellsOf 3)) = xs[0]? := hel 0 _ rfl
  have g1 : DataW.trod enc Tryd.prog w 0 (fun _ => true) held _ 38 ((cs.toList.drop 1).take (Tryd.prog.cellsOf 38)) = xs[1]? := hel 1 _ rfl
  have g2 : DataW.trod enc Tryd.prog w 0 (fun _ => true) held _ 39 ((cs.toList.drop 2).take (Tryd.prog.cellsOf 39)) = xs[2]? := hel 2 _ rfl
  rw [e, List.getElem?_eq_getElem (by omega)] at g0 g1 g2
  rw [c3] at g0
  rw [c38] at g1
  rw [c39] at g2
  simp only [List.drop_zero, List.drop_succ_cons, List.take_succ_cons, List.take_zero] at g0 g1 g2
  obtain ⟨i0, e0, _⟩ := DataW.trod_int Tryd.underlying3 g0
  simp only [List.cons.injEq, and_true] at e0
  have s1 := slice_read (E := E26) Tryd.underlying38 (by rw [c69]; decide) (fun k => by rw [c69]; rfl) (fun k a ha => by rcases List.getElem?_of_mem ha with ⟨i, hi⟩; rcases E26_at k i a hi with ⟨_, rfl⟩ | rfl <;> rfl) node_read g1
  have s2 := slice_read (E := E3) Tryd.underlying39 (by rw [c74]; decide) (fun k => by rw [c74]; rfl) (fun k a ha => by rcases List.getElem?_of_mem ha with ⟨i, hi⟩; rcases E3_at k i a hi with ⟨_, rfl⟩ | rfl <;> rfl) link_read g2
  rw [c69] at s1
  rw [c74] at s2
  obtain ⟨l1, ns, c1, X1, hr1, hx1⟩ := list_read s1
  obtain ⟨l2, ls, c2, X2, hr2, hx2⟩ := list_read s2
  refine ⟨l1, l2, ns, ls, c1, c2, X1, X2, hr1, hr2, fun pre => ?_⟩
  obtain ⟨p1, p2⟩ := hx1 pre l2
  obtain ⟨q1, q2⟩ := hx2 (pre ++ l1) []
  rw [List.append_nil, List.append_assoc] at q1 q2
  refine ⟨p1, q1, cs, rfl, ?_⟩
  rw [e]
  exact ⟨a0, _, rfl, by rw [e0]; rfl, a1, _, rfl, p2, a2, _, rfl, q2, rfl⟩
end
end Go.Proofs.YtcphofamajcimaaDoor
