/- Functions of the program on symbolic values: memory, summaries, short names of lemmas.
   Conditions: none; these are definitions and lemmas. -/
import Derived.Test.YtcphofamajcimaaDoorEv5
set_option linter.unusedSimpArgs false
set_option linter.unusedVariables false
noncomputable section
namespace Go.Abs

/-- A key written twice holds what was written last, and the tree is the same. -/
theorem mset_same (x y : Option ABlk) : ∀ (f k : Nat) (t : Mt), k < f → mset x f k (mset y f k t) = mset x f k t
  | 0, k, t, hk => absurd hk (by omega)
  | f + 1, 0, t, _ => by cases t <;> rfl
  | f + 1, k + 1, t, hk => by
    have ih := mset_same x y f (k / 2)
    cases t with
    | e =>
      rw [mset_succ_e, mset_succ_e]
      cases hb : Nat.beq (k % 2) 0
      · simp only [cond]; rw [mset_succ_n, hb]; simp only [cond]; rw [ih _ (by omega)]
      · simp only [cond]; rw [mset_succ_n, hb]; simp only [cond]; rw [ih _ (by omega)]
    | n v l r =>
      rw [mset_succ_n, mset_succ_n]
      cases hb : Nat.beq (k % 2) 0
      · simp only [cond]; rw [mset_succ_n, hb]; simp only [cond]; rw [ih _ (by omega)]
      · simp only [cond]; rw [mset_succ_n, hb]; simp only [cond]; rw [ih _ (by omega)]

/-- Two keys may be written in either order. -/
theorem mset_comm (x y : Option ABlk) : ∀ (f g k j : Nat) (t : Mt), k < f → j < g → k ≠ j → mset x f k (mset y g j t) = mset y g j (mset x f k t)
  | 0, _, k, _, t, hk, _, _ => absurd hk (by omega)
  | _, 0, _, j, t, _, hj, _ => absurd hj (by omega)
  | f + 1, g + 1, 0, 0, t, _, _, h => absurd rfl h
  | f + 1, g + 1, 0, j + 1, t, _, hj, _ => by
    cases t with
    | e =>
      rw [mset_succ_e, mset_zero_e]
      cases hb : Nat.beq (j % 2) 0 <;> simp only [cond] <;> rw [mset_zero_n, mset_succ_n, hb] <;> rfl
    | n v l r =>
      rw [mset_succ_n, mset_zero_n]
      cases hb : Nat.beq (j % 2) 0 <;> simp only [cond] <;> rw [mset_zero_n, mset_succ_n, hb] <;> rfl
  | f + 1, g + 1, k + 1, 0, t, hk, _, _ => by
    cases t with
    | e =>
      rw [mset_succ_e, mset_zero_e]
      cases hb : Nat.beq (k % 2) 0 <;> simp only [cond] <;> rw [mset_zero_n, mset_succ_n, hb] <;> rfl
    | n v l r =>
      rw [mset_succ_n, mset_zero_n]
      cases hb : Nat.beq (k % 2) 0 <;> simp only [cond] <;> rw [mset_zero_n, mset_succ_n, hb] <;> rfl
  | f + 1, g + 1, k + 1, j + 1, t, hk, hj, h => by
    have h1 : k % 2 = 0 ∨ k % 2 = 1 := by omega
    have h2 : j % 2 = 0 ∨ j % 2 = 1 := by omega
    have b0 : Nat.beq 0 0 = true := rfl
    have b1 : Nat.beq 1 0 = false := rfl
    have ih := fun t => mset_comm x y f g (k / 2) (j / 2) t (by omega) (by omega)
    cases t with
    | e =>
      rcases h1 with h1 | h1 <;> rcases h2 with h2 | h2 <;>
        simp only [mset_succ_e, mset_succ_n, h1, h2, b0, b1, cond] <;> first | rfl | (rw [ih _ (by omega)])
    | n v l r =>
      rcases h1 with h1 | h1 <;> rcases h2 with h2 | h2 <;>
        simp only [mset_succ_n, h1, h2, b0, b1, cond] <;> first | rfl | (rw [ih _ (by omega)])

/-- A base and the blocks behind it. -/
def bxt (h : Blks) (l : List (Option ABlk)) : Blks :=
  match l with
  | [] => h
  | x :: l => bxt (bput h h.length x) l

theorem bxt_nil (h : Blks) : bxt h [] = h := rfl
theorem bxt_cons (h : Blks) (x : Option ABlk) (l : List (Option ABlk)) : bxt h (x :: l) = bxt (bput h h.length x) l := rfl
theorem bxt_len : ∀ (l : List (Option ABlk)) (h : Blks), (bxt h l).length = h.length + l.length
  | [], h => rfl
  | x :: l, h => by rw [bxt_cons, bxt_len l, len_new, List.length_cons]; omega
theorem bxt_append : ∀ (l k : List (Option ABlk)) (h : Blks), bxt h (l ++ k) = bxt (bxt h l) k
  | [], _, _ => rfl
  | x :: l, k, h => by rw [List.cons_append, bxt_cons, bxt_cons, bxt_append l k]
theorem bxt_push (h : Blks) (l : List (Option ABlk)) (x : Option ABlk) : bput (bxt h l) (h.length + l.length) x = bxt h (l ++ [x]) := by
  rw [bxt_append, bxt_cons, bxt_nil, bxt_len]
theorem bxt_old : ∀ (l : List (Option ABlk)) (h : Blks) (b : Nat), b < h.length → bget (bxt h l) b = bget h b
  | [], _, _, _ => rfl
  | x :: l, h, b, hb => by rw [bxt_cons, bxt_old l _ b (by rw [len_new]; omega), bget_old hb]
theorem bxt_get : ∀ (l : List (Option ABlk)) (h : Blks) (k : Nat), bget (bxt h l) (h.length + k) = (l[k]?).join
  | [], h, k => by rw [bxt_nil, bget_ge (by omega)]; simp
  | x :: l, h, 0 => by rw [bxt_cons, bxt_old l _ _ (by rw [len_new]; omega), Nat.add_zero, bget_new]; simp
  | x :: l, h, k + 1 => by
    have := bxt_get l (bput h h.length x) k
    rw [len_new] at this
    rw [bxt_cons, show h.length + (k + 1) = h.length + 1 + k by omega, this]
    simp

theorem bput_len_eq {h : Blks} {b : Nat} {x : Option ABlk} (hb : b < h.length) : (bput h b x).length = h.length := by rw [length_bput']; omega
theorem bput_same (h : Blks) (b : Nat) (x y : Option ABlk) : bput (bput h b y) b x = bput h b x := by
  have hlt : b < (bput h b y).length := by rw [length_bput']; omega
  have e1 : (bput (bput h b y) b x).length = (bput h b x).length := by rw [bput_len_eq hlt, length_bput', length_bput']
  have e2 : (bput (bput h b y) b x).tree = (bput h b x).tree := mset_same x y (b + 1) b h.tree (by omega)
  cases h1 : bput (bput h b y) b x
  cases h2 : bput h b x
  rw [h1, h2] at e1 e2
  simp only at e1 e2
  rw [e1, e2]
theorem bput_comm (h : Blks) {b c : Nat} (x y : Option ABlk) (hne : b ≠ c) : bput (bput h b x) c y = bput (bput h c y) b x := by
  have e1 : (bput (bput h b x) c y).length = (bput (bput h c y) b x).length := by simp only [length_bput']; omega
  have e2 : (bput (bput h b x) c y).tree = (bput (bput h c y) b x).tree := mset_comm y x (c + 1) (b + 1) c b h.tree (by omega) (by omega) (Ne.symm hne)
  cases h1 : bput (bput h b x) c y
  cases h2 : bput (bput h c y) b x
  rw [h1, h2] at e1 e2
  simp only at e1 e2
  rw [e1, e2]
theorem bxt_bput : ∀ (l : List (Option ABlk)) (h : Blks) (b : Nat) (x : Option ABlk), b < h.length → bput (bxt h l) b x = bxt (bput h b x) l
  | [], _, _, _, _ => rfl
  | y :: l, h, b, x, hb => by
    rw [bxt_cons, bxt_bput l _ b x (by rw [len_new]; omega), bput_comm h y x (by omega), bxt_cons, bput_len_eq hb]
theorem bxt_set : ∀ (l : List (Option ABlk)) (h : Blks) (k : Nat) (x : Option ABlk), k < l.length → bput (bxt h l) (h.length + k) x = bxt h (l.set k x)
  | [], _, _, _, hk => by simp at hk
  | y :: l, h, 0, x, _ => by
    rw [bxt_cons, Nat.add_zero, bxt_bput l _ _ x (by rw [len_new]; omega), bput_same, List.set_cons_zero, bxt_cons]
  | y :: l, h, k + 1, x, hk => by
    have := bxt_set l (bput h h.length y) k x (by simpa using hk)
    rw [len_new] at this
    rw [bxt_cons, show h.length + (k + 1) = h.length + 1 + k by omega, this, List.set_cons_succ, bxt_cons]

theorem keep_bxt {h : Blks} {l : List (Option ABlk)} {lg lg' d : List Nat} (hl : ∃ k, lg' = k ++ lg ∧ ∀ b ∈ k, h.length ≤ b) : Keep ⟨h, lg, d⟩ ⟨bxt h l, lg', d⟩ :=
  ⟨by simp only [bxt_len]; omega, fun b hb => bxt_old l h b hb, rfl, hl⟩
end Go.Abs
namespace Go.Abs

mutual
theorem VR.back {ρ ρ' : Rho} : ∀ {a : AV} {v : Value}, (∀ b ∈ a.refs, ρ' b = ρ b) → VR ρ' a v → VR ρ a v
  | .undef, _, _, hv | .bool _, _, _, hv | .int _ _, _, _, hv | .str _, _, _, hv | .nilptr, _, _, hv | .nilslice, _, _, hv | .slice0, _, _, hv | .nilmap, _, _, hv | .nilFunc, _, _, hv | .nilIface, _, _, hv | .opq, _, _, hv | .osl _, _, _, hv => by simpa [VR] using hv
  | .ptr b _ _, _, h, hv => by obtain ⟨p, hp, e⟩ := hv; exact ⟨p, (h b (by simp [AV.refs])).symm.trans hp, e⟩
  | .slice b _ _ _, _, h, hv => by obtain ⟨p, a, k, hp, r⟩ := hv; exact ⟨p, a, k, (h b (by simp [AV.refs])).symm.trans hp, r⟩
  | .map b, _, h, hv => by obtain ⟨p, hp, e⟩ := hv; exact ⟨p, (h b (by simp [AV.refs])).symm.trans hp, e⟩
  | .func _ a c, _, h, hv => by
    obtain ⟨a', c', e, h1, h2⟩ := hv
    exact ⟨a', c', e, VRs.back (fun b hb => h b (by simp [AV.refs, hb])) h1, VRs.back (fun b hb => h b (by simp [AV.refs, hb])) h2⟩
  | .iface _ x, _, h, hv => by obtain ⟨x', e, h1⟩ := hv; exact ⟨x', e, VR.back (a := x) (fun b hb => h b (by simpa [AV.refs] using hb)) h1⟩
  | .agg cs, _, h, hv => by obtain ⟨c', e, h1⟩ := hv; exact ⟨c', e, VRs.back (as := cs) (fun b hb => h b (by simpa [AV.refs] using hb)) h1⟩
  | .tuple cs, _, h, hv => by obtain ⟨c', e, h1⟩ := hv; exact ⟨c', e, VRs.back (as := cs) (fun b hb => h b (by simpa [AV.refs] using hb)) h1⟩
  | .yield b, _, h, hv => by obtain ⟨p, hp, e⟩ := hv; exact ⟨p, (h b (by simp [AV.refs])).symm.trans hp, e⟩
theorem VRs.back {ρ ρ' : Rho} : ∀ {as : List AV} {vs : List Value}, (∀ b ∈ refsL as, ρ' b = ρ b) → VRs ρ' as vs → VRs ρ as vs
  | [], _, _, hv => by simpa [VRs] using hv
  | _ :: _, _, h, hv => by
    obtain ⟨v, vs, e, h1, h2⟩ := hv
    exact ⟨v, vs, e, VR.back (fun b hb => h b (by simp [refsL, hb])) h1, VRs.back (fun b hb => h b (by simp [refsL, hb])) h2⟩
end

/-- What was named before is where it was. -/
theorem VR.old {ρ ρ' : Rho} {a : AV} {v v' : Value} (h : VR ρ a v) (hl : ρ.le ρ') (h' : VR ρ' a v') : VR ρ a v' :=
  VR.back (fun b hb => let ⟨p, hp⟩ := VR.names h b hb; (hl b p hp).trans hp.symm) h'

theorem BRel.old {K : Kp} {ρ ρ' : Rho} {w w' : World} {p : Pl} {x : ABlk} (h : BRel K ρ w p x) (hl : ρ.le ρ') (h' : BRel K ρ' w' p x) : BRel K ρ w' p x := by
  cases x with
  | row own esz es =>
    obtain ⟨_, _, _, _, arr0, el0, fr0, _, _, g6, _, _⟩ := h
    obtain ⟨h1, h2, h3, h4, arr, el, fr, hg, h5, h6, h7, h8⟩ := h'
    refine ⟨h1, h2, h3, h4, arr, el, fr, hg, h5, fun k a ha => ?_, h7, h8⟩
    obtain ⟨v, hv, hr⟩ := h6 k a ha
    obtain ⟨v0, _, hr0⟩ := g6 k a ha
    exact ⟨v, hv, hr0.old hl hr⟩
  | map ents =>
    obtain ⟨_, es0, _, _, g2, g3⟩ := h
    obtain ⟨h1, es, clock, hg, h2, h3⟩ := h'
    refine ⟨h1, es, clock, hg, h2, fun i a e ha he => ?_⟩
    obtain ⟨a1, a2⟩ := h3 i a e ha he
    have hi : i < es0.size := by rw [← g2]; exact (List.getElem?_eq_some_iff.1 ha).1
    obtain ⟨b1, b2⟩ := g3 i a es0[i] ha (Array.getElem?_eq_getElem hi)
    exact ⟨b1.old hl a1, b2.old hl a2⟩
  | loop l =>
    obtain ⟨_, r0, _, _, g3⟩ := h
    obtain ⟨h1, r, hg, h2, h3⟩ := h'
    exact ⟨h1, r, hg, h2, fun q => (g3 q).old hl (h3 q)⟩
  | dfr => exact h'

/-- The value alone: where the function writes nothing that was there, and names nothing new. -/
noncomputable def pureSum (S : FuncId → Bool) (F : FuncId → Option AFunc) (meth : Meth) (sm : Summ) (N : Nat) : Summ := fun f vs m =>
  if S f = true then
    open Classical in
    if h : ∃ v m', acall F meth sm N (.fn f) vs m = some (v, m') ∧ Keep m m' ∧ ∀ b ∈ v.refs, b < m.blks.length then some (h.choose, m) else none
  else sm f vs m

section
variable {S : FuncId → Bool} {F : FuncId → Option AFunc} {meth : Meth} {sm : Summ} {N : Nat} {f : FuncId} {vs : List AV} {m : Mem} {v : AV}
theorem pureSum_skip (h : S f = false) : pureSum S F meth sm N f vs m = sm f vs m := by simp [pureSum, h]
theorem pureSum_some (hS : S f = true) {m' : Mem} (h : acall F meth sm N (.fn f) vs m = some (v, m')) (hk : Keep m m') (hr : ∀ b ∈ v.refs, b < m.blks.length) : pureSum S F meth sm N f vs m = some (v, m) := by
  have hx : ∃ v m', acall F meth sm N (.fn f) vs m = some (v, m') ∧ Keep m m' ∧ ∀ b ∈ v.refs, b < m.blks.length := ⟨v, m', h, hk, hr⟩
  rw [pureSum, if_pos hS, dif_pos hx]
  obtain ⟨m2, h1, _⟩ := hx.choose_spec
  have e : v = hx.choose := congrArg (fun r => r.1) (Option.some.inj (h.symm.trans h1))
  exact congrArg (fun x => some (x, m)) e.symm
theorem pureSum_inv {m2 : Mem} (hS : S f = true) (h : pureSum S F meth sm N f vs m = some (v, m2)) : m2 = m ∧ ∃ m', acall F meth sm N (.fn f) vs m = some (v, m') ∧ Keep m m' ∧ ∀ b ∈ v.refs, b < m.blks.length := by
  rw [pureSum, if_pos hS] at h
  split at h
  · rename_i hx
    have e := Option.some.inj h
    simp only [Prod.mk.injEq] at e
    exact ⟨e.2.symm, by rw [← e.1]; exact hx.choose_spec⟩
  · cases h
end

/-- What a run leaves behind may be forgotten. -/
theorem Rel.forget {K : Kp} {w0 w w' : World} {ρ ρ' : Rho} {h h' : Blks} (R : Rel K w0 ρ h w) (R' : Rel K w0 ρ' h' w') (hl : ρ.le ρ') (hk : ∀ b, b < h.length → bget h' b = bget h b) : Rel K w0 ρ h w' where
  below := R'.below
  dom := R.dom
  blk := fun b x hx => by
    obtain ⟨p, hp, hB⟩ := R.blk b x hx
    obtain ⟨p', hp', hB'⟩ := R'.blk b x ((hk b (bget_lt hx)).trans hx)
    have e : p' = p := Option.some.inj (hp'.symm.trans (hl _ _ hp))
    subst e
    exact ⟨p', hp, hB.old hl hB'⟩
  sep := fun b c x y p q hx hy hp hq ho hne => R'.sep b c x y p q ((hk b (bget_lt hx)).trans hx) ((hk c (bget_lt hy)).trans hy) (hl _ _ hp) (hl _ _ hq) ho hne

theorem SumOK.pure {P : Program} {glob : Nat → Option AV} {F : FuncId → Option AFunc} {sm : Summ} {S : FuncId → Bool} {N : Nat} (hs : SumOK P glob sm) (hF : FOK P glob F) (hmix : P.follows .mixedOrders = true) : SumOK P glob (pureSum S F (cmeth P) sm N) := by
  refine ⟨fun c vs m v m' h => ?_, fun c vs m v m' h => ?_, fun K w0 w ρ m m' c vs vs' v hL h R hg hvs hy => ?_⟩
  · cases c with
    | yield l => cases h
    | fn f =>
      cases hS : S f with
      | true => exact congrArg Mem.dfrs (pureSum_inv hS h).1
      | false => exact hs.dfrs (.fn f) vs m v m' ((pureSum_skip hS).symm.trans h)
  · cases c with
    | yield l => cases h
    | fn f =>
      cases hS : S f with
      | true => rw [(pureSum_inv hS h).1]; exact Trk.refl m
      | false => exact hs.trk (.fn f) vs m v m' ((pureSum_skip hS).symm.trans h)
  · cases c with
    | yield l => cases h
    | fn f =>
      cases hS : S f with
      | false => exact hs.ok K w0 w ρ m m' (.fn f) vs vs' v hL ((pureSum_skip hS).symm.trans h) R hg hvs hy
      | true =>
        obtain ⟨rfl, m1, h1, hk, hr⟩ := pureSum_inv hS h
        have hOK : ∀ (g : Goroutine) (w : World), (fun _ _ => True : Goroutine → World → Prop) g w := fun _ _ => trivial
        have ih := acall_sound (main := true) hs.dfrs hs.trk hs.ok hOK hF hmix N
        obtain ⟨nx, fr0, q1, q2, q3⟩ := ih K w0 w ρ _ m1 (.fn f) vs vs' v hL h1 R hg hvs hy
        refine ⟨nx, fr0, q1, q2, fun fr cs => (q3 fr cs).mono fun g w' he => ?_⟩
        obtain ⟨v', ρ', e1, e2, e3, e4, e5, _⟩ := he
        exact ⟨v', ρ, e1, VR.back (fun b hb => e5 b (hr b hb)) e2, R.forget e3 e4 hk.get, Rho.le_refl _, fun _ _ => rfl, Nat.le_refl _, fun _ h => h⟩
end Go.Abs
namespace Go.Abs

/-- The new block number `k` behind a base. -/
def nb (h : Blks) (k : Nat) : Nat := h.length + k
/-- Item `k` of a list of blocks. -/
def bnth : List (Option ABlk) → Nat → Option ABlk
  | [], _ => none
  | x :: _, 0 => x
  | _ :: l, k + 1 => bnth l k
def bset : List (Option ABlk) → Nat → Option ABlk → List (Option ABlk)
  | [], _, _ => []
  | _ :: l, 0, x => x :: l
  | y :: l, k + 1, x => y :: bset l k x
theorem bnth_eq : ∀ (l : List (Option ABlk)) (k : Nat), bnth l k = (l[k]?).join
  | [], _ => rfl
  | x :: l, 0 => by simp [bnth]
  | x :: l, k + 1 => by simp [bnth, bnth_eq l k]
theorem bset_eq : ∀ (l : List (Option ABlk)) (k : Nat) (x : Option ABlk), bset l k x = l.set k x
  | [], _, _ => by simp [bset]
  | _ :: l, 0, _ => rfl
  | y :: l, k + 1, x => by simp [bset, bset_eq l k x]
def blen : List (Option ABlk) → Nat
  | [] => 0
  | _ :: l => blen l + 1
theorem blen_eq : ∀ l : List (Option ABlk), blen l = l.length
  | [] => rfl
  | _ :: l => by simp [blen, blen_eq l]
def bsnoc : List (Option ABlk) → Option ABlk → List (Option ABlk)
  | [], x => [x]
  | y :: l, x => y :: bsnoc l x
theorem bsnoc_eq : ∀ (l : List (Option ABlk)) (x : Option ABlk), bsnoc l x = l ++ [x]
  | [], _ => rfl
  | y :: l, x => by simp [bsnoc, bsnoc_eq l x]

section
variable {h : Blks} {l : List (Option ABlk)} {k j b : Nat} {x : Option ABlk}
theorem nb_len : (bxt h l).length = nb h (blen l) := by rw [bxt_len, nb, blen_eq]
theorem nb_get : bget (bxt h l) (nb h k) = bnth l k := by rw [nb, bxt_get, bnth_eq]
theorem nb_old (hb : b < h.length) : bget (bxt h l) b = bget h b := bxt_old l h b hb
theorem nb_push0 (hk : k = blen l) : bput (bxt h l) (nb h k) x = bxt h (bsnoc l x) := by rw [hk, nb, blen_eq, bxt_push, bsnoc_eq]
/-- What is written at one of the new blocks, or at the next one. -/
def bputl : List (Option ABlk) → Nat → Option ABlk → List (Option ABlk)
  | [], _, x => [x]
  | _ :: l, 0, x => x :: l
  | y :: l, k + 1, x => y :: bputl l k x
def bin : List (Option ABlk) → Nat → Bool
  | [], 0 => true
  | [], _ + 1 => false
  | _ :: _, 0 => true
  | _ :: l, k + 1 => bin l k
theorem bin_le : ∀ (l : List (Option ABlk)) (k : Nat), bin l k = true → k ≤ l.length
  | [], 0, _ => Nat.le_refl _
  | [], k + 1, h => by simp [bin] at h
  | _ :: _, 0, _ => by simp
  | _ :: l, k + 1, h => by have := bin_le l k h; simp; omega
theorem bputl_push : ∀ (l : List (Option ABlk)) (x : Option ABlk), bputl l l.length x = l ++ [x]
  | [], _ => rfl
  | y :: l, x => by simp [bputl, bputl_push l x]
theorem bputl_set : ∀ (l : List (Option ABlk)) (k : Nat) (x : Option ABlk), k < l.length → bputl l k x = l.set k x
  | [], k, _, h => by simp at h
  | _ :: _, 0, _, _ => rfl
  | y :: l, k + 1, x, h => by simp [bputl, bputl_set l k x (by simpa using h)]
theorem bin_a : bin [] 0 = true := by decide
theorem bin_b (x : Option ABlk) (l : List (Option ABlk)) : bin (x :: l) 0 = true := by cases l <;> simp [bin]
theorem bin_c (x : Option ABlk) (l : List (Option ABlk)) (k : Nat) : bin (x :: l) (k + 1) = bin l k := by cases l <;> simp [bin]
theorem nb_put (hk : bin l k = true) : bput (bxt h l) (nb h k) x = bxt h (bputl l k x) := by
  have hle := bin_le l k hk
  rcases Nat.lt_or_ge k l.length with h1 | h1
  · rw [nb, bxt_set l h k x h1, bputl_set l k x h1]
  · have : k = l.length := by omega
    subst this
    rw [nb, bxt_push, bputl_push]
theorem nb_set (hk : k < blen l) : bput (bxt h l) (nb h k) x = bxt h (bset l k x) := by rw [blen_eq] at hk; rw [nb, bxt_set l h k x hk, bset_eq]
theorem nb_add : nb h k + j = nb h (k + j) := by simp [nb]; omega
theorem nb_inj : (nb h k = nb h j) = (k = j) := by simp [nb]
theorem nb_beq : Nat.beq (nb h k) (nb h j) = decide (k = j) := by
  rw [Bool.eq_iff_iff, Nat.beq_eq]; simp [nb]
theorem nb_blt : Nat.blt (nb h k) (nb h j) = decide (k < j) := by
  rw [Bool.eq_iff_iff, Nat.blt_eq]; simp [nb]
theorem nb_ne (hb : b < h.length) : (b = nb h k) = False := by simp [nb]; omega
theorem nb_ne' (hb : b < h.length) : (nb h k = b) = False := by simp [nb]; omega
theorem nb_beq_ne (hb : b < h.length) : Nat.beq b (nb h k) = false := by
  cases hq : Nat.beq b (nb h k)
  · rfl
  · have := Nat.eq_of_beq_eq_true hq; simp [nb] at this; omega
theorem nb_beq_ne' (hb : b < h.length) : Nat.beq (nb h k) b = false := by
  cases hq : Nat.beq (nb h k) b
  · rfl
  · have := Nat.eq_of_beq_eq_true hq; simp [nb] at this; omega
theorem nb_more : ∀ (n : Nat) (l : List (Option ABlk)), bmore (bxt h l) n = bxt h (l ++ List.replicate n none)
  | 0, l => by simp [bmore]
  | n + 1, l => by
    rw [bmore, show (bxt h l).length = nb h (blen l) from nb_len, nb_push0 rfl, nb_more n, bsnoc_eq, List.append_assoc]
    rfl
theorem nb_ge : h.length ≤ nb h k := by simp [nb]
end

/-- What a function yields, whatever memory it leaves behind beside what was there. -/
def Ev (F : FuncId → Option AFunc) (meth : Meth) (sm : Summ) (n : Nat) (f : FuncId) (vs : List AV) (m : Mem) (v : AV) : Prop := ∃ m', acall F meth sm n (.fn f) vs m = some (v, m') ∧ Keep m m'
theorem Ev.mk {F : FuncId → Option AFunc} {meth : Meth} {sm : Summ} {n : Nat} {f : FuncId} {vs : List AV} {h : Blks} {lg d : List Nat} {v : AV} {l : List (Option ABlk)} {k : List Nat}
    (e : acall F meth sm n (.fn f) vs ⟨h, lg, d⟩ = some (v, ⟨bxt h l, k ++ lg, d⟩)) (hk : ∀ b ∈ k, h.length ≤ b) : Ev F meth sm n f vs ⟨h, lg, d⟩ v := ⟨_, e, keep_bxt ⟨k, rfl, hk⟩⟩
theorem Ev.pure {S : FuncId → Bool} {F : FuncId → Option AFunc} {meth : Meth} {sm : Summ} {n : Nat} {f : FuncId} {vs : List AV} {m : Mem} {v : AV} (h : Ev F meth sm n f vs m v) (hS : S f = true) (hr : ∀ b ∈ v.refs, b < m.blks.length) : pureSum S F meth sm n f vs m = some (v, m) := by
  obtain ⟨m', e, k⟩ := h
  exact pureSum_some hS e k hr

/-- The log has new blocks alone in front of what it had. -/
inductive LogOK (h : Blks) (lg : List Nat) : List Nat → Prop
  | nil : LogOK h lg lg
  | cons {k : Nat} {l : List Nat} : LogOK h lg l → LogOK h lg (nb h k :: l)
theorem LogOK.ok {h : Blks} {lg lg' : List Nat} (x : LogOK h lg lg') : ∃ k, lg' = k ++ lg ∧ ∀ b ∈ k, h.length ≤ b := by
  induction x with
  | nil => exact ⟨[], rfl, fun b hb => by cases hb⟩
  | @cons k l _ ih =>
    obtain ⟨q, e, hq⟩ := ih
    refine ⟨nb h k :: q, by rw [e]; rfl, fun b hb => ?_⟩
    rcases List.mem_cons.1 hb with rfl | hb
    · exact nb_ge
    · exact hq b hb
theorem keep_bx {h : Blks} {l : List (Option ABlk)} {lg lg' d : List Nat} (hl : LogOK h lg lg') : Keep ⟨h, lg, d⟩ ⟨bxt h l, lg', d⟩ := keep_bxt hl.ok
theorem Ev.of {F : FuncId → Option AFunc} {meth : Meth} {sm : Summ} {n : Nat} {f : FuncId} {vs : List AV} {h : Blks} {lg d : List Nat} {v : AV}
    (e : ∃ m', acall F meth sm n (.fn f) vs ⟨bxt h [], lg, d⟩ = some (v, m') ∧ Keep ⟨h, lg, d⟩ m') : Ev F meth sm n f vs ⟨h, lg, d⟩ v := e

theorem wrapI {x : Int} (h0 : -9223372036854775808 ≤ x) (h1 : x ≤ 9223372036854775807) : IntKind.i64.wrap x = x := IntWalk.i64_in x (by omega)
theorem wrapU {x : Int} (h0 : 0 ≤ x) (h1 : x ≤ 18446744073709551615) : IntKind.u64.wrap x = x := by
  simp only [IntKind.wrap, IntKind.bits, IntKind.signed]
  simp
  omega

theorem tg_ze : tget .z .e = .undef := rfl
theorem tg_zn (v : AV) (l r : Tr) : tget .z (.n v l r) = v := rfl
theorem tg_le (p : Pth) : tget (.l p) .e = .undef := rfl
theorem tg_ln (p : Pth) (v : AV) (l r : Tr) : tget (.l p) (.n v l r) = tget p l := rfl
theorem tg_re (p : Pth) : tget (.r p) .e = .undef := rfl
theorem tg_rn (p : Pth) (v : AV) (l r : Tr) : tget (.r p) (.n v l r) = tget p r := rfl
theorem ts_ze (x : AV) : tset x .z .e = .n x .e .e := rfl
theorem ts_zn (x v : AV) (l r : Tr) : tset x .z (.n v l r) = .n x l r := rfl
theorem ts_le (x : AV) (p : Pth) : tset x (.l p) .e = .n .undef (tset x p .e) .e := rfl
theorem ts_ln (x : AV) (p : Pth) (v : AV) (l r : Tr) : tset x (.l p) (.n v l r) = .n v (tset x p l) r := rfl
theorem ts_re (x : AV) (p : Pth) : tset x (.r p) .e = .n .undef .e (tset x p .e) := rfl
theorem ts_rn (x : AV) (p : Pth) (v : AV) (l r : Tr) : tset x (.r p) (.n v l r) = .n v l (tset x p r) := rfl

theorem sc_bool (b : Bool) : AV.scalar (.bool b) = true := rfl
theorem sc_int (k : IntKind) (n : Int) : AV.scalar (.int k n) = true := rfl
theorem sc_str (s : List UInt8) : AV.scalar (.str s) = true := rfl
theorem sc_nilptr : AV.scalar .nilptr = true := rfl
theorem sc_ptr (b i o : Nat) : AV.scalar (.ptr b i o) = true := rfl
theorem sc_nilslice : AV.scalar .nilslice = true := rfl
theorem sc_slice0 : AV.scalar .slice0 = true := rfl
theorem sc_slice (b i n : Nat) (c : Option Nat) : AV.scalar (.slice b i n c) = true := rfl
theorem sc_nilmap : AV.scalar .nilmap = true := rfl
theorem sc_map (b : Nat) : AV.scalar (.map b) = true := rfl
theorem sc_nilFunc : AV.scalar .nilFunc = true := rfl
theorem sc_func (f : FuncId) (a c : List AV) : AV.scalar (.func f a c) = true := rfl
theorem sc_nilIface : AV.scalar .nilIface = true := rfl
theorem sc_iface (t : TypeId) (v : AV) : AV.scalar (.iface t v) = true := rfl
theorem sc_yield (l : Nat) : AV.scalar (.yield l) = true := rfl

/-- The rounds of a loop: what each one begins with, and what the loop ends with. -/
theorem aloop_inv {body : Tr → Mem → Option (AExit × Tr × Mem)} {I : Nat → Tr → Mem → Prop} {Q : AExit → Tr → Mem → Prop} (N : Nat)
    (step : ∀ i T m, i < N → I i T m → ∃ e T' m', body T m = some (e, T', m') ∧ ((e = .normal ∧ I (i + 1) T' m') ∨ (e ≠ .normal ∧ Q e T' m')))
    (last : ∀ T m, I N T m → ∃ e T' m', body T m = some (e, T', m') ∧ e ≠ .normal ∧ Q e T' m') :
    ∀ (r i f : Nat) (T : Tr) (m : Mem), i + r = N → r < f → I i T m → ∃ e T' m', aloop body f T m = some (e, T', m') ∧ e ≠ .normal ∧ Q e T' m' := by
  intro r
  induction r with
  | zero =>
    intro i f T m hi hf hI
    obtain ⟨f, rfl⟩ : ∃ f', f = f' + 1 := ⟨f - 1, by omega⟩
    have : i = N := by omega
    subst this
    obtain ⟨e, T', m', h1, h2, h3⟩ := last T m hI
    refine ⟨e, T', m', ?_, h2, h3⟩
    cases e <;> simp only [aloop, h1]
    exact absurd rfl h2
  | succ r ih =>
    intro i f T m hi hf hI
    obtain ⟨f, rfl⟩ : ∃ f', f = f' + 1 := ⟨f - 1, by omega⟩
    obtain ⟨e, T', m', h1, h2⟩ := step i T m (by omega) hI
    rcases h2 with ⟨rfl, h2⟩ | ⟨h2, h3⟩
    · obtain ⟨e2, T2, m2, g1, g2, g3⟩ := ih (i + 1) f T' m' (by omega) (by omega) h2
      refine ⟨e2, T2, m2, ?_, g2, g3⟩
      simp only [aloop, h1, g1]
    · refine ⟨e, T', m', ?_, h2, h3⟩
      cases e <;> simp only [aloop, h1]
      exact absurd rfl h2
end Go.Abs
namespace Go.Abs
theorem j0 : type_of% @cond_false := by intros; first | rfl | (apply cond_false <;> assumption)
theorem j1 : type_of% @cond_true := by intros; first | rfl | (apply cond_true <;> assumption)
theorem j2 : type_of% @Pth.l.injEq := by intros; first | rfl | (apply Pth.l.injEq <;> assumption)
theorem j3 : type_of% @Pth.r.injEq := by intros; first | rfl | (apply Pth.r.injEq <;> assumption)
theorem j4 : type_of% @if_false := by intros; first | rfl | (apply if_false <;> assumption)
theorem j5 : type_of% @if_true := by intros; first | rfl | (apply if_true <;> assumption)
theorem j6 : type_of% @Option.map_some := by intros; first | rfl | (apply Option.map_some <;> assumption)
theorem j7 : type_of% @Int.toNat_natCast := by intros; first | rfl | (apply Int.toNat_natCast <;> assumption)
theorem j8 : type_of% @Int.natCast_nonneg := by intros; first | rfl | (apply Int.natCast_nonneg <;> assumption)
theorem j9 : type_of% @and_self := by intros; first | rfl | (apply and_self <;> assumption)
theorem j10 : type_of% @and_true := by intros; first | rfl | (apply and_true <;> assumption)
theorem j11 : type_of% @true_and := by intros; first | rfl | (apply true_and <;> assumption)
theorem j12 : type_of% @Nat.zero_add := by intros; first | rfl | (apply Nat.zero_add <;> assumption)
theorem j13 : type_of% @List.nil_append := by intros; first | rfl | (apply List.nil_append <;> assumption)
theorem j14 : type_of% @List.append_nil := by intros; first | rfl | (apply List.append_nil <;> assumption)
theorem j15 : type_of% @List.singleton_append := by intros; first | rfl | (apply List.singleton_append <;> assumption)
theorem j16 : type_of% @List.cons_append := by intros; first | rfl | (apply List.cons_append <;> assumption)
theorem j17 : type_of% @List.length_cons := by intros; first | rfl | (apply List.length_cons <;> assumption)
theorem j18 : type_of% @List.length_nil := by intros; first | rfl | (apply List.length_nil <;> assumption)
theorem j19 : type_of% @Bool.false_eq_true := by intros; first | rfl | (apply Bool.false_eq_true <;> assumption)
theorem j20 : type_of% @Bool.not_true := by intros; first | rfl | (apply Bool.not_true <;> assumption)
theorem j21 : type_of% @Bool.not_false := by intros; first | rfl | (apply Bool.not_false <;> assumption)
theorem j22 : type_of% @nb_len := by intros; first | rfl | (apply nb_len <;> assumption)
theorem j23 : type_of% @nb_get := by intros; first | rfl | (apply nb_get <;> assumption)
theorem j24 : type_of% @nb_put := by intros; first | rfl | (apply nb_put <;> assumption)
theorem j25 : type_of% @nb_inj := by intros; first | rfl | (apply nb_inj <;> assumption)
theorem j26 : type_of% @decide_true := by intros; first | rfl | (apply decide_true <;> assumption)
theorem j27 : type_of% @decide_false := by intros; first | rfl | (apply decide_false <;> assumption)
theorem j28 : type_of% @decide_not := by intros; first | rfl | (apply decide_not <;> assumption)
theorem j29 : type_of% @not_true_eq_false := by intros; first | rfl | (apply not_true_eq_false <;> assumption)
theorem j30 : type_of% @not_false_eq_true := by intros; first | rfl | (apply not_false_eq_true <;> assumption)
theorem j31 : type_of% @beq_self_eq_true := by intros; first | rfl | (apply beq_self_eq_true <;> assumption)
theorem j32 : type_of% @Bool.true_beq := by intros; first | rfl | (apply Bool.true_beq <;> assumption)
theorem j33 : type_of% @Bool.false_beq := by intros; first | rfl | (apply Bool.false_beq <;> assumption)
theorem j34 : type_of% @List.all_cons := by intros; first | rfl | (apply List.all_cons <;> assumption)
theorem j35 : type_of% @List.all_nil := by intros; first | rfl | (apply List.all_nil <;> assumption)
theorem j36 : type_of% @sc_bool := by intros; first | rfl | (apply sc_bool <;> assumption)
theorem j37 : type_of% @sc_int := by intros; first | rfl | (apply sc_int <;> assumption)
theorem j38 : type_of% @sc_str := by intros; first | rfl | (apply sc_str <;> assumption)
theorem j39 : type_of% @sc_nilptr := by intros; first | rfl | (apply sc_nilptr <;> assumption)
theorem j40 : type_of% @sc_ptr := by intros; first | rfl | (apply sc_ptr <;> assumption)
theorem j41 : type_of% @sc_nilslice := by intros; first | rfl | (apply sc_nilslice <;> assumption)
theorem j42 : type_of% @sc_slice0 := by intros; first | rfl | (apply sc_slice0 <;> assumption)
theorem j43 : type_of% @sc_slice := by intros; first | rfl | (apply sc_slice <;> assumption)
theorem j44 : type_of% @sc_nilmap := by intros; first | rfl | (apply sc_nilmap <;> assumption)
theorem j45 : type_of% @sc_map := by intros; first | rfl | (apply sc_map <;> assumption)
theorem j46 : type_of% @sc_nilFunc := by intros; first | rfl | (apply sc_nilFunc <;> assumption)
theorem j47 : type_of% @sc_func := by intros; first | rfl | (apply sc_func <;> assumption)
theorem j48 : type_of% @sc_nilIface := by intros; first | rfl | (apply sc_nilIface <;> assumption)
theorem j49 : type_of% @sc_iface := by intros; first | rfl | (apply sc_iface <;> assumption)
theorem j50 : type_of% @sc_yield := by intros; first | rfl | (apply sc_yield <;> assumption)
theorem j51 : type_of% @Bool.and_self := by intros; first | rfl | (apply Bool.and_self <;> assumption)
theorem j52 : type_of% @Bool.and_true := by intros; first | rfl | (apply Bool.and_true <;> assumption)
theorem j53 : type_of% @Bool.true_and := by intros; first | rfl | (apply Bool.true_and <;> assumption)
theorem j54 : type_of% @List.drop_zero := by intros; first | rfl | (apply List.drop_zero <;> assumption)
theorem j55 : type_of% @List.drop_succ_cons := by intros; first | rfl | (apply List.drop_succ_cons <;> assumption)
theorem j56 : type_of% @List.take_succ_cons := by intros; first | rfl | (apply List.take_succ_cons <;> assumption)
theorem j57 : type_of% @List.take_zero := by intros; first | rfl | (apply List.take_zero <;> assumption)
theorem j58 : type_of% @List.drop_nil := by intros; first | rfl | (apply List.drop_nil <;> assumption)
theorem j59 : type_of% @List.take_nil := by intros; first | rfl | (apply List.take_nil <;> assumption)
theorem j60 : type_of% @List.getElem?_cons_zero := by intros; first | rfl | (apply List.getElem?_cons_zero <;> assumption)
theorem j61 : type_of% @List.getElem?_cons_succ := by intros; first | rfl | (apply List.getElem?_cons_succ <;> assumption)
theorem j62 : type_of% @List.set_cons_zero := by intros; first | rfl | (apply List.set_cons_zero <;> assumption)
theorem j63 : type_of% @List.set_cons_succ := by intros; first | rfl | (apply List.set_cons_succ <;> assumption)
theorem j64 : type_of% @List.flatten_cons := by intros; first | rfl | (apply List.flatten_cons <;> assumption)
theorem j65 : type_of% @List.flatten_nil := by intros; first | rfl | (apply List.flatten_nil <;> assumption)
theorem j66 : type_of% @List.map_cons := by intros; first | rfl | (apply List.map_cons <;> assumption)
theorem j67 : type_of% @List.map_nil := by intros; first | rfl | (apply List.map_nil <;> assumption)
theorem j68 : type_of% @Nat.add_zero := by intros; first | rfl | (apply Nat.add_zero <;> assumption)
theorem j69 : type_of% @Nat.lt_irrefl := by intros; first | rfl | (apply Nat.lt_irrefl <;> assumption)
theorem j70 : type_of% @eq_self := by intros; first | rfl | (apply eq_self <;> assumption)
theorem j71 : type_of% @Int.cast_ofNat_Int := by intros; first | rfl | (apply Int.cast_ofNat_Int <;> assumption)
theorem j72 : type_of% @gt_iff_lt := by intros; first | rfl | (apply gt_iff_lt <;> assumption)
theorem j73 : type_of% @ge_iff_le := by intros; first | rfl | (apply ge_iff_le <;> assumption)
theorem j74 : type_of% @Int.zero_le_ofNat := by intros; first | rfl | (apply Int.zero_le_ofNat <;> assumption)
theorem j75 : type_of% @Option.map_none := by intros; first | rfl | (apply Option.map_none <;> assumption)
theorem j76 : type_of% @Option.getD_some := by intros; first | rfl | (apply Option.getD_some <;> assumption)
theorem j77 : type_of% @Option.getD_none := by intros; first | rfl | (apply Option.getD_none <;> assumption)
theorem j78 : type_of% @Option.isSome_some := by intros; first | rfl | (apply Option.isSome_some <;> assumption)
theorem j79 : type_of% @Option.isSome_none := by intros; first | rfl | (apply Option.isSome_none <;> assumption)
theorem j80 : type_of% @or_self := by intros; first | rfl | (apply or_self <;> assumption)
theorem j81 : type_of% @or_false := by intros; first | rfl | (apply or_false <;> assumption)
theorem j82 : type_of% @false_or := by intros; first | rfl | (apply false_or <;> assumption)
theorem j83 : type_of% @or_true := by intros; first | rfl | (apply or_true <;> assumption)
theorem j84 : type_of% @true_or := by intros; first | rfl | (apply true_or <;> assumption)
theorem j85 : type_of% @and_false := by intros; first | rfl | (apply and_false <;> assumption)
theorem j86 : type_of% @false_and := by intros; first | rfl | (apply false_and <;> assumption)
theorem j87 : type_of% @List.isEmpty_nil := by intros; first | rfl | (apply List.isEmpty_nil <;> assumption)
theorem j88 : type_of% @List.isEmpty_cons := by intros; first | rfl | (apply List.isEmpty_cons <;> assumption)
theorem j89 : type_of% @List.replicate_succ := by intros; first | rfl | (apply List.replicate_succ <;> assumption)
theorem j90 : type_of% @List.replicate_zero := by intros; first | rfl | (apply List.replicate_zero <;> assumption)
theorem j91 : type_of% @nb_more := by intros; first | rfl | (apply nb_more <;> assumption)
theorem j92 : type_of% @List.filter_nil := by intros; first | rfl | (apply List.filter_nil <;> assumption)
theorem j93 : type_of% @List.flatMap_nil := by intros; first | rfl | (apply List.flatMap_nil <;> assumption)
theorem j94 : type_of% @List.filter_cons := by intros; first | rfl | (apply List.filter_cons <;> assumption)
theorem j95 : type_of% @List.flatMap_cons := by intros; first | rfl | (apply List.flatMap_cons <;> assumption)
theorem j96 : type_of% @nb_beq := by intros; first | rfl | (apply nb_beq <;> assumption)
theorem j97 : type_of% @nb_blt := by intros; first | rfl | (apply nb_blt <;> assumption)
theorem j98 : type_of% @Nat.beq_refl := by intros; first | rfl | (apply Nat.beq_refl <;> assumption)
theorem j99 : type_of% @nb_add := by intros; first | rfl | (apply nb_add <;> assumption)
theorem j100 : type_of% @Bool.or_self := by intros; first | rfl | (apply Bool.or_self <;> assumption)
theorem j101 : type_of% @Bool.or_false := by intros; first | rfl | (apply Bool.or_false <;> assumption)
theorem j102 : type_of% @Bool.false_or := by intros; first | rfl | (apply Bool.false_or <;> assumption)
theorem j103 : type_of% @List.any_nil := by intros; first | rfl | (apply List.any_nil <;> assumption)
theorem j104 : type_of% @List.any_cons := by intros; first | rfl | (apply List.any_cons <;> assumption)
theorem j105 : type_of% @Bool.false_and := by intros; first | rfl | (apply Bool.false_and <;> assumption)
theorem j106 : type_of% @Bool.and_false := by intros; first | rfl | (apply Bool.and_false <;> assumption)
theorem j107 : type_of% @Bool.or_true := by intros; first | rfl | (apply Bool.or_true <;> assumption)
theorem j108 : type_of% @Bool.true_or := by intros; first | rfl | (apply Bool.true_or <;> assumption)
end Go.Abs
end
