/- Functions of the program on symbolic values: memory, summaries, the walk as predicates and its laws.
   Conditions: none. -/
import Derived.Test.YtdmofemokgboeaaGreatDoorEv5
set_option linter.unusedSimpArgs false
set_option linter.unusedVariables false
set_option maxRecDepth 100000
noncomputable section
namespace Go.Abs
theorem mset_same (x y:Option ABlk): ∀ (f k:Nat) (t:Mt),k<f→mset x f k (mset y f k t)=mset x f k t
  |0,k,t,hk=>absurd hk (by omega)
  |f+1,0,t,_=>by cases t <;>rfl
  | f +1,k+1,t,hk=>by
    have ih:=mset_same x y f (k / 2)
    cases t with
    | e=>
      rw[mset_succ_e,mset_succ_e]
      cases hb:Nat.beq (k % 2) 0
      · simp only[cond];rw[mset_succ_n,hb];simp only[cond];rw[ih _ (by omega)]
      · simp only[cond];rw[mset_succ_n,hb];simp only[cond];rw[ih _ (by omega)]
    | n v l r=>
      rw[mset_succ_n,mset_succ_n]
      cases hb:Nat.beq (k % 2) 0
      · simp only[cond];rw[mset_succ_n,hb];simp only[cond];rw[ih _ (by omega)]
      · simp only[cond];rw[mset_succ_n,hb];simp only[cond];rw[ih _ (by omega)]
theorem mset_comm (x y:Option ABlk): ∀ (f g k j:Nat) (t:Mt),k<f→j<g→k≠j→mset x f k (mset y g j t)=mset y g j (mset x f k t)
  |0,_,k,_,t,hk,_,_=>absurd hk (by omega)
  |_,0,_,j,t,_,hj,_=>absurd hj (by omega)
  |f+1,g+1,0,0,t,_,_,h=>absurd rfl h
  | f +1,g+1,0,j+1,t,_,hj,_=>by
    cases t with
    | e=>
      rw[mset_succ_e,mset_zero_e]
      cases hb:Nat.beq (j % 2) 0 <;>simp only[cond] <;>rw[mset_zero_n,mset_succ_n,hb] <;>rfl
    | n v l r=>
      rw[mset_succ_n,mset_zero_n]
      cases hb:Nat.beq (j % 2) 0 <;>simp only[cond] <;>rw[mset_zero_n,mset_succ_n,hb] <;>rfl
  | f +1,g+1,k+1,0,t,hk,_,_=>by
    cases t with
    | e=>
      rw[mset_succ_e,mset_zero_e]
      cases hb:Nat.beq (k % 2) 0 <;>simp only[cond] <;>rw[mset_zero_n,mset_succ_n,hb] <;>rfl
    | n v l r=>
      rw[mset_succ_n,mset_zero_n]
      cases hb:Nat.beq (k % 2) 0 <;>simp only[cond] <;>rw[mset_zero_n,mset_succ_n,hb] <;>rfl
  | f + 1,g+1,k+1,j+1,t,hk,hj,h=>by
    have h1:k % 2=0∨k % 2=1:=by omega
    have h2:j % 2=0∨j % 2=1:=by omega
    have b0:Nat.beq 0 0=true:=rfl
    have b1:Nat.beq 1 0=false:=rfl
    have ih:=fun t=>mset_comm x y f g (k / 2) (j / 2) t (by omega) (by omega)
    cases t with
    | e =>
      rcases h1 with h1 |h1 <;>rcases h2 with h2 |h2 <;>
        simp only[mset_succ_e,mset_succ_n,h1,h2,b0,b1,cond] <;>first |rfl |(rw[ih _ (by omega)])
    | n v l r=>
      rcases h1 with h1 |h1 <;>rcases h2 with h2 |h2 <;>
        simp only[mset_succ_n,h1,h2,b0,b1,cond] <;>first |rfl |(rw[ih _ (by omega)])
def bxt (h:Blks) (l:List (Option ABlk)):Blks:=
  match l with
  | []=>h
  |x::l=>bxt (bput h h.length x) l
theorem bxt_nil (h:Blks):bxt h []=h:=rfl
theorem bxt_cons (h:Blks) (x:Option ABlk) (l:List (Option ABlk)):bxt h (x::l)=bxt (bput h h.length x) l:=rfl
theorem bxt_len: ∀ (l:List (Option ABlk)) (h:Blks),(bxt h l).length=h.length+l.length
  | [],h=>rfl
  |x::l,h=>by rw[bxt_cons,bxt_len l,len_new,List.length_cons];omega
theorem bxt_append: ∀ (l k:List (Option ABlk)) (h:Blks),bxt h (l++k)=bxt (bxt h l) k
  | [],_,_=>rfl
  |x::l,k,h=>by rw[List.cons_append,bxt_cons,bxt_cons,bxt_append l k]
theorem bxt_push (h:Blks) (l:List (Option ABlk)) (x:Option ABlk):bput (bxt h l) (h.length+l.length) x=bxt h (l++ [x]):=by
  rw[bxt_append,bxt_cons,bxt_nil,bxt_len]
theorem bxt_old: ∀ (l:List (Option ABlk)) (h:Blks) (b:Nat),b<h.length→bget (bxt h l) b=bget h b
  | [],_,_,_=>rfl
  |x::l,h,b,hb=>by rw[bxt_cons,bxt_old l _ b (by rw[len_new];omega),bget_old hb]
theorem bxt_get: ∀ (l:List (Option ABlk)) (h:Blks) (k:Nat),bget (bxt h l) (h.length+k)=(l[k]?).join
  | [],h,k=>by rw[bxt_nil,bget_ge (by omega)];simp
  |x::l,h,0=>by rw[bxt_cons,bxt_old l _ _ (by rw[len_new];omega),Nat.add_zero,bget_new];simp
  | x::l,h,k+1=>by
    have:=bxt_get l (bput h h.length x) k
    rw[len_new] at this
    rw[bxt_cons,show h.length+(k+1)=h.length+1+k by omega,this]
    simp
theorem bput_len_eq {h:Blks} {b:Nat} {x:Option ABlk} (hb:b<h.length):(bput h b x).length=h.length:=by rw[length_bput'];omega
theorem bput_same (h:Blks) (b:Nat) (x y:Option ABlk):bput (bput h b y) b x=bput h b x:=by
  have hlt:b<(bput h b y).length:=by rw[length_bput'];omega
  have e1:(bput (bput h b y) b x).length=(bput h b x).length:=by rw[bput_len_eq hlt,length_bput',length_bput']
  have e2:(bput (bput h b y) b x).tree=(bput h b x).tree:=mset_same x y (b+1) b h.tree (by omega)
  cases h1:bput (bput h b y) b x
  cases h2:bput h b x
  rw[h1,h2] at e1 e2
  simp only at e1 e2
  rw[e1,e2]
theorem bput_comm (h:Blks) {b c:Nat} (x y:Option ABlk) (hne:b≠c):bput (bput h b x) c y=bput (bput h c y) b x:=by
  have e1:(bput (bput h b x) c y).length=(bput (bput h c y) b x).length:=by simp only[length_bput'];omega
  have e2:(bput (bput h b x) c y).tree=(bput (bput h c y) b x).tree:=mset_comm y x (c+1) (b+1) c b h.tree (by omega) (by omega) (Ne.symm hne)
  cases h1:bput (bput h b x) c y
  cases h2:bput (bput h c y) b x
  rw[h1,h2] at e1 e2
  simp only at e1 e2
  rw[e1,e2]
theorem bxt_bput: ∀ (l:List (Option ABlk)) (h:Blks) (b:Nat) (x:Option ABlk),b<h.length→bput (bxt h l) b x=bxt (bput h b x) l
  | [],_,_,_,_=>rfl
  | y::l,h,b,x,hb=>by
    rw[bxt_cons,bxt_bput l _ b x (by rw[len_new];omega),bput_comm h y x (by omega),bxt_cons,bput_len_eq hb]
theorem bxt_set: ∀ (l:List (Option ABlk)) (h:Blks) (k:Nat) (x:Option ABlk),k<l.length→bput (bxt h l) (h.length+k) x=bxt h (l.set k x)
  | [],_,_,_,hk=>by simp at hk
  | y::l,h,0,x,_=>by
    rw[bxt_cons,Nat.add_zero,bxt_bput l _ _ x (by rw[len_new];omega),bput_same,List.set_cons_zero,bxt_cons]
  | y::l,h,k+1,x,hk=>by
    have:=bxt_set l (bput h h.length y) k x (by simpa using hk)
    rw[len_new] at this
    rw[bxt_cons,show h.length+(k+1)=h.length+1+k by omega,this,List.set_cons_succ,bxt_cons]
theorem keep_bxt {h:Blks} {l:List (Option ABlk)} {lg lg' d:List Nat} (hl: ∃ k,lg'=k++lg∧ ∀ b∈k,h.length≤b):Keep ⟨h,lg,d⟩ ⟨bxt h l,lg',d⟩:=
  ⟨by simp only[bxt_len];omega,fun b hb=>bxt_old l h b hb,rfl,hl⟩
mutual
theorem VR.back {ρ ρ':Rho}: ∀ {a:AV} {v:Value},(∀ b∈a.refs,ρ' b=ρ b)→VR ρ' a v→VR ρ a v
  | .undef,_,_,hv | .bool _,_,_,hv | .int _ _,_,_,hv | .str _,_,_,hv | .nilptr,_,_,hv | .nilslice,_,_,hv | .slice0,_,_,hv | .nilmap,_,_,hv | .nilFunc,_,_,hv | .nilIface,_,_,hv | .opq,_,_,hv | .osl _,_,_,hv=>by simpa[VR] using hv
  | .ptr b _ _,_,h,hv=>by obtain ⟨p,hp,e⟩:=hv;exact ⟨p,(h b (by simp[AV.refs])).symm.trans hp,e⟩
  | .slice b _ _ _,_,h,hv=>by obtain ⟨p,a,k,hp,r⟩:=hv;exact ⟨p,a,k,(h b (by simp[AV.refs])).symm.trans hp,r⟩
  | .map b,_,h,hv=>by obtain ⟨p,hp,e⟩:=hv;exact ⟨p,(h b (by simp[AV.refs])).symm.trans hp,e⟩
  | .func _ a c,_,h,hv=>by
    obtain ⟨a',c',e,h1,h2⟩:=hv
    exact ⟨a',c',e,VRs.back (fun b hb=>h b (by simp[AV.refs,hb])) h1,VRs.back (fun b hb=>h b (by simp[AV.refs,hb])) h2⟩
  | .iface _ x,_,h,hv=>by obtain ⟨x',e,h1⟩:=hv;exact ⟨x',e,VR.back (a:=x) (fun b hb=>h b (by simpa[AV.refs] using hb)) h1⟩
  | .agg cs,_,h,hv=>by obtain ⟨c',e,h1⟩:=hv;exact ⟨c',e,VRs.back (as:=cs) (fun b hb=>h b (by simpa[AV.refs] using hb)) h1⟩
  | .tuple cs,_,h,hv=>by obtain ⟨c',e,h1⟩:=hv;exact ⟨c',e,VRs.back (as:=cs) (fun b hb=>h b (by simpa[AV.refs] using hb)) h1⟩
  | .yield b,_,h,hv=>by obtain ⟨p,hp,e⟩:=hv;exact ⟨p,(h b (by simp[AV.refs])).symm.trans hp,e⟩
theorem VRs.back {ρ ρ':Rho}: ∀ {as:List AV} {vs:List Value},(∀ b∈refsL as,ρ' b=ρ b)→VRs ρ' as vs→VRs ρ as vs
  | [],_,_,hv=>by simpa[VRs] using hv
  | _::_,_,h,hv=>by
    obtain ⟨v,vs,e,h1,h2⟩:=hv
    exact ⟨v,vs,e,VR.back (fun b hb=>h b (by simp[refsL,hb])) h1,VRs.back (fun b hb=>h b (by simp[refsL,hb])) h2⟩
end
theorem VR.old {ρ ρ':Rho} {a:AV} {v v':Value} (h:VR ρ a v) (hl:ρ.le ρ') (h':VR ρ' a v'):VR ρ a v':=
  VR.back (fun b hb=>let ⟨p,hp⟩:=VR.names h b hb;(hl b p hp).trans hp.symm) h'
theorem BRel.old {K:Kp} {ρ ρ':Rho} {w w':World} {p:Pl} {x:ABlk} (h:BRel K ρ w p x) (hl:ρ.le ρ') (h':BRel K ρ' w' p x):BRel K ρ w' p x:=by
  cases x with
  | row own esz es=>
    obtain ⟨_,_,_,_,arr0,el0,fr0,_,_,g6,_,_⟩:=h
    obtain ⟨h1,h2,h3,h4,arr,el,fr,hg,h5,h6,h7,h8⟩:=h'
    refine ⟨h1,h2,h3,h4,arr,el,fr,hg,h5,fun k a ha=> ?_,h7,h8⟩
    obtain ⟨v,hv,hr⟩:=h6 k a ha
    obtain ⟨v0,_,hr0⟩:=g6 k a ha
    exact ⟨v,hv,hr0.old hl hr⟩
  | map ents=>
    obtain ⟨_,es0,_,_,g2,g3⟩:=h
    obtain ⟨h1,es,clock,hg,h2,h3⟩:=h'
    refine ⟨h1,es,clock,hg,h2,fun i a e ha he=> ?_⟩
    obtain ⟨a1,a2⟩:=h3 i a e ha he
    have hi:i<es0.size:=by rw[←g2];exact (List.getElem?_eq_some_iff.1 ha).1
    obtain ⟨b1,b2⟩:=g3 i a es0[i] ha (Array.getElem?_eq_getElem hi)
    exact ⟨b1.old hl a1,b2.old hl a2⟩
  | loop l=>
    obtain ⟨_,r0,_,_,g3⟩:=h
    obtain ⟨h1,r,hg,h2,h3⟩:=h'
    exact ⟨h1,r,hg,h2,fun q=>(g3 q).old hl (h3 q)⟩
  |dfr=>exact h'
noncomputable def pureSum (S:FuncId→Bool) (F:FuncId→Option AFunc) (meth:Meth) (sm:Summ) (N:Nat):Summ:=fun f vs m=>
  if S f=true then
    open Classical in
    if h: ∃ v m',acall F meth sm N (.fn f) vs m=some (v,m')∧Keep m m'∧ ∀ b∈v.refs,b<m.blks.length then some (h.choose,m) else none
  else sm f vs m
section
variable {S:FuncId→Bool} {F:FuncId→Option AFunc} {meth:Meth} {sm:Summ} {N:Nat} {f:FuncId} {vs:List AV} {m:Mem} {v:AV}
theorem pureSum_skip (h:S f=false):pureSum S F meth sm N f vs m=sm f vs m:=by simp[pureSum,h]
theorem pureSum_some (hS:S f=true) {m':Mem} (h:acall F meth sm N (.fn f) vs m=some (v,m')) (hk:Keep m m') (hr: ∀ b∈v.refs,b<m.blks.length):pureSum S F meth sm N f vs m=some (v,m):=by
  have hx: ∃ v m',acall F meth sm N (.fn f) vs m=some (v,m')∧Keep m m'∧ ∀ b∈v.refs,b<m.blks.length:=⟨v,m',h,hk,hr⟩
  rw[pureSum,if_pos hS,dif_pos hx]
  obtain ⟨m2,h1,_⟩:=hx.choose_spec
  have e:v=hx.choose:=congrArg (fun r=>r.1) (Option.some.inj (h.symm.trans h1))
  exact congrArg (fun x=>some (x,m)) e.symm
theorem pureSum_inv {m2:Mem} (hS:S f=true) (h:pureSum S F meth sm N f vs m=some (v,m2)):m2=m∧ ∃ m',acall F meth sm N (.fn f) vs m=some (v,m')∧Keep m m'∧ ∀ b∈v.refs,b<m.blks.length:=by
  rw[pureSum,if_pos hS] at h
  split at h
  · rename_i hx
    have e:=Option.some.inj h
    simp only[Prod.mk.injEq] at e
    exact ⟨e.2.symm,by rw[←e.1];exact hx.choose_spec⟩
  · cases h
end
theorem Rel.forget {K:Kp} {w0 w w':World} {ρ ρ':Rho} {h h':Blks} (R:Rel K w0 ρ h w) (R':Rel K w0 ρ' h' w') (hl:ρ.le ρ') (hk: ∀ b,b<h.length→bget h' b=bget h b):Rel K w0 ρ h w' where
  below:=R'.below
  dom:=R.dom
  blk:=fun b x hx=>by
    obtain ⟨p,hp,hB⟩:=R.blk b x hx
    obtain ⟨p',hp',hB'⟩:=R'.blk b x ((hk b (bget_lt hx)).trans hx)
    have e:p'=p:=Option.some.inj (hp'.symm.trans (hl _ _ hp))
    subst e
    exact ⟨p',hp,hB.old hl hB'⟩
  sep:=fun b c x y p q hx hy hp hq ho hne=>R'.sep b c x y p q ((hk b (bget_lt hx)).trans hx) ((hk c (bget_lt hy)).trans hy) (hl _ _ hp) (hl _ _ hq) ho hne
theorem SumOK.pure {P:Program} {glob:Nat→Option AV} {F:FuncId→Option AFunc} {sm:Summ} {S:FuncId→Bool} {N:Nat} (hs:SumOK P glob sm) (hF:FOK P glob F) (hmix:P.follows .mixedOrders=true):SumOK P glob (pureSum S F (cmeth P) sm N):=by
  refine ⟨fun c vs m v m' h=> ?_,fun c vs m v m' h=> ?_,fun K w0 w ρ m m' c vs vs' v hL h R hg hvs hy=> ?_⟩
  · cases c with
    |yield l=>cases h
    | fn f=>
      cases hS:S f with
      |true=>exact congrArg Mem.dfrs (pureSum_inv hS h).1
      |false=>exact hs.dfrs (.fn f) vs m v m' ((pureSum_skip hS).symm.trans h)
  · cases c with
    |yield l=>cases h
    | fn f=>
      cases hS:S f with
      |true=>rw[(pureSum_inv hS h).1];exact Trk.refl m
      |false=>exact hs.trk (.fn f) vs m v m' ((pureSum_skip hS).symm.trans h)
  · cases c with
    |yield l=>cases h
    | fn f=>
      cases hS:S f with
      |false=>exact hs.ok K w0 w ρ m m' (.fn f) vs vs' v hL ((pureSum_skip hS).symm.trans h) R hg hvs hy
      | true=>
        obtain ⟨rfl,m1,h1,hk,hr⟩:=pureSum_inv hS h
        have hOK: ∀ (g:Goroutine) (w:World),(fun _ _=>True:Goroutine→World→Prop) g w:=fun _ _=>trivial
        have ih:=acall_sound (main:=true) hs.dfrs hs.trk hs.ok hOK hF hmix N
        obtain ⟨nx,fr0,q1,q2,q3⟩:=ih K w0 w ρ _ m1 (.fn f) vs vs' v hL h1 R hg hvs hy
        refine ⟨nx,fr0,q1,q2,fun fr cs=>(q3 fr cs).mono fun g w' he=> ?_⟩
        obtain ⟨v',ρ',e1,e2,e3,e4,e5,_⟩:=he
        exact ⟨v',ρ,e1,VR.back (fun b hb=>e5 b (hr b hb)) e2,R.forget e3 e4 hk.get,Rho.le_refl _,fun _ _=>rfl,Nat.le_refl _,fun _ h=>h⟩
def nb (h:Blks) (k:Nat):Nat:=h.length+k
def bnth:List (Option ABlk)→Nat→Option ABlk
  | [],_=>none
  |x::_,0=>x
  |_::l,k+1=>bnth l k
def bset:List (Option ABlk)→Nat→Option ABlk→List (Option ABlk)
  | [],_,_=> []
  |_::l,0,x=>x::l
  |y::l,k+1,x=>y::bset l k x
theorem bnth_eq: ∀ (l:List (Option ABlk)) (k:Nat),bnth l k=(l[k]?).join
  | [],_=>rfl
  |x::l,0=>by simp[bnth]
  |x::l,k+1=>by simp[bnth,bnth_eq l k]
theorem bset_eq: ∀ (l:List (Option ABlk)) (k:Nat) (x:Option ABlk),bset l k x=l.set k x
  | [],_,_=>by simp[bset]
  |_::l,0,_=>rfl
  |y::l,k+1,x=>by simp[bset,bset_eq l k x]
def blen:List (Option ABlk)→Nat
  | []=>0
  |_::l=>blen l+1
theorem blen_eq: ∀ l:List (Option ABlk),blen l=l.length
  | []=>rfl
  |_::l=>by simp[blen,blen_eq l]
def bsnoc:List (Option ABlk)→Option ABlk→List (Option ABlk)
  | [],x=> [x]
  |y::l,x=>y::bsnoc l x
theorem bsnoc_eq: ∀ (l:List (Option ABlk)) (x:Option ABlk),bsnoc l x=l++ [x]
  | [],_=>rfl
  |y::l,x=>by simp[bsnoc,bsnoc_eq l x]
section
variable {h:Blks} {l:List (Option ABlk)} {k j b:Nat} {x:Option ABlk}
theorem nb_len:(bxt h l).length=nb h (blen l):=by rw[bxt_len,nb,blen_eq]
theorem nb_get:bget (bxt h l) (nb h k)=bnth l k:=by rw[nb,bxt_get,bnth_eq]
theorem nb_old (hb:b<h.length):bget (bxt h l) b=bget h b:=bxt_old l h b hb
theorem nb_push0 (hk:k=blen l):bput (bxt h l) (nb h k) x=bxt h (bsnoc l x):=by rw[hk,nb,blen_eq,bxt_push,bsnoc_eq]
def bputl:List (Option ABlk)→Nat→Option ABlk→List (Option ABlk)
  | [],_,x=> [x]
  |_::l,0,x=>x::l
  |y::l,k+1,x=>y::bputl l k x
def bin:List (Option ABlk)→Nat→Bool
  | [],0=>true
  | [],_+1=>false
  |_::_,0=>true
  |_::l,k+1=>bin l k
theorem bin_le: ∀ (l:List (Option ABlk)) (k:Nat),bin l k=true→k≤l.length
  | [],0,_=>Nat.le_refl _
  | [],k+1,h=>by simp[bin] at h
  |_::_,0,_=>by simp
  |_::l,k+1,h=>by have:=bin_le l k h;simp;omega
theorem bputl_push: ∀ (l:List (Option ABlk)) (x:Option ABlk),bputl l l.length x=l++ [x]
  | [],_=>rfl
  |y::l,x=>by simp[bputl,bputl_push l x]
theorem bputl_set: ∀ (l:List (Option ABlk)) (k:Nat) (x:Option ABlk),k<l.length→bputl l k x=l.set k x
  | [],k,_,h=>by simp at h
  |_::_,0,_,_=>rfl
  |y::l,k+1,x,h=>by simp[bputl,bputl_set l k x (by simpa using h)]
theorem bin_a:bin [] 0=true:=by decide
theorem bin_b (x:Option ABlk) (l:List (Option ABlk)):bin (x::l) 0=true:=by cases l <;>simp[bin]
theorem bin_c (x:Option ABlk) (l:List (Option ABlk)) (k:Nat):bin (x::l) (k+1)=bin l k:=by cases l <;>simp[bin]
theorem nb_put (hk:bin l k=true):bput (bxt h l) (nb h k) x=bxt h (bputl l k x):=by
  have hle:=bin_le l k hk
  rcases Nat.lt_or_ge k l.length with h1 |h1
  · rw[nb,bxt_set l h k x h1,bputl_set l k x h1]
  · have:k=l.length:=by omega
    subst this
    rw[nb,bxt_push,bputl_push]
theorem nb_set (hk:k<blen l):bput (bxt h l) (nb h k) x=bxt h (bset l k x):=by rw[blen_eq] at hk;rw[nb,bxt_set l h k x hk,bset_eq]
theorem nb_add:nb h k+j=nb h (k+j):=by simp[nb];omega
theorem nb_inj:(nb h k=nb h j)=(k=j):=by simp[nb]
theorem nb_beq:Nat.beq (nb h k) (nb h j)=decide (k=j):=by
  rw[Bool.eq_iff_iff,Nat.beq_eq];simp[nb]
theorem nb_blt:Nat.blt (nb h k) (nb h j)=decide (k<j):=by
  rw[Bool.eq_iff_iff,Nat.blt_eq];simp[nb]
theorem nb_ne (hb:b<h.length):(b=nb h k)=False:=by simp[nb];omega
theorem nb_ne' (hb:b<h.length):(nb h k=b)=False:=by simp[nb];omega
theorem nb_beq_ne (hb:b<h.length):Nat.beq b (nb h k)=false:=by
  cases hq:Nat.beq b (nb h k)
  · rfl
  · have:=Nat.eq_of_beq_eq_true hq;simp[nb] at this;omega
theorem nb_beq_ne' (hb:b<h.length):Nat.beq (nb h k) b=false:=by
  cases hq:Nat.beq (nb h k) b
  · rfl
  · have:=Nat.eq_of_beq_eq_true hq;simp[nb] at this;omega
theorem nb_more: ∀ (n:Nat) (l:List (Option ABlk)),bmore (bxt h l) n=bxt h (l++List.replicate n none)
  |0,l=>by simp[bmore]
  | n+1,l=>by
    rw[bmore,show (bxt h l).length=nb h (blen l) from nb_len,nb_push0 rfl,nb_more n,bsnoc_eq,List.append_assoc]
    rfl
theorem nb_ge:h.length≤nb h k:=by simp[nb]
end
def Ev (F:FuncId→Option AFunc) (meth:Meth) (sm:Summ) (n:Nat) (f:FuncId) (vs:List AV) (m:Mem) (v:AV):Prop:= ∃ m',acall F meth sm n (.fn f) vs m=some (v,m')∧Keep m m'
theorem Ev.mk {F:FuncId→Option AFunc} {meth:Meth} {sm:Summ} {n:Nat} {f:FuncId} {vs:List AV} {h:Blks} {lg d:List Nat} {v:AV} {l:List (Option ABlk)} {k:List Nat}
    (e:acall F meth sm n (.fn f) vs ⟨h,lg,d⟩=some (v,⟨bxt h l,k++lg,d⟩)) (hk: ∀ b∈k,h.length≤b):Ev F meth sm n f vs ⟨h,lg,d⟩ v:=⟨_,e,keep_bxt ⟨k,rfl,hk⟩⟩
theorem Ev.pure {S:FuncId→Bool} {F:FuncId→Option AFunc} {meth:Meth} {sm:Summ} {n:Nat} {f:FuncId} {vs:List AV} {m:Mem} {v:AV} (h:Ev F meth sm n f vs m v) (hS:S f=true) (hr: ∀ b∈v.refs,b<m.blks.length):pureSum S F meth sm n f vs m=some (v,m):=by
  obtain ⟨m',e,k⟩:=h
  exact pureSum_some hS e k hr
inductive LogOK (h:Blks) (lg:List Nat):List Nat→Prop
  |nil:LogOK h lg lg
  |cons {k:Nat} {l:List Nat}:LogOK h lg l→LogOK h lg (nb h k::l)
theorem LogOK.ok {h:Blks} {lg lg':List Nat} (x:LogOK h lg lg'): ∃ k,lg'=k++lg∧ ∀ b∈k,h.length≤b:=by
  induction x with
  |nil=>exact ⟨[],rfl,fun b hb=>by cases hb⟩
  | @cons k l _ ih=>
    obtain ⟨q,e,hq⟩:=ih
    refine ⟨nb h k::q,by rw[e];rfl,fun b hb=> ?_⟩
    rcases List.mem_cons.1 hb with rfl |hb
    · exact nb_ge
    · exact hq b hb
theorem keep_bx {h:Blks} {l:List (Option ABlk)} {lg lg' d:List Nat} (hl:LogOK h lg lg'):Keep ⟨h,lg,d⟩ ⟨bxt h l,lg',d⟩:=keep_bxt hl.ok
theorem Ev.of {F:FuncId→Option AFunc} {meth:Meth} {sm:Summ} {n:Nat} {f:FuncId} {vs:List AV} {h:Blks} {lg d:List Nat} {v:AV}
    (e: ∃ m',acall F meth sm n (.fn f) vs ⟨bxt h [],lg,d⟩=some (v,m')∧Keep ⟨h,lg,d⟩ m'):Ev F meth sm n f vs ⟨h,lg,d⟩ v:=e
theorem wrapI {x:Int} (h0: -9223372036854775808≤x) (h1:x≤9223372036854775807):IntKind.i64.wrap x=x:=IntWalk.i64_in x (by omega)
theorem wrapU {x:Int} (h0:0≤x) (h1:x≤18446744073709551615):IntKind.u64.wrap x=x:=by
  simp only[IntKind.wrap,IntKind.bits,IntKind.signed]
  simp
  omega
theorem tg_ze:tget .z .e= .undef:=rfl
theorem tg_zn (v:AV) (l r:Tr):tget .z (.n v l r)=v:=rfl
theorem tg_le (p:Pth):tget (.l p) .e= .undef:=rfl
theorem tg_ln (p:Pth) (v:AV) (l r:Tr):tget (.l p) (.n v l r)=tget p l:=rfl
theorem tg_re (p:Pth):tget (.r p) .e= .undef:=rfl
theorem tg_rn (p:Pth) (v:AV) (l r:Tr):tget (.r p) (.n v l r)=tget p r:=rfl
theorem ts_ze (x:AV):tset x .z .e= .n x .e .e:=rfl
theorem ts_zn (x v:AV) (l r:Tr):tset x .z (.n v l r)= .n x l r:=rfl
theorem ts_le (x:AV) (p:Pth):tset x (.l p) .e= .n .undef (tset x p .e) .e:=rfl
theorem ts_ln (x:AV) (p:Pth) (v:AV) (l r:Tr):tset x (.l p) (.n v l r)= .n v (tset x p l) r:=rfl
theorem ts_re (x:AV) (p:Pth):tset x (.r p) .e= .n .undef .e (tset x p .e):=rfl
theorem ts_rn (x:AV) (p:Pth) (v:AV) (l r:Tr):tset x (.r p) (.n v l r)= .n v l (tset x p r):=rfl
theorem sc_bool (b:Bool):AV.scalar (.bool b)=true:=rfl
theorem sc_int (k:IntKind) (n:Int):AV.scalar (.int k n)=true:=rfl
theorem sc_str (s:List UInt8):AV.scalar (.str s)=true:=rfl
theorem sc_nilptr:AV.scalar .nilptr=true:=rfl
theorem sc_ptr (b i o:Nat):AV.scalar (.ptr b i o)=true:=rfl
theorem sc_nilslice:AV.scalar .nilslice=true:=rfl
theorem sc_slice0:AV.scalar .slice0=true:=rfl
theorem sc_slice (b i n:Nat) (c:Option Nat):AV.scalar (.slice b i n c)=true:=rfl
theorem sc_nilmap:AV.scalar .nilmap=true:=rfl
theorem sc_map (b:Nat):AV.scalar (.map b)=true:=rfl
theorem sc_nilFunc:AV.scalar .nilFunc=true:=rfl
theorem sc_func (f:FuncId) (a c:List AV):AV.scalar (.func f a c)=true:=rfl
theorem sc_nilIface:AV.scalar .nilIface=true:=rfl
theorem sc_iface (t:TypeId) (v:AV):AV.scalar (.iface t v)=true:=rfl
theorem sc_yield (l:Nat):AV.scalar (.yield l)=true:=rfl
theorem aloop_inv {body:Tr→Mem→Option (AExit × Tr × Mem)} {I:Nat→Tr→Mem→Prop} {Q:AExit→Tr→Mem→Prop} (N:Nat)
    (step: ∀ i T m,i<N→I i T m→ ∃ e T' m',body T m=some (e,T',m')∧((e= .normal∧I (i+1) T' m')∨(e≠ .normal∧Q e T' m')))
    (last: ∀ T m,I N T m→ ∃ e T' m',body T m=some (e,T',m')∧e≠ .normal∧Q e T' m'):
    ∀ (r i f:Nat) (T:Tr) (m:Mem),i+r=N→r<f→I i T m→ ∃ e T' m',aloop body f T m=some (e,T',m')∧e≠ .normal∧Q e T' m':=by
  intro r
  induction r with
  | zero=>
    intro i f T m hi hf hI
    obtain ⟨f,rfl⟩: ∃ f',f=f'+1:=⟨f - 1,by omega⟩
    have:i=N:=by omega
    subst this
    obtain ⟨e,T',m',h1,h2,h3⟩:=last T m hI
    refine ⟨e,T',m',?_,h2,h3⟩
    cases e <;>simp only[aloop,h1]
    exact absurd rfl h2
  | succ r ih=>
    intro i f T m hi hf hI
    obtain ⟨f,rfl⟩: ∃ f',f=f'+1:=⟨f - 1,by omega⟩
    obtain ⟨e,T',m',h1,h2⟩:=step i T m (by omega) hI
    rcases h2 with ⟨rfl,h2⟩|⟨h2,h3⟩
    · obtain ⟨e2,T2,m2,g1,g2,g3⟩:=ih (i+1) f T' m' (by omega) (by omega) h2
      refine ⟨e2,T2,m2,?_,g2,g3⟩
      simp only[aloop,h1,g1]
    · refine ⟨e,T',m',?_,h2,h3⟩
      cases e <;>simp only[aloop,h1]
      exact absurd rfl h2
abbrev WCall:=ACallee→List AV→Mem→(AV→Mem→Prop)→Prop
def alen (get:Nat→Option ABlk) (k:LK) (v:AV):Option (AV × List Chg):=aprim get 0 .e (.len k (.c v))
def aidx (get:Nat→Option ABlk) (e:Nat) (v i:AV):Option (AV × List Chg):=aprim get 0 .e (.idxS e (.c v) (.c i))
def ald (get:Nat→Option ABlk) (a:Bool) (n:Nat) (v:AV):Option (AV × List Chg):=aprim get 0 .e (.load a n (.c v))
def aprimW (get:Nat→Option ABlk) (nid:Nat) (T:Tr) (op:AOp):Option (AV × List Chg):=
  match op with
  | .len k x=>alen get k (aev T x)
  | .idxS e x i=>aidx get e (aev T x) (aev T i)
  | .load a n x=>ald get a n (aev T x)
  |op=>aprim get nid T op
theorem aprimW_eq (get:Nat→Option ABlk) (nid:Nat) (T:Tr) (op:AOp):aprimW get nid T op=aprim get nid T op:=by
  cases op <;>rfl
def AOp.still:AOp→Bool
  | .alloc .. | .box .. | .slit .. | .store .. | .app .. | .copy .. | .mkslice .. | .mkmap | .mapset .. | .bad | .appz .. =>false
  | .conv k _=>match k with
    | .s2b _=>false
    |_=>true
  |_=>true
def AOp.kind:AOp→Bool
  | .call .. | .callv .. | .invoke .. =>true
  |_=>false
theorem AOp.kind_eq (op:AOp):op.isCall=op.kind:=by cases op <;>rfl
def subL:List Nat→List Nat→Bool
  | [],_=>true
  |x::xs,l=>ins l x && subL xs l
def stillR:Nat→List Nat→List AOper→Bool
  |_,_,[]=>true
  |i,mk,o::os=>o.slot.isNone && o.op.still && (!o.op.isCall ||subL mk o.after) && stillR (i+1) (if o.op.isCall then i::mk else mk) os
def Wo (wc:WCall) (meth:Meth) (pu:Bool):List AOper→Tr→Mem→(Tr→Mem→Prop)→Prop
  | [],T,m,K=>K T m
  | o ::os,T,m,K=>
    let skip:Tr→Prop:=fun T=>Wo wc meth pu os (aput T o.dst .undef) m K
    let run:Tr→Prop:=fun T=>match o.op.isCall with
      | true=>match acallee (bget m.blks) meth T o.op with
        | some (c,vs)=>match pu with
          |true=>wc c vs ⟨m.blks,[],[]⟩ fun v m'=>m'=⟨m.blks,[],[]⟩∧Wo wc meth pu os (aput T o.dst v) m K
          |false=>wc c vs m fun v m'=>Wo wc meth pu os (aput T o.dst v) m' K
        |none=>False
      | false=>match aprimW (bget m.blks) m.blks.length T o.op with
        | some (v,cs)=>match pu,cs with
          |true,[]=>Wo wc meth pu os (aput T o.dst v) m K
          |true,_::_=>False
          |false,cs=>Wo wc meth pu os (aput T o.dst v) (m.applyAll cs) K
        |none=>False
    match o.guard with
    |none=>run T
    | some (t,w)=>match tget t T with
      | .bool b=>(b=true→cond w (run (tset (.bool true) t T)) (skip (tset (.bool true) t T)))∧(b=false→cond w (skip (tset (.bool false) t T)) (run (tset (.bool false) t T)))
      | .undef=>skip T
      |_=>False
def Ro (full:Bool) (rd msk:List Nat) (h:Blks) (nid:Nat) (T:Tr) (op:AOp):Option (AV × List Chg):=
  match full with
  |true=>aprimW (bget h) nid T op
  |false=>aprimW (fun b=>cond (ins rd b && !ins msk b) (bget h b) none) nid T op
def Wr (wc:WCall) (meth:Meth) (base:Nat):Nat→List AOper→List ARec→Tr→Mem→(Tr→Mem→Prop)→Prop
  |_,[],_,T,m,K=>K T m
  | i, o :: os,recs,T,m,K=>
    let skip:Tr→Prop:=fun T=>Wr wc meth base (i+1) os recs (aput T o.dst .undef) m K
    let run :Tr→Prop:=fun T=>
      let free:=recs.filter fun r=> !ins o.after r.idx
      let msk:=free.flatMap (·.wr)
      match o.op.isCall with
      | true=>match acallee (bget (mask m.blks msk)) meth T o.op with
        |some (c,vs)=>wc c vs ⟨mask m.blks msk,[],[]⟩ fun v m2=>clash m2.log true free=false∧
            Wr wc meth base (i+1) os (⟨i,m2.log,fun b=>(bget (mask m.blks msk) b).isSome,true⟩::recs) (aput T o.dst v) ⟨(unmask m2 m.blks msk).blks,m2.log++m.log,m.dfrs⟩ K
        |none=>False
      | false=>
        let get:=fun b=>cond (ins (o.op.reads T) b && !ins msk b) (bget m.blks b) none
        match Ro (o.op.still && msk.isEmpty) (o.op.reads T) msk m.blks (nidOf base m.blks.length o.slot) T o.op with
        |some (v,cs)=>(!slotIn base m.blks.length o.slot ||clash (cs.map (·.id)) o.op.isMaker free)=false∧
            Wr wc meth base (i+1) os (⟨i,cs.map (·.id),fun b=>(get b).isSome,o.op.isMaker⟩::recs) (aput T o.dst v) (m.applyAll cs) K
        |none=>False
    match o.guard with
    |none=>run T
    | some (t,w)=>match tget t T with
      | .bool b=>(b=true→cond w (run (tset (.bool true) t T)) (skip (tset (.bool true) t T)))∧(b=false→cond w (skip (tset (.bool false) t T)) (run (tset (.bool false) t T)))
      | .undef=>skip T
      |_=>False
def Ks (r:Tr→Mem→Prop) (K:AExit→Tr→Mem→Prop):AExit→Tr→Mem→Prop
  | .normal,T,m=>r T m
  |e,T,m=>K e T m
def Kb (id:Nat) (K:AExit→Tr→Mem→Prop):AExit→Tr→Mem→Prop
  | .exit j,T,m=>cond (Nat.beq j id) (K .normal T m) (K (.exit j) T m)
  |e,T,m=>K e T m
def Wc (call:CallF) (wc:WCall) (meth:Meth) (fu:Nat):ACode→Tr→Mem→(AExit→Tr→Mem→Prop)→Prop
  | .skip,T,m,K=>K .normal T m
  | .bad,_,_,_=>False
  | .region d ns ops,T,m,K=>
    match d with
    |false=>Wo wc meth false ops T m (K .normal)
    | true=>match Nat.beq ns 0 && stillR 0 [] ops with
      |true=>Wo wc meth true ops T m (K .normal)
      |false=>Wr wc meth m.blks.length 0 ops [] T (m.more ns) (K .normal)
  | .seq a b,T,m,K=>Wc call wc meth fu a T m (Ks (fun T m=>Wc call wc meth fu b T m K) K)
  | .cond c a b,T,m,K=>match aev T c with
    | .bool true=>Wc call wc meth fu a T m K
    | .bool false=>Wc call wc meth fu b T m K
    |_=>False
  | .block id c,T,m,K=>Wc call wc meth fu c T m (Kb id K)
  | .loop c,T,m,K=> ∃ (N:Nat) (I:Nat→Tr→Mem→Prop),N<fu∧I 0 T m∧
      (∀ i T m,i<N→I i T m→Wc call wc meth fu c T m (Ks (I (i+1)) K))∧(∀ T m,I N T m→Wc call wc meth fu c T m (Ks (fun _ _=>False) K))
  | .exit id,T,m,K=>K (.exit id) T m
  | .ret,T,m,K=>K .ret T m
  | .rangeFunc f ps a b,T,m,K=> ∀ T1,(∀ p,tget p T=tget p T1)→ ∃ e m',acode call meth fu false (.rangeFunc f ps a b) T1 m=some (e,T1,m')∧K e T m'
def Kr (rs:List ARes) (d:List Nat) (Q:AV→Mem→Prop):AExit→Tr→Mem→Prop:=fun e T m'=>
  match e with
  | .exit _=>False
  | _=>match ares (bget (m'.killAll m'.dfrs).blks) T rs with
    |some v=>Q v {m'.killAll m'.dfrs with dfrs:=d}
    |none=>False
def Wa (F:FuncId→Option AFunc) (meth:Meth) (sm:Summ):Nat→WCall
  |0,_,_,_,_=>False
  |n+1,.yield l,vs,m,Q=> ∃ v m',acall F meth sm (n+1) (.yield l) vs m=some (v,m')∧Q v m'
  | n +1,.fn f,vs,m,Q=>
    match sm f vs m with
    |some (v,m')=>Q v m'
    | none=>match F f with
      |none=>False
      |some fn=>Nat.ble vs.length fn.ntmps=true∧Wc (acall F meth sm n) (Wa F meth sm n) meth n fn.body (tputs vs .z .e) {m with dfrs:=[]} (Kr fn.results m.dfrs Q)
section
variable {call:CallF} {wc:WCall} {meth:Meth}
theorem elems_same {get get':Nat→Option ABlk} {e:Nat} {x:AV} (hg: ∀ b∈x.top,get' b=get b):elemsOf get' e x=elemsOf get e x:=by
  unfold elemsOf
  split <;>first |rfl |(rename_i b _ _ _ _;rw[hg b (by simp[AV.top])])
theorem slice_same {get get':Nat→Option ABlk} {e:Nat} {x:AV} {a b c:Option AV} (hg: ∀ b∈x.top,get' b=get b):aslice get' e x a b c=aslice get e x a b c:=by
  cases x <;>simp only[aslice] <;>try rfl
  rename_i b _ _ _
  rw[hg b (by simp[AV.top])]
theorem sliceA_same {get get':Nat→Option ABlk} {e n:Nat} {x:AV} {a b c:Option AV} (hg: ∀ b∈x.top,get' b=get b):asliceA get' e n x a b c=asliceA get e n x a b c:=by
  cases x <;>simp only[asliceA] <;>try rfl
  rename_i b _ _
  rw[hg b (by simp[AV.top])]
theorem still_same {get get':Nat→Option ABlk} {n n':Nat} {T:Tr} {op:AOp} (hs:op.still=true) (hg: ∀ b∈op.reads T,get' b=get b):aprim get' n' T op=aprim get n T op:=by
  cases op <;>simp only[AOp.still,Bool.false_eq_true] at hs <;>simp only[AOp.reads,AOpnd.top] at hg <;>simp only[aprim] <;>try rfl
  case load a k x=>
    cases hx:aev T x <;>rw[hx] at hg <;>try rfl
    rename_i b _ _
    simp only[hg b (by simp[AV.top])]
  case conv k x=>
    cases k <;>simp only[Bool.false_eq_true] at hs <;>cases hx:aev T x <;>rw[hx] at hg <;>first |rfl |simp only[elems_same hg]
  case idxS e x i=>
    cases hx:aev T x <;>rw[hx] at hg <;>try rfl
    rename_i b _ _ _
    cases aev T i <;>try rfl
    simp only[hg b (by simp[AV.top])]
  case idxA e l x i=>
    cases hx:aev T x <;>rw[hx] at hg <;>try rfl
    rename_i b _ _
    cases aev T i <;>try rfl
    simp only[hg b (by simp[AV.top])]
  case sliceS e x lo hi mx=>rw[slice_same hg]
  case sliceA e l x lo hi mx=>rw[sliceA_same hg]
  case len k x=>
    cases k <;>cases hx:aev T x <;>rw[hx] at hg <;>try rfl
    rename_i b
    simp only[hg b (by simp[AV.top])]
  case look a sh z ok m k=>
    cases hx:aev T m <;>rw[hx] at hg <;>try rfl
    rename_i b
    simp only[hg b (by simp[AV.top])]
theorem still_none {get:Nat→Option ABlk} {n:Nat} {T:Tr} {op:AOp} {v:AV} {cs:List Chg} (hs:op.still=true) (h:aprim get n T op=some (v,cs)):cs=[]:=by
  have hm: ∀ x:Option AV,x.map (·,([]:List Chg))=some (v,cs)→cs=[]:=fun x hx=>by
    cases x <;>simp at hx
    exact hx.2
  cases op <;>simp only[AOp.still,Bool.false_eq_true] at hs <;>simp only[aprim] at h
  case bin=>exact hm _ h
  case un=>exact hm _ h
  case sliceS=>exact hm _ h
  case sliceA=>exact hm _ h
  case eql=>
    rw[Option.map_eq_some_iff] at h
    obtain ⟨_,_,e⟩:=h
    cases e;rfl
  case conv k x=>
    cases k <;>simp only[Bool.false_eq_true] at hs <;>repeat' split at h
    all_goals first |(cases h;done)|(cases h;rfl)|(rename_i h1 _ _;cases h1;done)|(rename_i h1 _;cases h1;done)|skip
    all_goals
      rw[Option.map_eq_some_iff] at h
      obtain ⟨_,_,e⟩:=h
      cases e;rfl
  case minmax m xs=>
    split at h
    · exact hm _ h
    · cases h
  all_goals
    repeat' split at h
    all_goals first |(cases h;done)|(cases h;rfl)|skip
theorem ins_iff: ∀ (l:List Nat) (k:Nat),ins l k=true↔k∈l
  | [],k=>by simp[ins]
  | x :: l, k => by
    rw[ins]
    cases h:Nat.beq x k with
    |true=>simp[Nat.eq_of_beq_eq_true h]
    | false => simp only[cond_false,ins_iff l k,List.mem_cons];constructor
               · exact .inr
               · rintro (rfl |h')
                 · simp at h
                 · exact h'
theorem subL_iff: ∀ (a l:List Nat),subL a l=true↔ ∀ x∈a,x∈l
  | [],l=>by simp[subL]
  |x::a,l=>by simp[subL,subL_iff a l,ins_iff]
def Quiet (mk:List Nat) (recs:List ARec):Prop:= ∀ r∈recs,r.wr=[]∧(r.maker=true→r.idx∈mk)
theorem clash_quiet {mk:Bool}: ∀ {recs:List ARec},(∀ r∈recs,r.wr=[]∧(mk=true→r.maker=false))→clash [] mk recs=false
  | [],_=>rfl
  | r::rs,h=>by
    rw[clash,clash_quiet (fun x hx=>h x (List.mem_cons_of_mem _ hx))]
    have:=h r (by simp)
    cases mk <;>simp_all
theorem masks_quiet {recs:List ARec} (h: ∀ r∈recs,r.wr=[]) (p:ARec→Bool):(recs.filter p).flatMap (·.wr)=[]:=by
  rw[List.flatMap_eq_nil_iff]
  exact fun r hr=>h r (List.mem_filter.1 hr).1
theorem tset_self {b:AV} (hb:b≠ .undef): ∀ (p:Pth) (T:Tr),tget p T=b→tset b p T=T
  | .z,.e,h=>absurd h.symm hb
  | .z,.n v l r,h=>by cases h;rfl
  | .l p,.e,h=>absurd h.symm hb
  | .l p,.n v l r,h=>by show Tr.n v (tset b p l) r=_;rw[tset_self hb p l h]
  | .r p,.e,h=>absurd h.symm hb
  | .r p,.n v l r,h=>by show Tr.n v l (tset b p r)=_;rw[tset_self hb p r h]
def Wrun (wc:WCall) (meth:Meth) (pu:Bool) (o:AOper) (os:List AOper) (m:Mem) (K:Tr→Mem→Prop) (T:Tr):Prop:=
  match o.op.isCall with
  | true=>match acallee (bget m.blks) meth T o.op with
    | some (c,vs)=>match pu with
      |true=>wc c vs ⟨m.blks,[],[]⟩ fun v m'=>m'=⟨m.blks,[],[]⟩∧Wo wc meth pu os (aput T o.dst v) m K
      |false=>wc c vs m fun v m'=>Wo wc meth pu os (aput T o.dst v) m' K
    |none=>False
  | false=>match aprimW (bget m.blks) m.blks.length T o.op with
    | some (v,cs)=>match pu,cs with
      |true,[]=>Wo wc meth pu os (aput T o.dst v) m K
      |true,_::_=>False
      |false,cs=>Wo wc meth pu os (aput T o.dst v) (m.applyAll cs) K
    |none=>False
theorem Wo_guard {pu:Bool} {o:AOper} {os:List AOper} {T:Tr} {m:Mem} {K:Tr→Mem→Prop} (h:Wo wc meth pu (o::os) T m K):
    ∃ g,awanted T o.guard=some g∧(g=true→Wrun wc meth pu o os m K T)∧(g=false→Wo wc meth pu os (aput T o.dst .undef) m K):=by
  rw[Wo] at h
  cases hg:o.guard with
  | none=>
    rw[hg] at h
    exact ⟨true,rfl,fun _=>h,fun h=>by cases h⟩
  | some p=>
    obtain ⟨t,w⟩:=p
    rw[hg] at h
    simp only at h
    simp only[awanted]
    cases hx:tget t T with
    | bool b=>
      rw[hx] at h
      simp only at h ⊢
      refine ⟨_,rfl,?_⟩
      have ht:tset (.bool b) t T=T:=tset_self (by simp) t T hx
      cases b <;>cases w
      · have:=h.2 rfl;rw[ht] at this;exact ⟨fun _=>this,fun h=>by cases h⟩
      · have:=h.2 rfl;rw[ht] at this;exact ⟨fun h=>(by cases h),fun _=>this⟩
      · have:=h.1 rfl;rw[ht] at this;exact ⟨fun h=>(by cases h),fun _=>this⟩
      · have:=h.1 rfl;rw[ht] at this;exact ⟨fun _=>this,fun h=>by cases h⟩
    | undef=>
      rw[hx] at h
      exact ⟨false,rfl,fun h=>(by cases h),fun _=>h⟩
    |_=>rw[hx] at h;exact h.elim
theorem Wo_pure (hc: ∀ c vs m Q,wc c vs m Q→ ∃ v m',call c vs m=some (v,m')∧Q v m') (base:Nat): ∀ (ops:List AOper) (i:Nat) (mk:List Nat) (recs:List ARec) (T:Tr) (m:Mem) (K:Tr→Mem→Prop),
    stillR i mk ops=true→Quiet mk recs→Wo wc meth true ops T m K→ ∃ T',adraw call meth base i ops recs T m=some (T',m)∧K T' m
  | [],_,_,_,T,m,K,_,_,h=>⟨T,rfl,h⟩
  | o :: os, i, mk,recs,T,m,K,hs,hq,h=>by
    simp only[stillR,Bool.and_eq_true,Bool.or_eq_true,Bool.not_eq_true'] at hs
    obtain ⟨⟨⟨s0,s1⟩,s2⟩,s3⟩:=hs
    have s0:o.slot=none:=by simpa using s0
    have hmono:Quiet (if o.op.isCall=true then i::mk else mk) recs:=fun r hr=>⟨(hq r hr).1,fun hm=>by
      split
      · exact List.mem_cons_of_mem _ ((hq r hr).2 hm)
      · exact (hq r hr).2 hm⟩
    obtain ⟨g,hg,hg1,hg2⟩:=Wo_guard h
    rw[adraw,hg]
    cases g with
      |false=>exact Wo_pure hc base os (i+1) _ recs _ m K s3 hmono (hg2 rfl)
      | true=>
        have h:=hg1 rfl
        unfold Wrun at h
        simp only
        have hmsk:=masks_quiet (fun r hr=>(hq r hr).1) (fun r=> !ins o.after r.idx)
        cases hk:o.op.isCall with
        | true=>
          rw[hk] at h s2 s3
          simp only[Bool.true_eq_false,false_or,if_true] at h s2 s3
          rw[hmsk]
          simp only[cond_true,mask]
          cases ha:acallee (bget m.blks) meth T o.op with
          |none=>rw[ha] at h;exact h.elim
          | some p=>
            obtain ⟨c,vs⟩:=p
            rw[ha] at h
            simp only at h ⊢
            obtain ⟨v,m2,e1,e2,e3⟩:=hc _ _ _ _ h
            subst e2
            rw[e1]
            have hfree:clash [] true (recs.filter fun r=> !ins o.after r.idx)=false:=clash_quiet fun r hr=>by
              obtain ⟨hr1,hr2⟩:=List.mem_filter.1 hr
              refine ⟨(hq r hr1).1,fun _=> ?_⟩
              cases hmk:r.maker with
              |false=>rfl
              | true=>
                have h1:=(subL_iff _ _).1 s2 _ ((hq r hr1).2 hmk)
                rw[(ins_iff _ _).2 h1] at hr2
                cases hr2
            simp only[hfree,cond_false,unmask,List.nil_append]
            have:=Wo_pure hc base os (i+1) (i::mk) (⟨i,[],fun b=>(bget m.blks b).isSome,true⟩::recs) _ m K s3 (fun r hr=>by
              rcases List.mem_cons.1 hr with rfl |hr
              · exact ⟨rfl,fun _=>by simp⟩
              · exact ⟨(hq r hr).1,fun hm=>List.mem_cons_of_mem _ ((hq r hr).2 hm)⟩) e3
            exact this
        | false=>
          rw[hk] at h s3
          simp only[Bool.false_eq_true,if_false] at h s3
          rw[aprimW_eq] at h
          rw[hmsk]
          simp only[cond_false]
          cases hp:aprim (bget m.blks) m.blks.length T o.op with
          |none=>rw[hp] at h;exact h.elim
          | some p=>
            obtain ⟨v,cs⟩:=p
            obtain rfl:=still_none s1 hp
            rw[hp] at h
            simp only at h
            have hp2:aprim (fun b=>cond (ins (o.op.reads T) b && !ins [] b) (bget m.blks b) none) (nidOf base m.blks.length o.slot) T o.op=some (v,[]):=by
              rw[still_same (get:=bget m.blks) (n:=m.blks.length) s1 (fun b hb=>by rw[(ins_iff _ _).2 hb];simp[ins])]
              exact hp
            have hmkf:o.op.isMaker=false:=by
              cases ho:o.op <;>rw[ho] at hk s1 <;>simp[AOp.isCall,AOp.still] at hk s1 <;>rfl
            have hfree:clash [] false (recs.filter fun r=> !ins o.after r.idx)=false:=clash_quiet fun r hr=>⟨(hq r (List.mem_filter.1 hr).1).1,fun h=>by cases h⟩
            rw[hp2]
            simp only[List.map_nil,s0,slotIn,Bool.not_true,Bool.false_or,hmkf,hfree,cond_false,Mem.applyAll]
            exact Wo_pure hc base os (i+1) mk (⟨i,[],_,false⟩::recs) _ m K s3 (fun r hr=>by
              rcases List.mem_cons.1 hr with rfl |hr
              · exact ⟨rfl,fun h=>by cases h⟩
              · exact hq r hr) h
theorem Wo_true (hc: ∀ c vs m Q,wc c vs m Q→ ∃ v m',call c vs m=some (v,m')∧Q v m'): ∀ (ops:List AOper) (T:Tr) (m:Mem) (K:Tr→Mem→Prop),Wo wc meth false ops T m K→ ∃ T' m',aops call meth ops T m=some (T',m')∧K T' m'
  | [],T,m,K,h=>⟨T,m,rfl,h⟩
  | o ::os,T,m,K,h=>by
    obtain ⟨g,hg,hg1,hg2⟩:=Wo_guard h
    rw[aops,hg]
    cases g with
      |false=>exact Wo_true hc os _ m K (hg2 rfl)
      | true=>
        have h:=hg1 rfl
        unfold Wrun at h
        simp only
        cases hk:o.op.isCall with
        | true=>
          rw[hk] at h
          simp only[aoper,hk,cond_true] at h ⊢
          cases ha:acallee (bget m.blks) meth T o.op with
          |none=>rw[ha] at h;exact h.elim
          | some p=>
            obtain ⟨c,vs⟩:=p
            rw[ha] at h
            simp only at h ⊢
            obtain ⟨v,m2,e1,e2⟩:=hc _ _ _ _ h
            rw[e1]
            exact Wo_true hc os _ m2 K e2
        | false=>
          rw[hk,aprimW_eq] at h
          simp only[aoper,hk,cond_false] at h ⊢
          cases hp:aprim (bget m.blks) m.blks.length T o.op with
          |none=>rw[hp] at h;exact h.elim
          | some p=>
            obtain ⟨v,cs⟩:=p
            rw[hp] at h
            exact Wo_true hc os _ _ K h
def Wrr (wc:WCall) (meth:Meth) (base i:Nat) (o:AOper) (os:List AOper) (recs:List ARec) (m:Mem) (K:Tr→Mem→Prop) (T:Tr):Prop:=
  let free:=recs.filter fun r=> !ins o.after r.idx
  let msk:=free.flatMap (·.wr)
  match o.op.isCall with
  | true=>match acallee (bget (mask m.blks msk)) meth T o.op with
    |some (c,vs)=>wc c vs ⟨mask m.blks msk,[],[]⟩ fun v m2=>clash m2.log true free=false∧
        Wr wc meth base (i+1) os (⟨i,m2.log,fun b=>(bget (mask m.blks msk) b).isSome,true⟩::recs) (aput T o.dst v) ⟨(unmask m2 m.blks msk).blks,m2.log++m.log,m.dfrs⟩ K
    |none=>False
  | false=>
    let get:=fun b=>cond (ins (o.op.reads T) b && !ins msk b) (bget m.blks b) none
    match Ro (o.op.still && msk.isEmpty) (o.op.reads T) msk m.blks (nidOf base m.blks.length o.slot) T o.op with
    |some (v,cs)=>(!slotIn base m.blks.length o.slot ||clash (cs.map (·.id)) o.op.isMaker free)=false∧
        Wr wc meth base (i+1) os (⟨i,cs.map (·.id),fun b=>(get b).isSome,o.op.isMaker⟩::recs) (aput T o.dst v) (m.applyAll cs) K
    |none=>False
theorem Wr_guard {base i:Nat} {o:AOper} {os:List AOper} {recs:List ARec} {T:Tr} {m:Mem} {K:Tr→Mem→Prop} (h:Wr wc meth base i (o::os) recs T m K):
    ∃ g,awanted T o.guard=some g∧(g=true→Wrr wc meth base i o os recs m K T)∧(g=false→Wr wc meth base (i+1) os recs (aput T o.dst .undef) m K):=by
  rw[Wr] at h
  cases hg:o.guard with
  | none=>
    rw[hg] at h
    exact ⟨true,rfl,fun _=>h,fun h=>by cases h⟩
  | some p=>
    obtain ⟨t,w⟩:=p
    rw[hg] at h
    simp only at h
    simp only[awanted]
    cases hx:tget t T with
    | bool b=>
      rw[hx] at h
      simp only at h ⊢
      refine ⟨_,rfl,?_⟩
      have ht:tset (.bool b) t T=T:=tset_self (by simp) t T hx
      cases b <;>cases w
      · have:=h.2 rfl;rw[ht] at this;exact ⟨fun _=>this,fun h=>by cases h⟩
      · have:=h.2 rfl;rw[ht] at this;exact ⟨fun h=>(by cases h),fun _=>this⟩
      · have:=h.1 rfl;rw[ht] at this;exact ⟨fun h=>(by cases h),fun _=>this⟩
      · have:=h.1 rfl;rw[ht] at this;exact ⟨fun _=>this,fun h=>by cases h⟩
    | undef=>
      rw[hx] at h
      exact ⟨false,rfl,fun h=>(by cases h),fun _=>h⟩
    |_=>rw[hx] at h;exact h.elim
theorem Wr_true (hc: ∀ c vs m Q,wc c vs m Q→ ∃ v m',call c vs m=some (v,m')∧Q v m') (base:Nat): ∀ (ops:List AOper) (i:Nat) (recs:List ARec) (T:Tr) (m:Mem) (K:Tr→Mem→Prop),
    Wr wc meth base i ops recs T m K→ ∃ T' m',adraw call meth base i ops recs T m=some (T',m')∧K T' m'
  | [],_,_,T,m,K,h=>⟨T,m,rfl,h⟩
  | o ::os,i,recs,T,m,K,h=>by
    obtain ⟨g,hg,hg1,hg2⟩:=Wr_guard h
    rw[adraw,hg]
    cases g with
    |false=>exact Wr_true hc base os (i+1) recs _ m K (hg2 rfl)
    | true=>
      have h:=hg1 rfl
      unfold Wrr at h
      simp only at h ⊢
      cases hk:o.op.isCall with
      | true=>
        rw[hk] at h
        simp only[cond_true] at h ⊢
        generalize acallee (bget (mask m.blks ((recs.filter fun r=> !ins o.after r.idx).flatMap (·.wr)))) meth T o.op=r at h ⊢
        cases r with
        |none=>exact h.elim
        | some p=>
          obtain ⟨c,vs⟩:=p
          simp only at h ⊢
          obtain ⟨v,m2,e1,e2,e3⟩:=hc _ _ _ _ h
          rw[e1]
          simp only[e2,cond_false]
          exact Wr_true hc base os (i+1) _ _ _ K e3
      | false=>
        rw[hk] at h
        simp only[cond_false] at h ⊢
        have key:Ro (o.op.still && ((recs.filter fun r=> !ins o.after r.idx).flatMap (·.wr)).isEmpty) (o.op.reads T) ((recs.filter fun r=> !ins o.after r.idx).flatMap (·.wr)) m.blks (nidOf base m.blks.length o.slot) T o.op=
            aprim (fun b=>cond (ins (o.op.reads T) b && !ins ((recs.filter fun r=> !ins o.after r.idx).flatMap (·.wr)) b) (bget m.blks b) none) (nidOf base m.blks.length o.slot) T o.op:=by
          cases hb:(o.op.still && ((recs.filter fun r=> !ins o.after r.idx).flatMap (·.wr)).isEmpty) with
          |false=>simp only[Ro,aprimW_eq]
          | true=>
            simp only[Bool.and_eq_true,List.isEmpty_iff] at hb
            simp only[Ro,aprimW_eq,hb.2]
            refine (still_same hb.1 fun b hb=> ?_).symm
            rw[(ins_iff _ _).2 hb]
            simp[ins]
        rw[key] at h
        generalize aprim (fun b=>cond (ins (o.op.reads T) b && !ins ((recs.filter fun r=> !ins o.after r.idx).flatMap (·.wr)) b) (bget m.blks b) none) (nidOf base m.blks.length o.slot) T o.op=y at h ⊢
        cases y with
        |none=>exact h.elim
        | some p=>
          obtain ⟨v,cs⟩:=p
          simp only at h ⊢
          rw[h.1]
          exact Wr_true hc base os (i+1) _ _ _ K h.2
theorem Ks_inv {r:Tr→Mem→Prop} {K:AExit→Tr→Mem→Prop} {e:AExit} {T:Tr} {m:Mem} (h:Ks r K e T m):(e= .normal∧r T m)∨(e≠ .normal∧K e T m):=by
  cases e with
  |normal=>exact .inl ⟨rfl,h⟩
  |exit j=>exact .inr ⟨by simp,h⟩
  |ret=>exact .inr ⟨by simp,h⟩
theorem Wc_true (hc: ∀ c vs m Q,wc c vs m Q→ ∃ v m',call c vs m=some (v,m')∧Q v m') (fu:Nat): ∀ (c:ACode) (T:Tr) (m:Mem) (K:AExit→Tr→Mem→Prop),Wc call wc meth fu c T m K→ ∃ e T' m',acode call meth fu false c T m=some (e,T',m')∧K e T' m'
  | .skip,T,m,K,h=>⟨_,_,_,rfl,h⟩
  | .bad,_,_,_,h=>h.elim
  | .exit id,T,m,K,h=>⟨_,_,_,rfl,h⟩
  | .ret,T,m,K,h=>⟨_,_,_,rfl,h⟩
  | .rangeFunc f ps a b,T,m,K,h=>by
    obtain ⟨e,m',q1,q2⟩:=h T (fun _=>rfl)
    exact ⟨e,T,m',q1,q2⟩
  | .region d ns ops,T,m,K,h=>by
    rw[acode]
    cases d with
    | false=>
      simp only[Wc,cond_false] at h ⊢
      obtain ⟨T',m',e,hk⟩:=Wo_true hc ops T m _ h
      rw[e]
      exact ⟨_,_,_,rfl,hk⟩
    | true=>
      simp only[Wc,cond_true] at h ⊢
      cases hb:(Nat.beq ns 0 && stillR 0 [] ops) with
      | true=>
        rw[hb] at h
        simp only[Bool.and_eq_true] at hb
        have h0:ns=0:=Nat.eq_of_beq_eq_true hb.1
        subst h0
        obtain ⟨T',e,hk⟩:=Wo_pure (call:=call) hc m.blks.length ops 0 [] [] T m _ hb.2 (fun r hr=>by cases hr) h
        have hm:m.more 0=m:=rfl
        rw[hm,e]
        exact ⟨_,_,_,rfl,hk⟩
      | false=>
        rw[hb] at h
        obtain ⟨T',m',e,hk⟩:=Wr_true (call:=call) hc m.blks.length ops 0 [] T _ _ h
        rw[e]
        exact ⟨_,_,_,rfl,hk⟩
  | .seq a b,T,m,K,h=>by
    rw[Wc] at h
    obtain ⟨e,T1,m1,e1,h1⟩:=Wc_true hc fu a T m _ h
    rw[acode,e1]
    rcases Ks_inv h1 with ⟨rfl,h2⟩|⟨hne,h2⟩
    · exact Wc_true hc fu b T1 m1 K h2
    · cases e with
      |normal=>exact absurd rfl hne
      |exit j=>exact ⟨_,_,_,rfl,h2⟩
      |ret=>exact ⟨_,_,_,rfl,h2⟩
  | .cond c a b,T,m,K,h=>by
    rw[Wc] at h
    rw[acode]
    split at h
    · rename_i hx;rw[hx];exact Wc_true hc fu a T m K h
    · rename_i hx;rw[hx];exact Wc_true hc fu b T m K h
    · exact h.elim
  | .block id c,T,m,K,h=>by
    rw[Wc] at h
    obtain ⟨e,T1,m1,e1,h1⟩:=Wc_true hc fu c T m _ h
    rw[acode,e1]
    cases e with
    |normal=>exact ⟨_,_,_,rfl,h1⟩
    |ret=>exact ⟨_,_,_,rfl,h1⟩
    | exit j=>
      simp only[Kb] at h1 ⊢
      cases hj:Nat.beq j id with
      |true=>rw[hj] at h1;exact ⟨_,_,_,rfl,h1⟩
      |false=>rw[hj] at h1;exact ⟨_,_,_,rfl,h1⟩
  | .loop c,T,m,K,h=>by
    rw[Wc] at h
    obtain ⟨N,I,hN,h0,hs,hl⟩:=h
    rw[acode]
    obtain ⟨e,T',m',q1,q2,q3⟩:=aloop_inv (body:=acode call meth fu false c) (I:=I) (Q:=K) N (fun i T m hi hI=>by
      obtain ⟨e,T1,m1,e1,h1⟩:=Wc_true hc fu c T m _ (hs i T m hi hI)
      refine ⟨e,T1,m1,e1,Ks_inv h1⟩) (fun T m hI=>by
      obtain ⟨e,T1,m1,e1,h1⟩:=Wc_true hc fu c T m _ (hl T m hI)
      rcases Ks_inv h1 with ⟨_,h2⟩|⟨hne,h2⟩
      · exact h2.elim
      · exact ⟨e,T1,m1,e1,hne,h2⟩) N 0 fu T m (by omega) hN h0
    exact ⟨e,T',m',q1,q3⟩
theorem Wa_true {F:FuncId→Option AFunc} {sm:Summ}: ∀ (n:Nat) (c:ACallee) (vs:List AV) (m:Mem) (Q:AV→Mem→Prop),Wa F meth sm n c vs m Q→ ∃ v m',acall F meth sm n c vs m=some (v,m')∧Q v m'
  |0,_,_,_,_,h=>h.elim
  |n+1,.yield l,vs,m,Q,h=>h
  | n + 1,.fn f,vs,m,Q,h=>by
    rw[Wa] at h
    rw[acall]
    cases hs:sm f vs m with
    | some r=>
      obtain ⟨v,m'⟩:=r
      rw[hs] at h
      exact ⟨v,m',rfl,h⟩
    | none=>
      rw[hs] at h
      simp only at h ⊢
      cases hF:F f with
      |none=>rw[hF] at h;exact h.elim
      | some fn=>
        rw[hF] at h
        obtain ⟨hb,hw⟩:=h
        simp only[hb,cond_true]
        obtain ⟨e,T',m',q1,q2⟩:=Wc_true (fun c vs m Q=>Wa_true n c vs m Q) n _ _ _ _ hw
        rw[q1]
        unfold Kr at q2
        cases e with
        |exit j=>exact q2.elim
        | normal=>
          simp only at q2 ⊢
          cases hr:ares (bget (m'.killAll m'.dfrs).blks) T' fn.results with
          |none=>rw[hr] at q2;exact q2.elim
          |some v=>rw[hr] at q2;exact ⟨_,_,rfl,q2⟩
        | ret=>
          simp only at q2 ⊢
          cases hr:ares (bget (m'.killAll m'.dfrs).blks) T' fn.results with
          |none=>rw[hr] at q2;exact q2.elim
          |some v=>rw[hr] at q2;exact ⟨_,_,rfl,q2⟩
end
def Kc (wc:WCall) (meth:Meth) (pu:Bool) (d:Option Pth) (os:List AOper) (T:Tr) (m:Mem) (K:Tr→Mem→Prop):AV→Mem→Prop:=fun v m'=>
  match pu with
  |true=>m'=⟨m.blks,[],[]⟩∧Wo wc meth true os (aput T d v) m K
  |false=>Wo wc meth false os (aput T d v) m' K
def Kq (call:CallF) (wc:WCall) (meth:Meth) (fu:Nat) (b:ACode) (K:AExit→Tr→Mem→Prop):AExit→Tr→Mem→Prop:=Ks (fun T m=>Wc call wc meth fu b T m K) K
def Kw (J:Tr→Mem→Prop) (K:AExit→Tr→Mem→Prop):AExit→Tr→Mem→Prop:=Ks J K
def Wd (x:Option (Tr × Mem)) (K:Tr→Mem→Prop):Prop:= ∃ T' m',x=some (T',m')∧K T' m'
def Wq (wc:WCall) (meth:Meth) (pu:Bool) (call:Bool) (d:Option Pth) (op:AOp) (os:List AOper) (T:Tr) (m:Mem) (K:Tr→Mem→Prop):Prop:=
  match call with
  | true=>match acallee (bget m.blks) meth T op with
    | some (c,vs)=>match pu with
      |true=>wc c vs ⟨m.blks,[],[]⟩ fun v m'=>m'=⟨m.blks,[],[]⟩∧Wo wc meth pu os (aput T d v) m K
      |false=>wc c vs m fun v m'=>Wo wc meth pu os (aput T d v) m' K
    |none=>False
  | false=>match aprimW (bget m.blks) m.blks.length T op with
    | some (v,cs)=>match pu,cs with
      |true,[]=>Wo wc meth pu os (aput T d v) m K
      |true,_::_=>False
      |false,cs=>Wo wc meth pu os (aput T d v) (m.applyAll cs) K
    |none=>False
def Wg (wc:WCall) (meth:Meth) (pu:Bool) (x:AV) (t:Pth) (w:Bool) (d:Option Pth) (op:AOp) (os:List AOper) (T:Tr) (m:Mem) (K:Tr→Mem→Prop):Prop:=
  match x with
  | .bool b=>(b=true→cond w (Wq wc meth pu op.isCall d op os (tset (.bool true) t T) m K) (Wo wc meth pu os (aput (tset (.bool true) t T) d .undef) m K))∧
      (b=false→cond w (Wo wc meth pu os (aput (tset (.bool false) t T) d .undef) m K) (Wq wc meth pu op.isCall d op os (tset (.bool false) t T) m K))
  | .undef=>Wo wc meth pu os (aput T d .undef) m K
  |_=>False
def Wge (wc:WCall) (meth:Meth) (pu:Bool) (b w:Bool) (d:Option Pth) (op:AOp) (os:List AOper) (T:Tr) (m:Mem) (K:Tr→Mem→Prop):Prop:=
  match b,w with
  |true,true=>Wq wc meth pu op.isCall d op os T m K
  |false,false=>Wq wc meth pu op.isCall d op os T m K
  |_,_=>Wo wc meth pu os (aput T d .undef) m K
def Wp (wc:WCall) (meth:Meth) (pu:Bool) (r:Option (AV × List Chg)) (d:Option Pth) (os:List AOper) (T:Tr) (m:Mem) (K:Tr→Mem→Prop):Prop:=
  match r with
  | some (v,cs)=>match pu,cs with
    |true,[]=>Wo wc meth pu os (aput T d v) m K
    |true,_::_=>False
    |false,cs=>Wo wc meth pu os (aput T d v) (m.applyAll cs) K
  |none=>False
def Wl (wc:WCall) (meth:Meth) (pu:Bool) (r:Option (ACallee × List AV)) (d:Option Pth) (os:List AOper) (T:Tr) (m:Mem) (K:Tr→Mem→Prop):Prop:=
  match r with
  | some (c,vs)=>match pu with
    |true=>wc c vs ⟨m.blks,[],[]⟩ (Kc wc meth true d os T m K)
    |false=>wc c vs m (Kc wc meth false d os T m K)
  |none=>False
def Wi (call:CallF) (wc:WCall) (meth:Meth) (fu:Nat) (x:AV) (a b:ACode) (T:Tr) (m:Mem) (K:AExit→Tr→Mem→Prop):Prop:=
  match x with
  | .bool true=>Wc call wc meth fu a T m K
  | .bool false=>Wc call wc meth fu b T m K
  |_=>False
def Wt (call:CallF) (wc:WCall) (meth:Meth) (st:Bool) (ns:Nat) (ops:List AOper) (T:Tr) (m:Mem) (K:Tr→Mem→Prop):Prop:=
  match st with
  |true=>Wo wc meth true ops T m K
  |false=>Wr wc meth m.blks.length 0 ops [] T (m.more ns) K
def Wf (F:FuncId→Option AFunc) (meth:Meth) (sm:Summ) (n:Nat) (r:Option AFunc) (vs:List AV) (m:Mem) (Q:AV→Mem→Prop):Prop:=
  match r with
  |none=>False
  |some fn=>Nat.ble vs.length fn.ntmps=true∧Wc (acall F meth sm n) (Wa F meth sm n) meth n fn.body (tputs vs .z .e) {m with dfrs:=[]} (Kr fn.results m.dfrs Q)
def Ws (F:FuncId→Option AFunc) (meth:Meth) (sm:Summ) (n:Nat) (r:Option (AV × Mem)) (f:FuncId) (vs:List AV) (m:Mem) (Q:AV→Mem→Prop):Prop:=
  match r with
  |some (v,m')=>Q v m'
  |none=>Wf F meth sm n (F f) vs m Q
def Wv (r:Option AV) (m:Mem) (Q:AV→Mem→Prop):Prop:=
  match r with
  |some v=>Q v m
  |none=>False
section
variable (call:CallF) (wc:WCall) (meth:Meth) (fu:Nat) (pu:Bool) (d:Option Pth) (os:List AOper) (T:Tr) (m m':Mem) (op:AOp) (v:AV) (t:Pth) (w:Bool) (s:Option Nat) (af:List Nat)
variable (K:Tr→Mem→Prop) (E:AExit→Tr→Mem→Prop) (Q:AV→Mem→Prop) (J:Tr→Mem→Prop) (a b:ACode) (p:Prop) [Decidable p]
theorem w_nil:Wo wc meth pu [] T m K=K T m:=rfl
theorem w_op:Wo wc meth pu (⟨d,op,none,s,af⟩::os) T m K=Wq wc meth pu op.isCall d op os T m K:=by rw[Wo];rfl
theorem w_gop:Wo wc meth pu (⟨d,op,some (t,w),s,af⟩::os) T m K=Wg wc meth pu (tget t T) t w d op os T m K:=by rw[Wo];rfl
theorem w_gt:Wg wc meth pu (.bool true) t w d op os T m K=Wge wc meth pu true w d op os (tset (.bool true) t T) m K:=by
  cases w <;>simp[Wg,Wge]
theorem w_gf:Wg wc meth pu (.bool false) t w d op os T m K=Wge wc meth pu false w d op os (tset (.bool false) t T) m K:=by
  cases w <;>simp[Wg,Wge]
theorem w_gu:Wg wc meth pu .undef t w d op os T m K=Wo wc meth pu os (aput T d .undef) m K:=rfl
theorem w_gd:Wg wc meth pu (.bool (decide p)) t w d op os T m K=((p→Wge wc meth pu true w d op os (tset (.bool true) t T) m K)∧(¬ p→Wge wc meth pu false w d op os (tset (.bool false) t T) m K)):=by
  cases w <;>simp[Wg,Wge]
theorem w_e1:Wge wc meth pu true true d op os T m K=Wq wc meth pu op.isCall d op os T m K:=rfl
theorem w_e2:Wge wc meth pu false false d op os T m K=Wq wc meth pu op.isCall d op os T m K:=rfl
theorem w_e3:Wge wc meth pu true false d op os T m K=Wo wc meth pu os (aput T d .undef) m K:=rfl
theorem w_e4:Wge wc meth pu false true d op os T m K=Wo wc meth pu os (aput T d .undef) m K:=rfl
theorem w_q1:Wq wc meth pu true d op os T m K=Wl wc meth pu (acallee (bget m.blks) meth T op) d os T m K:=by
  simp only[Wq,Wl]
  cases acallee (bget m.blks) meth T op with
  |none=>rfl
  |some x=>cases pu <;>rfl
theorem w_q2:Wq wc meth pu false d op os T m K=Wp wc meth pu (aprimW (bget m.blks) m.blks.length T op) d os T m K:=rfl
theorem w_p1:Wp wc meth pu (some (v,[])) d os T m K=Wo wc meth pu os (aput T d v) m K:=by cases pu <;>rfl
theorem w_p2 (c:Chg) (cs:List Chg):Wp wc meth false (some (v,c::cs)) d os T m K=Wo wc meth false os (aput T d v) (m.applyAll (c::cs)) K:=rfl
theorem w_l1 (c:ACallee) (vs:List AV):Wl wc meth false (some (c,vs)) d os T m K=wc c vs m (Kc wc meth false d os T m K):=rfl
theorem w_l2 (c:ACallee) (vs:List AV):Wl wc meth true (some (c,vs)) d os T m K=wc c vs ⟨m.blks,[],[]⟩ (Kc wc meth true d os T m K):=rfl
theorem w_c1:Kc wc meth false d os T m K v m'=Wo wc meth false os (aput T d v) m' K:=rfl
theorem w_c2 (h:Blks) (lg dd:List Nat):Kc wc meth true d os T ⟨h,lg,dd⟩ K v ⟨h,[],[]⟩=Wo wc meth true os (aput T d v) ⟨h,lg,dd⟩ K:=by simp[Kc]
theorem w_skip:Wc call wc meth fu .skip T m E=E .normal T m:=rfl
theorem w_exit (i:Nat):Wc call wc meth fu (.exit i) T m E=E (.exit i) T m:=rfl
theorem w_ret:Wc call wc meth fu .ret T m E=E .ret T m:=rfl
theorem w_seq:Wc call wc meth fu (.seq a b) T m E=Wc call wc meth fu a T m (Kq call wc meth fu b E):=rfl
theorem w_blk (i:Nat):Wc call wc meth fu (.block i a) T m E=Wc call wc meth fu a T m (Kb i E):=rfl
theorem w_if (c:AOpnd):Wc call wc meth fu (.cond c a b) T m E=Wi call wc meth fu (aev T c) a b T m E:=rfl
theorem w_it:Wi call wc meth fu (.bool true) a b T m E=Wc call wc meth fu a T m E:=rfl
theorem w_ie:Wi call wc meth fu (.bool false) a b T m E=Wc call wc meth fu b T m E:=rfl
theorem w_id:Wi call wc meth fu (.bool (decide p)) a b T m E=((p→Wc call wc meth fu a T m E)∧(¬ p→Wc call wc meth fu b T m E)):=by
  by_cases h:p <;>simp[Wi,h]
theorem w_reg (ns:Nat) (ops:List AOper):Wc call wc meth fu (.region false ns ops) T m E=Wo wc meth false ops T m (E .normal):=rfl
theorem w_regt (ns:Nat) (ops:List AOper):Wc call wc meth fu (.region true ns ops) T m E=Wt call wc meth (Nat.beq ns 0 && stillR 0 [] ops) ns ops T m (E .normal):=by
  rw[Wc]
  cases (Nat.beq ns 0 && stillR 0 [] ops) <;>rfl
theorem w_t1 (ns:Nat) (ops:List AOper):Wt call wc meth true ns ops T m K=Wo wc meth true ops T m K:=rfl
theorem w_t2 (ns:Nat) (ops:List AOper):Wt call wc meth false ns ops T m K=Wr wc meth m.blks.length 0 ops [] T (m.more ns) K:=rfl
theorem w_d:Wd (some (T,m)) K=K T m:=by
  simp only[Wd]
  apply propext
  constructor
  · rintro ⟨T',m',e,h⟩;cases e;exact h
  · exact fun h=>⟨T,m,rfl,h⟩
theorem w_kn:Kq call wc meth fu b E .normal T m=Wc call wc meth fu b T m E:=rfl
theorem w_ke (i:Nat):Kq call wc meth fu b E (.exit i) T m=E (.exit i) T m:=rfl
theorem w_kr:Kq call wc meth fu b E .ret T m=E .ret T m:=rfl
theorem w_wn:Kw J E .normal T m=J T m:=rfl
theorem w_we (i:Nat):Kw J E (.exit i) T m=E (.exit i) T m:=rfl
theorem w_wr:Kw J E .ret T m=E .ret T m:=rfl
theorem w_bn (i:Nat):Kb i E .normal T m=E .normal T m:=rfl
theorem w_br (i:Nat):Kb i E .ret T m=E .ret T m:=rfl
theorem w_b1 (i:Nat):Kb i E (.exit i) T m=E .normal T m:=by simp[Kb]
theorem w_b2 (i j:Nat) (h:(j=i)=False):Kb i E (.exit j) T m=E (.exit j) T m:=by
  have h:Nat.beq j i=false:=by
    cases hq:Nat.beq j i with
    |false=>rfl
    |true=>exact absurd (Nat.eq_of_beq_eq_true hq) (by simp[h])
  simp only[Kb,h,cond_false]
theorem w_rn (rs:List ARes) (dd:List Nat):Kr rs dd Q .normal T m=Wv (ares (bget (m.killAll m.dfrs).blks) T rs) {m.killAll m.dfrs with dfrs:=dd} Q:=rfl
theorem w_rr (rs:List ARes) (dd:List Nat):Kr rs dd Q .ret T m=Wv (ares (bget (m.killAll m.dfrs).blks) T rs) {m.killAll m.dfrs with dfrs:=dd} Q:=rfl
theorem w_v:Wv (some v) m Q=Q v m:=rfl
theorem w_a (F:FuncId→Option AFunc) (sm:Summ) (n:Nat) (f:FuncId) (vs:List AV):Wa F meth sm (n+1) (.fn f) vs m Q=Ws F meth sm n (sm f vs m) f vs m Q:=by
  rw[Wa]
  cases sm f vs m with
  |none=>simp only[Ws,Wf] <;>cases F f <;>rfl
  |some r=>rfl
theorem w_s1 (F:FuncId→Option AFunc) (sm:Summ) (n:Nat) (f:FuncId) (vs:List AV):Ws F meth sm n (some (v,m')) f vs m Q=Q v m':=rfl
theorem w_s2 (F:FuncId→Option AFunc) (sm:Summ) (n:Nat) (f:FuncId) (vs:List AV):Ws F meth sm n none f vs m Q=Wf F meth sm n (F f) vs m Q:=rfl
theorem w_f (F:FuncId→Option AFunc) (sm:Summ) (n:Nat) (fn:AFunc) (vs:List AV):Wf F meth sm n (some fn) vs m Q=(Nat.ble vs.length fn.ntmps=true∧Wc (acall F meth sm n) (Wa F meth sm n) meth n fn.body (tputs vs .z .e) ⟨m.blks,m.log,[]⟩ (Kr fn.results m.dfrs Q)):=rfl
end
theorem Wloop {call:CallF} {wc:WCall} {meth:Meth} {fu:Nat} {c:ACode} {T:Tr} {m:Mem} {E:AExit→Tr→Mem→Prop} (N:Nat) (I:Nat→Tr→Mem→Prop) (hN:N<fu) (h0:I 0 T m)
    (hs: ∀ i T m,i<N→I i T m→Wc call wc meth fu c T m (Kw (I (i+1)) E)) (hl: ∀ T m,I N T m→Wc call wc meth fu c T m (Kw (fun _ _=>False) E)):Wc call wc meth fu (.loop c) T m E:=by
  rw[Wc]
  exact ⟨N,I,hN,h0,hs,hl⟩
theorem bn_0 (x:Option ABlk) (l:List (Option ABlk)):bnth (x::l) 0=x:=by simp only[bnth]
theorem bn_1 (x0 x:Option ABlk) (l:List (Option ABlk)):bnth (x0::x::l) 1=x:=by simp only[bnth]
theorem bn_2 (x0 x1 x:Option ABlk) (l:List (Option ABlk)):bnth (x0::x1::x::l) 2=x:=by simp only[bnth]
theorem bn_3 (x0 x1 x2 x:Option ABlk) (l:List (Option ABlk)):bnth (x0::x1::x2::x::l) 3=x:=by simp only[bnth]
theorem bn_4 (x0 x1 x2 x3 x:Option ABlk) (l:List (Option ABlk)):bnth (x0::x1::x2::x3::x::l) 4=x:=by simp only[bnth]
theorem bn_5 (x0 x1 x2 x3 x4 x:Option ABlk) (l:List (Option ABlk)):bnth (x0::x1::x2::x3::x4::x::l) 5=x:=by simp only[bnth]
theorem bn_6 (x0 x1 x2 x3 x4 x5 x:Option ABlk) (l:List (Option ABlk)):bnth (x0::x1::x2::x3::x4::x5::x::l) 6=x:=by simp only[bnth]
theorem bn_7 (x0 x1 x2 x3 x4 x5 x6 x:Option ABlk) (l:List (Option ABlk)):bnth (x0::x1::x2::x3::x4::x5::x6::x::l) 7=x:=by simp only[bnth]
theorem bn_8 (x0 x1 x2 x3 x4 x5 x6 x7 x:Option ABlk) (l:List (Option ABlk)):bnth (x0::x1::x2::x3::x4::x5::x6::x7::x::l) 8=x:=by simp only[bnth]
theorem bn_9 (x0 x1 x2 x3 x4 x5 x6 x7 x8 x:Option ABlk) (l:List (Option ABlk)):bnth (x0::x1::x2::x3::x4::x5::x6::x7::x8::x::l) 9=x:=by simp only[bnth]
theorem bn_10 (x0 x1 x2 x3 x4 x5 x6 x7 x8 x9 x:Option ABlk) (l:List (Option ABlk)):bnth (x0::x1::x2::x3::x4::x5::x6::x7::x8::x9::x::l) 10=x:=by simp only[bnth]
theorem bn_11 (x0 x1 x2 x3 x4 x5 x6 x7 x8 x9 x10 x:Option ABlk) (l:List (Option ABlk)):bnth (x0::x1::x2::x3::x4::x5::x6::x7::x8::x9::x10::x::l) 11=x:=by simp only[bnth]
theorem bn_12 (x0 x1 x2 x3 x4 x5 x6 x7 x8 x9 x10 x11 x:Option ABlk) (l:List (Option ABlk)):bnth (x0::x1::x2::x3::x4::x5::x6::x7::x8::x9::x10::x11::x::l) 12=x:=by simp only[bnth]
theorem bn_13 (x0 x1 x2 x3 x4 x5 x6 x7 x8 x9 x10 x11 x12 x:Option ABlk) (l:List (Option ABlk)):bnth (x0::x1::x2::x3::x4::x5::x6::x7::x8::x9::x10::x11::x12::x::l) 13=x:=by simp only[bnth]
theorem bn_14 (x0 x1 x2 x3 x4 x5 x6 x7 x8 x9 x10 x11 x12 x13 x:Option ABlk) (l:List (Option ABlk)):bnth (x0::x1::x2::x3::x4::x5::x6::x7::x8::x9::x10::x11::x12::x13::x::l) 14=x:=by simp only[bnth]
theorem bn_15 (x0 x1 x2 x3 x4 x5 x6 x7 x8 x9 x10 x11 x12 x13 x14 x:Option ABlk) (l:List (Option ABlk)):bnth (x0::x1::x2::x3::x4::x5::x6::x7::x8::x9::x10::x11::x12::x13::x14::x::l) 15=x:=by simp only[bnth]
theorem bl_0:blen []=0:=by simp only[blen]
theorem bl_s (x:Option ABlk) (l:List (Option ABlk)):blen (x::l)=blen l+1:=by simp only[blen]
def vC (h:Blks) (b:Nat):Bool:=(bget h b).isSome
def vP (rd msk:List Nat) (h:Blks) (b:Nat):Bool:=(cond (ins rd b && !ins msk b) (bget h b) none).isSome
def mskO (free:List ARec):List Nat:=free.flatMap (·.wr)
def Rk (wc:WCall) (meth:Meth) (base i:Nat) (d:Option Pth) (os:List AOper) (recs free:List ARec) (msk:List Nat) (T:Tr) (m:Mem) (K:Tr→Mem→Prop):AV→Mem→Prop:=fun v m2=>
  clash m2.log true free=false∧Wr wc meth base (i+1) os (⟨i,m2.log,vC (mask m.blks msk),true⟩::recs) (aput T d v) ⟨(unmask m2 m.blks msk).blks,m2.log++m.log,m.dfrs⟩ K
def Rl (wc:WCall) (meth:Meth) (base i:Nat) (r:Option (ACallee × List AV)) (d:Option Pth) (os:List AOper) (recs free:List ARec) (msk:List Nat) (T:Tr) (m:Mem) (K:Tr→Mem→Prop):Prop:=
  match r with
  |some (c,vs)=>wc c vs ⟨mask m.blks msk,[],[]⟩ (Rk wc meth base i d os recs free msk T m K)
  |none=>False
def Rp (wc:WCall) (meth:Meth) (base i:Nat) (r:Option (AV × List Chg)) (mk:Bool) (d:Option Pth) (s:Option Nat) (os:List AOper) (recs free:List ARec) (rd msk:List Nat) (T:Tr) (m:Mem) (K:Tr→Mem→Prop):Prop:=
  match r with
  |some (v,cs)=>(!slotIn base m.blks.length s ||clash (cs.map (·.id)) mk free)=false∧Wr wc meth base (i+1) os (⟨i,cs.map (·.id),vP rd msk m.blks,mk⟩::recs) (aput T d v) (m.applyAll cs) K
  |none=>False
def Rq (wc:WCall) (meth:Meth) (base i:Nat) (call:Bool) (d:Option Pth) (op:AOp) (s:Option Nat) (os:List AOper) (recs free:List ARec) (msk:List Nat) (T:Tr) (m:Mem) (K:Tr→Mem→Prop):Prop:=
  match call with
  |true=>Rl wc meth base i (acallee (bget (mask m.blks msk)) meth T op) d os recs free msk T m K
  |false=>Rp wc meth base i (Ro (op.still && msk.isEmpty) (op.reads T) msk m.blks (nidOf base m.blks.length s) T op) op.isMaker d s os recs free (op.reads T) msk T m K
def Rge (wc:WCall) (meth:Meth) (base i:Nat) (b w:Bool) (d:Option Pth) (op:AOp) (s:Option Nat) (os:List AOper) (recs free:List ARec) (msk:List Nat) (T:Tr) (m:Mem) (K:Tr→Mem→Prop):Prop:=
  match b,w with
  |true,true=>Rq wc meth base i op.isCall d op s os recs free msk T m K
  |false,false=>Rq wc meth base i op.isCall d op s os recs free msk T m K
  |_,_=>Wr wc meth base (i+1) os recs (aput T d .undef) m K
def Rg (wc:WCall) (meth:Meth) (base i:Nat) (x:AV) (t:Pth) (w:Bool) (d:Option Pth) (op:AOp) (s:Option Nat) (os:List AOper) (recs free:List ARec) (msk:List Nat) (T:Tr) (m:Mem) (K:Tr→Mem→Prop):Prop:=
  match x with
  | .bool b=>(b=true→Rge wc meth base i true w d op s os recs free msk (tset (.bool true) t T) m K)∧(b=false→Rge wc meth base i false w d op s os recs free msk (tset (.bool false) t T) m K)
  | .undef=>Wr wc meth base (i+1) os recs (aput T d .undef) m K
  |_=>False
section
variable (wc:WCall) (meth:Meth) (base i:Nat) (d:Option Pth) (os:List AOper) (recs free:List ARec) (msk rd:List Nat) (T:Tr) (m m2:Mem) (op:AOp) (v:AV) (t:Pth) (w mk:Bool) (s:Option Nat) (af:List Nat)
variable (K:Tr→Mem→Prop) (p:Prop) [Decidable p] (h:Blks) (nid:Nat) (b:Nat)
theorem r_nil:Wr wc meth base i [] recs T m K=K T m:=rfl
theorem r_op:Wr wc meth base i (⟨d,op,none,s,af⟩::os) recs T m K=Rq wc meth base i op.isCall d op s os recs (recs.filter fun r=> !ins af r.idx) (mskO (recs.filter fun r=> !ins af r.idx)) T m K:=by
  rw[Wr]
  cases op.isCall with
  |true=>rfl
  | false=>
    rfl
theorem r_gop:Wr wc meth base i (⟨d,op,some (t,w),s,af⟩::os) recs T m K=Rg wc meth base i (tget t T) t w d op s os recs (recs.filter fun r=> !ins af r.idx) (mskO (recs.filter fun r=> !ins af r.idx)) T m K:=by
  have e: ∀ T,Wr wc meth base i (⟨d,op,none,s,af⟩::os) recs T m K=Rq wc meth base i op.isCall d op s os recs (recs.filter fun r=> !ins af r.idx) (mskO (recs.filter fun r=> !ins af r.idx)) T m K:=fun T=>r_op ..
  have e':=fun T=>(e T).symm
  cases hx:tget t T with
  | bool c=>
    rw[Wr]
    simp only[hx,Rg]
    cases w <;>(try simp only[Rge,e',cond_true,cond_false]) <;>first |done |rfl |(rw[Wr];rfl)
  |undef=>rw[Wr];simp only[hx,Rg]
  |_=>rw[Wr];simp only[hx,Rg]
theorem r_gt:Rg wc meth base i (.bool true) t w d op s os recs free msk T m K=Rge wc meth base i true w d op s os recs free msk (tset (.bool true) t T) m K:=by simp[Rg]
theorem r_gf:Rg wc meth base i (.bool false) t w d op s os recs free msk T m K=Rge wc meth base i false w d op s os recs free msk (tset (.bool false) t T) m K:=by simp[Rg]
theorem r_gu:Rg wc meth base i .undef t w d op s os recs free msk T m K=Wr wc meth base (i+1) os recs (aput T d .undef) m K:=rfl
theorem r_gd:Rg wc meth base i (.bool (decide p)) t w d op s os recs free msk T m K=((p→Rge wc meth base i true w d op s os recs free msk (tset (.bool true) t T) m K)∧(¬ p→Rge wc meth base i false w d op s os recs free msk (tset (.bool false) t T) m K)):=by simp[Rg]
theorem r_e1:Rge wc meth base i true true d op s os recs free msk T m K=Rq wc meth base i op.isCall d op s os recs free msk T m K:=rfl
theorem r_e2:Rge wc meth base i false false d op s os recs free msk T m K=Rq wc meth base i op.isCall d op s os recs free msk T m K:=rfl
theorem r_e3:Rge wc meth base i true false d op s os recs free msk T m K=Wr wc meth base (i+1) os recs (aput T d .undef) m K:=rfl
theorem r_e4:Rge wc meth base i false true d op s os recs free msk T m K=Wr wc meth base (i+1) os recs (aput T d .undef) m K:=rfl
theorem r_q1:Rq wc meth base i true d op s os recs free msk T m K=Rl wc meth base i (acallee (bget (mask m.blks msk)) meth T op) d os recs free msk T m K:=rfl
theorem r_q2:Rq wc meth base i false d op s os recs free msk T m K=Rp wc meth base i (Ro (op.still && msk.isEmpty) (op.reads T) msk m.blks (nidOf base m.blks.length s) T op) op.isMaker d s os recs free (op.reads T) msk T m K:=rfl
theorem r_o1:Ro true rd msk h nid T op=aprimW (bget h) nid T op:=rfl
theorem r_o2:Ro false rd msk h nid T op=aprimW (fun b=>cond (ins rd b && !ins msk b) (bget h b) none) nid T op:=rfl
theorem r_p (cs:List Chg):Rp wc meth base i (some (v,cs)) mk d s os recs free rd msk T m K=((!slotIn base m.blks.length s ||clash (cs.map (·.id)) mk free)=false∧Wr wc meth base (i+1) os (⟨i,cs.map (·.id),vP rd msk m.blks,mk⟩::recs) (aput T d v) (m.applyAll cs) K):=rfl
theorem r_l (c:ACallee) (vs:List AV):Rl wc meth base i (some (c,vs)) d os recs free msk T m K=wc c vs ⟨mask m.blks msk,[],[]⟩ (Rk wc meth base i d os recs free msk T m K):=rfl
theorem r_k:Rk wc meth base i d os recs free msk T m K v m2=(clash m2.log true free=false∧Wr wc meth base (i+1) os (⟨i,m2.log,vC (mask m.blks msk),true⟩::recs) (aput T d v) ⟨(unmask m2 m.blks msk).blks,m2.log++m.log,m.dfrs⟩ K):=rfl
theorem r_vc:vC h b=(bget h b).isSome:=rfl
theorem r_vp:vP rd msk h b=(cond (ins rd b && !ins msk b) (bget h b) none).isSome:=rfl
end
section
variable (get:Nat→Option ABlk) (nid:Nat) (T:Tr) (x y z:AOpnd) (a b:AV)
def apick (c a b:AV):Option (AV × List Chg):=match c with
  | .bool true=>some (a,[])
  | .bool false=>some (b,[])
  |_=>none
def abox (nid esz n:Nat) (r:Option (List AV)):Option (AV × List Chg):=match r with
  |some cs=>cond (cs.length==n && n / esz*esz==n && cs.all AV.scalar) (some (.ptr nid 0 0,[⟨nid,some (.row true esz (chunk esz (n / esz) cs)),refsL cs⟩])) none
  |none=>none
def abld (r:Option (List AV)):Option (AV × List Chg):=match r with
  |some cs=>some (.agg cs,[])
  |none=>none
def alds (a:Bool) (r:Option (List AV)):Option (AV × List Chg):=match r with
  | some cs=>match a,cs with
    |true,cs=>some (.agg cs,[])
    |false,[v]=>some (v,[])
    |false,_=>none
  |none=>none
def aldb (a:Bool) (n i o:Nat) (r:Option ABlk):Option (AV × List Chg):=match r with
  |some (.row _ esz es)=>alds a (rowGet esz es i o n)
  |_=>none
def asto (get:Nat→Option ABlk) (n:Nat) (p:AV) (r:Option (List AV)):Option (AV × List Chg):=match p,r with
  | .ptr b i o,some vs=>match get b with
    |some (.row true esz es)=>cond (vs.length==n && vs.all AV.scalar) (match rowSet esz es i o vs with
        |some es'=>some (.undef,[⟨b,some (.row true esz es'),refsL vs⟩])
        |none=>none) none
    |_=>none
  |_,_=>none
def astr (b esz:Nat) (r:Option (List (List AV))) (vs:List AV):Option (AV × List Chg):=match r with
  |some es'=>some (.undef,[⟨b,some (.row true esz es'),refsL vs⟩])
  |none=>none
def astb (n b i o:Nat) (r:Option ABlk) (vs:List AV):Option (AV × List Chg):=match r with
  |some (.row true esz es)=>cond (vs.length==n && vs.all AV.scalar) (astr b esz (rowSet esz es i o vs) vs) none
  |_=>none
def aidb (esz b j n:Nat) (k:Int) (r:Option ABlk):Option (AV × List Chg):=match r with
  |some (.row _ e _)=>cond (e==esz && decide (0≤k) && decide (k.toNat<n)) (some (.ptr b (j+k.toNat) 0,[])) none
  |_=>none
def aval (r:Option AV):Option (AV × List Chg):=match r with
  |some v=>some (v,[])
  |none=>none
def anil (v:AV):Option (AV × List Chg):=match v with
  | .ptr b i o=>some (.ptr b i o,[])
  | .func f a c=>some (.func f a c,[])
  |_=>none
def afa (o:Nat) (v:AV):Option (AV × List Chg):=match v with
  | .ptr b i p=>some (.ptr b i (p+o),[])
  |_=>none
def aext (k:Nat) (v:AV):Option (AV × List Chg):=match v with
  | .tuple vs=>match vs[k]? with
    |some v=>some (v,[])
    |none=>none
  |_=>none
def aeql (neg:Bool) (r:Option Bool):Option (AV × List Chg):=match r with
  |some b=>some (.bool (cond neg (!b) b),[])
  |none=>none
theorem o_mv:aprimW get nid T (.mv x)=some (aev T x,[]):=rfl
theorem o_pick:aprimW get nid T (.pick x y z)=apick (aev T x) (aev T y) (aev T z):=rfl
theorem o_alloc (e:Nat) (es:List (List AV)):aprimW get nid T (.alloc e es)=some (.ptr nid 0 0,[⟨nid,some (.row true e es),[]⟩]):=rfl
theorem o_box (e n:Nat):aprimW get nid T (.box e n x)=abox nid e n (aev T x).cells? :=by
  simp only[aprimW,aprim,abox]
  cases (aev T x).cells? with
  |none=>rfl
  | some cs=>
    simp only
    split
    · rename_i h;simp[h]
    · rename_i h
      cases hc:(cs.length==n && n / e*e==n && cs.all AV.scalar) with
      |false=>rfl
      |true=>simp at hc;exact absurd ⟨hc.1.1,hc.1.2,by simpa using hc.2⟩ h
theorem o_bld (z:List AV) (ps:List (Nat × Nat × AOpnd)):aprimW get nid T (.build z ps)=abld (fillC z (ps.map fun (o,s,x)=>(o,s,aev T x))):=rfl
theorem o_load (g:Bool) (n:Nat):aprimW get nid T (.load g n x)=ald get g n (aev T x):=rfl
theorem o_ldg (g:Bool) (n b i o:Nat):ald get g n (.ptr b i o)=aldb g n i o (get b):=by
  simp only[ald,aprim,aev,aldb]
  cases get b with
  |none=>rfl
  | some y=>cases y with
    | row _ e es=>simp only[alds];cases rowGet e es i o n with
      |none=>rfl
      | some cs=>cases g with
        |true=>rfl
        |false=>rcases cs with _ |⟨v,_ |⟨v2,r⟩⟩ <;>rfl
    |_=>rfl
theorem o_ldp (g:Bool) (n k i o:Nat) (h:Blks):ald get g n (.ptr (nb h k) i o)=aldb g n i o (get (nb h k)):=o_ldg ..
theorem o_ldb (g own:Bool) (n i o e:Nat) (es:List (List AV)):aldb g n i o (some (.row own e es))=alds g (rowGet e es i o n):=rfl
theorem o_ld1 (cs:List AV):alds true (some cs)=some (.agg cs,[]):=rfl
theorem o_ld2 (v:AV):alds false (some [v])=some (v,[]):=rfl
theorem o_sto (n:Nat):aprimW get nid T (.store n x y)=asto get n (aev T x) (aev T y).cells? :=by
  simp only[aprimW,aprim,asto]
  cases aev T x <;>try rfl
  cases (aev T y).cells? with
  |none=>rfl
  | some vs =>
    rename_i b i o
    simp only
    cases get b with
    |none=>rfl
    | some z=>cases z with
      | row own e es=>cases own with
        |false=>rfl
        | true=>
          simp only
          cases hc:(vs.length==n && vs.all AV.scalar) with
          | true=>
            simp only[Bool.and_eq_true,beq_iff_eq] at hc
            rw[if_pos hc]
            rfl
          | false=>
            rw[if_neg (fun h=>by rw[h.1,h.2] at hc;simp at hc)]
            rfl
      |_=>rfl
theorem o_stp (n b i o:Nat) (vs:List AV):asto get n (.ptr b i o) (some vs)=astb n b i o (get b) vs:=rfl
theorem o_stb (n b i o e:Nat) (es:List (List AV)) (vs:List AV):astb n b i o (some (.row true e es)) vs=cond (vs.length==n && vs.all AV.scalar) (astr b e (rowSet e es i o vs) vs) none:=rfl
theorem o_str (b e:Nat) (es:List (List AV)) (vs:List AV):astr b e (some es) vs=some (.undef,[⟨b,some (.row true e es),refsL vs⟩]):=rfl
theorem o_nil:aprimW get nid T (.nilc x)=anil (aev T x):=rfl
theorem o_nil1 (b i o:Nat):anil (.ptr b i o)=some (.ptr b i o,[]):=rfl
theorem o_nil2 (f:FuncId) (l c:List AV):anil (.func f l c)=some (.func f l c,[]):=rfl
theorem o_bin (o:BinOp):aprimW get nid T (.bin o x y)=aval (abin o (aev T x) (aev T y)):=by
  simp only[aprimW,aprim,aval];cases abin o (aev T x) (aev T y) <;>rfl
theorem o_val (v:AV):aval (some v)=some (v,[]):=rfl
theorem o_eql (n g:Bool) (sh:List CK):aprimW get nid T (.eql n g sh x y)=aeql n (peq g sh (aev T x) (aev T y)):=by
  simp only[aprimW,aprim,aeql];cases peq g sh (aev T x) (aev T y) <;>cases n <;>rfl
theorem o_eq1 (c:Bool):aeql false (some c)=some (.bool c,[]):=rfl
theorem o_eq2 (c:Bool):aeql true (some c)=some (.bool (!c),[]):=rfl
theorem o_un (o:UnOp):aprimW get nid T (.un o x)=aval (aun o (aev T x)):=by
  simp only[aprimW,aprim,aval];cases aun o (aev T x) <;>rfl
theorem o_len (k:LK):aprimW get nid T (.len k x)=alen get k (aev T x):=rfl
theorem o_len1:alen get .slice .nilslice=some (.int .i64 0,[]):=rfl
theorem o_len2:alen get .slice .slice0=some (.int .i64 0,[]):=rfl
theorem o_len3 (b i n:Nat) (c:Option Nat):alen get .slice (.slice b i n c)=some (.int .i64 n,[]):=rfl
theorem o_len4 (n:Nat):alen get .slice (.osl n)=some (.int .i64 n,[]):=rfl
theorem o_len5 (s:List UInt8):alen get .str (.str s)=some (.int .i64 s.length,[]):=rfl
theorem o_idx (e:Nat):aprimW get nid T (.idxS e x y)=aidx get e (aev T x) (aev T y):=rfl
theorem o_idx1 (e b j n:Nat) (c:Option Nat) (kk:IntKind) (k:Int):aidx get e (.slice b j n c) (.int kk k)=aidb e b j n k (get b):=by
  simp only[aidx,aprim,aev,aidb]
  cases get b with
  |none=>rfl
  | some y=>cases y with
    | row own ee es=>
      simp only
      split
      · rename_i h;simp[h.1,h.2.1,h.2.2]
      · rename_i h
        cases hc:(ee==e && decide (0≤k) && decide (k.toNat<n)) with
        |false=>rfl
        |true=>simp at hc;exact absurd ⟨hc.1.1,hc.1.2,hc.2⟩ h
    |_=>rfl
theorem o_idx2 (e b j n:Nat) (k:Int) (own:Bool) (ee:Nat) (es:List (List AV)):aidb e b j n k (some (.row own ee es))=cond (ee==e && decide (0≤k) && decide (k.toNat<n)) (some (.ptr b (j+k.toNat) 0,[])) none:=rfl
theorem o_fa (o:Nat):aprimW get nid T (.fieldA o x)=afa o (aev T x):=rfl
theorem o_fa1 (o b i p:Nat):afa o (.ptr b i p)=some (.ptr b i (p+o),[]):=rfl
theorem o_mkf (f:FuncId) (l c:List AOpnd):aprimW get nid T (.mkfunc f l c)=some (.func f (l.map (aev T)) (c.map (aev T)),[]):=rfl
theorem o_ext (k:Nat):aprimW get nid T (.ext x k)=aext k (aev T x):=by
  simp only[aprimW,aprim,aext]
  cases aev T x <;>try rfl
theorem o_ext1 (k:Nat) (vs:List AV):aext k (.tuple vs)=aval (vs[k]?):=by
  simp only[aext]
  cases vs[k]? <;>rfl
theorem p_slit (e l:Nat) (z':List AV) (ps:List (Nat × AOpnd)):aprimW get nid T (.slit e l z' ps)=aprim get nid T (.slit e l z' ps):=rfl
theorem p_field (o n:Nat) (g:Bool):aprimW get nid T (.field o n g x)=aprim get nid T (.field o n g x):=rfl
theorem p_idxA (e l:Nat):aprimW get nid T (.idxA e l x y)=aprim get nid T (.idxA e l x y):=rfl
theorem p_idxV (e l:Nat) (g:Bool):aprimW get nid T (.idxV e l g x y)=aprim get nid T (.idxV e l g x y):=rfl
theorem p_idxStr:aprimW get nid T (.idxStr x y)=aprim get nid T (.idxStr x y):=rfl
theorem p_sliceStr (lo hi:Option AOpnd):aprimW get nid T (.sliceStr x lo hi)=aprim get nid T (.sliceStr x lo hi):=rfl
theorem p_sliceS (e:Nat) (lo hi mx:Option AOpnd):aprimW get nid T (.sliceS e x lo hi mx)=aprim get nid T (.sliceS e x lo hi mx):=rfl
theorem p_sliceA (e l:Nat) (lo hi mx:Option AOpnd):aprimW get nid T (.sliceA e l x lo hi mx)=aprim get nid T (.sliceA e l x lo hi mx):=rfl
theorem p_isnil (n:Bool) (k:NK):aprimW get nid T (.isnil n k x)=aprim get nid T (.isnil n k x):=rfl
theorem p_conv (k:AConv):aprimW get nid T (.conv k x)=aprim get nid T (.conv k x):=rfl
theorem p_iface (t:TypeId):aprimW get nid T (.iface t x)=aprim get nid T (.iface t x):=rfl
theorem p_app (e b:Nat):aprimW get nid T (.app e b x y)=aprim get nid T (.app e b x y):=rfl
theorem p_copy (e:Nat):aprimW get nid T (.copy e x y)=aprim get nid T (.copy e x y):=rfl
theorem p_minmax (g:Bool) (l:List AOpnd):aprimW get nid T (.minmax g l)=aprim get nid T (.minmax g l):=rfl
theorem p_mkslice (e b:Nat) (z':List AV):aprimW get nid T (.mkslice e b z' x y)=aprim get nid T (.mkslice e b z' x y):=rfl
theorem p_mkmap:aprimW get nid T (.mkmap)=aprim get nid T (.mkmap):=rfl
theorem p_look (g:Bool) (sh:List CK) (z':AV) (ok:Bool):aprimW get nid T (.look g sh z' ok x y)=aprim get nid T (.look g sh z' ok x y):=rfl
theorem p_mapset (g:Bool) (sh:List CK):aprimW get nid T (.mapset g sh x y z)=aprim get nid T (.mapset g sh x y z):=rfl
theorem p_capb:aprimW get nid T (.capb x)=aprim get nid T (.capb x):=rfl
theorem p_appz (e b:Nat) (z':List AV):aprimW get nid T (.appz e b z' x y)=aprim get nid T (.appz e b z' x y):=rfl
theorem p_s2a (n:Nat):aprimW get nid T (.s2a n x)=aprim get nid T (.s2a n x):=rfl
theorem p_add64:aprimW get nid T (.add64 x y z)=aprim get nid T (.add64 x y z):=rfl
theorem p_tassert (t:TypeId) (ok:Bool):aprimW get nid T (.tassert t ok x)=aprim get nid T (.tassert t ok x):=rfl
theorem asl_n (e:Nat) (lo hi mx:Option AV):aslice get e .nilslice lo hi mx=match bound? 0 mx,bound? 0 hi,bound? 0 lo with
    |some 0,some 0,some 0=>some .nilslice
    |_,_,_=>none:=rfl
theorem asl_0 (e:Nat) (lo hi mx:Option AV):aslice get e .slice0 lo hi mx=match bound? 0 mx,bound? 0 hi,bound? 0 lo with
    |some 0,some 0,some 0=>some .slice0
    |_,_,_=>none:=rfl
theorem asl_s (e b i n:Nat) (c:Option Nat) (lo hi mx:Option AV):aslice get e (.slice b i n c) lo hi mx=match get b with
    | some (.row _ e' _)=>
      if e'≠e then none else
      match bound? (c.getD n) mx,bound? n hi,bound? 0 lo with
      | some m,some h,some l=>
        if l≤h∧h≤m∧m≤c.getD n then
          some (.slice b (i+l) (h - l) (if mx.isSome then some (m - l) else c.map (· - l)))
        else none
      |_,_,_=>none
    |_=>none:=rfl
theorem els_n (e:Nat):elemsOf get e .nilslice=some []:=rfl
theorem els_0 (e:Nat):elemsOf get e .slice0=some []:=rfl
theorem els_z (e b i:Nat) (c:Option Nat):elemsOf get e (.slice b i 0 c)=some []:=rfl
theorem els_s (e b i n:Nat) (c:Option Nat):elemsOf get e (.slice b i (n+1) c)=match get b with
    |some (.row _ e' es)=>if e'=e then winGet es i (n+1) else none
    |_=>none:=rfl
theorem els_t (s:List UInt8):elemsOf get 1 (.str s)=some (ofBytes s):=rfl
theorem ce_b (c:Bool):AV.cells? (.bool c)=some [.bool c]:=rfl
theorem ce_i (k:IntKind) (c:Int):AV.cells? (.int k c)=some [.int k c]:=rfl
theorem ce_t (c:List UInt8):AV.cells? (.str c)=some [.str c]:=rfl
theorem ce_np:AV.cells? (.nilptr)=some [.nilptr]:=rfl
theorem ce_p (x y z:Nat):AV.cells? (.ptr x y z)=some [.ptr x y z]:=rfl
theorem ce_ns:AV.cells? (.nilslice)=some [.nilslice]:=rfl
theorem ce_s0:AV.cells? (.slice0)=some [.slice0]:=rfl
theorem ce_s (x y z:Nat) (c:Option Nat):AV.cells? (.slice x y z c)=some [.slice x y z c]:=rfl
theorem ce_nm:AV.cells? (.nilmap)=some [.nilmap]:=rfl
theorem ce_m (x:Nat):AV.cells? (.map x)=some [.map x]:=rfl
theorem ce_nf:AV.cells? (.nilFunc)=some [.nilFunc]:=rfl
theorem ce_f (f:FuncId) (x y:List AV):AV.cells? (.func f x y)=some [.func f x y]:=rfl
theorem ce_ni:AV.cells? (.nilIface)=some [.nilIface]:=rfl
theorem ce_if (t:TypeId) (x:AV):AV.cells? (.iface t x)=some [.iface t x]:=rfl
theorem ce_o:AV.cells? (.opq)=some [.opq]:=rfl
theorem ce_os (x:Nat):AV.cells? (.osl x)=some [.osl x]:=rfl
theorem ce_a (l:List AV):AV.cells? (.agg l)=some l:=rfl
theorem top_p (b i o:Nat):AV.top (.ptr b i o)=[b]:=rfl
theorem top_s (b i n:Nat) (c:Option Nat):AV.top (.slice b i n c)=[b]:=rfl
theorem top_m (b:Nat):AV.top (.map b)=[b]:=rfl
theorem top_i (k:IntKind) (n:Int):AV.top (.int k n)=[]:=rfl
theorem top_b (c:Bool):AV.top (.bool c)=[]:=rfl
theorem top_t (s:List UInt8):AV.top (.str s)=[]:=rfl
theorem top_a (l:List AV):AV.top (.agg l)=[]:=rfl
theorem top_u (l:List AV):AV.top (.tuple l)=[]:=rfl
theorem top_ns:AV.top .nilslice=[]:=rfl
theorem top_s0:AV.top .slice0=[]:=rfl
theorem top_d:AV.top .undef=[]:=rfl
theorem top_f (f:FuncId) (x y:List AV):AV.top (.func f x y)=[]:=rfl
end
def sb:AV→Nat
  | .slice b _ _ _=>b
  |_=>0
def si:AV→Nat
  | .slice _ i _ _=>i
  |_=>0
inductive SlAt (h:Blks) (e:Nat) (v:AV) (es:List (List AV)):Prop
  |none (hn:es=[]) (hv:v= .nilslice∨v= .slice0∨v= .osl 0)
  |some (b i:Nat) (c:Option Nat) (own:Bool) (rows:List (List AV)) (hv:v= .slice b i es.length c) (hb:bget h b=some (.row own e rows)) (hw:(rows.drop i).take es.length=es) (hc: ∀ k,c=Option.some k→es.length≤k)
section
variable {h:Blks} {e:Nat} {v:AV} {es:List (List AV)}
theorem SlAt.sc (H:SlAt h e v es):v.scalar=true:=by
  rcases H with ⟨_,rfl |rfl |rfl⟩|⟨_,_,_,_,_,rfl,_,_,_⟩ <;>rfl
theorem SlAt.cells (H:SlAt h e v es):v.cells? = .some [v]:=by
  rcases H with ⟨_,rfl |rfl |rfl⟩|⟨_,_,_,_,_,rfl,_,_,_⟩ <;>rfl
theorem SlAt.len (H:SlAt h e v es) (get:Nat→Option ABlk):alen get .slice v= .some (.int .i64 es.length,[]):=by
  rcases H with ⟨rfl,rfl |rfl |rfl⟩|⟨_,_,_,_,_,rfl,_,_,_⟩ <;>rfl
theorem SlAt.refs (H:SlAt h e v es): ∀ b∈v.refs,b<h.length:=by
  rcases H with ⟨rfl,rfl |rfl |rfl⟩|⟨b,_,_,_,_,rfl,hb,_,_⟩
  · intro x hx;cases hx
  · intro x hx;cases hx
  · intro x hx;cases hx
  · intro x hx
    simp only[AV.refs,List.mem_singleton] at hx
    subst hx
    exact bget_lt hb
theorem SlAt.idx (H:SlAt h e v es) (l:List (Option ABlk)) (k:Nat) (hk:k<es.length):aidx (bget (bxt h l)) e v (.int .i64 k)= .some (.ptr (sb v) (si v+k) 0,[]):=by
  rcases H with ⟨rfl,_⟩|⟨b,i,c,own,rows,rfl,hb,hw,hc⟩
  · simp at hk
  · rw[o_idx1,bxt_old l h b (bget_lt hb),hb,o_idx2]
    simp[sb,si,hk]
theorem SlAt.ld (H:SlAt h e v es) (l:List (Option ABlk)) (k:Nat) (x:List AV) (hx:es[k]? = .some x) (g:Bool) (n o:Nat) (hn:0<n) (ho:o+n≤e):ald (bget (bxt h l)) g n (.ptr (sb v) (si v+k) o)=alds g (.some ((x.drop o).take n)):=by
  rcases H with ⟨rfl,_⟩|⟨b,i,c,own,rows,rfl,hb,hw,hc⟩
  · simp at hx
  · have hr:rows[i+k]? = .some x:=by
      have h1:((rows.drop i).take es.length)[k]? = .some x:=by rw[hw];exact hx
      rw[List.getElem?_take,List.getElem?_drop] at h1
      split at h1
      · exact h1
      · cases h1
    show ald _ g n (.ptr b (i+k) o)=_
    rw[o_ldg,bxt_old l h b (bget_lt hb),hb,o_ldb]
    congr 1
    have hlt:Nat.ble e o=false:=by
      cases hq:Nat.ble e o with
      |false=>rfl
      |true=>have:=Nat.le_of_ble_eq_true hq;omega
    simp only[rowGet,hlt,cond_false,rowGet0,if_pos ho,hr]
theorem SlAt.keep {m m':Mem} (H:SlAt m.blks e v es) (k:Keep m m'):SlAt m'.blks e v es:=by
  rcases H with ⟨hn,hv⟩|⟨b,i,c,own,rows,hv,hb,hw,hc⟩
  · exact .none hn hv
  · exact .some b i c own rows hv ((k.get b (bget_lt hb)).trans hb) hw hc
theorem SlAt.bx (H:SlAt h e v es) (l:List (Option ABlk)):SlAt (bxt h l) e v es:=by
  rcases H with ⟨hn,hv⟩|⟨b,i,c,own,rows,hv,hb,hw,hc⟩
  · exact .none hn hv
  · exact .some b i c own rows hv ((bxt_old l h b (bget_lt hb)).trans hb) hw hc
theorem SlAt.pre (H:SlAt h e v es) (k:Nat) (hk:k<es.length): ∃ v',(∀ l,aslice (bget (bxt h l)) e v .none (.some (.int .i64 k)) .none= .some v')∧SlAt h e v' (es.take k):=by
  rcases H with ⟨rfl,_⟩|⟨b,i,c,own,rows,rfl,hb,hw,hc⟩
  · simp at hk
  · refine ⟨.slice b i k c,fun l=> ?_,.some b i c own rows (by simp[Nat.min_eq_left (Nat.le_of_lt hk)]) hb ?_ (fun q hq=> ?_)⟩
    · have e1:k≤c.getD es.length:=by
        cases hq:c with
        |none=>simp;omega
        |some q=>have:=hc q hq;simp;omega
      have e2:c.map (· - 0)=c:=by cases c <;>rfl
      simp only[aslice,bxt_old l h b (bget_lt hb),hb,bound?,ne_eq,not_true_eq_false,if_false,Int.natCast_nonneg,if_true,Int.toNat_natCast,Option.isSome_none,Bool.false_eq_true,Nat.add_zero]
      rw[if_pos ⟨Nat.zero_le _,e1,Nat.le_refl _⟩,e2]
      rfl
    · rw[List.length_take,Nat.min_eq_left (Nat.le_of_lt hk)]
      conv=>rhs;rw[←hw,List.take_take,Nat.min_eq_left (Nat.le_of_lt hk)]
    · have:=hc q hq
      rw[List.length_take]
      omega
end
def Qe (v:AV) (m0:Mem):AV→Mem→Prop:=fun v' m'=>v'=v∧Keep m0 m'
theorem q_e (v v':AV) (m0 m':Mem):Qe v m0 v' m'=(v'=v∧Keep m0 m'):=rfl
theorem Ev.ofW {F:FuncId→Option AFunc} {meth:Meth} {sm:Summ} {n:Nat} {f:FuncId} {vs:List AV} {h:Blks} {lg d:List Nat} {v:AV}
    (e:Wa F meth sm n (.fn f) vs ⟨bxt h [],lg,d⟩ (Qe v ⟨h,lg,d⟩)):Ev F meth sm n f vs ⟨h,lg,d⟩ v:=by
  obtain ⟨v',m',e1,rfl,e2⟩:=Wa_true n _ _ _ _ e
  exact ⟨m',e1,e2⟩
theorem k_bx (h:Blks) (lg lg' d:List Nat) (l:List (Option ABlk)) (hl:LogOK h lg lg'):Keep ⟨h,lg,d⟩ ⟨bxt h l,lg',d⟩:=keep_bx hl
theorem lg_nil (h:Blks) (lg:List Nat):LogOK h lg lg:= .nil
theorem lg_cons (h:Blks) (lg l:List Nat) (k:Nat) (H:LogOK h lg l):LogOK h lg (nb h k::l):= .cons H
theorem Keep.at {h h':Blks} {lg lg' d d':List Nat} {l0:List (Option ABlk)} (k:Keep ⟨bxt h l0,lg,d⟩ ⟨h',lg',d'⟩) (l:List (Option ABlk)) (j:Nat) (hj:j<blen l0):bget (bxt h' l) (nb h j)=bnth l0 j:=by
  have hlt:nb h j<(bxt h l0).length:=by rw[nb_len,nb,nb];omega
  have h1:=k.get (nb h j) hlt
  have h2:=k.len
  simp only at h1 h2 hlt
  rw[bxt_old l h' _ (by omega),h1,nb_get]
theorem Keep.bx {m0:Mem} {h':Blks} {lg' lg2 d':List Nat} (k:Keep m0 ⟨h',lg',d'⟩) (l:List (Option ABlk)) (q:LogOK h' lg' lg2):Keep m0 ⟨bxt h' l,lg2,d'⟩:=k.trans (keep_bx q)
def Teq (T T':Tr):Prop:= ∀ p,tget p T=tget p T'
theorem Teq.refl (T:Tr):Teq T T:=fun _=>rfl
theorem Teq.set {T T':Tr} (h:Teq T T') (v:AV) (q:Pth):Teq (tset v q T) (tset v q T'):=fun p=>by
  simp only[tget_tset,h p]
theorem Teq.aev {T T':Tr} (h:Teq T T'):aev T=aev T':=funext fun x=>by
  cases x with
  |t p=>exact h p
  |c v=>rfl
theorem Teq.put {T T':Tr} (h:Teq T T') (d:Option Pth) (v:AV):Teq (aput T d v) (aput T' d v):=by
  cases d with
  |none=>exact h
  |some p=>exact h.set v p
theorem Teq.wanted {T T':Tr} (h:Teq T T') (g:Option (Pth × Bool)):awanted T g=awanted T' g:=by
  cases g with
  |none=>rfl
  |some p=>simp only[awanted,h p.1]
theorem aevs_eq (T:Tr): ∀ l,aevs T l=l.map (aev T)
  | []=>rfl
  |x::l=>by simp[aevs,aevs_eq T l]
theorem Teq.prim {T T':Tr} (h:Teq T T') (get:Nat→Option ABlk) (n:Nat) (op:AOp):aprim get n T op=aprim get n T' op:=by
  have e:=h.aev
  cases op <;>simp only[aprim,e]
theorem Teq.primW {T T':Tr} (h:Teq T T') (get:Nat→Option ABlk) (n:Nat) (op:AOp):aprimW get n T op=aprimW get n T' op:=by
  rw[aprimW_eq,aprimW_eq,h.prim]
theorem Teq.callee {T T':Tr} (h:Teq T T') (get:Nat→Option ABlk) (meth:Meth) (op:AOp):acallee get meth T op=acallee get meth T' op:=by
  have e:=h.aev
  have p: ∀ g n v,aprim get 0 T (.load g n (.c v))=aprim get 0 T' (.load g n (.c v)):=fun g n v=>h.prim get 0 _
  cases op <;>simp only[acallee,aevs_eq,e,p]
theorem Teq.reads {T T':Tr} (h:Teq T T') (op:AOp):op.reads T=op.reads T':=by
  have e:=h.aev
  cases op <;>simp only[AOp.reads,AOpnd.top,e]
def Fr (l:List Pth) (T T':Tr):Prop:= ∀ p,p ∉ l→tget p T'=tget p T
theorem Fr.refl (l:List Pth) (T:Tr):Fr l T T:=fun _ _=>rfl
theorem Fr.trans {l k:List Pth} {T T' T'':Tr} (h:Fr l T T') (h':Fr k T' T''):Fr (l++k) T T'':=fun p hp=>by
  rw[List.mem_append] at hp
  exact (h' p fun q=>hp (.inr q)).trans (h p fun q=>hp (.inl q))
theorem Fr.sub {l k:List Pth} {T T':Tr} (h:Fr l T T') (hs: ∀ p∈l,p∈k):Fr k T T':=fun p hp=>h p fun q=>hp (hs p q)
def dstL:Option Pth→List Pth
  |some p=> [p]
  |none=> []
def asgO:List AOper→List Pth
  | []=> []
  |o::os=>dstL o.dst++asgO os
def asg:ACode→List Pth
  | .region _ _ ops=>asgO ops
  | .seq a b=>asg a++asg b
  | .cond _ a b=>asg a++asg b
  | .block _ c=>asg c
  | .loop c=>asg c
  |_=> []
theorem Fr.put (T:Tr) (d:Option Pth) (v:AV):Fr (dstL d) T (aput T d v):=fun p hp=>by
  cases d with
  |none=>rfl
  |some q=>simp only[dstL,List.mem_singleton] at hp;simp only[aput,tget_tset,if_neg hp]
theorem Fr.set {T:Tr} {t:Pth} {v:AV} (h:tget t T=v):Fr [] T (tset v t T):=fun p _=>by
  rw[tget_tset]
  split
  · rename_i e;rw[e,h]
  · rfl
section
variable {call:CallF} {wc:WCall} {meth:Meth}
def WMono (wc:WCall):Prop:= ∀ c vs m (Q Q':AV→Mem→Prop),(∀ v m',Q v m'→Q' v m')→wc c vs m Q→wc c vs m Q'
theorem Wo_imp (hm:WMono wc) {pu:Bool}: ∀ (os:List AOper) (T T1:Tr) (m:Mem) (K K1:Tr→Mem→Prop),Wo wc meth pu os T m K→Teq T T1→(∀ T' T1' m',Teq T' T1'→Fr (asgO os) T1 T1'→K T' m'→K1 T1' m')→Wo wc meth pu os T1 m K1
  | [],T,T1,m,K,K1,h,e,hk=>hk T T1 m e (Fr.refl _ _) h
  | o ::os,T,T1,m,K,K1,h,e,hk=>by
    have ih:=fun (T T1':Tr) (m:Mem) (f:Fr (dstL o.dst) T1 T1') (h:Wo wc meth pu os T m K) (e:Teq T T1')=>Wo_imp hm os T T1' m K K1 h e fun T' T2 m' e' f'=>hk T' T2 m' e' (f.trans f')
    have skip: ∀ T T2,Fr [] T1 T2→Teq T T2→Wo wc meth pu os (aput T o.dst .undef) m K→Wo wc meth pu os (aput T2 o.dst .undef) m K1:=fun T T2 f e h=>ih _ _ m ((f.trans (Fr.put T2 o.dst .undef)).sub (by simp)) h (e.put _ _)
    have run: ∀ T T2,Fr [] T1 T2→Teq T T2→Wrun wc meth pu o os m K T→Wrun wc meth pu o os m K1 T2:=fun T T2 f e h=>by
      have fp:=fun v=>((f.trans (Fr.put T2 o.dst v)).sub (k:=dstL o.dst) (by simp))
      unfold Wrun at h ⊢
      rw[←e.callee,←e.primW]
      generalize o.op.isCall=b at h ⊢
      generalize acallee (bget m.blks) meth T o.op=r at h ⊢
      generalize aprimW (bget m.blks) m.blks.length T o.op=x at h ⊢
      cases b with
      | true=>cases r with
        |none=>exact h
        | some p=>cases pu with
          |true=>exact hm _ _ _ _ _ (fun v m' hq=>⟨hq.1,ih _ _ m (fp v) hq.2 (e.put _ _)⟩) h
          |false=>exact hm _ _ _ _ _ (fun v m' hq=>ih _ _ m' (fp v) hq (e.put _ _)) h
      | false=>cases x with
        |none=>exact h
        | some p=>
          obtain ⟨v,cs⟩:=p
          cases pu with
          | true=>cases cs with
            |nil=>exact ih _ _ m (fp v) h (e.put _ _)
            |cons c cs=>exact h
          |false=>exact ih _ _ _ (fp v) h (e.put _ _)
    rw[Wo] at h ⊢
    cases hg:o.guard with
    | none=>
      rw[hg] at h
      exact run T T1 (Fr.refl _ _) e h
    | some p=>
      obtain ⟨t,w⟩:=p
      rw[hg] at h
      simp only at h ⊢
      rw[←e t]
      cases hx:tget t T with
      | bool b=>
        rw[hx] at h
        have hx1:tget t T1= .bool b:=(e t).symm.trans hx
        simp only at h ⊢
        refine ⟨fun hb=> ?_,fun hb=> ?_⟩
        · subst hb
          have h:=h.1 rfl
          cases w with
          |true=>exact run _ _ (Fr.set hx1) (e.set _ _) h
          |false=>exact skip _ _ (Fr.set hx1) (e.set _ _) h
        · subst hb
          have h:=h.2 rfl
          cases w with
          |true=>exact skip _ _ (Fr.set hx1) (e.set _ _) h
          |false=>exact run _ _ (Fr.set hx1) (e.set _ _) h
      |undef=>rw[hx] at h;exact skip T T1 (Fr.refl _ _) e h
      |_=>rw[hx] at h;exact h.elim
theorem Wr_imp (hm:WMono wc) {base:Nat}: ∀ (os:List AOper) (i:Nat) (recs:List ARec) (T T1:Tr) (m:Mem) (K K1:Tr→Mem→Prop),Wr wc meth base i os recs T m K→Teq T T1→(∀ T' T1' m',Teq T' T1'→Fr (asgO os) T1 T1'→K T' m'→K1 T1' m')→Wr wc meth base i os recs T1 m K1
  | [],i,recs,T,T1,m,K,K1,h,e,hk=>hk T T1 m e (Fr.refl _ _) h
  | o ::os,i,recs,T,T1,m,K,K1,h,e,hk=>by
    have ih:=fun (recs:List ARec) (T T1':Tr) (m:Mem) (f:Fr (dstL o.dst) T1 T1') (h:Wr wc meth base (i+1) os recs T m K) (e:Teq T T1')=>Wr_imp hm os (i+1) recs T T1' m K K1 h e fun T' T2 m' e' f'=>hk T' T2 m' e' (f.trans f')
    have skip: ∀ T T2,Fr [] T1 T2→Teq T T2→Wr wc meth base (i+1) os recs (aput T o.dst .undef) m K→Wr wc meth base (i+1) os recs (aput T2 o.dst .undef) m K1:=fun T T2 f e h=>ih _ _ _ m ((f.trans (Fr.put T2 o.dst .undef)).sub (by simp)) h (e.put _ _)
    have run: ∀ T T2,Fr [] T1 T2→Teq T T2→Wrr wc meth base i o os recs m K T→Wrr wc meth base i o os recs m K1 T2:=fun T T2 f e h=>by
      have fp:=fun v=>((f.trans (Fr.put T2 o.dst v)).sub (k:=dstL o.dst) (by simp))
      unfold Wrr at h ⊢
      have eo: ∀ f rd msk n,Ro f rd msk m.blks n T2 o.op=Ro f rd msk m.blks n T o.op:=fun f rd msk n=>by cases f <;>simp only[Ro,e.primW]
      simp only[←e.callee,←e.reads,eo] at h ⊢
      generalize o.op.isCall=b at h ⊢
      cases b with
      | true=>
        simp only at h ⊢
        generalize acallee (bget (mask m.blks ((recs.filter fun r:ARec=> !ins o.after r.idx).flatMap fun x:ARec=>x.wr))) meth T o.op=r at h ⊢
        cases r with
        |none=>exact h
        |some p=>exact hm _ _ _ _ _ (fun v m' hq=>⟨hq.1,ih _ _ _ _ (fp v) hq.2 (e.put _ _)⟩) h
      | false=>
        simp only at h ⊢
        generalize Ro (o.op.still && ((recs.filter fun r:ARec=> !ins o.after r.idx).flatMap fun x:ARec=>x.wr).isEmpty) (o.op.reads T) ((recs.filter fun r:ARec=> !ins o.after r.idx).flatMap fun x:ARec=>x.wr) m.blks (nidOf base m.blks.length o.slot) T o.op=x at h ⊢
        cases x with
        |none=>exact h
        | some p=>
          obtain ⟨v,cs⟩:=p
          exact ⟨h.1,ih _ _ _ _ (fp v) h.2 (e.put _ _)⟩
    rw[Wr] at h ⊢
    cases hg:o.guard with
    | none=>
      rw[hg] at h
      exact run T T1 (Fr.refl _ _) e h
    | some p=>
      obtain ⟨t,w⟩:=p
      rw[hg] at h
      simp only at h ⊢
      rw[←e t]
      cases hx:tget t T with
      | bool b=>
        rw[hx] at h
        have hx1:tget t T1= .bool b:=(e t).symm.trans hx
        simp only at h ⊢
        refine ⟨fun hb=> ?_,fun hb=> ?_⟩
        · subst hb
          have h:=h.1 rfl
          cases w with
          |true=>exact run _ _ (Fr.set hx1) (e.set _ _) h
          |false=>exact skip _ _ (Fr.set hx1) (e.set _ _) h
        · subst hb
          have h:=h.2 rfl
          cases w with
          |true=>exact skip _ _ (Fr.set hx1) (e.set _ _) h
          |false=>exact run _ _ (Fr.set hx1) (e.set _ _) h
      |undef=>rw[hx] at h;exact skip T T1 (Fr.refl _ _) e h
      |_=>rw[hx] at h;exact h.elim
theorem Wc_imp (hm:WMono wc) (fu:Nat): ∀ (c:ACode) (T T1:Tr) (m:Mem) (K K1:AExit→Tr→Mem→Prop),Wc call wc meth fu c T m K→Teq T T1→
    (∀ e T' T1' m',Teq T' T1'→Fr (asg c) T1 T1'→K e T' m'→K1 e T1' m')→Wc call wc meth fu c T1 m K1
  | .skip,T,T1,m,K,K1,h,e,hk=>hk _ _ _ _ e (Fr.refl _ _) h
  | .bad,_,_,_,_,_,h,_,_=>h.elim
  | .exit id,T,T1,m,K,K1,h,e,hk=>hk _ _ _ _ e (Fr.refl _ _) h
  | .ret,T,T1,m,K,K1,h,e,hk=>hk _ _ _ _ e (Fr.refl _ _) h
  | .rangeFunc f ps a b,T,T1,m,K,K1,h,e,hk=>by
    rw[Wc] at h ⊢
    intro T2 e2
    obtain ⟨x,m',q1,q2⟩:=h T2 (fun p=>(e p).trans (e2 p))
    exact ⟨x,m',q1,hk _ _ _ _ e (Fr.refl _ _) q2⟩
  | .region false ns ops,T,m,T1,K,K1,h,e,hk=>Wo_imp hm ops _ _ _ _ _ h e (fun T' T1' m' e' f q=>hk _ _ _ _ e' f q)
  | .region true ns ops,T,T1,m,K,K1,h,e,hk=>by
    simp only[Wc] at h ⊢
    generalize (Nat.beq ns 0 && stillR 0 [] ops)=b at h ⊢
    cases b with
    |true=>exact Wo_imp hm ops _ _ _ _ _ h e (fun T' T1' m' e' f q=>hk _ _ _ _ e' f q)
    | false=>
      exact Wr_imp hm ops _ _ _ _ _ _ _ h e (fun T' T1' m' e' f q=>hk _ _ _ _ e' f q)
  | .seq a b,T,T1,m,K,K1,h,e,hk=>by
    rw[Wc] at h ⊢
    refine Wc_imp hm fu a T T1 m _ _ h e fun x T' T1' m' e' f q=> ?_
    cases x with
    |normal=>exact Wc_imp hm fu b T' T1' m' K K1 q e' fun y T2 T12 m2 e2 f2 q2=>hk y T2 T12 m2 e2 (f.trans f2) q2
    |exit j=>exact hk _ _ _ _ e' (f.sub fun p hp=>by simp only[asg,List.mem_append];exact .inl hp) q
    |ret=>exact hk _ _ _ _ e' (f.sub fun p hp=>by simp only[asg,List.mem_append];exact .inl hp) q
  | .cond c a b,T,T1,m,K,K1,h,e,hk=>by
    simp only[Wc] at h ⊢
    rw[←e.aev]
    split at h
    · rename_i hx
      exact Wc_imp hm fu a T T1 m K K1 h e fun x T' T1' m' e' f q=>hk _ _ _ _ e' (f.sub fun p hp=>by simp only[asg,List.mem_append];exact .inl hp) q
    · rename_i hx
      exact Wc_imp hm fu b T T1 m K K1 h e fun x T' T1' m' e' f q=>hk _ _ _ _ e' (f.sub fun p hp=>by simp only[asg,List.mem_append];exact .inr hp) q
    · exact h.elim
  | .block id c,T,T1,m,K,K1,h,e,hk=>by
    rw[Wc] at h ⊢
    refine Wc_imp hm fu c T T1 m _ _ h e fun x T' T1' m' e' f q=> ?_
    cases x with
    |normal=>exact hk _ _ _ _ e' f q
    |ret=>exact hk _ _ _ _ e' f q
    | exit j=>
      simp only[Kb] at q ⊢
      cases hj:Nat.beq j id with
      |true=>rw[hj] at q;exact hk _ _ _ _ e' f q
      |false=>rw[hj] at q;exact hk _ _ _ _ e' f q
  | .loop c,T,T1,m,K,K1,h,e,hk=>by
    rw[Wc] at h ⊢
    obtain ⟨N,I,hN,h0,hs,hl⟩:=h
    have step: ∀ (J J1:Tr→Mem→Prop) (T2 T12:Tr) (m2:Mem),Teq T2 T12→Fr (asg c) T1 T12→(∀ T' T1' m',Teq T' T1'→Fr (asg c) T1 T1'→J T' m'→J1 T1' m')→Wc call wc meth fu c T2 m2 (Ks J K)→Wc call wc meth fu c T12 m2 (Ks J1 K1):=fun J J1 T2 T12 m2 e2 f2 hJ h=>by
      refine Wc_imp hm fu c T2 T12 m2 _ _ h e2 fun x T' T1' m' e' f q=> ?_
      have ff:Fr (asg c) T1 T1':=(f2.trans f).sub (by simp)
      cases x with
      |normal=>exact hJ _ _ _ e' ff q
      |exit j=>exact hk _ _ _ _ e' ff q
      |ret=>exact hk _ _ _ _ e' ff q
    refine ⟨N,fun i T12 m2=> ∃ T2,Teq T2 T12∧Fr (asg c) T1 T12∧I i T2 m2,hN,⟨T,e,Fr.refl _ _,h0⟩,fun i T12 m2 hi ⟨T2,e2,f2,hI⟩=> ?_,fun T12 m2 ⟨T2,e2,f2,hI⟩=> ?_⟩
    · exact step _ _ T2 T12 m2 e2 f2 (fun T' T1' m' e' f q=>⟨T',e',f,q⟩) (hs i T2 m2 hi hI)
    · exact step _ _ T2 T12 m2 e2 f2 (fun T' T1' m' e' f q=>q) (hl T2 m2 hI)
theorem Kr_eq {rs:List ARes} {d:List Nat} {Q Q':AV→Mem→Prop} (hQ: ∀ v m,Q v m→Q' v m) {e:AExit} {T T1:Tr} {m:Mem} (ht:Teq T T1) (h:Kr rs d Q e T m):Kr rs d Q' e T1 m:=by
  have hr: ∀ (get:Nat→Option ABlk) (r:ARes),ares1 get T r=ares1 get T1 r:=fun get r=>by
    cases r with
    |tmp t=>simp only[ares1,ht t]
    |cell t a n=>simp only[ares1,ht.prim]
  have hl: ∀ (get:Nat→Option ABlk) (rs:List ARes),aresL get T rs=aresL get T1 rs:=fun get rs=>by
    induction rs with
    |nil=>rfl
    |cons r rs ih=>simp only[aresL,hr,ih]
  unfold Kr at h ⊢
  cases e with
  |exit j=>exact h
  | normal=>
    simp only[ares,←hl] at h ⊢
    generalize aresL (bget (m.killAll m.dfrs).blks) T rs=y at h ⊢
    rcases y with _ |_ |⟨v,_ |⟨w,r⟩⟩
    · exact h
    · exact hQ _ _ h
    · exact hQ _ _ h
    · exact hQ _ _ h
  | ret=>
    simp only[ares,←hl] at h ⊢
    generalize aresL (bget (m.killAll m.dfrs).blks) T rs=y at h ⊢
    rcases y with _ |_ |⟨v,_ |⟨w,r⟩⟩
    · exact h
    · exact hQ _ _ h
    · exact hQ _ _ h
    · exact hQ _ _ h
theorem Wa_mono {F:FuncId→Option AFunc} {sm:Summ}: ∀ n,WMono (Wa F meth sm n)
  |0=>fun c vs m Q Q' hQ h=>h.elim
  | n + 1 =>fun c vs m Q Q' hQ h=>by
    cases c with
    | yield l=>
      obtain ⟨v,m',q1,q2⟩:=h
      exact ⟨v,m',q1,hQ _ _ q2⟩
    | fn f=>
      rw[Wa] at h ⊢
      cases hs:sm f vs m with
      |some r=>rw[hs] at h;exact hQ _ _ h
      | none=>
        rw[hs] at h
        simp only at h ⊢
        cases hF:F f with
        |none=>rw[hF] at h;exact h
        | some fn=>
          rw[hF] at h
          exact ⟨h.1,Wc_imp (Wa_mono n) n _ _ _ _ _ _ h.2 (Teq.refl _) fun e T' T1' m' e' _ q=>Kr_eq hQ e' q⟩
end
def Cl (E:AExit→Tr→Mem→Prop):Prop:= ∀ e T T' m,Teq T T'→E e T m→E e T' m
theorem Cl_r (rs:List ARes) (d:List Nat) (Q:AV→Mem→Prop):Cl (Kr rs d Q):=fun _ _ _ _ h q=>Kr_eq (fun _ _ h=>h) h q
theorem Cl_b {i:Nat} {E:AExit→Tr→Mem→Prop} (h:Cl E):Cl (Kb i E):=fun e T T' m q k=>by
  cases e with
  |normal=>exact h _ _ _ _ q k
  |ret=>exact h _ _ _ _ q k
  | exit j=>
    simp only[Kb] at k ⊢
    cases hj:Nat.beq j i with
    |true=>rw[hj] at k;exact h _ _ _ _ q k
    |false=>rw[hj] at k;exact h _ _ _ _ q k
theorem Cl_q {F:FuncId→Option AFunc} {meth:Meth} {sm:Summ} {n fu:Nat} {call:CallF} {b:ACode} {E:AExit→Tr→Mem→Prop} (h:Cl E):Cl (Kq call (Wa F meth sm n) meth fu b E):=fun e T T' m q k=>by
  cases e with
  |normal=>exact Wc_imp (Wa_mono n) fu b T T' m E E k q fun x T1 T2 m' e' _ h'=>h _ _ _ _ e' h'
  |ret=>exact h _ _ _ _ q k
  |exit j=>exact h _ _ _ _ q k
def sets:List Pth→List AV→Tr→Tr
  |p::ps,v::vs,T=>sets ps vs (tset v p T)
  |_,_,T=>T
def setg (g:Pth→AV):List Pth→Tr→Tr
  | [],T=>T
  |p::ps,T=>setg g ps (tset (g p) p T)
def pmem (p:Pth):List Pth→Bool
  | []=>false
  |q::qs=>if p=q then true else pmem p qs
def dead (live:List Pth):List Pth→List Pth
  | []=> []
  |p::ps=>cond (pmem p live) (dead live ps) (p::dead live ps)
theorem pmem_iff (p:Pth): ∀ l,pmem p l=true↔p∈l
  | []=>by simp[pmem]
  | q::l=>by
    rw[pmem]
    split
    · rename_i h;simp[h]
    · rename_i h;rw[pmem_iff p l];simp[h]
theorem dead_iff (live:List Pth) (p:Pth): ∀ l,p∈dead live l↔p∈l∧p ∉ live
  | []=>by simp[dead]
  | q ::l=>by
    rw[dead]
    cases h:pmem q live with
    | true=>
      rw[cond_true,dead_iff live p l]
      have:=(pmem_iff _ _).1 h
      constructor
      · rintro ⟨a,b⟩;exact ⟨List.mem_cons_of_mem _ a,b⟩
      · rintro ⟨a,b⟩
        rcases List.mem_cons.1 a with rfl |a
        · exact absurd this b
        · exact ⟨a,b⟩
    | false=>
      have hn:q ∉ live:=fun h'=>by rw[(pmem_iff _ _).2 h'] at h;cases h
      rw[cond_false,List.mem_cons,dead_iff live p l,List.mem_cons]
      constructor
      · rintro (rfl |⟨a,b⟩)
        · exact ⟨.inl rfl,hn⟩
        · exact ⟨.inr a,b⟩
      · rintro ⟨rfl |a,b⟩
        · exact .inl rfl
        · exact .inr ⟨a,b⟩
theorem tget_setg (g:Pth→AV) (q:Pth): ∀ (l:List Pth) (T:Tr),tget q (setg g l T)=if q∈l then g q else tget q T
  | [],T=>by simp[setg]
  | p::l,T=>by
    rw[setg,tget_setg g q l,tget_tset]
    by_cases h1:q∈l <;>by_cases h2:q=p <;>simp[h1,h2]
theorem tget_sets (g:Pth→AV) (q:Pth): ∀ (l:List Pth) (T:Tr),tget q (sets l (l.map g) T)=if q∈l then g q else tget q T
  | [],T=>by simp[sets]
  | p::l,T=>by
    rw[List.map_cons,sets,tget_sets g q l,tget_tset]
    by_cases h1:q∈l <;>by_cases h2:q=p <;>simp[h1,h2]
def Kv (live:List Pth) (vs:List AV) (P:Mem→Prop) (E:AExit→Tr→Mem→Prop):AExit→Tr→Mem→Prop
  | .normal,T,m=>live.map (fun p=>tget p T)=vs∧P m
  |e,T,m=>E e T m
theorem WloopV {F:FuncId→Option AFunc} {meth:Meth} {sm:Summ} {n fu:Nat} {call:CallF} {c:ACode} {T0:Tr} {m:Mem} {E:AExit→Tr→Mem→Prop} (N:Nat) (live:List Pth) (V:Nat→List AV) (P:Nat→Mem→Prop) (hN:N<fu) (hE:Cl E)
    (h0:live.map (fun p=>tget p T0)=V 0∧P 0 m)
    (hs: ∀ i m g,i<N→P i m→Wc call (Wa F meth sm n) meth fu c (sets live (V i) (setg g (dead live (asg c)) T0)) m (Kv live (V (i+1)) (P (i+1)) E))
    (hl: ∀ m g,P N m→Wc call (Wa F meth sm n) meth fu c (sets live (V N) (setg g (dead live (asg c)) T0)) m (Kv live [.undef] (fun _=>False) E)):Wc call (Wa F meth sm n) meth fu (.loop c) T0 m E:=by
  have key: ∀ i T,Fr (asg c) T0 T→live.map (fun p=>tget p T)=V i→Teq (sets live (V i) (setg (fun p=>tget p T) (dead live (asg c)) T0)) T:=fun i T f hv q=>by
    rw[←hv,tget_sets (fun p=>tget p T),tget_setg]
    by_cases h1:q∈live
    · rw[if_pos h1]
    · rw[if_neg h1]
      by_cases h2:q∈asg c
      · rw[if_pos ((dead_iff _ _ _).2 ⟨h2,h1⟩)]
      · rw[if_neg (fun h=>h2 ((dead_iff _ _ _).1 h).1)];exact (f q h2).symm
  refine Wloop N (fun i T m=>Fr (asg c) T0 T∧live.map (fun p=>tget p T)=V i∧P i m) hN ⟨Fr.refl _ _,h0⟩ (fun i T m hi ⟨f,hv,hp⟩=> ?_) (fun T m ⟨f,hv,hp⟩=> ?_)
  · refine Wc_imp (Wa_mono n) fu c _ T m _ _ (hs i m (fun p=>tget p T) hi hp) (key i T f hv) fun e T' T1' m' e' f' q=> ?_
    cases e with
    |normal=>exact ⟨(f.trans f').sub (by simp),by rw[←q.1];exact List.map_congr_left fun p _=>(e' p).symm,q.2⟩
    |exit j=>exact hE _ _ _ _ e' q
    |ret=>exact hE _ _ _ _ e' q
  · refine Wc_imp (Wa_mono n) fu c _ T m _ _ (hl m (fun p=>tget p T) hp) (key N T f hv) fun e T' T1' m' e' f' q=> ?_
    cases e with
    |normal=>exact q.2
    |exit j=>exact hE _ _ _ _ e' q
    |ret=>exact hE _ _ _ _ e' q
def Wun (call:CallF) (wc:WCall) (meth:Meth) (fu:Nat) (c:ACode):Nat→Tr→Mem→(AExit→Tr→Mem→Prop)→Prop
  |0,_,_,_=>False
  |k+1,T,m,E=>Wc call wc meth fu c T m (Ks (fun T m=>Wun call wc meth fu c k T m E) E)
def Ku (call:CallF) (wc:WCall) (meth:Meth) (fu:Nat) (c:ACode) (k:Nat) (E:AExit→Tr→Mem→Prop):AExit→Tr→Mem→Prop:=Ks (fun T m=>Wun call wc meth fu c k T m E) E
section
variable (call:CallF) (wc:WCall) (meth:Meth) (fu:Nat) (c:ACode) (k:Nat) (T:Tr) (m:Mem) (E:AExit→Tr→Mem→Prop)
theorem u_s:Wun call wc meth fu c (k+1) T m E=Wc call wc meth fu c T m (Ku call wc meth fu c k E):=rfl
theorem u_n:Ku call wc meth fu c k E .normal T m=Wun call wc meth fu c k T m E:=rfl
theorem u_e (i:Nat):Ku call wc meth fu c k E (.exit i) T m=E (.exit i) T m:=rfl
theorem u_r:Ku call wc meth fu c k E .ret T m=E .ret T m:=rfl
end
theorem Wunroll {call:CallF} {wc:WCall} {meth:Meth} {fu:Nat} {c:ACode} {T:Tr} {m:Mem} {E:AExit→Tr→Mem→Prop} (k:Nat) (hk:k<fu) (h:Wun call wc meth fu c (k+1) T m E):Wc call wc meth fu (.loop c) T m E:=by
  rw[Wc]
  refine ⟨k,fun i T m=>Wun call wc meth fu c (k+1 - i) T m E,hk,h,fun i T m hi hI=> ?_,fun T m hI=> ?_⟩
  · simp only at hI
    rw[show k+1 - i=(k - i)+1 by omega,Wun] at hI
    have e:(fun T m=>Wun call wc meth fu c (k+1 - (i+1)) T m E)=fun T m=>Wun call wc meth fu c (k - i) T m E:=by rw[show k+1 - (i+1)=k - i by omega]
    simp only[e]
    exact hI
  · simp only at hI
    rw[show k+1 - k=0+1 by omega,Wun] at hI
    exact hI
theorem v_n (live:List Pth) (vs:List AV) (P:Mem→Prop) (E:AExit→Tr→Mem→Prop) (T:Tr) (m:Mem):Kv live vs P E .normal T m=(live.map (fun p=>tget p T)=vs∧P m):=rfl
theorem v_e (live:List Pth) (vs:List AV) (P:Mem→Prop) (E:AExit→Tr→Mem→Prop) (T:Tr) (m:Mem) (i:Nat):Kv live vs P E (.exit i) T m=E (.exit i) T m:=rfl
theorem v_r (live:List Pth) (vs:List AV) (P:Mem→Prop) (E:AExit→Tr→Mem→Prop) (T:Tr) (m:Mem):Kv live vs P E .ret T m=E .ret T m:=rfl
theorem lgok_trans {h h':Blks} {lg lg' lg2:List Nat} (hle:h.length≤h'.length) (a: ∃ k,lg'=k++lg∧ ∀ b∈k,h.length≤b) (b:LogOK h' lg' lg2): ∃ k,lg2=k++lg∧ ∀ b∈k,h.length≤b:=by
  obtain ⟨k1,rfl,h1⟩:=a
  obtain ⟨k2,rfl,h2⟩:=b.ok
  refine ⟨k2++k1,by simp,fun x hx=> ?_⟩
  rcases List.mem_append.1 hx with hx |hx
  · exact Nat.le_trans hle (h2 x hx)
  · exact h1 x hx
theorem Keep.out {h h':Blks} {lg lg0 lg' d:List Nat} {l0:List (Option ABlk)} (k:Keep ⟨bxt h l0,lg0,[]⟩ ⟨h',lg',[]⟩) (q0:LogOK h lg lg0) (l:List (Option ABlk)) (lg2:List Nat) (q:LogOK h' lg' lg2):Keep ⟨h,lg,d⟩ ⟨bxt h' l,lg2,d⟩:=by
  have k1:Keep ⟨h,lg,d⟩ ⟨bxt h l0,lg0,d⟩:=keep_bx q0
  have k2:Keep ⟨bxt h l0,lg0,d⟩ ⟨h',lg',d⟩:=k.sub (d:=d)
  have k3:Keep ⟨h',lg',d⟩ ⟨bxt h' l,lg2,d⟩:=keep_bx q
  exact (k1.trans k2).trans k3
theorem Keep.sl {h h':Blks} {lg0 lg':List Nat} {l0:List (Option ABlk)} (k:Keep ⟨bxt h l0,lg0,[]⟩ ⟨h',lg',[]⟩) {e:Nat} {v:AV} {es:List (List AV)} (H:SlAt h e v es):SlAt h' e v es:=SlAt.keep (m:=⟨bxt h l0,lg0,[]⟩) (m':=⟨h',lg',[]⟩) (H.bx l0) k
theorem Keep.sl' {h h':Blks} {lg0 lg':List Nat} {l0:List (Option ABlk)} (k:Keep ⟨bxt h l0,lg0,[]⟩ ⟨h',lg',[]⟩) {e:Nat} {v:AV} {es:List (List AV)} (H:SlAt (bxt h l0) e v es):SlAt h' e v es:=SlAt.keep (m:=⟨bxt h l0,lg0,[]⟩) (m':=⟨h',lg',[]⟩) H k
theorem WloopK {F:FuncId→Option AFunc} {meth:Meth} {sm:Summ} {n fu:Nat} {call:CallF} {c:ACode} {T0:Tr} {h:Blks} {l0:List (Option ABlk)} {lg0:List Nat} {E:AExit→Tr→Mem→Prop} (N:Nat) (live:List Pth) (V:Nat→List AV) (P:Nat→Prop) (hN:N<fu) (hE:Cl E)
    (h0:live.map (fun p=>tget p T0)=V 0∧P 0)
    (hs: ∀ i h' lg' g,i<N→P i→Keep ⟨bxt h l0,lg0,[]⟩ ⟨h',lg',[]⟩→Wc call (Wa F meth sm n) meth fu c (sets live (V i) (setg g (dead live (asg c)) T0)) ⟨bxt h' [],lg',[]⟩ (Kv live (V (i+1)) (fun m'=>Keep ⟨bxt h l0,lg0,[]⟩ m'∧P (i+1)) E))
    (hl: ∀ h' lg' g,P N→Keep ⟨bxt h l0,lg0,[]⟩ ⟨h',lg',[]⟩→Wc call (Wa F meth sm n) meth fu c (sets live (V N) (setg g (dead live (asg c)) T0)) ⟨bxt h' [],lg',[]⟩ (Kv live [.undef] (fun _=>False) E)):Wc call (Wa F meth sm n) meth fu (.loop c) T0 ⟨bxt h l0,lg0,[]⟩ E:=by
  refine WloopV N live V (fun i m'=>Keep ⟨bxt h l0,lg0,[]⟩ m'∧P i) hN hE ⟨h0.1,Keep.refl _,h0.2⟩ (fun i m g hi ⟨k,p⟩=> ?_) (fun m g ⟨k,p⟩=> ?_)
  · obtain ⟨h',lg',d'⟩:=m
    obtain rfl:d'=[]:=k.dfrs
    exact hs i h' lg' g hi p k
  · obtain ⟨h',lg',d'⟩:=m
    obtain rfl:d'=[]:=k.dfrs
    exact hl h' lg' g p k
theorem Keep.all {h h':Blks} {lg lg0 lg' d:List Nat} {l0:List (Option ABlk)} (k:Keep ⟨bxt h l0,lg0,[]⟩ ⟨h',lg',[]⟩) (q0:LogOK h lg lg0):
    (∀ l j,j<blen l0→bget (bxt h' l) (nb h j)=bnth l0 j)∧(∀ l lg2,LogOK h' lg' lg2→Keep ⟨bxt h l0,lg0,[]⟩ ⟨bxt h' l,lg2,[]⟩)∧(∀ l lg2,LogOK h' lg' lg2→Keep ⟨h,lg,d⟩ ⟨bxt h' l,lg2,d⟩):=
  ⟨k.at,fun l _ q=>k.bx l q,k.out q0⟩
theorem SlAt.elt {α:Type} {h:Blks} {e:Nat} {v:AV} {f:α→List AV} {l:List α} (H:SlAt h e v (l.map f)) {i:Nat} (hi:i<l.length):
    (∀ q,aidx (bget (bxt h q)) e v (.int .i64 i)=Option.some (.ptr (sb v) (si v+i) 0,[]))∧(∀ q g n o,0<n→o+n≤e→ald (bget (bxt h q)) g n (.ptr (sb v) (si v+i) o)=alds g (Option.some (((f l[i]).drop o).take n))):=
  ⟨fun q=>H.idx q i (by simpa using hi),fun q=>H.ld q i _ (by rw[List.getElem?_map,List.getElem?_eq_getElem hi];rfl)⟩
theorem rnd {i n:Nat} (hi:i<n) (hn:n≤1000000):(((i:Int)<(n:Int))=True)∧IntKind.i64.wrap ((i:Int)+1)=((i+1:Nat):Int):=
  ⟨by simp[hi],wrapI (by omega) (by omega)⟩
theorem rndl (n:Nat):((n:Int)<(n:Int))=False:=by simp
theorem prv {i:Nat} (hn:i≤1000000):(0<(i:Int)→IntKind.i64.wrap ((i:Int) - 1)=((i - 1:Nat):Int)):=fun h=>by rw[wrapI (by omega) (by omega)];omega
def ffrom (bad:Nat→Int):Nat→Nat→Int
  |_,0=>0
  |i,r+1=>if bad i=0 then ffrom bad (i+1) r else bad i
def first (bad:Nat→Int) (n:Nat):Int:=ffrom bad 0 n
theorem first_step {bad:Nat→Int} {i n:Nat} (hi:i<n) {x:Int} (hp:x=ffrom bad i (n - i)):x=if bad i=0 then ffrom bad (i+1) (n - (i+1)) else bad i:=by
  rw[hp,show n - i=(n - (i+1))+1 by omega,ffrom]
theorem first_end {bad:Nat→Int} {n:Nat} {x:Int} (hp:x=ffrom bad n (n - n)):x=0:=by
  rw[hp,Nat.sub_self,ffrom]
theorem ffrom_zero {bad:Nat→Int}: ∀ (r i:Nat),ffrom bad i r=0↔ ∀ j,i≤j→j<i+r→bad j=0
  |0,i=>by simp[ffrom];omega
  | r + 1,i=>by
    rw[ffrom]
    by_cases hb:bad i=0
    · rw[if_pos hb,ffrom_zero r (i+1)]
      constructor
      · intro h j h1 h2
        by_cases hj:j=i
        · rw[hj];exact hb
        · exact h j (by omega) (by omega)
      · exact fun h j h1 h2=>h j (by omega) (by omega)
    · rw[if_neg hb]
      exact ⟨fun h=>absurd h hb,fun h=>absurd (h i (by omega) (by omega)) hb⟩
theorem ffrom_congr {b c:Nat→Int}: ∀ (r i:Nat),(∀ j,i≤j→j<i+r→b j=c j)→ffrom b i r=ffrom c i r
  |0,_,_=>rfl
  |r+1,i,h=>by rw[ffrom,ffrom,h i (by omega) (by omega),ffrom_congr r (i+1) (fun j h1 h2=>h j (by omega) (by omega))]
theorem acall_sm {F:FuncId→Option AFunc} {meth:Meth} {sm:Summ} {n:Nat} {f:FuncId} {vs:List AV} {m:Mem} {r:AV × Mem} (h:sm f vs m=some r):acall F meth sm (n+1) (.fn f) vs m=some r:=by
  rw[acall,h]
theorem ndec (p:Prop) [Decidable p]:(!decide p)=decide (¬ p):=by simp
theorem ieq (a b:Int):(a==b)=decide (a=b):=by
  rw[Bool.eq_iff_iff];simp
theorem ine (a b:Int):(a !=b)=decide (¬ a=b):=by
  rw[bne,ieq,ndec]
theorem seqd: ∀ (a b:List UInt8),strEq a b=decide (a=b)
  | [],[]=>by simp[strEq]
  | [],_::_=>by simp[strEq]
  |_::_,[]=>by simp[strEq]
  | a ::as,b::bs=>by
    rw[strEq,seqd as bs]
    have h:(a.toNat==b.toNat)=decide (a=b):=by
      rw[Bool.eq_iff_iff];simp[UInt8.toNat_inj]
    rw[h,←Bool.decide_and]
    exact decide_eq_decide.2 (by simp)
theorem dand (p q:Prop) [Decidable p] [Decidable q]:(decide p && decide q)=decide (p∧q):=(Bool.decide_and p q).symm
theorem ddec (p:Prop) [Decidable p]:decide (decide p=true)=decide p:=by simp
def ffromI (bad:Nat→Int):Nat→Nat→Int
  |_,0=>0
  |i,r+1=>if bad i=0 then ffromI bad (i+1) r else i
def firstI (bad:Nat→Int) (n:Nat):Int:=ffromI bad 0 n
structure FP (bad:Nat→Int) (n i:Nat):Prop where
  a:first bad n=ffrom bad i (n - i)
  b:firstI bad n=ffromI bad i (n - i)
theorem FP.zero (bad:Nat→Int) (n:Nat):FP bad n 0:=⟨rfl,rfl⟩
theorem FP.last {bad:Nat→Int} {n:Nat} (h:FP bad n n):first bad n=0∧firstI bad n=0:=by
  obtain ⟨h1,h2⟩:=h
  rw[Nat.sub_self] at h1 h2
  exact ⟨h1,h2⟩
theorem FP.next {bad:Nat→Int} {n i:Nat} (h:FP bad n i) (hi:i<n) (hb:bad i=0):FP bad n (i+1):=by
  obtain ⟨h1,h2⟩:=h
  rw[show n - i=(n - (i+1))+1 by omega] at h1 h2
  rw[ffrom,if_pos hb] at h1
  rw[ffromI,if_pos hb] at h2
  exact ⟨h1,h2⟩
theorem FP.stop {bad:Nat→Int} {n i:Nat} (h:FP bad n i) (hi:i<n) {x:Int} (hb:bad i=x) (hx:x≠0):first bad n=x∧firstI bad n=i:=by
  obtain ⟨h1,h2⟩:=h
  rw[show n - i=(n - (i+1))+1 by omega] at h1 h2
  rw[ffrom,hb,if_neg hx] at h1
  rw[ffromI,hb,if_neg hx] at h2
  exact ⟨h1,h2⟩
theorem FP.s1 {bad:Nat→Int} {n i:Nat} (h:FP bad n i) (hi:i<n) {x:Int} (hb:bad i=x∧x≠0):x=first bad n:=(h.stop hi hb.1 hb.2).1.symm
theorem FP.s2 {bad:Nat→Int} {n i:Nat} (h:FP bad n i) (hi:i<n) (hb:bad i≠0):(i:Int)=firstI bad n:=(h.stop hi rfl hb).2.symm
def gt {α:Type} [Inhabited α] (l:List α) (i:Nat):α:=l.getD i default
theorem gt_eq {α:Type} [Inhabited α] {l:List α} {i:Nat} (hi:i<l.length):gt l i=l[i]:=by simp[gt,hi]
theorem SlAt.el {α:Type} [Inhabited α] {h:Blks} {e:Nat} {v:AV} {f:α→List AV} {l:List α} (H:SlAt h e v (l.map f)) {i:Nat} (hi:i<l.length):
    (∀ q,aidx (bget (bxt h q)) e v (.int .i64 i)=Option.some (.ptr (sb v) (si v+i) 0,[]))∧(∀ q g n o,0<n→o+n≤e→ald (bget (bxt h q)) g n (.ptr (sb v) (si v+i) o)=alds g (Option.some (((f (gt l i)).drop o).take n))):=by
  rw[gt_eq hi];exact H.elt hi
theorem SlAt.pv {α:Type} [Inhabited α] {h:Blks} {e:Nat} {v:AV} {f:α→List AV} {l:List α} (H:SlAt h e v (l.map f)) {i:Nat} (hi:i<l.length) (hl:l.length≤1000000):
    (0<(i:Int)→IntKind.i64.wrap ((i:Int) - 1)=((i - 1:Nat):Int))∧(∀ q,aidx (bget (bxt h q)) e v (.int .i64 ((i - 1:Nat):Int))=Option.some (.ptr (sb v) (si v+(i - 1)) 0,[]))∧(∀ q g n o,0<n→o+n≤e→ald (bget (bxt h q)) g n (.ptr (sb v) (si v+(i - 1)) o)=alds g (Option.some (((f (gt l (i - 1))).drop o).take n))):=
  ⟨prv (by omega),H.el (i:=i - 1) (by omega)⟩
theorem SlAt.top {h:Blks} {e:Nat} {v:AV} {es:List (List AV)} (H:SlAt h e v es) (k:Nat):ins v.top (nb h k)=false:=by
  cases hq:ins v.top (nb h k) with
  |false=>rfl
  | true=>
    have h1:=(ins_iff _ _).1 hq
    rcases H with ⟨_,rfl |rfl |rfl⟩|⟨b,i,c,own,rows,rfl,hb,hw,hc⟩
    · cases h1
    · cases h1
    · cases h1
    · simp only[AV.top,List.mem_singleton] at h1
      have:=bget_lt hb
      rw[←h1,nb] at this
      omega
theorem wn_0:IntKind.i64.wrap 0=0:=wrapI (by omega) (by omega)
theorem wn_1:IntKind.i64.wrap 1=1:=wrapI (by omega) (by omega)
theorem wn_2:IntKind.i64.wrap 2=2:=wrapI (by omega) (by omega)
theorem wn_3:IntKind.i64.wrap 3=3:=wrapI (by omega) (by omega)
theorem wn_4:IntKind.i64.wrap 4=4:=wrapI (by omega) (by omega)
theorem wn_5:IntKind.i64.wrap 5=5:=wrapI (by omega) (by omega)
theorem wn_6:IntKind.i64.wrap 6=6:=wrapI (by omega) (by omega)
theorem wn_7:IntKind.i64.wrap 7=7:=wrapI (by omega) (by omega)
theorem wn_8:IntKind.i64.wrap 8=8:=wrapI (by omega) (by omega)
theorem wn_9:IntKind.i64.wrap 9=9:=wrapI (by omega) (by omega)
theorem wn_10:IntKind.i64.wrap 10=10:=wrapI (by omega) (by omega)
theorem wn_11:IntKind.i64.wrap 11=11:=wrapI (by omega) (by omega)
theorem wn_12:IntKind.i64.wrap 12=12:=wrapI (by omega) (by omega)
theorem wn_13:IntKind.i64.wrap 13=13:=wrapI (by omega) (by omega)
theorem wn_14:IntKind.i64.wrap 14=14:=wrapI (by omega) (by omega)
theorem wn_15:IntKind.i64.wrap 15=15:=wrapI (by omega) (by omega)
theorem wn_16:IntKind.i64.wrap 16=16:=wrapI (by omega) (by omega)
theorem wn_17:IntKind.i64.wrap 17=17:=wrapI (by omega) (by omega)
theorem SlAt.sbn {h:Blks} {e:Nat} {v:AV} {es:List (List AV)} (H:SlAt h e v es) {i:Nat} (hi:i<es.length) (k:Nat):Nat.beq (sb v) (nb h k)=false:=by
  rcases H with ⟨rfl,_⟩|⟨b,j,c,own,rows,rfl,hb,hw,hc⟩
  · simp at hi
  · have:=bget_lt hb
    show Nat.beq b (nb h k)=false
    cases hq:Nat.beq b (nb h k) with
    |false=>rfl
    |true=>have:=Nat.eq_of_beq_eq_true hq;rw[nb] at this;omega
theorem Keep.nbq {h h':Blks} {lg lg' d d':List Nat} {l0:List (Option ABlk)} (k:Keep ⟨bxt h l0,lg,d⟩ ⟨h',lg',d'⟩) (j q:Nat) (hj:j<blen l0):Nat.beq (nb h j) (nb h' q)=false:=by
  have h2:=k.len
  simp only[nb_len,nb] at h2
  cases hq:Nat.beq (nb h j) (nb h' q) with
  |false=>rfl
  |true=>have:=Nat.eq_of_beq_eq_true hq;rw[nb,nb] at this;omega
def noRF:ACode→Bool
  | .seq a b=>noRF a && noRF b
  | .cond _ a b=>noRF a && noRF b
  | .block _ c=>noRF c
  | .loop c=>noRF c
  | .rangeFunc .. =>false
  |_=>true
theorem noRF_eq {call:CallF} {meth:Meth} {fu:Nat}: ∀ (c:ACode),noRF c=true→ ∀ T m,acode call meth fu true c T m=acode call meth fu false c T m
  | .skip,_,_,_=>rfl
  | .bad,_,_,_=>rfl
  | .exit _,_,_,_=>rfl
  | .ret,_,_,_=>rfl
  | .region _ _ _,_,_,_=>by simp only[acode]
  | .rangeFunc ..,h,_,_=>by cases h
  | .seq a b,h,T,m=>by
    simp only[noRF,Bool.and_eq_true] at h
    simp only[acode,noRF_eq a h.1,noRF_eq b h.2]
  | .cond c a b,h,T,m=>by
    simp only[noRF,Bool.and_eq_true] at h
    simp only[acode,noRF_eq a h.1,noRF_eq b h.2]
  | .block _ c,h,T,m=>by
    simp only[noRF] at h
    simp only[acode,noRF_eq c h]
  | .loop c,h,T,m=>by
    simp only[noRF] at h
    simp only[acode]
    rw[show acode call meth fu true c=acode call meth fu false c from funext fun T=>funext fun m=>noRF_eq c h T m]
section
variable {F:FuncId→Option AFunc} {meth:Meth} {sm:Summ} {n fu:Nat}
def Ky (l:Nat) (d:List Nat) (Q:AV→Mem→Prop):AExit→Tr→Mem→Prop:=fun e _ m2=>
  match bget m2.blks l with
  | some (.loop r2)=>match e with
    | .normal=>Q (.bool true) {m2.apply ⟨l,some (.loop {r2 with state:= .ready,pending:=none}),[]⟩ with dfrs:=d}
    |e=>Q (.bool false) {m2.apply ⟨l,some (.loop {r2 with state:= .done,pending:=some e}),[]⟩ with dfrs:=d}
  |_=>False
def Kz (F:FuncId→Option AFunc) (meth:Meth) (sm:Summ) (n:Nat) (l:Nat) (b:ACode) (d:List Nat) (Q:AV→Mem→Prop):AExit→Tr→Mem→Prop:=fun e T m1=>
  match e with
  | .normal=>match bget m1.blks l with
    |some (.loop r1)=>r1.state= .ready∧Wc (acall F meth sm n) (Wa F meth sm n) meth n b T (m1.apply ⟨l,some (.loop {r1 with state:= .busy}),[]⟩) (Ky l d Q)
    |_=>False
  |_=>False
theorem w_y {l:Nat} {args:List AV} {m:Mem} {Q:AV→Mem→Prop} {T T1:Tr} {ps:List Pth} {a b:ACode} {pe:Option AExit}
    (hb:bget m.blks l=some (.loop {state:= .ready,pending:=pe,tmps:=T1,params:=ps,assign:=a,body:=b})) (hl:args.length=ps.length) (ha:noRF a=true) (hbb:noRF b=true) (ht:Teq (roundTmps T ps args) (roundTmps T1 ps args))
    (h:Wc (acall F meth sm n) (Wa F meth sm n) meth n a (roundTmps T ps args) {m with dfrs:=[]} (Kz F meth sm n l b m.dfrs Q)):Wa F meth sm (n+1) (.yield l) args m Q:=by
  have hK:Cl (Kz F meth sm n l b m.dfrs Q):=fun e T T' m' q k=>by
    cases e with
    | normal=>
      simp only[Kz] at k ⊢
      split at k
      · refine ⟨k.1,Wc_imp (Wa_mono n) n b T T' _ _ _ k.2 q fun x T2 T3 m3 e' _ h'=> ?_⟩
        exact h'
      · exact k
    |ret=>exact k
    |exit j=>exact k
  have h:=Wc_imp (Wa_mono n) n a _ _ _ _ _ h ht fun x T2 T3 m3 e' _ h'=>hK _ _ _ _ e' h'
  obtain ⟨e,T2,m1,e1,h1⟩:=Wc_true (fun c vs m Q=>Wa_true n c vs m Q) n _ _ _ _ h
  show ∃ v m',acall F meth sm (n+1) (.yield l) args m=some (v,m')∧Q v m'
  rw[acall,hb]
  simp only[hl,ne_eq,not_true_eq_false,if_false,noRF_eq a ha,e1]
  unfold Kz at h1
  cases e with
  | normal=>
    simp only at h1 ⊢
    cases hq:bget m1.blks l with
    |none=>rw[hq] at h1;exact h1.elim
    | some x=>
      cases x with
      | loop r1=>
        rw[hq] at h1
        obtain ⟨s1,h1⟩:=h1
        simp only[s1,noRF_eq b hbb]
        obtain ⟨e2,T4,m2,e3,h3⟩:=Wc_true (fun c vs m Q=>Wa_true n c vs m Q) n _ _ _ _ h1
        rw[e3]
        unfold Ky at h3
        simp only
        cases hq2:bget m2.blks l with
        |none=>rw[hq2] at h3;exact h3.elim
        | some x=>
          cases x with
          | loop r2=>
            rw[hq2] at h3
            cases e2 with
            |normal=>exact ⟨_,_,rfl,h3⟩
            |ret=>exact ⟨_,_,rfl,h3⟩
            |exit j=>exact ⟨_,_,rfl,h3⟩
          |_=>rw[hq2] at h3;exact h3.elim
      |_=>rw[hq] at h1;exact h1.elim
  |ret=>exact h1.elim
  |exit j=>exact h1.elim
def Kf (l:Nat) (T:Tr) (K:AExit→Tr→Mem→Prop):AV→Mem→Prop:=fun _ m'=>
  match bget m'.blks l with
  | some (.loop r)=>match r.state with
    | .busy=>False
    |_=>K (r.pending.getD .normal) T (m'.apply ⟨l,none,[]⟩)
  |_=>False
theorem w_rf {f:AOpnd} {ps:List Pth} {a b:ACode} {T:Tr} {m:Mem} {K:AExit→Tr→Mem→Prop} {g:FuncId} {as cs:List AV} (hf:aev T f= .func g as cs)
    (h: ∀ T1,Teq T T1→Wa F meth sm n (.fn g) (as++ [.yield (m.blks.length+1)]++cs) (({m.apply ⟨m.blks.length,some .dfr,[]⟩ with dfrs:=m.blks.length::m.dfrs}:Mem).apply ⟨m.blks.length+1,some (.loop {state:= .ready,pending:=none,tmps:=T1,params:=ps,assign:=a,body:=b}),[]⟩) (Kf (m.blks.length+1) T K))
    (hlen:(m.apply ⟨m.blks.length,some .dfr,[]⟩).blks.length=m.blks.length+1):Wc (acall F meth sm n) (Wa F meth sm n) meth fu (.rangeFunc f ps a b) T m K:=by
  rw[Wc]
  intro T1 ht
  have hf1:aev T1 f= .func g as cs:=by rw[←(show Teq T T1 from ht).aev,hf]
  obtain ⟨v,m',e1,h1⟩:=Wa_true n _ _ _ _ (h T1 ht)
  rw[acode]
  simp only[cond_false,hf1,hlen,e1]
  unfold Kf at h1
  cases hq:bget m'.blks (m.blks.length+1) with
  |none=>rw[hq] at h1;exact h1.elim
  | some x=>
    cases x with
    | loop r=>
      rw[hq] at h1
      simp only at h1 ⊢
      cases hs:r.state with
      |busy=>rw[hs] at h1;exact h1.elim
      |ready=>rw[hs] at h1;exact ⟨_,_,rfl,h1⟩
      |done=>rw[hs] at h1;exact ⟨_,_,rfl,h1⟩
    |_=>rw[hq] at h1;exact h1.elim
theorem Teq.round {T T1:Tr} (h:Teq T T1): ∀ (ps:List Pth) (as:List AV),Teq (roundTmps T ps as) (roundTmps T1 ps as):=fun ps=>by
  induction ps generalizing T T1 with
  |nil=>intro as;exact h
  | cons p ps ih=>intro as;cases as with
    |nil=>exact h
    |cons a as=>exact ih (h.set a p) as
end
def Kg (x:Option ABlk) (l:Nat) (T:Tr) (K:AExit→Tr→Mem→Prop) (m':Mem):Prop:=
  match x with
  | some (.loop r)=>match r.state with
    | .busy=>False
    |_=>K (r.pending.getD .normal) T (m'.apply ⟨l,none,[]⟩)
  |_=>False
section
variable {l:Nat} {T T1:Tr} {K:AExit→Tr→Mem→Prop} {m' m2:Mem} {v:AV} {ps:List Pth} {a b b':ACode} {pe:Option AExit} {d:List Nat} {Q:AV→Mem→Prop} {F:FuncId→Option AFunc} {meth:Meth} {sm:Summ} {n:Nat} {s:LState}
theorem kf_0:Kf l T K v m'=Kg (bget m'.blks l) l T K m':=rfl
theorem kg_r:Kg (some (.loop ⟨.ready,none,T1,ps,a,b⟩)) l T K m'=K .normal T (m'.apply ⟨l,none,[]⟩):=rfl
theorem kg_d (e:AExit):Kg (some (.loop ⟨.done,some e,T1,ps,a,b⟩)) l T K m'=K e T (m'.apply ⟨l,none,[]⟩):=rfl
def Kh (x:Option ABlk) (l:Nat) (d:List Nat) (Q:AV→Mem→Prop) (e:AExit) (m2:Mem):Prop:=
  match x with
  | some (.loop r2)=>match e with
    | .normal=>Q (.bool true) {m2.apply ⟨l,some (.loop {r2 with state:= .ready,pending:=none}),[]⟩ with dfrs:=d}
    |e=>Q (.bool false) {m2.apply ⟨l,some (.loop {r2 with state:= .done,pending:=some e}),[]⟩ with dfrs:=d}
  |_=>False
theorem ky_0 (e:AExit):Ky l d Q e T m2=Kh (bget m2.blks l) l d Q e m2:=rfl
theorem kh_n:Kh (some (.loop ⟨s,pe,T1,ps,a,b⟩)) l d Q .normal m2=Q (.bool true) {m2.apply ⟨l,some (.loop ⟨.ready,none,T1,ps,a,b⟩),[]⟩ with dfrs:=d}:=rfl
theorem kh_e (i:Nat):Kh (some (.loop ⟨s,pe,T1,ps,a,b⟩)) l d Q (.exit i) m2=Q (.bool false) {m2.apply ⟨l,some (.loop ⟨.done,some (.exit i),T1,ps,a,b⟩),[]⟩ with dfrs:=d}:=rfl
theorem kh_r:Kh (some (.loop ⟨s,pe,T1,ps,a,b⟩)) l d Q .ret m2=Q (.bool false) {m2.apply ⟨l,some (.loop ⟨.done,some .ret,T1,ps,a,b⟩),[]⟩ with dfrs:=d}:=rfl
def Ki (F:FuncId→Option AFunc) (meth:Meth) (sm:Summ) (n:Nat) (x:Option ABlk) (l:Nat) (b:ACode) (d:List Nat) (Q:AV→Mem→Prop) (T:Tr) (m1:Mem):Prop:=
  match x with
  |some (.loop r1)=>r1.state= .ready∧Wc (acall F meth sm n) (Wa F meth sm n) meth n b T (m1.apply ⟨l,some (.loop {r1 with state:= .busy}),[]⟩) (Ky l d Q)
  |_=>False
theorem kz_n:Kz F meth sm n l b d Q .normal T m2=Ki F meth sm n (bget m2.blks l) l b d Q T m2:=rfl
theorem ki_r:Ki F meth sm n (some (.loop ⟨.ready,pe,T1,ps,a,b'⟩)) l b d Q T m2=(Wc (acall F meth sm n) (Wa F meth sm n) meth n b T (m2.apply ⟨l,some (.loop ⟨.busy,pe,T1,ps,a,b'⟩),[]⟩) (Ky l d Q)):=by simp only[Ki,true_and]
theorem rt_n (as:List AV):roundTmps T [] as=T:=rfl
theorem rt_c (p:Pth) (x:AV) (as:List AV):roundTmps T (p::ps) (x::as)=roundTmps (tset x p T) ps as:=rfl
theorem Cl_f (hK:Cl K) {v:AV} (T':Tr) (h:Teq T T') (h1:Kf l T K v m'):Kf l T' K v m':=by
  unfold Kf at h1 ⊢
  split at h1
  · split at h1
    · exact h1.elim
    · exact hK _ _ _ _ h h1
  · exact h1
end
section
variable {wc:WCall} {meth:Meth} {pu:Bool} {base i:Nat} {d:Option Pth} {os:List AOper} {recs free:List ARec} {msk rd:List Nat} {T:Tr} {m:Mem} {v:AV} {mk:Bool} {s:Option Nat} {K:Tr→Mem→Prop}
theorem w_p3 (c:Prop) [Decidable c]:Wp wc meth pu (aval (if c then some v else none)) d os T m K=(c∧Wo wc meth pu os (aput T d v) m K):=by
  by_cases h:c
  · rw[if_pos h,eq_true h,true_and,o_val,w_p1]
  · rw[if_neg h,eq_false h,false_and];rfl
theorem r_p3 (c:Prop) [Decidable c]:Rp wc meth base i (aval (if c then some v else none)) mk d s os recs free rd msk T m K=(c∧Rp wc meth base i (some (v,[])) mk d s os recs free rd msk T m K):=by
  by_cases h:c
  · rw[if_pos h,eq_true h,true_and,o_val]
  · rw[if_neg h,eq_false h,false_and];rfl
end
def Ke {α:Type} (live:List Pth) (V:α→List AV) (P:α→Mem→Prop) (E:AExit→Tr→Mem→Prop):AExit→Tr→Mem→Prop
  | .normal,T,m=> ∃ a,live.map (fun p=>tget p T)=V a∧P a m
  |e,T,m=>E e T m
theorem e_n {α:Type} (live:List Pth) (V:α→List AV) (P:α→Mem→Prop) (E:AExit→Tr→Mem→Prop) (T:Tr) (m:Mem):Ke live V P E .normal T m= ∃ a,live.map (fun p=>tget p T)=V a∧P a m:=rfl
theorem e_e {α:Type} (live:List Pth) (V:α→List AV) (P:α→Mem→Prop) (E:AExit→Tr→Mem→Prop) (T:Tr) (m:Mem) (i:Nat):Ke live V P E (.exit i) T m=E (.exit i) T m:=rfl
theorem e_r {α:Type} (live:List Pth) (V:α→List AV) (P:α→Mem→Prop) (E:AExit→Tr→Mem→Prop) (T:Tr) (m:Mem):Ke live V P E .ret T m=E .ret T m:=rfl
theorem WloopE {α:Type} {F:FuncId→Option AFunc} {meth:Meth} {sm:Summ} {n fu:Nat} {call:CallF} {c:ACode} {T0:Tr} {m:Mem} {E:AExit→Tr→Mem→Prop} (N:Nat) (live:List Pth) (V:Nat→α→List AV) (P:Nat→α→Mem→Prop) (hN:N<fu) (hE:Cl E)
    (h0: ∃ a,live.map (fun p=>tget p T0)=V 0 a∧P 0 a m)
    (hs: ∀ i a m g,i<N→P i a m→Wc call (Wa F meth sm n) meth fu c (sets live (V i a) (setg g (dead live (asg c)) T0)) m (Ke live (V (i+1)) (P (i+1)) E))
    (hl: ∀ a m g,P N a m→Wc call (Wa F meth sm n) meth fu c (sets live (V N a) (setg g (dead live (asg c)) T0)) m (Kv live [.undef] (fun _=>False) E)):Wc call (Wa F meth sm n) meth fu (.loop c) T0 m E:=by
  have key: ∀ i a T,Fr (asg c) T0 T→live.map (fun p=>tget p T)=V i a→Teq (sets live (V i a) (setg (fun p=>tget p T) (dead live (asg c)) T0)) T:=fun i a T f hv q=>by
    rw[←hv,tget_sets (fun p=>tget p T),tget_setg]
    by_cases h1:q∈live
    · rw[if_pos h1]
    · rw[if_neg h1]
      by_cases h2:q∈asg c
      · rw[if_pos ((dead_iff _ _ _).2 ⟨h2,h1⟩)]
      · rw[if_neg (fun h=>h2 ((dead_iff _ _ _).1 h).1)];exact (f q h2).symm
  obtain ⟨a0,h0⟩:=h0
  refine Wloop N (fun i T m=>Fr (asg c) T0 T∧ ∃ a,live.map (fun p=>tget p T)=V i a∧P i a m) hN ⟨Fr.refl _ _,a0,h0⟩ (fun i T m hi ⟨f,a,hv,hp⟩=> ?_) (fun T m ⟨f,a,hv,hp⟩=> ?_)
  · refine Wc_imp (Wa_mono n) fu c _ T m _ _ (hs i a m (fun p=>tget p T) hi hp) (key i a T f hv) fun e T' T1' m' e' f' q=> ?_
    cases e with
    | normal=>
      obtain ⟨a',q1,q2⟩:=q
      exact ⟨(f.trans f').sub (by simp),a',by rw[←q1];exact List.map_congr_left fun p _=>(e' p).symm,q2⟩
    |exit j=>exact hE _ _ _ _ e' q
    |ret=>exact hE _ _ _ _ e' q
  · refine Wc_imp (Wa_mono n) fu c _ T m _ _ (hl a m (fun p=>tget p T) hp) (key N a T f hv) fun e T' T1' m' e' f' q=> ?_
    cases e with
    |normal=>exact q.2
    |exit j=>exact hE _ _ _ _ e' q
    |ret=>exact hE _ _ _ _ e' q
theorem WloopKE {α:Type} {F:FuncId→Option AFunc} {meth:Meth} {sm:Summ} {n fu:Nat} {call:CallF} {c:ACode} {T0:Tr} {h:Blks} {l0:List (Option ABlk)} {lg0:List Nat} {E:AExit→Tr→Mem→Prop} (N:Nat) (live:List Pth) (V:Nat→α→List AV) (P:Nat→α→Blks→Prop) (hN:N<fu) (hE:Cl E)
    (h0: ∃ a,live.map (fun p=>tget p T0)=V 0 a∧P 0 a (bxt h l0))
    (hs: ∀ i a h' lg' g,i<N→P i a h'→Keep ⟨bxt h l0,lg0,[]⟩ ⟨h',lg',[]⟩→Wc call (Wa F meth sm n) meth fu c (sets live (V i a) (setg g (dead live (asg c)) T0)) ⟨bxt h' [],lg',[]⟩ (Ke live (V (i+1)) (fun a m'=>Keep ⟨bxt h l0,lg0,[]⟩ m'∧P (i+1) a m'.blks) E))
    (hl: ∀ a h' lg' g,P N a h'→Keep ⟨bxt h l0,lg0,[]⟩ ⟨h',lg',[]⟩→Wc call (Wa F meth sm n) meth fu c (sets live (V N a) (setg g (dead live (asg c)) T0)) ⟨bxt h' [],lg',[]⟩ (Kv live [.undef] (fun _=>False) E)):Wc call (Wa F meth sm n) meth fu (.loop c) T0 ⟨bxt h l0,lg0,[]⟩ E:=by
  obtain ⟨a0,q1,q2⟩:=h0
  refine WloopE N live V (fun i a m'=>Keep ⟨bxt h l0,lg0,[]⟩ m'∧P i a m'.blks) hN hE ⟨a0,q1,Keep.refl _,q2⟩ (fun i a m g hi ⟨k,p⟩=> ?_) (fun a m g ⟨k,p⟩=> ?_)
  · obtain ⟨h',lg',d'⟩:=m
    obtain rfl:d'=[]:=k.dfrs
    exact hs i a h' lg' g hi p k
  · obtain ⟨h',lg',d'⟩:=m
    obtain rfl:d'=[]:=k.dfrs
    exact hl a h' lg' g p k
def Qk (m0:Mem) (P:AV→Blks→Prop):AV→Mem→Prop:=fun v m'=>Keep m0 m'∧P v m'.blks
theorem q_k (m0:Mem) (P:AV→Blks→Prop) (v:AV) (m':Mem):Qk m0 P v m'=(Keep m0 m'∧P v m'.blks):=rfl
theorem Wa_k {F:FuncId→Option AFunc} {meth:Meth} {sm:Summ} {n:Nat} {c:ACallee} {vs:List AV} {h:Blks} {lg d:List Nat} {P:AV→Blks→Prop} {Q:AV→Mem→Prop} (H:Wa F meth sm n c vs ⟨h,lg,d⟩ (Qk ⟨h,lg,d⟩ P))
    (hQ: ∀ v h' lg',Keep ⟨h,lg,d⟩ ⟨h',lg',d⟩→P v h'→Q v ⟨bxt h' [],lg',d⟩):Wa F meth sm n c vs ⟨h,lg,d⟩ Q:=
  Wa_mono n _ _ _ _ _ (fun v m' ⟨k,p⟩=>by
    obtain ⟨h',lg',d'⟩:=m'
    obtain rfl:d'=d:=k.dfrs
    exact hQ v h' lg' k p) H
theorem nb_bput {h:Blks} {b:Nat} {x:Option ABlk} (hb:b<h.length) (k:Nat):nb (bput h b x) k=nb h k:=by rw[nb,nb,bput_len_eq hb]
theorem old_blk {h:Blks} {b:Nat} (hb:b<h.length):
    (∀ l x,bput (bxt h l) b x=bxt (bput h b x) l)∧(∀ l x k,bget (bxt (bput h b x) l) (nb h k)=bnth l k)∧(∀ l x k y,bin l k=true→bput (bxt (bput h b x) l) (nb h k) y=bxt (bput h b x) (bputl l k y))∧
    (∀ l x,(bxt (bput h b x) l).length=nb h (blen l))∧(∀ l x,bget (bxt (bput h b x) l) b=x)∧(∀ l x y,bput (bxt (bput h b x) l) b y=bxt (bput h b y) l):=by
  have hl: ∀ x,b<(bput h b x).length:=fun x=>by rw[bput_len_eq hb];exact hb
  refine ⟨fun l x=>bxt_bput l h b x hb,fun l x k=> ?_,fun l x k y q=> ?_,fun l x=> ?_,fun l x=> ?_,fun l x y=> ?_⟩
  · rw[←nb_bput (x:=x) hb k,nb_get]
  · rw[←nb_bput (x:=x) hb k,nb_put q]
  · rw[nb_len,nb_bput hb]
  · rw[bxt_old l _ b (hl x),bget_set hb,if_pos rfl]
  · rw[bxt_bput l _ b y (hl x),bput_same]
theorem old_get {h:Blks} {b c:Nat} (hb:b<h.length) (hc:c<h.length) (hne:c≠b) (l:List (Option ABlk)) (x:Option ABlk):bget (bxt (bput h b x) l) c=bget h c:=by
  rw[bxt_old l _ c (by rw[bput_len_eq hb];exact hc),bget_set hb,if_neg hne]
theorem Keep.own {h h':Blks} {lg lg' lg2 d d':List Nat} {b:Nat} (k:Keep ⟨h,lg,d⟩ ⟨h',lg',d'⟩) (hb:h.length≤b) (hb2:b<h'.length) (x:Option ABlk) (l:List (Option ABlk)) (hl: ∃ q,lg2=q++lg'∧ ∀ y∈q,h.length≤y):Keep ⟨h,lg,d⟩ ⟨bxt (bput h' b x) l,lg2,d'⟩ where
  len:=by
    have:=k.len
    simp only at this ⊢
    rw[bxt_len,bput_len_eq hb2];omega
  get:=fun c hc=>by
    have h1:=k.get c hc
    have h2:=k.len
    simp only at h1 h2 hc ⊢
    rw[old_get hb2 (by omega) (by omega),h1]
  dfrs:=k.dfrs
  log:=by
    obtain ⟨q,rfl,hq⟩:=hl
    obtain ⟨r,h1,h2⟩:=k.log
    simp only at h1 h2 ⊢
    subst h1
    exact ⟨q++r,by simp,fun y hy=>by rcases List.mem_append.1 hy with hy |hy;exact hq y hy;exact h2 y hy⟩
theorem SlAt.own {h:Blks} {b e:Nat} {v:AV} {es:List (List AV)} (H:SlAt h e v es) (hb:b<h.length) (hne: ∀ c∈v.refs,c≠b) (x:Option ABlk) (l:List (Option ABlk)):SlAt (bxt (bput h b x) l) e v es:=by
  rcases H with ⟨hn,hv⟩|⟨c,i,k,own,rows,hv,hc,hw,hk⟩
  · exact .none hn hv
  · refine .some c i k own rows hv ?_ hw hk
    rw[old_get hb (bget_lt hc) (hne c (by rw[hv];simp[AV.refs])),hc]
theorem old_blk2 {h:Blks} {b c:Nat} (hb:b<h.length) (hc:c<h.length) (hn:c≠b):
    (∀ l x y,bput (bxt (bput h b x) l) c y=bxt (bput (bput h b x) c y) l)∧
    (∀ l x y k,bget (bxt (bput (bput h b x) c y) l) (nb h k)=bnth l k)∧
    (∀ l x y k z,bin l k=true→bput (bxt (bput (bput h b x) c y) l) (nb h k) z=bxt (bput (bput h b x) c y) (bputl l k z))∧
    (∀ l x y,(bxt (bput (bput h b x) c y) l).length=nb h (blen l))∧
    (∀ l x y,bget (bxt (bput (bput h b x) c y) l) c=y)∧(∀ l x y,bget (bxt (bput (bput h b x) c y) l) b=x)∧
    (∀ l x y z,bput (bxt (bput (bput h b x) c y) l) c z=bxt (bput (bput h b x) c z) l)∧
    (∀ l x y z,bput (bxt (bput (bput h b x) c y) l) b z=bxt (bput (bput h b z) c y) l)∧
    (∀ l x,bget (bxt (bput h b x) l) c=bget h c):=by
  have hl: ∀ x,(bput h b x).length=h.length:=fun x=>bput_len_eq hb
  have hc': ∀ x,c<(bput h b x).length:=fun x=>by rw[hl];exact hc
  have hl2: ∀ x y,(bput (bput h b x) c y).length=h.length:=fun x y=>by rw[bput_len_eq (hc' x),hl]
  have nbe: ∀ x y k,nb (bput (bput h b x) c y) k=nb h k:=fun x y k=>by rw[nb,nb,hl2]
  refine ⟨fun l x y=>bxt_bput l _ c y (hc' x),fun l x y k=> ?_,fun l x y k z q=> ?_,fun l x y=> ?_,fun l x y=> ?_,fun l x y=> ?_,fun l x y z=> ?_,fun l x y z=> ?_,fun l x=> ?_⟩
  · rw[←nbe x y k,nb_get]
  · rw[←nbe x y k,nb_put q]
  · rw[nb_len,nbe]
  · rw[bxt_old l _ c (by rw[hl2];exact hc),bget_set (hc' x),if_pos rfl]
  · rw[bxt_old l _ b (by rw[hl2];exact hb),bget_set (hc' x),if_neg (Ne.symm hn),bget_set hb,if_pos rfl]
  · rw[bxt_bput l _ c z (by rw[hl2];exact hc),bput_same]
  · rw[bxt_bput l _ b z (by rw[hl2];exact hb),bput_comm (bput h b x) y z hn,bput_same]
  · exact old_get hb hc hn l x
theorem old_get2 {h:Blks} {b c e:Nat} (hb:b<h.length) (hc:c<h.length) (he:e<h.length) (h1:e≠b) (h2:e≠c) (l:List (Option ABlk)) (x y:Option ABlk):bget (bxt (bput (bput h b x) c y) l) e=bget h e:=by
  have hl:(bput h b x).length=h.length:=bput_len_eq hb
  rw[old_get (by rw[hl];exact hc) (by rw[hl];exact he) h2,bget_set hb,if_neg h1]
theorem Keep.own2 {h h':Blks} {lg lg' lg2 d d':List Nat} {b c:Nat} (k:Keep ⟨h,lg,d⟩ ⟨h',lg',d'⟩) (hb:h.length≤b) (hb2:b<h'.length) (hc:h.length≤c) (hc2:c<h'.length) (x y:Option ABlk) (l:List (Option ABlk)) (hl: ∃ q,lg2=q++lg'∧ ∀ y∈q,h.length≤y):Keep ⟨h,lg,d⟩ ⟨bxt (bput (bput h' b x) c y) l,lg2,d'⟩:=
  (k.own hb hb2 x [] ⟨[],rfl,fun y hy=>by cases hy⟩).own (lg':=lg') hc (by show c<(bput h' b x).length;rw[bput_len_eq hb2];exact hc2) y l hl
theorem SlAt.own2 {h:Blks} {b c e:Nat} {v:AV} {es:List (List AV)} (H:SlAt h e v es) (hb:b<h.length) (hc:c<h.length) (h1: ∀ q∈v.refs,q≠b) (h2: ∀ q∈v.refs,q≠c) (x y:Option ABlk) (l:List (Option ABlk)):SlAt (bxt (bput (bput h b x) c y) l) e v es:=
  (show SlAt (bput h b x) e v es from H.own hb h1 x []).own (by rw[bput_len_eq hb];exact hc) h2 y l
inductive LgG (n:Nat) (lg:List Nat):List Nat→Prop
  |nil:LgG n lg lg
  |cons {b:Nat} {l:List Nat}:n≤b→LgG n lg l→LgG n lg (b::l)
theorem LgG.ok {n:Nat} {lg l:List Nat} (H:LgG n lg l): ∃ q,l=q++lg∧ ∀ y∈q,n≤y:=by
  induction H with
  |nil=>exact ⟨[],rfl,fun y hy=>by cases hy⟩
  | cons hb _ ih=>
    obtain ⟨q,rfl,h2⟩:=ih
    exact ⟨_::q,rfl,fun y hy=>by rcases List.mem_cons.1 hy with rfl |hy;exact hb;exact h2 y hy⟩
inductive OutAt (k:Nat) (h:Blks) (e:Nat) (v:AV) (es:List (List AV)):Prop
  |nil (hn:es=[]) (hv:v= .nilslice)
  |some (b:Nat) (hv:v= .slice b 0 es.length none) (hk:k≤b) (hb:bget h b=some (.row true e es))
theorem OutAt.sl {k:Nat} {h:Blks} {e:Nat} {v:AV} {es:List (List AV)} (H:OutAt k h e v es):SlAt h e v es:=by
  rcases H with ⟨hn,hv⟩|⟨b,hv,hk,hb⟩
  · exact .none hn (.inl hv)
  · exact .some b 0 none true es hv hb (by rw[List.drop_zero,List.take_length]) (fun _ h=>by cases h)
theorem OutAt.noosl {k:Nat} {h:Blks} {e:Nat} {v:AV} {es:List (List AV)} (H:OutAt k h e v es) (n:Nat):v≠ .osl n:=by
  rcases H with ⟨hn,rfl⟩|⟨b,rfl,hk,hb⟩ <;>intro h <;>cases h
theorem OutAt.keep {k:Nat} {m m':Mem} {e:Nat} {v:AV} {es:List (List AV)} (H:OutAt k m.blks e v es) (q:Keep m m'):OutAt k m'.blks e v es:=by
  rcases H with ⟨hn,hv⟩|⟨b,hv,hk,hb⟩
  · exact .nil hn hv
  · exact .some b hv hk ((q.get b (bget_lt hb)).trans hb)
theorem OutAt.bx {k:Nat} {h:Blks} {e:Nat} {v:AV} {es:List (List AV)} (H:OutAt k h e v es) (l:List (Option ABlk)):OutAt k (bxt h l) e v es:=by
  rcases H with ⟨hn,hv⟩|⟨b,hv,hk,hb⟩
  · exact .nil hn hv
  · exact .some b hv hk ((bxt_old l h b (bget_lt hb)).trans hb)
theorem SlAt.nout {h:Blks} {e:Nat} {v:AV} {es:List (List AV)} (H:SlAt h e v es) {b k:Nat} (hb:k≤b) (hr: ∀ c∈v.refs,c<k): ∀ c∈v.refs,c≠b:=fun c hc hq=>by have:=hr c hc;omega
theorem app_nil (e b:Nat) (x:AV) (xs:List AV) (get:Nat→Option ABlk) (nid:Nat):elemsOf get e x=Option.some [xs]→b≤roomMost→aappend get nid e b .nilslice x=Option.some (.slice nid 0 1 none,[⟨nid,Option.some (.row true e [xs]),refsLL [xs]⟩]):=fun h1 h2=>by
  simp only[aappend,h1,List.length_cons,List.length_nil,Nat.zero_add,Nat.one_mul]
  rw[if_pos h2]
theorem app_own (e bt:Nat) (x:AV) (xs:List AV) (get:Nat→Option ABlk) (nid b:Nat) (es:List (List AV)):elemsOf get e x=Option.some [xs]→get b=Option.some (.row true e es)→(es.length+1)*bt≤roomMost→aappend get nid e bt (.slice b 0 es.length none) x=Option.some (.slice nid 0 (es.length+1) none,[⟨b,none,[]⟩,⟨nid,Option.some (.row true e (es++ [xs])),refsLL (es++ [xs])⟩]):=fun h1 h2 h3=>by
  simp only[aappend,h1,h2,List.length_cons,List.length_nil,Nat.zero_add]
  rw[if_neg (by omega)]
  have h4:decide (es.length+1≤es.length)=false:=by simp
  simp only[h4,Bool.false_eq_true,if_false,if_true,List.drop_zero,List.take_length]
structure IdD where
  n:Int
  s:Int
  o:Int
  deriving DecidableEq,Inhabited
structure BunD where
  id:IdD
  dest:Int
  prio:Int
  born:Int
  life:Int
  total:Int
  data:List UInt8
  deriving DecidableEq,Inhabited
structure MarkD where
  id:IdD
  till:Int
  deriving DecidableEq,Inhabited
structure SlotD where
  off:Int
  size:Int
  id:IdD
  deriving DecidableEq,Inhabited
structure SendD where
  g:Int
  n:Int
  r:Int
  slots:List SlotD
  deriving DecidableEq,Inhabited
structure RecvD where
  g:Int
  r:Int
  f:Int
  taken:List (Int × Int)
  kept:List Int
  deriving DecidableEq,Inhabited
structure PeerD where
  node:Int
  theirs:Int
  sure:Bool
  old:Int
  send:SendD
  recv:RecvD
  deriving DecidableEq,Inhabited
structure StateD where
  node:Int
  boot:Int
  last:IdD
  held:List BunD
  seen:List MarkD
  peers:List PeerD
  deriving DecidableEq,Inhabited
structure CfgD where
  node:Int
  quota:Int
  largest:Int
  window:Int
  low:Int
  retry:Int
  retryMax:Int
  bypass:Int
  w1:Int
  w2:Int
  w3:Int
  rateN:Int
  rateD:Int
  burst:Int
  blocks:Int
  rate:Int
  deriving DecidableEq,Inhabited
structure ViewD where
  cfg:CfgD
  up:Bool
  st:StateD
  peers:List PeerD
  deriving DecidableEq,Inhabited
structure LinkD where
  src:Int
  dst:Int
  frames:List (List UInt8)
  deriving DecidableEq,Inhabited
structure SnapD where
  now:Int
  nodes:List ViewD
  links:List LinkD
  deriving Inhabited
structure VioD where
  kind:Int
  node:Int
  other:Int
  id:IdD
  deriving DecidableEq,Inhabited
def idC (x:IdD):List AV:=[.int .i64 x.n,.int .u64 x.s,.int .i64 x.o]
def bunC (b:BunD):List AV:=[.int .i64 b.id.n,.int .u64 b.id.s,.int .i64 b.id.o,.int .i64 b.dest,.int .i64 b.prio,.int .i64 b.born,.int .i64 b.life,.int .i64 b.total,.str b.data]
def markC (x:MarkD):List AV:=[.int .i64 x.id.n,.int .u64 x.id.s,.int .i64 x.id.o,.int .i64 x.till]
def slotC (x:SlotD):List AV:=[.int .u64 x.off,.int .u64 x.size,.int .i64 x.id.n,.int .u64 x.id.s,.int .i64 x.id.o]
def rngC (x:Int × Int):List AV:=[.int .u64 x.1,.int .u64 x.2]
def u64C (x:Int):List AV:=[.int .u64 x]
def limC (x:Int × Int × Int):List AV:=[.int .i64 x.1,.int .i64 x.2.1,.int .i64 x.2.2]
def sendC (S:SendD) (s:AV):List AV:=[.int .u64 S.g,.int .u64 S.n,.int .u64 S.r,s]
def recvC (R:RecvD) (t k:AV):List AV:=[.int .u64 R.g,.int .u64 R.r,.int .u64 R.f,t,k]
def peerC (P:PeerD) (s t k:AV):List AV:=[.int .i64 P.node,.int .u64 P.theirs,.bool (decide (P.sure=true)),.int .u64 P.old,.int .u64 P.send.g,.int .u64 P.send.n,.int .u64 P.send.r,s,.int .u64 P.recv.g,.int .u64 P.recv.r,.int .u64 P.recv.f,t,k]
def cfgC (c:CfgD):List AV:=[.int .i64 c.node,.int .u64 c.quota,.int .u64 c.largest,.int .u64 c.window,.int .u64 c.low,.int .i64 c.retry,.int .i64 c.retryMax,.int .i64 c.bypass,.int .i64 c.w1,.int .i64 c.w2,.int .i64 c.w3,.int .i64 c.rateN,.int .i64 c.rateD,.int .i64 c.burst,.int .i64 c.blocks,.int .i64 c.rate]
def stateC (S:StateD) (b m p:AV):List AV:=[.int .i64 S.node,.int .u64 S.boot,.int .i64 S.last.n,.int .u64 S.last.s,.int .i64 S.last.o,b,m,p]
def vioC (x:VioD):List AV:=[.int .i64 x.kind,.int .i64 x.node,.int .i64 x.other,.int .i64 x.id.n,.int .u64 x.id.s,.int .i64 x.id.o]
def U (x:Int):Prop:=0≤x∧x≤18446744073709551615
def I (x:Int):Prop:= -9223372036854775808≤x∧x≤9223372036854775807
attribute [go_sem] w_nil w_op w_gop w_gt w_gf w_gu w_gd w_e1 w_e2 w_e3 w_e4 w_q1 w_q2 w_p1 w_p2 w_l1 w_l2 w_c1 w_c2 w_skip w_exit w_ret w_seq w_blk w_if w_it w_ie w_id w_reg w_regt w_t1 w_t2 w_d w_kn w_ke w_kr w_wn w_we w_wr w_bn w_br w_b1 w_b2 w_rn w_rr w_v w_a r_nil r_op r_gop r_gt r_gf r_gu r_gd r_e1 r_e2 r_e3 r_e4 r_q1 r_q2 r_o1 r_o2 r_p r_l r_k w_s1 w_s2 w_f u_s u_n u_e u_r v_n v_e v_r o_mv o_pick o_alloc o_box o_bld o_load o_ldp o_ldb o_ld1 o_ld2 o_sto o_stp o_stb o_str o_nil o_nil1 o_nil2 o_bin o_val o_eql o_eq1 o_eq2 o_un o_len o_len1 o_len2 o_len3 o_len4 o_len5 o_idx o_idx1 o_idx2 o_fa o_fa1 o_mkf o_ext o_ext1 asl_n asl_0 asl_s els_n els_0 els_z els_s els_t ce_b ce_i ce_t ce_np ce_p ce_ns ce_s0 ce_s ce_nm ce_m ce_nf ce_f ce_ni ce_if ce_o ce_os ce_a p_slit p_field p_idxA p_idxV p_idxStr p_sliceStr p_sliceS p_sliceA p_isnil p_conv p_iface p_app p_copy p_minmax p_mkslice p_mkmap p_look p_mapset p_capb p_appz p_s2a p_add64 p_tassert apick abox abld AOp.isCall acallee aevs aev tputs aput Pth.succ Mem.apply Mem.applyAll Mem.killAll bputl abin kindEq binInt aun peq peq1 peqL rowGet rowGet0 rowSet rowSet0 chunk refsL refsLL AV.refs ares ares1 aresL aprim asliceA bound? aappend.eq_1 aappend.eq_2 aappend.eq_3 winGet roomMost aminmax findE setE strEq strLess fillC fillE stillR AOp.still subL ins sets setg dead pmem asg asgO dstL Nat.ble Nat.beq q_e tg_ze tg_zn tg_le tg_ln tg_re tg_rn ts_ze ts_zn ts_le ts_ln ts_re ts_rn cond_false cond_true Pth.l.injEq Pth.r.injEq if_false if_true Option.map_some Option.map_none Int.toNat_natCast Int.natCast_nonneg and_self and_true true_and Nat.zero_add List.nil_append List.append_nil List.singleton_append List.cons_append List.length_cons List.length_nil Bool.false_eq_true Bool.not_true Bool.not_false nb_len nb_get nb_put bin_a bin_b bin_c nb_inj decide_true decide_false not_true_eq_false not_false_eq_true beq_self_eq_true List.all_cons List.all_nil sc_bool sc_int sc_str sc_nilptr sc_ptr sc_nilslice sc_slice0 sc_slice sc_nilmap sc_map sc_nilFunc sc_func sc_nilIface sc_iface sc_yield Bool.and_self Bool.and_true Bool.true_and Bool.and_false Bool.false_and Bool.or_true Bool.true_or Bool.or_false Bool.false_or List.drop_zero List.drop_succ_cons List.take_succ_cons List.take_zero List.drop_nil List.take_nil List.getElem?_cons_zero List.getElem?_cons_succ List.set_cons_zero List.set_cons_succ List.flatten_cons List.flatten_nil List.map_cons List.map_nil Nat.add_zero Nat.lt_irrefl eq_self gt_iff_lt ge_iff_le Option.getD_some Option.isSome_some Option.isSome_none Option.isNone_none or_self or_false false_or or_true true_or and_false false_and List.isEmpty_nil List.isEmpty_cons List.replicate_succ List.replicate_zero true_implies forall_const implies_true Classical.not_not ndec ieq ine seqd dand ddec wn_0 wn_1 wn_2 wn_3 wn_4 wn_5 wn_6 wn_7 wn_8 wn_9 wn_10 wn_11 wn_12 wn_13 wn_14 wn_15 wn_16 wn_17 k_bx lg_nil lg_cons bl_0 bl_s bn_0 bn_1 bn_2 bn_3 bn_4 bn_5 bn_6 bn_7 bn_8 bn_9 bn_10 bn_11 bn_12 bn_13 bn_14 bn_15 ne_eq AV.int.injEq AV.tuple.injEq AV.bool.injEq AV.agg.injEq List.cons.injEq Prod.mk.injEq List.length_map
def bindL {α β:Type} (a:α) (f:α→β):β:=f a
section
variable (P:Program) (glob:Nat→Option AV)
def copA (nt:Nat) (ops:Array Oper):Nat→Nat→List (List Nat)→List (Option Pth × List Pth)→List Oper→Option (List AOper × Nat)
  |_,k,_,_,[]=>some ([],k)
  | i,k,cl,pv,o::os=>
    match cguard ops o,cdst nt o with
    | some guard,some dst=>
      bindL (copB P glob o) fun op=>bindL (closeAfter cl i o) fun after=>bindL (lks op guard) fun lk=>bindL (apartAll pv after (dst,lk) i) fun ap=>bindL (cl++ [after]) fun cl'=>bindL (pv++ [(dst,lk)]) fun pv'=>
      match (o.after.toList.all fun e=> !Region.binds .any e ||decide (e.on<i)) && ap with
      | true=>
        match copA nt ops (i+1) (cond op.makes (k+1) k) cl' pv' os with
        |some (rest,n)=>some ({dst,op,guard,slot:=cond op.makes (some k) none,after}::rest,n)
        |none=>none
      |false=>none
    |_,_=>none
theorem copA_eq (nt:Nat) (ops:Array Oper): ∀ (os:List Oper) (i k:Nat) (cl:List (List Nat)) (pv:List (Option Pth × List Pth)),copA P glob nt ops i k cl pv os=copers P glob nt true ops i k cl pv os
  | [],i,k,cl,pv=>rfl
  | o ::os,i,k,cl,pv=>by
    unfold copA copers
    cases cguard ops o with
    |none=>rfl
    | some g=>
      cases cdst nt o with
      |none=>rfl
      | some d=>
        simp only[bindL,copA_eq nt ops os,Option.bind_eq_bind,Option.bind_some,if_true]
        cases (copB P glob o).makes <;>simp only[cond_true,cond_false,Bool.false_eq_true,if_false,if_true] <;>cases ((o.after.toList.all fun e=> !Region.binds .any e ||decide (e.on<i)) && apartAll pv (closeAfter cl i o) (d,lks (copB P glob o) g) i) <;>simp only[Bool.false_eq_true,if_false,if_true] <;>split <;>simp_all
def ccodeA (nt:Nat):Code→Option ACode
  | .region r ops d=>match d with
    |true=>(copA P glob nt ops 0 0 [] [] ops.toList).map fun x=> .region true x.2 x.1
    |false=>ccode P glob nt (.region r ops false)
  | .seq a b=>match ccodeA nt a,ccodeA nt b with
    |some a,some b=>some (.seq a b)
    |_,_=>none
  | .cond c a b=>match copnd glob c,ccodeA nt a,ccodeA nt b with
    |some c,some a,some b=>some (.cond c a b)
    |_,_,_=>none
  | .block id c=>(ccodeA nt c).map (.block id)
  | .loop c=>(ccodeA nt c).map .loop
  | .rangeFunc f ps a b=>match ps.toList.all (· <nt),copnd glob f,ccodeA nt a,ccodeA nt b with
    |true,some f,some a,some b=>some (.rangeFunc f (ps.toList.map Pth.ofNat) a b)
    |_,_,_,_=>none
  | .scope c=>ccodeA nt c
  |c=>ccode P glob nt c
theorem ccodeA_eq (nt:Nat) (c:Code):ccodeA P glob nt c=ccode P glob nt c:=by
  induction c with
  | region r ops d=>
    cases d
    · rfl
    · simp only[ccodeA,copA_eq,ccode]
      cases copers P glob nt true ops 0 0 [] [] ops.toList <;>rfl
  |seq a b iha ihb=>simp only[ccodeA,ccode,iha,ihb];cases ccode P glob nt a <;>cases ccode P glob nt b <;>rfl
  |cond c a b iha ihb=>simp only[ccodeA,ccode,iha,ihb];cases copnd glob c <;>cases ccode P glob nt a <;>cases ccode P glob nt b <;>rfl
  |block id c ih=>simp only[ccodeA,ccode,ih];cases ccode P glob nt c <;>rfl
  |loop c ih=>simp only[ccodeA,ccode,ih];cases ccode P glob nt c <;>rfl
  | rangeFunc f ps a b iha ihb=>
    simp only[ccodeA,ccode,iha,ihb]
    cases (ps.toList.all (· <nt)) <;>cases copnd glob f <;>cases ccode P glob nt a <;>cases ccode P glob nt b <;>rfl
  |scope c ih=>simp only[ccodeA,ccode,ih]
  |_=>rfl
def cfuncA (fn:Func):Option AFunc:=
  match fn.body with
  | some body=>match fn.results.toList.all (cresOK P),ccodeA P glob fn.ntmps body with
    |true,some c=>some {ntmps:=fn.ntmps,results:=fn.results.toList.map (cres P),body:=c}
    |_,_=>none
  |none=>none
theorem cfuncA_eq (fn:Func):cfuncA P glob fn=cfunc P glob fn:=by
  unfold cfuncA cfunc
  cases fn.body with
  |none=>rfl
  | some b=>
    have e:fn.results.all (cresOK P)=fn.results.toList.all (cresOK P):=by simp
    simp only[ccodeA_eq,Option.bind_eq_bind,Option.bind_some,e]
    cases fn.results.toList.all (cresOK P) <;>cases ccode P glob fn.ntmps b <;>rfl
variable {P glob}
theorem c_f {fn:Func} {n:Nat} {r:List ARes} {b:Code} {c:ACode} (hb:fn.body=some b) (hn:fn.ntmps=n) (hr:fn.results.toList.map (cres P)=r) (ho:fn.results.toList.all (cresOK P)=true) (hc:ccodeA P glob n b=some c):cfuncA P glob fn=some ⟨n,r,c⟩:=by
  unfold cfuncA
  rw[hb,hn,hr,ho]
  simp only[hc]
theorem c_s {n:Nat} {a b:Code} {x y:ACode} (ha:ccodeA P glob n a=some x) (hb:ccodeA P glob n b=some y):ccodeA P glob n (.seq a b)=some (.seq x y):=by simp only[ccodeA,ha,hb]
theorem c_c {n:Nat} {c:Operand} {a b:Code} {d:AOpnd} {x y:ACode} (hc:copnd glob c=some d) (ha:ccodeA P glob n a=some x) (hb:ccodeA P glob n b=some y):ccodeA P glob n (.cond c a b)=some (.cond d x y):=by simp only[ccodeA,hc,ha,hb]
theorem c_b {n i:Nat} {a:Code} {x:ACode} (ha:ccodeA P glob n a=some x):ccodeA P glob n (.block i a)=some (.block i x):=by simp only[ccodeA,ha,Option.map_some]
theorem c_l {n:Nat} {a:Code} {x:ACode} (ha:ccodeA P glob n a=some x):ccodeA P glob n (.loop a)=some (.loop x):=by simp only[ccodeA,ha,Option.map_some]
theorem c_p {n:Nat} {a:Code} {x:ACode} (ha:ccodeA P glob n a=some x):ccodeA P glob n (.scope a)=some x:=by simp only[ccodeA,ha]
def copN (P:Program) (glob:Nat→Option AV) (nt:Nat) (ops:Array Oper):Nat→List (List Nat)→List Oper→Option (List AOper × Nat)
  |k,_,[]=>some ([],k)
  | k,cl,o::os=>
    match cguard ops o,cdst nt o with
    | some guard,some dst=>
      bindL (copB P glob o) fun op=>bindL (closeAfter cl cl.length o) fun after=>bindL (cl++ [after]) fun cl'=>
        match copN P glob nt ops (cond op.makes (k+1) k) cl' os with
        |some (rest,n)=>some ({dst,op,guard,slot:=cond op.makes (some k) none,after}::rest,n)
        |none=>none
    |_,_=>none
theorem copN_eq (nt:Nat) (ops:Array Oper): ∀ (os:List Oper) (i k:Nat) (cl:List (List Nat)) (pv:List (Option Pth × List Pth)) (r:List AOper × Nat),cl.length=i→copA P glob nt ops i k cl pv os=some r→copN P glob nt ops k cl os=some r
  | [],i,k,cl,pv,r,_,h=>h
  | o ::os,i,k,cl,pv,r,hi,h=>by
    unfold copA at h
    unfold copN
    subst hi
    cases hg:cguard ops o with
    |none=>rw[hg] at h;cases h
    | some g=>
      cases hd:cdst nt o with
      |none=>rw[hg,hd] at h;cases h
      | some d=>
        rw[hg,hd] at h
        simp only[bindL] at h ⊢
        split at h
        · split at h
          · rename_i hc
            rw[copN_eq nt ops os _ _ _ _ _ (by simp) hc]
            exact h
          · cases h
        · cases h
theorem c_r {n i k:Nat} {ops:Array Oper} {l:List AOper} (h1:copN P glob n ops 0 [] ops.toList=some (l,k)) (h2:(copA P glob n ops 0 0 [] [] ops.toList).isSome=true):ccodeA P glob n (.region i ops true)=some (.region true k l):=by
  obtain ⟨r,hr⟩:=Option.isSome_iff_exists.1 h2
  have e:=copN_eq n ops ops.toList 0 0 [] [] r rfl hr
  rw[h1] at e
  cases e
  simp only[ccodeA,hr,Option.map_some]
end
end Go.Abs
end
