/- What an abstract value, block and memory say of those of the model; single operations.
   Conditions: none. -/
import Derived.Test.YtdmofemokgboeaaGreatDoorEv1
import Derived.Laws.Strings
import Derived.Laws.Cover1
import Derived.Lib.SmallJoins
import Derived.Lib.Strings
import Derived.Laws.StructEq
import Derived.ChangeKeysEq
set_option linter.unusedSimpArgs false
set_option linter.unusedVariables false
set_option maxRecDepth 100000
noncomputable section
namespace Go.Abs
open Go.RowKit (Below)
structure Pl where
  cb:Nat
  base:Nat
  esz:Nat
  lim:Nat
abbrev Rho:=Nat→Option Pl
def Pl.at_ (p:Pl) (i o:Nat):Addr:=⟨p.cb,p.base+(i*p.esz+o),none⟩
mutual
def VR (ρ:Rho):AV→Value→Prop
  | .undef,v=>v= .tuple #[]
  | .bool b,v=>v= .bool b
  | .int k n,v=>v= .int k n
  | .str s,v=> ∃ b:ByteArray,v= .string b∧b.data.toList=s
  | .nilptr,v=>v= .pointer none
  | .ptr b i o,v=> ∃ p,ρ b=some p∧v= .pointer (some (p.at_ i o))
  | .nilslice,v=>v= .slice none 0 0
  | .slice0,v=> ∃ a,v= .slice (some a) 0 0
  | .slice b i n c,v=> ∃ p a k,ρ b=some p∧v= .slice (some a) n k∧n≤k∧(k=0∨(a=p.at_ i 0∧i+k≤p.lim))∧(∀ m,c=some m→k=m)∧(c=none→i+k=p.lim)∧k≤maxLen
  | .nilmap,v=>v= .map none
  | .map b,v=> ∃ p,ρ b=some p∧v= .map (some p.cb)
  | .nilFunc,v=>v= .nilFunc
  | .func f a c,v=> ∃ a' c',v= .func (.func f) a' c'∧VRs ρ a a'.toList∧VRs ρ c c'.toList
  | .nilIface,v=>v= .nilIface
  | .iface t x,v=> ∃ x',v= .iface t x'∧VR ρ x x'
  | .agg cs,v=> ∃ c',v= .agg c'∧VRs ρ cs c'.toList
  | .tuple cs,v=> ∃ c',v= .tuple c'∧VRs ρ cs c'.toList
  | .yield l,v=> ∃ p,ρ l=some p∧v= .func (.yield p.cb) #[] #[]
  | .opq,v=>v.oneCell'=true
  | .osl n,v=> ∃ a k,v= .slice a n k
def VRs (ρ:Rho):List AV→List Value→Prop
  | [],l=>l=[]
  |a::as,l=> ∃ v vs,l=v::vs∧VR ρ a v∧VRs ρ as vs
end
theorem VRs_iff (ρ:Rho): ∀ (as:List AV) (vs:List Value),VRs ρ as vs↔as.length=vs.length∧ ∀ (i:Nat) (a:AV) (v:Value),as[i]? =some a→vs[i]? =some v→VR ρ a v
  | [],vs=>by
    simp[VRs]
    constructor
    · rintro rfl;rfl
    · intro h;exact List.eq_nil_of_length_eq_zero h.symm
  | a ::as,vs=>by
    simp only[VRs]
    constructor
    · rintro ⟨v,vs',rfl,h1,h2⟩
      obtain ⟨hl,hi⟩:=(VRs_iff ρ as vs').1 h2
      refine ⟨by simp[hl],fun i x y hx hy=> ?_⟩
      cases i with
      |zero=>simp at hx hy;subst hx hy;exact h1
      |succ i=>simp at hx hy;exact hi i x y hx hy
    · rintro ⟨hl,hi⟩
      cases vs with
      |nil=>simp at hl
      | cons v vs'=>
        refine ⟨v,vs',rfl,hi 0 a v rfl rfl,(VRs_iff ρ as vs').2 ⟨by simpa using hl,fun i x y hx hy=>hi (i+1) x y (by simpa using hx) (by simpa using hy)⟩⟩
theorem VRs.length {ρ:Rho} {as:List AV} {vs:List Value} (h:VRs ρ as vs):as.length=vs.length:=((VRs_iff ρ as vs).1 h).1
theorem VRs.get {ρ:Rho} {as:List AV} {vs:List Value} (h:VRs ρ as vs) {i:Nat} {a:AV} (ha:as[i]? =some a): ∃ v,vs[i]? =some v∧VR ρ a v:=by
  obtain ⟨hl,hi⟩:=(VRs_iff ρ as vs).1 h
  have hlt:i<as.length:=(List.getElem?_eq_some_iff.1 ha).1
  have hv:vs[i]? =some (vs[i]'(by omega)):=List.getElem?_eq_getElem (by omega)
  exact ⟨_,hv,hi i a _ ha hv⟩
theorem VRs.append {ρ:Rho}: ∀ {as bs:List AV} {vs ws:List Value},VRs ρ as vs→VRs ρ bs ws→VRs ρ (as++bs) (vs++ws)
  | [],_,vs,_,h,h'=>by simp[VRs] at h;subst h;simpa using h'
  | a::as,_,_,_,h,h'=>by
    obtain ⟨v,vs',rfl,h1,h2⟩:=h
    exact ⟨v,vs'++_,rfl,h1,VRs.append h2 h'⟩
theorem VRs.take {ρ:Rho} {as:List AV} {vs:List Value} (h:VRs ρ as vs) (n:Nat):VRs ρ (as.take n) (vs.take n):=by
  obtain ⟨hl,hi⟩:=(VRs_iff ρ as vs).1 h
  refine (VRs_iff ρ _ _).2 ⟨by simp[hl],fun i a v ha hv=> ?_⟩
  rw[List.getElem?_take] at ha hv
  by_cases hn:i<n
  · rw[if_pos hn] at ha hv;exact hi i a v ha hv
  · rw[if_neg hn] at ha;cases ha
theorem VRs.drop {ρ:Rho} {as:List AV} {vs:List Value} (h:VRs ρ as vs) (n:Nat):VRs ρ (as.drop n) (vs.drop n):=by
  obtain ⟨hl,hi⟩:=(VRs_iff ρ as vs).1 h
  refine (VRs_iff ρ _ _).2 ⟨by simp[hl],fun i a v ha hv=> ?_⟩
  simp only[List.getElem?_drop] at ha hv
  exact hi _ a v ha hv
def Rho.le (ρ ρ':Rho):Prop:= ∀ b p,ρ b=some p→ρ' b=some p
mutual
theorem VR.mono {ρ ρ':Rho} (h:ρ.le ρ'): ∀ {a:AV} {v:Value},VR ρ a v→VR ρ' a v
  | .undef,_,hv | .bool _,_,hv | .int _ _,_,hv | .str _,_,hv | .nilptr,_,hv | .nilslice,_,hv | .slice0,_,hv | .nilmap,_,hv | .nilFunc,_,hv | .nilIface,_,hv | .opq,_,hv | .osl _,_,hv=>by simpa[VR] using hv
  | .ptr _ _ _,_,hv=>by obtain ⟨p,hp,e⟩:=hv;exact ⟨p,h _ _ hp,e⟩
  | .slice _ _ _ _,_,hv=>by obtain ⟨p,a,k,hp,r⟩:=hv;exact ⟨p,a,k,h _ _ hp,r⟩
  | .map _,_,hv=>by obtain ⟨p,hp,e⟩:=hv;exact ⟨p,h _ _ hp,e⟩
  | .func _ _ _,_,hv=>by obtain ⟨a',c',e,h1,h2⟩:=hv;exact ⟨a',c',e,VRs.mono h h1,VRs.mono h h2⟩
  | .iface _ _,_,hv=>by obtain ⟨x',e,h1⟩:=hv;exact ⟨x',e,VR.mono h h1⟩
  | .agg _,_,hv=>by obtain ⟨c',e,h1⟩:=hv;exact ⟨c',e,VRs.mono h h1⟩
  | .tuple _,_,hv=>by obtain ⟨c',e,h1⟩:=hv;exact ⟨c',e,VRs.mono h h1⟩
  | .yield _,_,hv=>by obtain ⟨p,hp,e⟩:=hv;exact ⟨p,h _ _ hp,e⟩
theorem VRs.mono {ρ ρ':Rho} (h:ρ.le ρ'): ∀ {as:List AV} {vs:List Value},VRs ρ as vs→VRs ρ' as vs
  | [],_,hv=>by simpa[VRs] using hv
  |_::_,_,hv=>by obtain ⟨v,vs,e,h1,h2⟩:=hv;exact ⟨v,vs,e,VR.mono h h1,VRs.mono h h2⟩
end
theorem Rho.le_refl (ρ:Rho):ρ.le ρ:=fun _ _ h=>h
theorem Rho.le_trans {a b c:Rho} (h:a.le b) (k:b.le c):a.le c:=fun x p hp=>k x p (h x p hp)
def Names (ρ:Rho) (l:List Nat):Prop:= ∀ b∈l,∃ p,ρ b=some p
mutual
theorem VR.names {ρ:Rho}: ∀ {a:AV} {v:Value},VR ρ a v→Names ρ a.refs
  | .undef,_,_ | .bool _,_,_ | .int _ _,_,_ | .str _,_,_ | .nilptr,_,_ | .nilslice,_,_ | .slice0,_,_ | .nilmap,_,_ | .nilFunc,_,_ | .nilIface,_,_ | .opq,_,_ | .osl _,_,_=>by simp[AV.refs,Names]
  | .ptr _ _ _,_,hv=>by obtain ⟨p,hp,_⟩:=hv;simpa[AV.refs,Names] using ⟨p,hp⟩
  | .slice _ _ _ _,_,hv=>by obtain ⟨p,_,_,hp,_⟩:=hv;simpa[AV.refs,Names] using ⟨p,hp⟩
  | .map _,_,hv=>by obtain ⟨p,hp,_⟩:=hv;simpa[AV.refs,Names] using ⟨p,hp⟩
  | .func _ _ _,_,hv=>by
    obtain ⟨_,_,_,h1,h2⟩:=hv
    intro b hb
    simp only[AV.refs,List.mem_append] at hb
    exact hb.elim (VRs.names h1 b) (VRs.names h2 b)
  | .iface _ x,_,hv=>by obtain ⟨_,_,h1⟩:=hv;have h2:=VR.names (a:=x) h1;simpa only[AV.refs] using h2
  | .agg cs,_,hv=>by obtain ⟨_,_,h1⟩:=hv;have h2:=VRs.names (as:=cs) h1;simpa only[AV.refs] using h2
  | .tuple cs,_,hv=>by obtain ⟨_,_,h1⟩:=hv;have h2:=VRs.names (as:=cs) h1;simpa only[AV.refs] using h2
  | .yield _,_,hv=>by obtain ⟨p,hp,_⟩:=hv;simpa[AV.refs,Names] using ⟨p,hp⟩
theorem VRs.names {ρ:Rho}: ∀ {as:List AV} {vs:List Value},VRs ρ as vs→Names ρ (refsL as)
  | [],_,_=>by simp[refsL,Names]
  | _::_,_,hv=>by
    obtain ⟨_,_,_,h1,h2⟩:=hv
    intro b hb
    simp only[refsL,List.mem_append] at hb
    exact hb.elim (VR.names h1 b) (VRs.names h2 b)
end
def TRt (ρ:Rho) (T:Tr) (tmps:Array Value):Prop:= ∀ p:Pth,VR ρ (tget p T) (tmps.getD p.toNat undef)
theorem TRt.mono {ρ ρ':Rho} {T:Tr} {tmps:Array Value} (h:TRt ρ T tmps) (hl:ρ.le ρ'):TRt ρ' T tmps:=fun p=>(h p).mono hl
structure Kp where
  kept:Nat→Prop
  loop:ALoop→Loop→Prop
instance : CoeFun Kp (fun _=>Nat→Prop):=⟨Kp.kept⟩
def BRel (K:Kp) (ρ:Rho) (w:World) (p:Pl):ABlk→Prop
  | .row own esz es=>
    p.esz=esz∧0<esz∧(∀ e∈es,e.length=esz)∧es.length≤p.lim∧
    ∃ arr el fr,w.heap[p.cb]? =some (.cells arr el fr)∧p.base+p.lim*esz≤arr.size∧
      (∀ k a,es.flatten[k]? =some a→ ∃ v,arr[p.base+k]? =some v∧VR ρ a v)∧
      (own=true→ ¬ K p.cb∧ ∀ i,i<arr.size→ ¬ (fr.1≤i∧i<fr.2))∧(∀ x∈es.flatten,x.scalar=true)
  | .map ents=>
    ¬ K p.cb∧ ∃ es clock,w.heap[p.cb]? =some (.map es clock)∧ents.length=es.size∧
      ∀ (i:Nat) (x:AV × AV) (e:MapEntry),ents[i]? =some x→es[i]? =some e→VR ρ x.1 e.key∧VR ρ x.2 e.val
  | .loop l=> ¬ K p.cb∧ ∃ r,w.heap[p.cb]? =some (.loop r)∧K.loop l r∧TRt ρ l.tmps r.tmps
  | .dfr=> ¬ K p.cb∧w.heap[p.cb]? =some (.deferred (some []))
structure Kept (K:Kp) (w w':World):Prop where
  os:w'.os=w.os
  tape:w'.tape=w.tape
  output:w'.output=w.output
  size:w.heap.size≤w'.heap.size
  lt: ∀ k,K k→k<w.heap.size
  block: ∀ k,K k→w'.heap[k]? =w.heap[k]?
structure Rel (K:Kp) (w0:World) (ρ:Rho) (h:Blks) (w:World):Prop where
  below:Kept K w0 w
  dom: ∀ b,h.length≤b→ρ b=none
  blk: ∀ b x,bget h b=some x→ ∃ p,ρ b=some p∧BRel K ρ w p x
  sep: ∀ b c x y p q,bget h b=some x→bget h c=some y→ρ b=some p→ρ c=some q→x.own=true→b≠c→p.cb≠q.cb
theorem BRel.lt {K:Kp} {ρ:Rho} {w:World} {p:Pl} {x:ABlk} (h:BRel K ρ w p x):p.cb<w.heap.size:=by
  have key: ∀ {o:Obj},w.heap[p.cb]? =some o→p.cb<w.heap.size:=fun hg=>(Array.getElem?_eq_some_iff.1 hg).1
  cases x with
  |row own esz es=>obtain ⟨_,_,_,_,arr,el,fr,hg,_⟩:=h;exact key hg
  |map ents=>obtain ⟨_,es,clock,hg,_⟩:=h;exact key hg
  |loop l=>obtain ⟨_,r,hg,_⟩:=h;exact key hg
  |dfr=>exact key h.2
theorem BRel.own_ge {K:Kp} {ρ:Rho} {w:World} {p:Pl} {x:ABlk} (h:BRel K ρ w p x) (ho:x.own=true): ¬ K p.cb:=by
  cases x with
  |row own esz es=>obtain ⟨_,_,_,_,arr,el,fr,hg,_,_,h3,_⟩:=h;exact (h3 ho).1
  |map ents=>exact h.1
  |loop l=>exact h.1
  |dfr=>exact h.1
theorem BRel.keep {K:Kp} {ρ ρ':Rho} {w w':World} {p:Pl} {x:ABlk} (h:BRel K ρ w p x) (hρ:ρ.le ρ') (hw:w'.heap[p.cb]? =w.heap[p.cb]?):BRel K ρ' w' p x:=by
  cases x with
  | row own esz es=>
    obtain ⟨h1,h2,h3,h4,arr,el,fr,hg,h5,h6,h7⟩:=h
    exact ⟨h1,h2,h3,h4,arr,el,fr,hw.trans hg,h5,fun k a ha=>let ⟨v,hv,hr⟩:=h6 k a ha;⟨v,hv,hr.mono hρ⟩,h7⟩
  | map ents=>
    obtain ⟨h1,es,clock,hg,h2,h3⟩:=h
    exact ⟨h1,es,clock,hw.trans hg,h2,fun i a e ha he=>let ⟨x,y⟩:=h3 i a e ha he;⟨x.mono hρ,y.mono hρ⟩⟩
  |loop l=>obtain ⟨h1,r,hg,h2,h3⟩:=h;exact ⟨h1,r,hw.trans hg,h2,h3.mono hρ⟩
  |dfr=>exact ⟨h.1,hw.trans h.2⟩
theorem mget_zero (t:Mt):mget t 0=(match t with | .e=>none | .n x _ _=>x):=by cases t <;>rfl
theorem mget_e (k:Nat):mget .e k=none:=rfl
theorem mget_succ (x:Option ABlk) (l r:Mt) (k:Nat):mget (.n x l r) (k+1)=cond (Nat.beq (k % 2) 0) (mget l (k / 2)) (mget r (k / 2)):=rfl
theorem mset_succ_e (x:Option ABlk) (f k:Nat):mset x (f+1) (k+1) .e=cond (Nat.beq (k % 2) 0) (.n none (mset x f (k / 2) .e) .e) (.n none .e (mset x f (k / 2) .e)):=rfl
theorem mset_succ_n (x v:Option ABlk) (l r:Mt) (f k:Nat):mset x (f+1) (k+1) (.n v l r)=cond (Nat.beq (k % 2) 0) (.n v (mset x f (k / 2) l) r) (.n v l (mset x f (k / 2) r)):=rfl
theorem mset_zero_e (x:Option ABlk) (f:Nat):mset x (f+1) 0 .e= .n x .e .e:=rfl
theorem mset_zero_n (x v:Option ABlk) (l r:Mt) (f:Nat):mset x (f+1) 0 (.n v l r)= .n x l r:=rfl
theorem beq_mod {k j:Nat} (h:k % 2≠j % 2):Nat.beq (k % 2) 0= !Nat.beq (j % 2) 0:=by
  have h1:k % 2=0∨k % 2=1:=by omega
  have h2:j % 2=0∨j % 2=1:=by omega
  rcases h1 with h1 |h1 <;>rcases h2 with h2 |h2 <;>rw[h1,h2] <;>first |rfl |exact absurd (h1.trans h2.symm) h
theorem mget_mset (x:Option ABlk): ∀ (f k:Nat) (t:Mt),k<f→ ∀ j,mget (mset x f k t) j=if j=k then x else mget t j
  |0,k,t,hk,j=>absurd hk (by omega)
  | f +1,0,t,_,j=>by
    cases t with
    | e=>
      rw[mset_zero_e]
      cases j with
      |zero=>rw[mget_zero];simp
      |succ j=>rw[mget_succ];simp[mget_e]
    | n v l r=>
      rw[mset_zero_n]
      cases j with
      |zero=>rw[mget_zero];simp
      |succ j=>rw[mget_succ,mget_succ];simp
  | f + 1, k +1,t,hk,j=>by
    have hk2:k / 2<f:=by omega
    have key: ∀ (j:Nat),(k % 2=j % 2→j / 2=k / 2→j=k):=fun j h1 h2=>by omega
    cases t with
    | e =>
      rw[mset_succ_e]
      cases j with
      |zero=>cases Nat.beq (k % 2) 0 <;>simp[mget_zero]
      | succ j=>
        by_cases hp:k % 2=j % 2
        · have ih:=mget_mset x f (k / 2) .e hk2 (j / 2)
          rw[show Nat.beq (k % 2) 0=Nat.beq (j % 2) 0 by rw[hp]]
          cases hb:Nat.beq (j % 2) 0 <;>
            (simp only[cond];rw[mget_succ,hb];simp only[cond,ih,mget_e]
             by_cases e:j=k
             · subst e;simp
             · rw[if_neg (fun e2=>e (key j hp e2)),if_neg (by omega)])
        · have hb:=beq_mod hp
          rw[hb]
          cases hb2:Nat.beq (j % 2) 0 <;>
            (simp only[Bool.not_true,Bool.not_false,cond];rw[mget_succ,hb2];simp only[cond,mget_e];rw[if_neg (by intro e;apply hp;omega)])
    | n v l r=>
      rw[mset_succ_n]
      cases j with
      |zero=>cases Nat.beq (k % 2) 0 <;>simp[mget_zero]
      | succ j=>
        by_cases hp:k % 2=j % 2
        · rw [show Nat.beq (k % 2) 0=Nat.beq (j % 2) 0 by rw[hp],mget_succ v l r]
          cases hb:Nat.beq (j % 2) 0 <;>
            (simp only[cond];rw[mget_succ,hb];simp only[cond]
             rw[mget_mset x f (k / 2) _ hk2 (j / 2)]
             by_cases e:j=k
             · subst e;simp
             · rw[if_neg (fun e2=>e (key j hp e2)),if_neg (by omega)])
        · have hb:=beq_mod hp
          rw[hb,mget_succ v l r]
          cases hb2:Nat.beq (j % 2) 0 <;>
            (simp only[Bool.not_true,Bool.not_false,cond];rw[mget_succ,hb2];simp only[cond];rw[if_neg (by intro e;apply hp;omega)])
theorem bget_of {h:Blks} {b:Nat} (hb:b<h.length):bget h b=mget h.tree b:=by
  unfold bget
  rw[show Nat.blt b h.length=true from (iff_of_eq Nat.blt_eq).2 hb]
  rfl
theorem bget_ge {h:Blks} {b:Nat} (hb:h.length≤b):bget h b=none:=by
  unfold bget
  cases e:Nat.blt b h.length
  · rfl
  · have:=(iff_of_eq Nat.blt_eq).1 e;omega
theorem bget_lt {h:Blks} {b:Nat} {x:ABlk} (hx:bget h b=some x):b<h.length:=by
  rcases Nat.lt_or_ge b h.length with l |l
  · exact l
  · rw[bget_ge l] at hx;cases hx
theorem apply_blks (m:Mem) (c:Chg):(m.apply c).blks=bput m.blks c.id c.blk:=rfl
theorem length_bput' {h:Blks} {b:Nat} {x:Option ABlk}:(bput h b x).length=max h.length (b+1):=by
  simp only[bput]
  cases e:Nat.blt b h.length
  · have: ¬ b<h.length:=fun l=>by rw[(iff_of_eq Nat.blt_eq).2 l] at e;cases e
    simp only[cond];omega
  · have:=(iff_of_eq Nat.blt_eq).1 e
    simp only[cond];omega
theorem length_bput {h:Blks} {b:Nat} {x:Option ABlk} (_:b≤h.length):(bput h b x).length=max h.length (b+1):=length_bput'
theorem bget_bput {h:Blks} {b c:Nat} {x:Option ABlk} (hb:b≤h.length):bget (bput h b x) c=if c=b then x else bget h c:=by
  rcases Nat.lt_or_ge c (bput h b x).length with l |l
  · rw[bget_of l]
    simp only[bput]
    rw[mget_mset x _ _ _ (Nat.lt_succ_self b)]
    by_cases e:c=b
    · rw[if_pos e,if_pos e]
    · rw[if_neg e,if_neg e]
      rw[length_bput hb] at l
      rw[bget_of (by omega)]
  · rw[bget_ge l]
    rw[length_bput hb] at l
    rw[if_neg (by omega),bget_ge (by omega)]
theorem bget_set {h:Blks} {b c:Nat} {x:Option ABlk} (hb:b<h.length):bget (bput h b x) c=if c=b then x else bget h c:=bget_bput (by omega)
def Rho.put (ρ:Rho) (b:Nat) (p:Pl):Rho:=fun c=>if c=b then some p else ρ c
theorem Rho.put_self (ρ:Rho) (b:Nat) (p:Pl):ρ.put b p b=some p:=by simp[Rho.put]
theorem Rho.put_ne (ρ:Rho) {b c:Nat} (p:Pl) (h:c≠b):ρ.put b p c=ρ c:=by simp[Rho.put,h]
theorem Rho.le_put {ρ:Rho} {b:Nat} (p:Pl) (h:ρ b=none):ρ.le (ρ.put b p):=by
  intro c q hq
  by_cases e:c=b
  · subst e;rw[h] at hq;cases hq
  · rw[Rho.put_ne _ _ e];exact hq
section
variable {K:Kp} {w0 w w':World} {ρ:Rho} {h:Blks}
theorem Rel.world (r:Rel K w0 ρ h w) (hb:Kept K w0 w') (hs:w.heap.size≤w'.heap.size) (hk: ∀ b x p,bget h b=some x→ρ b=some p→w'.heap[p.cb]? =w.heap[p.cb]?):Rel K w0 ρ h w' where
  below:=hb
  dom:=r.dom
  blk:=fun b x hx=>let ⟨p,hp,hB⟩:=r.blk b x hx;⟨p,hp,hB.keep (Rho.le_refl _) (hk b x p hx hp)⟩
  sep:=r.sep
theorem Rel.fresh (r:Rel K w0 ρ h w): ¬ K w.heap.size:=fun hk=>absurd (Nat.lt_of_lt_of_le (r.below.lt _ hk) r.below.size) (Nat.lt_irrefl _)
theorem Rel.grow (r:Rel K w0 ρ h w) (hb:Below w.heap.size w w'):Rel K w0 ρ h w':=
  r.world ⟨hb.os.trans r.below.os,hb.tape.trans r.below.tape,hb.output.trans r.below.output,Nat.le_trans r.below.size hb.size,r.below.lt,fun k hk=>(hb.block k (Nat.lt_of_lt_of_le (r.below.lt k hk) r.below.size)).trans (r.below.block k hk)⟩ hb.size fun b x p hx hp=>by
    obtain ⟨q,hq,hB⟩:=r.blk b x hx
    have e:q=p:=Option.some.inj (hq.symm.trans hp)
    subst e
    exact hb.block _ hB.lt
theorem Rel.kill (r:Rel K w0 ρ h w) {b:Nat} (hb:b<h.length):Rel K w0 ρ (bput h b none) w where
  below:=r.below
  dom:=fun c hc=>r.dom c (by rw[length_bput (by omega)] at hc;omega)
  blk:=fun c x hx=>by
    rw[bget_bput (by omega)] at hx
    split at hx
    · cases hx
    · exact r.blk c x hx
  sep :=fun c d x y p q hx hy hp hq ho hne=>by
    rw[bget_bput (by omega)] at hx hy
    split at hx
    · cases hx
    · split at hy
      · cases hy
      · exact r.sep c d x y p q hx hy hp hq ho hne
theorem Rel.put (r:Rel K w0 ρ h w) {b:Nat} {x:ABlk} {p:Pl} (hb:b≤h.length) (hn:ρ b=none) (hB:BRel K (ρ.put b p) w p x)
    (hfar: ∀ c y q,bget h c=some y→ρ c=some q→q.cb≠p.cb):Rel K w0 (ρ.put b p) (bput h b (some x)) w where
  below:=r.below
  dom:=fun c hc=>by
    rw[length_bput hb] at hc
    rw[Rho.put_ne _ _ (by omega)]
    exact r.dom c (by omega)
  blk :=fun c y hy=>by
    rw[bget_bput hb] at hy
    split at hy
    · rename_i e
      cases hy
      subst e
      exact ⟨p,Rho.put_self _ _ _,hB⟩
    · rename_i e
      obtain ⟨q,hq,hBq⟩:=r.blk c y hy
      exact ⟨q,by rw[Rho.put_ne _ _ e];exact hq,hBq.keep (Rho.le_put p hn) rfl⟩
  sep :=fun c d x' y p' q hx hy hp hq ho hne=>by
    rw[bget_bput hb] at hx hy
    split at hx
    · rename_i e
      subst e
      rw[if_neg (fun e=>hne e.symm)] at hy
      rw[Rho.put_self] at hp
      rw[Rho.put_ne _ _ (fun e=>hne e.symm)] at hq
      cases hp
      exact fun e=>hfar d y q hy hq e.symm
    · rename_i e
      rw[Rho.put_ne _ _ e] at hp
      split at hy
      · rename_i e'
        subst e'
        rw[Rho.put_self] at hq
        cases hq
        exact hfar c x' p' hx hp
      · rename_i e'
        rw[Rho.put_ne _ _ e'] at hq
        exact r.sep c d x' y p' q hx hy hp hq ho hne
theorem Rel.set (r:Rel K w0 ρ h w) {b:Nat} {x x':ABlk} {p:Pl} (hx:bget h b=some x) (hp:ρ b=some p) (ho:x.own=true)
    (hs:w'.heap.size=w.heap.size) (hos:w'.os=w.os) (htp:w'.tape=w.tape) (hou:w'.output=w.output)
    (hw: ∀ k,k≠p.cb→w'.heap[k]? =w.heap[k]?) (hB:BRel K ρ w' p x'):Rel K w0 ρ (bput h b (some x')) w':=by
  have hlt:=bget_lt hx
  obtain ⟨q,hq,hBx⟩:=r.blk b x hx
  have e:q=p:=Option.some.inj (hq.symm.trans hp)
  subst e
  have hge:=hBx.own_ge ho
  refine ⟨⟨hos.trans r.below.os,htp.trans r.below.tape,hou.trans r.below.output,by rw[hs];exact r.below.size,r.below.lt,fun k hk=>(hw k (fun e=>hge (e ▸ hk))).trans (r.below.block k hk)⟩,
    fun c hc=>r.dom c (by rw[length_bput (by omega)] at hc;omega),fun c y hy=> ?_,fun c d y z p' q' hy hz hp' hq' hoy hne=> ?_⟩
  · rw[bget_bput (by omega)] at hy
    split at hy
    · rename_i e
      cases hy
      subst e
      exact ⟨q,hq,hB⟩
    · rename_i e
      obtain ⟨s,hs',hBs⟩:=r.blk c y hy
      exact ⟨s,hs',hBs.keep (Rho.le_refl _) (hw _ (fun e'=>r.sep b c x y q s hx hy hq hs' ho (fun e''=>e e''.symm) e'.symm))⟩
  · rw[bget_bput (by omega)] at hy hz
    split at hy
    · rename_i e
      subst e
      rw[if_neg (fun e=>hne e.symm)] at hz
      exact r.sep c d x z p' q' hx hz hp' hq' ho hne
    · split at hz
      · rename_i e e'
        subst e'
        exact fun e''=>r.sep d c x y q' p' hx hy hq' hp' ho (fun e3=>hne e3.symm) e''.symm
      · exact r.sep c d y z p' q' hy hz hp' hq' hoy hne
end
section
variable {α:Type}
theorem flatten_at {n:Nat} (hn:0<n): ∀ (es:List (List α)) (k:Nat),(∀ e∈es,e.length=n)→es.flatten[k]? =(es[k / n]?).bind fun e=>e[k % n]?
  | [],k,_=>by simp
  | e ::es,k,h=>by
    have he:e.length=n:=h e (by simp)
    have hes: ∀ x∈es,x.length=n:=fun x hx=>h x (by simp[hx])
    rw[List.flatten_cons]
    by_cases hk:k<n
    · rw[List.getElem?_append_left (by omega),Nat.div_eq_of_lt hk,Nat.mod_eq_of_lt hk]
      simp
    · rw[List.getElem?_append_right (by omega),he,flatten_at hn es (k - n) hes]
      have e1:k / n=(k - n) / n+1:=by
        rw[Nat.div_eq_sub_div hn (by omega)]
      have e2:k % n=(k - n) % n:=by
        rw[Nat.mod_eq_sub_mod (by omega)]
      rw[e1,e2]
      simp
theorem flatten_len {n:Nat}: ∀ (es:List (List α)),(∀ e∈es,e.length=n)→es.flatten.length=es.length*n
  | [],_=>by simp
  | e::es,h=>by
    rw[List.flatten_cons,List.length_append,h e (by simp),flatten_len es (fun x hx=>h x (by simp[hx])),List.length_cons,Nat.succ_mul]
    omega
theorem mem_of_get {es:List α} {i:Nat} {e:α} (h:es[i]? =some e):e∈es:=List.mem_of_getElem? h
theorem flatten_cell {n:Nat} (hn:0<n) {es:List (List α)} (h: ∀ e∈es,e.length=n) {i j:Nat} {e:List α} (he:es[i]? =some e) (hj:j<n):es.flatten[i*n+j]? =e[j]? :=by
  have e1:(i*n+j) / n=i:=by rw[Nat.mul_comm,Nat.mul_add_div hn,Nat.div_eq_of_lt hj,Nat.add_zero]
  have e2:(i*n+j) % n=j:=by rw[Nat.mul_comm,Nat.mul_add_mod,Nat.mod_eq_of_lt hj]
  rw[flatten_at hn es _ h,e1,e2,he]
  rfl
theorem flatten_drop {n:Nat}: ∀ (es:List (List α)) (i:Nat),(∀ e∈es,e.length=n)→(es.drop i).flatten=es.flatten.drop (i*n)
  | [],i,_=>by simp
  |e::es,0,_=>by simp
  | e::es,i+1,h=>by
    have he:e.length=n:=h e (by simp)
    rw[List.drop_succ_cons,flatten_drop es i (fun x hx=>h x (by simp[hx])),List.flatten_cons,Nat.succ_mul,List.drop_append,he]
    have:e.drop (i*n+n)=[]:=List.drop_eq_nil_of_le (by omega)
    rw[this,List.nil_append]
    congr 1
    omega
theorem flatten_take {n:Nat}: ∀ (es:List (List α)) (i:Nat),(∀ e∈es,e.length=n)→(es.take i).flatten=es.flatten.take (i*n)
  | [],i,_=>by simp
  |e::es,0,_=>by simp
  | e::es,i+1,h=>by
    have he:e.length=n:=h e (by simp)
    rw[List.take_succ_cons,List.flatten_cons,flatten_take es i (fun x hx=>h x (by simp[hx])),List.flatten_cons,Nat.succ_mul,List.take_append,he,List.take_of_length_le (l:=e) (by omega)]
    congr 2
    omega
end
theorem chunk_len (n:Nat): ∀ (k:Nat) (l:List AV),(chunk n k l).length=k
  |0,_=>rfl
  |k+1,l=>by simp[chunk,chunk_len n k]
theorem chunk_all (n:Nat): ∀ (k:Nat) (l:List AV),k*n≤l.length→ ∀ e∈chunk n k l,e.length=n
  |0,_,_=>by simp[chunk]
  | k+1,l,h=>by
    rw[Nat.succ_mul] at h
    intro e he
    simp only[chunk,List.mem_cons] at he
    rcases he with rfl |he
    · simp;omega
    · exact chunk_all n k (l.drop n) (by simp;omega) e he
theorem chunk_flatten (n:Nat): ∀ (k:Nat) (l:List AV),l.length=k*n→(chunk n k l).flatten=l
  | 0,l,h=>by
    rw[Nat.zero_mul] at h
    simp[chunk,List.eq_nil_of_length_eq_zero h]
  | k+1,l,h=>by
    rw[Nat.succ_mul] at h
    rw[chunk,List.flatten_cons,chunk_flatten n k (l.drop n) (by simp;omega),List.take_append_drop]
theorem rowGet0_spec {esz:Nat} {es:List (List AV)} {i o n:Nat} {cs:List AV} (hn:0<esz) (hall: ∀ e∈es,e.length=esz) (h:rowGet0 esz es i o n=some cs):
    cs.length=n∧ ∀ j a,cs[j]? =some a→es.flatten[i*esz+o+j]? =some a:=by
  unfold rowGet0 at h
  split at h
  · rename_i hle
    split at h
    · rename_i e he
      cases h
      have hl:=hall e (mem_of_get he)
      refine ⟨by simp;omega,fun j a ha=> ?_⟩
      have hj:j<n:=by
        have:=(List.getElem?_eq_some_iff.1 ha).1
        simp at this;omega
      rw[List.getElem?_take,if_pos hj,List.getElem?_drop] at ha
      rw[Nat.add_assoc,flatten_cell hn hall he (by omega)]
      exact ha
    · cases h
  · split at h
    · rename_i hc
      obtain ⟨ho,hk,hle⟩:=hc
      cases h
      subst ho
      rw[flatten_take _ _ (fun e he=>hall e (List.mem_of_mem_drop he)),flatten_drop _ _ hall,hk]
      have hlen:=flatten_len es hall
      have hmul:(i+n / esz)*esz≤es.length*esz:=Nat.mul_le_mul_right _ hle
      rw[Nat.add_mul,hk] at hmul
      refine ⟨by simp only[List.length_take,List.length_drop];omega,fun j a ha=> ?_⟩
      have hj:j<n:=by
        have:=(List.getElem?_eq_some_iff.1 ha).1
        simp only[List.length_take,List.length_drop] at this;omega
      rw[List.getElem?_take,if_pos hj,List.getElem?_drop] at ha
      simpa using ha
    · cases h
theorem row_norm {esz i o:Nat}:(i+o / esz)*esz+o % esz=i*esz+o:=by
  rw[Nat.add_mul,Nat.add_assoc]
  congr 1
  rw[Nat.mul_comm]
  exact Nat.div_add_mod o esz
theorem rowGet_spec {esz:Nat} {es:List (List AV)} {i o n:Nat} {cs:List AV} (hn:0<esz) (hall: ∀ e∈es,e.length=esz) (h:rowGet esz es i o n=some cs):
    cs.length=n∧ ∀ j a,cs[j]? =some a→es.flatten[i*esz+o+j]? =some a:=by
  unfold rowGet at h
  cases hb:Nat.ble esz o <;>rw[hb] at h <;>simp only[cond] at h
  · exact rowGet0_spec hn hall h
  · have:=rowGet0_spec hn hall h
    rw[row_norm] at this
    exact this
theorem get_splice {α:Type} {l vs:List α} {a k:Nat} (h:a+vs.length≤l.length):
    (l.take a++vs++l.drop (a+vs.length))[k]? =if a≤k∧k<a+vs.length then vs[k - a]? else l[k]? :=by
  have ht:(l.take a).length=a:=by simp;omega
  by_cases h1:k<a
  · rw[if_neg (by omega),List.append_assoc,List.getElem?_append_left (by omega),List.getElem?_take,if_pos h1]
  · by_cases h2:k<a+vs.length
    · rw[if_pos ⟨by omega,h2⟩,List.getElem?_append_left (by simp;omega),List.getElem?_append_right (by omega),ht]
    · rw[if_neg (by omega),List.getElem?_append_right (by simp;omega),List.getElem?_drop]
      congr 1
      simp
      omega
theorem rowSet0_spec {esz:Nat} {es es':List (List AV)} {i o:Nat} {vs:List AV} (hn:0<esz) (hall: ∀ e∈es,e.length=esz) (h:rowSet0 esz es i o vs=some es'):
    (∀ e∈es',e.length=esz)∧es'.length=es.length∧i*esz+o+vs.length≤es.length*esz∧es'.flatten=es.flatten.take (i*esz+o)++vs++es.flatten.drop (i*esz+o+vs.length):=by
  have hlen:=flatten_len es hall
  unfold rowSet0 at h
  split at h
  · rename_i hle
    split at h
    · rename_i e he
      cases h
      have hl:=hall e (mem_of_get he)
      have hi:i<es.length:=(List.getElem?_eq_some_iff.1 he).1
      have hmul:(i+1)*esz≤es.length*esz:=Nat.mul_le_mul_right _ hi
      rw[Nat.succ_mul] at hmul
      have hnew:(e.take o++vs++e.drop (o+vs.length)).length=esz:=by simp;omega
      have hall': ∀ x∈es.set i (e.take o++vs++e.drop (o+vs.length)),x.length=esz:=by
        intro x hx
        rcases List.mem_or_eq_of_mem_set hx with hx |rfl
        · exact hall x hx
        · exact hnew
      refine ⟨hall',by simp,by omega,?_⟩
      refine List.ext_getElem? fun k=> ?_
      rw[get_splice (by omega),flatten_at hn _ _ hall',flatten_at hn _ _ hall]
      have hk:=Nat.div_add_mod k esz
      have hr:=Nat.mod_lt k hn
      generalize hq:k / esz=q at*
      generalize hrr:k % esz=r at*
      by_cases hqi:q=i
      · subst hqi
        rw[List.getElem?_set_self hi,he]
        simp only[Option.bind_some]
        rw[get_splice (by omega)]
        have e1:esz*q=q*esz:=Nat.mul_comm _ _
        by_cases hin:o≤r∧r<o+vs.length
        · rw[if_pos hin,if_pos (by omega)]
          congr 1
          omega
        · rw[if_neg hin,if_neg (by omega)]
      · rw[List.getElem?_set_ne (by omega)]
        rcases Nat.lt_or_gt_of_ne hqi with hlt |hgt
        · have h1:(q+1)*esz≤i*esz:=Nat.mul_le_mul_right _ hlt
          rw[Nat.succ_mul] at h1
          have e1:esz*q=q*esz:=Nat.mul_comm _ _
          rw[if_neg (by omega)]
        · have h1:(i+1)*esz≤q*esz:=Nat.mul_le_mul_right _ hgt
          rw[Nat.succ_mul] at h1
          have e1:esz*q=q*esz:=Nat.mul_comm _ _
          rw[if_neg (by omega)]
    · cases h
  · split at h
    · rename_i hc
      obtain ⟨ho,hk,hle⟩:=hc
      cases h
      subst ho
      have hmul:(i+vs.length / esz)*esz≤es.length*esz:=Nat.mul_le_mul_right _ hle
      rw[Nat.add_mul,hk] at hmul
      have hlen':(es.take i++chunk esz (vs.length / esz) vs++es.drop (i+vs.length / esz)).length=es.length:=by
        simp only[List.length_append,List.length_take,List.length_drop,chunk_len]
        generalize vs.length / esz=q at*
        omega
      refine ⟨fun x hx=> ?_,hlen',by omega,?_⟩
      · simp only[List.mem_append] at hx
        rcases hx with (hx |hx)|hx
        · exact hall x (List.mem_of_mem_take hx)
        · exact chunk_all _ _ _ (by omega) x hx
        · exact hall x (List.mem_of_mem_drop hx)
      · rw[List.flatten_append,List.flatten_append,flatten_take _ _ hall,flatten_drop _ _ hall,chunk_flatten _ _ _ (by omega),Nat.add_mul,hk]
        simp
    · cases h
theorem rowSet_spec {esz:Nat} {es es':List (List AV)} {i o:Nat} {vs:List AV} (hn:0<esz) (hall: ∀ e∈es,e.length=esz) (h:rowSet esz es i o vs=some es'):
    (∀ e∈es',e.length=esz)∧es'.length=es.length∧i*esz+o+vs.length≤es.length*esz∧es'.flatten=es.flatten.take (i*esz+o)++vs++es.flatten.drop (i*esz+o+vs.length):=by
  unfold rowSet at h
  cases hb:Nat.ble esz o <;>rw[hb] at h <;>simp only[cond] at h
  · exact rowSet0_spec hn hall h
  · have:=rowSet0_spec hn hall h
    rw[row_norm] at this
    exact this
open Go.RowKit (Below)
def TR (ρ:Rho) (T:Tr) (a:Act):Prop:=TRt ρ T a.tmps
def GR (glob:Nat→Option AV) (ρ:Rho):Prop:= ∀ g v,glob g=some v→VR ρ v (.pointer (some ⟨g,0,none⟩))
theorem GR.mono {glob:Nat→Option AV} {ρ ρ':Rho} (h:GR glob ρ) (hl:ρ.le ρ'):GR glob ρ':=fun g v hg=>(h g v hg).mono hl
mutual
theorem VR_absV (ρ:Rho): ∀ {v:Value} {a:AV},absV v=some a→VR ρ a v
  | .bool b,a,h=>by simp only[absV] at h;cases h;simp[VR]
  | .int k n,a,h=>by simp only[absV] at h;cases h;simp[VR]
  | .string s,a,h=>by simp only[absV] at h;cases h;exact ⟨s,rfl,rfl⟩
  | .pointer none,a,h=>by simp only[absV] at h;cases h;simp[VR]
  | .pointer (some _),a,h=>by simp[absV] at h
  | .slice none n c,a,h=>by
    unfold absV at h
    split at h <;>first |(cases h;done)|skip
    all_goals first |(rename_i e;cases e;cases h;simp[VR];done)|(simp_all;done)|(cases h;simp_all[VR];done)
  | .slice (some _) _ _,a,h=>by simp[absV] at h
  | .map none,a,h=>by simp only[absV] at h;cases h;simp[VR]
  | .map (some _),a,h=>by simp[absV] at h
  | .nilFunc,a,h=>by simp only[absV] at h;cases h;simp[VR]
  | .nilIface,a,h=>by simp only[absV] at h;cases h;simp[VR]
  | .iface t v,a,h=>by
    simp only[absV,Option.map_eq_some_iff] at h
    obtain ⟨x,hx,rfl⟩:=h
    exact ⟨v,rfl,VR_absV ρ hx⟩
  | .func (.func f) ⟨fs⟩ ⟨cs⟩,a,h=>by
    simp only[absV] at h
    split at h
    · rename_i x y hx hy
      cases h
      exact ⟨⟨fs⟩,⟨cs⟩,rfl,VRs_absVs ρ hx,VRs_absVs ρ hy⟩
    · cases h
  | .func (.method _) _ _,a,h=>by simp[absV] at h
  | .func (.methodOf _ _) _ _,a,h=>by simp[absV] at h
  | .func (.via _ _ _ _) _ _,a,h=>by simp[absV] at h
  | .func (.yield _) _ _,a,h=>by simp[absV] at h
  | .agg ⟨cs⟩,a,h=>by
    simp only[absV,Option.map_eq_some_iff] at h
    obtain ⟨x,hx,rfl⟩:=h
    exact ⟨⟨cs⟩,rfl,VRs_absVs ρ hx⟩
  | .float _ _,a,h=>by simp[absV] at h
  | .complex _ _ _,a,h=>by simp[absV] at h
  | .chan _,a,h=>by simp[absV] at h
  | .tuple _,a,h=>by simp[absV] at h
theorem VRs_absVs (ρ:Rho): ∀ {vs:List Value} {as:List AV},absVs vs=some as→VRs ρ as vs
  | [],as,h=>by simp only[absVs] at h;cases h;simp[VRs]
  | v ::vs,as,h=>by
    simp only[absVs] at h
    split at h
    · rename_i x y hx hy
      cases h
      exact ⟨v,vs,rfl,VR_absV ρ hx,VRs_absVs ρ hy⟩
    · cases h
end
section
variable {P:Program} {glob:Nat→Option AV} {ρ:Rho} {T:Tr} {a:Act}
theorem Pth.toNat_succ: ∀ p:Pth,p.succ.toNat=p.toNat+1
  | .z=>rfl
  | .l p=>rfl
  | .r p=>by simp only[Pth.succ,Pth.toNat,Pth.toNat_succ p];omega
theorem Pth.toNat_ofNat: ∀ n:Nat,(Pth.ofNat n).toNat=n
  |0=>rfl
  |n+1=>by rw[Pth.ofNat,Pth.toNat_succ,Pth.toNat_ofNat n]
theorem Pth.toNat_inj: ∀ {p q:Pth},p.toNat=q.toNat→p=q
  | .z,.z,_=>rfl
  | .z,.l q,h | .z,.r q,h=>by simp only[Pth.toNat] at h;omega
  | .l p,.z,h | .r p,.z,h=>by simp only[Pth.toNat] at h;omega
  | .l p,.r q,h | .r p,.l q,h=>by simp only[Pth.toNat] at h;omega
  | .l p,.l q,h=>by rw[Pth.toNat_inj (p:=p) (q:=q) (by simp only[Pth.toNat] at h;omega)]
  | .r p,.r q,h=>by rw[Pth.toNat_inj (p:=p) (q:=q) (by simp only[Pth.toNat] at h;omega)]
theorem tget_e (p:Pth):tget p .e= .undef:=by cases p <;>rfl
theorem tget_tset (x:AV): ∀ (p q:Pth) (T:Tr),tget q (tset x p T)=if q=p then x else tget q T
  | .z,q,T=>by
    have hs:tset x .z T=(match T with | .e=> .n x .e .e | .n _ l r=> .n x l r):=by cases T <;>rfl
    cases q <;>cases T <;>simp[hs,tget] <;>exact tget_e _
  | .l p,q,T=>by
    have hs:tset x (.l p) T=(match T with | .e=> .n .undef (tset x p .e) .e | .n v l r=> .n v (tset x p l) r):=by cases T <;>rfl
    cases q with
    |z=>cases T <;>simp[hs,tget]
    |l q=>cases T <;>(rw[hs];first |(have h1:=tget_tset x p q .e;simp only[tget_e] at h1;simpa[tget] using h1)|(rename_i v l r;have h1:=tget_tset x p q l;simpa[tget] using h1))
    |r q=>cases T <;>(rw[hs];simp;first |rfl |exact tget_e _)
  | .r p,q,T=>by
    have hs:tset x (.r p) T=(match T with | .e=> .n .undef .e (tset x p .e)| .n v l r=> .n v l (tset x p r)):=by cases T <;>rfl
    cases q with
    |z=>cases T <;>simp[hs,tget]
    |r q=>cases T <;>(rw[hs];first |(have h1:=tget_tset x p q .e;simp only[tget_e] at h1;simpa[tget] using h1)|(rename_i v l r;have h1:=tget_tset x p q r;simpa[tget] using h1))
    |l q=>cases T <;>(rw[hs];simp;first |rfl |exact tget_e _)
theorem TR.get (h:TR ρ T a) (n:Nat):VR ρ (tget (.ofNat n) T) (a.tmps.getD n undef):=by
  have:=h (.ofNat n)
  rwa[Pth.toNat_ofNat] at this
theorem VR_opnd (hg:GR glob ρ) (h:TR ρ T a): ∀ {x:Operand} {ax:AOpnd},copnd glob x=some ax→VR ρ (aev T ax) (a.eval x)
  | .tmp t,ax,hc=>by simp only[copnd] at hc;cases hc;exact h.get t
  | .const v,ax,hc=>by
    simp only[copnd,Option.map_eq_some_iff] at hc
    obtain ⟨x,hx,rfl⟩:=hc
    exact VR_absV ρ hx
  | .global g,ax,hc=>by
    simp only[copnd,Option.map_eq_some_iff] at hc
    obtain ⟨x,hx,rfl⟩:=hc
    exact hg g x hx
  | .func f,ax,hc=>by simp only[copnd] at hc;cases hc;exact ⟨#[], #[],rfl,by simp[VRs],by simp[VRs]⟩
theorem VRs_opnds (hg:GR glob ρ) (h:TR ρ T a): ∀ {xs:List Operand} {axs:List AOpnd},copnds glob xs=some axs→VRs ρ (axs.map (aev T)) (xs.map a.eval)
  | [],axs,hc=>by simp only[copnds] at hc;cases hc;simp[VRs]
  | x ::xs,axs,hc=>by
    simp only[copnds] at hc
    split at hc
    · rename_i y ys hy hys
      cases hc
      exact ⟨_,_,rfl,VR_opnd hg h hy,VRs_opnds hg h hys⟩
    · cases hc
theorem VR_opt (hg:GR glob ρ) (h:TR ρ T a) {x:Option Operand} {ax:Option AOpnd} (hc:copt glob x=some ax):
    (x=none∧ax=none)∨ ∃ y ay,x=some y∧ax=some ay∧VR ρ (aev T ay) (a.eval y):=by
  cases x with
  |none=>simp only[copt] at hc;cases hc;exact .inl ⟨rfl,rfl⟩
  | some y=>
    simp only[copt,Option.map_eq_some_iff] at hc
    obtain ⟨ay,hy,rfl⟩:=hc
    exact .inr ⟨y,ay,rfl,rfl,VR_opnd hg h hy⟩
theorem VR_cells {x:AV} {v:Value} {cs:List AV} (h:VR ρ x v) (hc:x.cells? =some cs):VRs ρ cs v.cells.toList:=by
  cases x <;>simp only[AV.cells?] at hc <;>first |(cases hc;done)|cases hc
  case agg=>obtain ⟨c',rfl,h1⟩:=h;exact h1
  case bool b=>cases h;exact ⟨_,[],rfl,rfl,rfl⟩
  case int k n=>cases h;exact ⟨_,[],rfl,rfl,rfl⟩
  case str s=>obtain ⟨b,rfl,h1⟩:=h;exact ⟨_,[],rfl,⟨b,rfl,h1⟩,rfl⟩
  case nilptr=>cases h;exact ⟨_,[],rfl,rfl,rfl⟩
  case ptr b i o=>obtain ⟨p,hp,rfl⟩:=h;exact ⟨_,[],rfl,⟨p,hp,rfl⟩,rfl⟩
  case nilslice=>cases h;exact ⟨_,[],rfl,rfl,rfl⟩
  case slice0=>obtain ⟨p,rfl⟩:=h;exact ⟨_,[],rfl,⟨p,rfl⟩,rfl⟩
  case slice b i n c=>obtain ⟨p,ad,k,hp,rfl,h1⟩:=h;exact ⟨_,[],rfl,⟨p,ad,k,hp,rfl,h1⟩,rfl⟩
  case nilmap=>cases h;exact ⟨_,[],rfl,rfl,rfl⟩
  case map b=>obtain ⟨p,hp,rfl⟩:=h;exact ⟨_,[],rfl,⟨p,hp,rfl⟩,rfl⟩
  case nilFunc=>cases h;exact ⟨_,[],rfl,rfl,rfl⟩
  case func=>obtain ⟨x,y,rfl,h1⟩:=h;exact ⟨_,[],rfl,⟨x,y,rfl,h1⟩,rfl⟩
  case nilIface=>cases h;exact ⟨_,[],rfl,rfl,rfl⟩
  case iface t x=>obtain ⟨y,rfl,h1⟩:=h;exact ⟨_,[],rfl,⟨y,rfl,h1⟩,rfl⟩
  case yield l=>obtain ⟨p,hp,rfl⟩:=h;exact ⟨_,[],rfl,⟨p,hp,rfl⟩,rfl⟩
  case opq=>exact ⟨v,[],by cases v <;>first |rfl |(cases h;done),h,rfl⟩
  case osl n=>obtain ⟨x,y,rfl⟩:=h;exact ⟨_,[],rfl,⟨x,y,rfl⟩,rfl⟩
theorem VR_scalar {x:AV} {v:Value} (h:VR ρ x v) (hs:x.scalar=true):v.oneCell'=true:=by
  cases x <;>simp only[AV.scalar] at hs <;>first |(cases hs;done)|skip
  case bool b=>cases h;rfl
  case int k n=>cases h;rfl
  case str s=>obtain ⟨b,rfl,_⟩:=h;rfl
  case nilptr=>cases h;rfl
  case ptr b i o=>obtain ⟨p,hp,rfl⟩:=h;rfl
  case nilslice=>cases h;rfl
  case slice0=>obtain ⟨p,rfl⟩:=h;rfl
  case slice b i n c=>obtain ⟨p,ad,k,hp,rfl,_⟩:=h;rfl
  case nilmap=>cases h;rfl
  case map b=>obtain ⟨p,hp,rfl⟩:=h;rfl
  case nilFunc=>cases h;rfl
  case func f fs cs=>obtain ⟨x,y,rfl,_⟩:=h;rfl
  case nilIface=>cases h;rfl
  case iface t x=>obtain ⟨y,rfl,_⟩:=h;rfl
  case yield l=>obtain ⟨p,hp,rfl⟩:=h;rfl
  case opq=>exact h
  case osl n=>obtain ⟨x,y,rfl⟩:=h;rfl
end
open Go.RowKit (Below)
def bputs (h:Blks):List Chg→Blks
  | []=>h
  |c::cs=>bputs (bput h c.id c.blk) cs
theorem applyAll_blks: ∀ (cs:List Chg) (m:Mem),(m.applyAll cs).blks=bputs m.blks cs
  | [],_=>rfl
  |c::cs,m=>by rw[Mem.applyAll,applyAll_blks cs,bputs,apply_blks]
def Done (K:Kp) (w0:World) (ρ:Rho) (nid:Nat) (h':Blks) (v:AV) (r:Result Next):Prop:=
  ∃ nx v' w' ρ',r= .ok nx w'∧(nx= .value v'∨(nx= .skip∧v'=undef))∧VR ρ' v v'∧Rel K w0 ρ' h' w'∧ρ.le ρ'∧(∀ b,b≠nid→ρ' b=ρ b)
section
variable {P:Program} {K:Kp} {w0 w:World} {ρ:Rho} {h:Blks} {nid:Nat}
theorem Done.val {v:AV} {v':Value} {r:Result Next} (R:Rel K w0 ρ h w) (hv:VR ρ v v') (hr:r= .ok (.value v') w):Done K w0 ρ nid h v r:=
  ⟨.value v',v',w,ρ,hr,.inl rfl,hv,R,Rho.le_refl _,fun _ _=>rfl⟩
theorem VR_int {k:IntKind} {n:Int}:VR ρ (.int k n) (.int k n):=by simp[VR]
theorem VR_bool {b:Bool}:VR ρ (.bool b) (.bool b):=by simp[VR]
theorem kindEq_iff {j k:IntKind} (h:kindEq j k=true):j=k:=by cases j <;>cases k <;>simp_all[kindEq]
theorem strEq_iff: ∀ (a b:List UInt8),strEq a b=(a==b)
  | [],[]=>rfl
  | [],_::_=>rfl
  |_::_,[]=>rfl
  | a ::as,b::bs=>by
    rw[strEq,strEq_iff as bs]
    have:(a.toNat==b.toNat)=(a==b):=by
      rw[Bool.eq_iff_iff];simp[UInt8.toNat_inj]
    rw[this]
    rfl
theorem strLess_eq: ∀ (a b:List UInt8),strLess a b=Op.bytesLess a b
  | [],[]=>rfl
  | [],_::_=>rfl
  |_::_,[]=>rfl
  | a ::as,b::bs=>by
    rw[strLess,Op.bytesLess,strLess_eq as bs]
    have e1:Nat.blt a.toNat b.toNat=decide (a<b):=by
      rw[Bool.eq_iff_iff]
      simp[Nat.blt_eq,UInt8.lt_iff_toNat_lt]
    have e2:(a.toNat==b.toNat)=(a==b):=by
      rw[Bool.eq_iff_iff];simp[UInt8.toNat_inj]
    rw[e1,e2]
theorem run_binInt {op:BinOp} {k:IntKind} {a b:Int} {v:AV} (t:TypeId) (hb:binInt op k a b=some v): ∃ v',(binOp op t (.int k a) (.int k b)).run P w= .ok v' w∧VR ρ v v':=by
  cases op <;>simp only[binInt] at hb <;>first |(cases hb;done)|skip
  case quo=>split at hb <;>first |(cases hb;done)|(rename_i hz;cases hb;exact ⟨_,by simp[binOp,Op.intDiv,hz],VR_int⟩)
  case rem=>split at hb <;>first |(cases hb;done)|(rename_i hz;cases hb;exact ⟨_,by simp[binOp,Op.intDiv,hz],VR_int⟩)
  all_goals (cases hb;first |exact ⟨_,by simp[binOp,Op.intArith,Op.intBits,Op.intCmp],VR_int⟩|exact ⟨_,by simp[binOp,Op.intArith,Op.intBits,Op.intCmp],VR_bool⟩)
theorem run_binStr {op:BinOp} {a b:ByteArray} {v:AV} (t:TypeId) (hb:binStr op a.data.toList b.data.toList=some v): ∃ v',(binOp op t (.string a) (.string b)).run P w= .ok v' w∧VR ρ v v':=by
  have ea:=ByteArray.toList_eq a
  have eb:=ByteArray.toList_eq b
  cases op <;>simp only[binStr] at hb <;>first |(cases hb;done)|skip
  case add=>
    split at hb
    · rename_i hle
      cases hb
      have h1: ¬ ((a.size+b.size:Nat):Int)>IntKind.i64.max:=by
        have e1:a.data.toList.length=a.size:=by rw[Array.length_toList];rfl
        have e2:b.data.toList.length=b.size:=by rw[Array.length_toList];rfl
        rw[IntKind.max_i64]
        omega
      exact ⟨.string (a++b),by simp only[binOp,Op.stringOp];rw[if_neg h1];rfl,⟨_,rfl,Go.Joins.data_append a b⟩⟩
    · cases hb
  all_goals (cases hb;exact ⟨_,by simp[binOp,Op.stringOp,ea,eb,strEq_iff,strLess_eq],VR_bool⟩)
theorem run_abin {op:BinOp} {x y v:AV} {x' y':Value} (t:TypeId) (hb:abin op x y=some v) (hx:VR ρ x x') (hy:VR ρ y y'): ∃ v',(binOp op t x' y').run P w= .ok v' w∧VR ρ v v'∧ ∀ X Y,eqGuard op t X Y x' y'=pure ():=by
  unfold abin at hb
  split at hb
  · rename_i k a k' b
    cases hx;cases hy
    split at hb
    · split at hb
      · cases hb
      · rename_i hn
        cases hb
        exact ⟨_,by simp[binOp,Op.shift,hn],VR_int,fun X Y=>by simp only[eqGuard_at_int]⟩
    · split at hb
      · cases hb
      · rename_i hn
        cases hb
        exact ⟨_,by simp[binOp,Op.shift,hn],VR_int,fun X Y=>by simp only[eqGuard_at_int]⟩
    · split at hb
      · rename_i hk
        have:=kindEq_iff hk
        subst this
        obtain ⟨v',h1,h2⟩:=run_binInt (P:=P) (w:=w) (ρ:=ρ) t hb
        exact ⟨v',h1,h2,fun X Y=>by simp only[eqGuard_at_int]⟩
      · cases hb
  · obtain ⟨bx,rfl,hbx⟩:=hx
    obtain ⟨by',rfl,hby⟩:=hy
    rw[←hbx,←hby] at hb
    obtain ⟨v',h1,h2⟩:=run_binStr (P:=P) (w:=w) (ρ:=ρ) t hb
    exact ⟨v',h1,h2,fun X Y=>by simp only[eqGuard_at_string]⟩
  · cases hb
theorem run_aun {op:UnOp} {x v:AV} {x':Value} (hb:aun op x=some v) (hx:VR ρ x x'): ∃ v',(Op.unary op x').run P w= .ok v' w∧VR ρ v v':=by
  unfold aun at hb
  split at hb
  · cases hx;cases hb;exact ⟨_,by simp[Op.unary],VR_bool⟩
  · cases hx;cases hb;exact ⟨_,by simp[Op.unary,Op.intArith],VR_int⟩
  · cases hx
    simp only[binInt] at hb
    cases hb
    exact ⟨_,by simp[Op.unary,Op.intBits],VR_int⟩
  · cases hb
end
section
variable {P:Program} {ρ:Rho}
theorem plainShape_len: ∀ {d:Nat} {t:TypeId} {sh:List CK},plainShape P d t=some sh→sh.length=P.cellsOf t
  |0,_,_,h=>by simp[plainShape] at h
  | d + 1,t,sh,h=>by
    unfold plainShape at h
    split at h
    · split at h <;>first |(cases h;done)|(cases h;simp_all)
    · split at h <;>first |(cases h;done)|(cases h;simp_all)
    · split at h <;>first |(cases h;done)|(cases h;simp_all)
    · split at h
      · cases h
      · split at h
        · split at h
          · cases h;assumption
          · cases h
        · cases h
    · split at h
      · split at h
        · rename_i n e _ sh' _ hl
          cases h
          rw[hl.2,List.length_flatten]
          simp[hl.1]
        · cases h
      · cases h
    · cases h
theorem peqL_append: ∀ {k1 k2:List CK} {as bs:List AV} {r:Bool},peqL (k1++k2) as bs=some r→
    ∃ r1 r2,peqL k1 (as.take k1.length) (bs.take k1.length)=some r1∧peqL k2 (as.drop k1.length) (bs.drop k1.length)=some r2∧r=(r1 && r2)
  | [],k2,as,bs,r,h=>⟨true,r,by simp[peqL],by simpa using h,by simp⟩
  | k ::k1,k2,as,bs,r,h=>by
    rw[List.cons_append] at h
    unfold peqL at h
    split at h
    · rename_i e;cases e
    · rename_i k' ks' a as b bs e
      injection e with e1 e2
      subst e1 e2
      split at h
      · rename_i x y hx hy
        cases h
        obtain ⟨r1,r2,h1,h2,rfl⟩:=peqL_append hy
        exact ⟨x && r1,r2,by simp[peqL,hx,h1],by simpa using h2,by rw[Bool.and_assoc]⟩
      · cases h
    · cases h
theorem peqL_len: ∀ {ks:List CK} {as bs:List AV} {r:Bool},peqL ks as bs=some r→as.length=ks.length∧bs.length=ks.length
  | [],as,bs,r,h=>by
    unfold peqL at h
    split at h <;>simp_all
  | k ::ks,as,bs,r,h=>by
    unfold peqL at h
    split at h
    · simp_all
    · rename_i k' ks' a as b bs e
      injection e with e1 e2
      subst e1 e2
      split at h
      · rename_i x y hx hy
        have:=peqL_len hy
        simp[this]
      · cases h
    · cases h
theorem run_sizeOf' {t:TypeId} (h:(P.info? t).isSome=true) (w:World):(sizeOf t).run P w= .ok (P.cellsOf t) w:=by
  obtain ⟨i,hi⟩:=Option.isSome_iff_exists.1 h
  simp[sizeOf,typeInfo,hi,Program.cellsOf]
theorem info_of_underlying {t:TypeId} (h:(P.underlying t).isSome=true):(P.info? t).isSome=true:=by
  unfold Program.underlying at h
  cases hi:P.info? t with
  |none=>rw[hi] at h;cases h
  |some i=>rfl
theorem run_isAgg {t:TypeId} (h:(P.underlying t).isSome=true) (w:World):(isAgg t).run P w= .ok (isAggT P t) w:=by
  obtain ⟨d,hd⟩:=Option.isSome_iff_exists.1 h
  unfold isAgg isAggT
  rw[Sem.run_bind,run_underlying hd,hd]
  cases d <;>simp
theorem run_part_agg {t:TypeId} (h:(P.underlying t).isSome=true) (ha:isAggT P t=true) (cs:Array Value) (off:Nat) (w:World):
    (part t cs off).run P w= .ok (.agg (cs.extract off (off+P.cellsOf t))) w:=by
  unfold part
  rw[Sem.run_bind,run_isAgg h]
  simp[ha,run_sizeOf' (info_of_underlying h)]
theorem run_part_one {t:TypeId} (h:(P.underlying t).isSome=true) (ha:isAggT P t=false) {cs:Array Value} {off:Nat} {v:Value} (hv:cs[off]? =some v) (w:World):
    (part t cs off).run P w= .ok v w:=by
  unfold part
  rw[Sem.run_bind,run_isAgg h]
  simp[ha,hv]
theorem plainShape_some {d:Nat} {t:TypeId} {sh:List CK} (h:plainShape P d t=some sh):(P.underlying t).isSome=true:=by
  cases d with
  |zero=>simp[plainShape] at h
  | succ d=>
    unfold plainShape at h
    split at h <;>first |(cases h;done)|(rename_i e;rw[e];rfl)|(rename_i e _;rw[e];rfl)
def EqAt (P:Program) (ρ:Rho) (d:Nat) (t:TypeId) (sh:List CK):Prop:=
  ∀ (D:Nat),d≤D→ ∀ (as bs:List AV) (X Y:Array Value) (r:Bool) (w:World),VRs ρ as X.toList→VRs ρ bs Y.toList→peqL sh as bs=some r→
    if isAggT P t=true then (Op.equalIn D t (.agg X) (.agg Y)).run P w= .ok r w
    else ∃ x y,X= #[x]∧Y= #[y]∧(Op.equalIn D t x y).run P w= .ok r w
theorem extract_rel {as:List AV} {X:Array Value} (h:VRs ρ as X.toList) (o k:Nat):VRs ρ ((as.drop o).take k) (X.extract o (o+k)).toList:=by
  rw[Array.toList_extract,List.extract_eq_take_drop]
  have e:o+k - o=k:=by omega
  rw[e]
  exact (h.drop o).take k
theorem part_rel {d:Nat} {t:TypeId} {sh:List CK} (hs:plainShape P d t=some sh) (X:Array Value) (o:Nat):
    (isAggT P t=true→ ∀ w:World,(part t X o).run P w= .ok (.agg (X.extract o (o+sh.length))) w)∧
    (isAggT P t=false→ ∀ x,X.extract o (o+sh.length)= #[x]→ ∀ w:World,(part t X o).run P w= .ok x w):=by
  have hu:=plainShape_some hs
  have hlen:=plainShape_len hs
  refine ⟨fun ha w=>by rw[run_part_agg hu ha,hlen],fun ha x hx w=>run_part_one hu ha ?_ w⟩
  have h1:(X.extract o (o+sh.length))[0]? =some x:=by rw[hx];rfl
  have h2:0<(X.extract o (o+sh.length)).size:=by rw[hx];simp
  rw[Array.getElem?_extract] at h1
  split at h1
  · simpa using h1
  · cases h1
theorem eq_fields {d:Nat} (ih: ∀ {t:TypeId} {sh:List CK},plainShape P d t=some sh→EqAt P ρ d t sh):
    ∀ (fs:List Field) (o:Nat) (sh:List CK),plainShape.plainFs (plainShape P d) o fs=some sh→ ∀ (D:Nat),d≤D→ ∀ (as bs:List AV) (X Y:Array Value) (r:Bool) (w:World),
      VRs ρ as X.toList→VRs ρ bs Y.toList→peqL sh (as.drop o) (bs.drop o)=some r→(Op.eqFields D X Y fs).run P w= .ok r w
  | [],o,sh,hs,D,hD,as,bs,X,Y,r,w,hx,hy,hr=>by
    simp only[plainShape.plainFs] at hs
    cases hs
    have:=peqL_len hr
    simp only[List.length_nil,List.length_drop] at this
    have e1:as.drop o=[]:=List.drop_eq_nil_of_le (by omega)
    have e2:bs.drop o=[]:=List.drop_eq_nil_of_le (by omega)
    rw[e1,e2] at hr
    simp only[peqL] at hr
    cases hr
    simp[Op.eqFields]
  | f ::fs,o,sh,hs,D,hD,as,bs,X,Y,r,w,hx,hy,hr=>by
    simp only[plainShape.plainFs] at hs
    split at hs
    · cases hs
    · rename_i hcond
      split at hs
      · rename_i s1 h1
        split at hs
        · rename_i s2 h2
          cases hs
          have hname:f.name≠ "_" :=fun e=>hcond (.inl e)
          have hoff:f.offset=o:=Classical.byContradiction fun e=>hcond (.inr e)
          obtain ⟨r1,r2,p1,p2,rfl⟩:=peqL_append hr
          rw[List.drop_drop,List.drop_drop] at p2
          have hrest:=eq_fields ih fs (o+s1.length) s2 h2 D hD as bs X Y r2 w hx hy p2
          have hE:=ih h1 D hD _ _ (X.extract o (o+s1.length)) (Y.extract o (o+s1.length)) r1 w (extract_rel hx o s1.length) (extract_rel hy o s1.length) p1
          simp only[Op.eqFields,hname,ne_eq,not_false_eq_true,if_true,hoff,Sem.run_bind]
          obtain ⟨px1,px2⟩:=part_rel h1 X o
          obtain ⟨py1,py2⟩:=part_rel h1 Y o
          by_cases ha:isAggT P f.type=true
          · rw[if_pos ha] at hE
            rw[px1 ha,Result.andThen_ok,py1 ha,Result.andThen_ok,hE,Result.andThen_ok]
            cases r1
            · simp
            · simpa using hrest
          · rw[if_neg ha] at hE
            obtain ⟨x,y,ex,ey,hE⟩:=hE
            have ha':isAggT P f.type=false:=by simpa using ha
            rw[px2 ha' x ex,Result.andThen_ok,py2 ha' y ey,Result.andThen_ok,hE,Result.andThen_ok]
            cases r1
            · simp
            · simpa using hrest
        · cases hs
      · cases hs
theorem eq_items {d:Nat} {e:TypeId} {sh:List CK} (hs:plainShape P d e=some sh) (hE:EqAt P ρ d e sh):
    ∀ (m i:Nat) (D:Nat),d≤D→ ∀ (as bs:List AV) (X Y:Array Value) (r:Bool) (w:World),
      VRs ρ as X.toList→VRs ρ bs Y.toList→peqL (List.replicate m sh).flatten (as.drop (i*sh.length)) (bs.drop (i*sh.length))=some r→(Op.eqItems D e sh.length X Y (List.range' i m)).run P w= .ok r w
  | 0,i,D,hD,as,bs,X,Y,r,w,hx,hy,hr=>by
    simp only[List.replicate_zero,List.flatten_nil] at hr
    have:=peqL_len hr
    simp only[List.length_nil,List.length_drop] at this
    rw[List.drop_eq_nil_of_le (by omega),List.drop_eq_nil_of_le (by omega)] at hr
    simp only[peqL] at hr
    cases hr
    simp[Op.eqItems]
  | m +1,i,D,hD,as,bs,X,Y,r,w,hx,hy,hr=>by
    rw[List.replicate_succ,List.flatten_cons] at hr
    obtain ⟨r1,r2,p1,p2,rfl⟩:=peqL_append hr
    rw[List.drop_drop,List.drop_drop] at p2
    have ei:i*sh.length+sh.length=(i+1)*sh.length:=by rw[Nat.succ_mul]
    rw[ei] at p2
    have hrest:=eq_items hs hE m (i+1) D hD as bs X Y r2 w hx hy p2
    have hF:=hE D hD _ _ (X.extract (i*sh.length) (i*sh.length+sh.length)) (Y.extract (i*sh.length) (i*sh.length+sh.length)) r1 w (extract_rel hx _ _) (extract_rel hy _ _) p1
    obtain ⟨px1,px2⟩:=part_rel hs X (i*sh.length)
    obtain ⟨py1,py2⟩:=part_rel hs Y (i*sh.length)
    rw[List.range'_succ]
    simp only[Op.eqItems,Sem.run_bind]
    by_cases ha:isAggT P e=true
    · rw[if_pos ha] at hF
      rw[px1 ha,Result.andThen_ok,py1 ha,Result.andThen_ok,hF,Result.andThen_ok]
      cases r1
      · simp
      · simpa using hrest
    · rw[if_neg ha] at hF
      obtain ⟨x,y,ex,ey,hF⟩:=hF
      have ha':isAggT P e=false:=by simpa using ha
      rw[px2 ha' x ex,Result.andThen_ok,py2 ha' y ey,Result.andThen_ok,hF,Result.andThen_ok]
      cases r1
      · simp
      · simpa using hrest
theorem one_of_len {as:List AV} {X:Array Value} (h:VRs ρ as X.toList) (hl:as.length=1): ∃ a x,as=[a]∧X= #[x]∧VR ρ a x:=by
  match as,hl with
  | [a],_=>
    obtain ⟨v,vs,e,h1,h2⟩:=h
    simp only[VRs] at h2
    subst h2
    exact ⟨a,v,rfl,by apply Array.ext';simpa using e,h1⟩
theorem peq1_b {a b:AV} {r:Bool} (h:peq1 .b a b=some r): ∃ x y,a= .bool x∧b= .bool y∧r=(x==y):=by
  unfold peq1 at h
  split at h
  · cases h;exact ⟨_,_,rfl,rfl,rfl⟩
  · contradiction
  · contradiction
  · cases h
theorem peq1_i {a b:AV} {r:Bool} (h:peq1 .i a b=some r): ∃ k x y,a= .int k x∧b= .int k y∧r=(x==y):=by
  unfold peq1 at h
  split at h
  · contradiction
  · split at h
    · rename_i hk
      have:=kindEq_iff hk
      subst this
      cases h
      exact ⟨_,_,_,rfl,rfl,rfl⟩
    · cases h
  · contradiction
  · cases h
theorem peq1_s {a b:AV} {r:Bool} (h:peq1 .s a b=some r): ∃ x y,a= .str x∧b= .str y∧r=(x==y):=by
  unfold peq1 at h
  split at h
  · contradiction
  · contradiction
  · cases h;exact ⟨_,_,rfl,rfl,strEq_iff _ _⟩
  · cases h
theorem peqL_one {k:CK} {a b:AV} {r:Bool} (h:peqL [k] [a] [b]=some r):peq1 k a b=some r:=by
  simp only[peqL] at h
  cases hp:peq1 k a b with
  |none=>rw[hp] at h;cases h
  |some x=>rw[hp] at h;simpa using h
theorem eq_sound: ∀ {d:Nat} {t:TypeId} {sh:List CK},plainShape P d t=some sh→EqAt P ρ d t sh
  |0,_,_,h=>by simp[plainShape] at h
  | d + 1,t,sh,h=>by
    intro D hD as bs X Y r w hx hy hr
    obtain ⟨D,rfl⟩: ∃ D',D=D'+1:=⟨D - 1,by omega⟩
    have h0:=h
    unfold plainShape at h
    split at h
    · rename_i hu
      split at h <;>cases h
      have hagg:isAggT P t=false:=by simp[isAggT,hu]
      rw[hagg,if_neg (by simp)]
      obtain ⟨l1,l2⟩:=peqL_len hr
      obtain ⟨a,x,rfl,rfl,hax⟩:=one_of_len hx l1
      obtain ⟨b,y,rfl,rfl,hby⟩:=one_of_len hy l2
      refine ⟨x,y,rfl,rfl,?_⟩
      obtain ⟨p,q,rfl,rfl,rfl⟩:=peq1_b (peqL_one hr)
      cases hax;cases hby
      simp[Op.equalIn,run_underlying hu]
    · rename_i hu
      split at h <;>cases h
      have hagg:isAggT P t=false:=by simp[isAggT,hu]
      rw[hagg,if_neg (by simp)]
      obtain ⟨l1,l2⟩:=peqL_len hr
      obtain ⟨a,x,rfl,rfl,hax⟩:=one_of_len hx l1
      obtain ⟨b,y,rfl,rfl,hby⟩:=one_of_len hy l2
      refine ⟨x,y,rfl,rfl,?_⟩
      obtain ⟨k,p,q,rfl,rfl,rfl⟩:=peq1_i (peqL_one hr)
      cases hax;cases hby
      simp[Op.equalIn,run_underlying hu]
    · rename_i hu
      split at h <;>cases h
      have hagg:isAggT P t=false:=by simp[isAggT,hu]
      rw[hagg,if_neg (by simp)]
      obtain ⟨l1,l2⟩:=peqL_len hr
      obtain ⟨a,x,rfl,rfl,hax⟩:=one_of_len hx l1
      obtain ⟨b,y,rfl,rfl,hby⟩:=one_of_len hy l2
      refine ⟨x,y,rfl,rfl,?_⟩
      obtain ⟨p,q,rfl,rfl,rfl⟩:=peq1_s (peqL_one hr)
      obtain ⟨p',rfl,hp⟩:=hax
      obtain ⟨q',rfl,hq⟩:=hby
      rw[run_equalIn_string w D t p' q' hu,ByteArray.toList_eq,ByteArray.toList_eq,hp,hq]
    · rename_i fs hu
      split at h
      · cases h
      · rename_i hst
        split at h
        · rename_i sh' hf
          split at h <;>cases h
          have hagg:isAggT P t=true:=by simp[isAggT,hu]
          rw[if_pos hagg]
          have hfo:P.fieldsOf t=fs:=by simp[Program.fieldsOf,hu]
          rw[run_equalIn_struct w D t X Y (by rw[hfo];exact hu) (by simpa using hst),hfo]
          exact eq_fields (fun h=>eq_sound h) fs.toList 0 _ hf D (by omega) as bs X Y r w hx hy (by simpa using hr)
        · cases h
    · rename_i n e hu
      split at h
      · rename_i sh' he
        split at h
        · rename_i hl
          cases h
          have hagg:isAggT P t=true:=by simp[isAggT,hu]
          rw[if_pos hagg]
          obtain ⟨i,hi⟩:=Option.isSome_iff_exists.1 (info_of_underlying (plainShape_some he))
          rw[run_equalIn_array w D X Y hu hi,←hl.1,List.range_eq_range']
          exact eq_items he (eq_sound he) n 0 D (by omega) as bs X Y r w hx hy (by simpa using hr)
        · cases h
      · cases h
    · cases h
end
theorem Pl.at_add (p:Pl) (i o n:Nat):(p.at_ i o).add n=p.at_ i (o+n):=by
  unfold Addr.add Pl.at_
  split
  · rename_i h;subst h;rfl
  · simp only[Addr.mk.injEq,and_true,true_and];omega
theorem Pl.at_elem (p:Pl) (i k:Nat) {esz:Nat} (h:p.esz=esz):(p.at_ i 0).add (k*esz)=p.at_ (i+k) 0:=by
  rw[Pl.at_add]
  subst h
  simp only[Pl.at_,Addr.mk.injEq,and_true,true_and,Nat.add_mul]
  omega
section
variable {P:Program} {glob:Nat→Option AV} {K:Kp} {w0 w:World} {ρ:Rho} {h:Blks} {nid:Nat} {T:Tr} {a:Act} {o:Oper}
theorem d_mv (R:Rel K w0 ρ h w) (hg:GR glob ρ) (ht:TR ρ T a) {x:Operand} {ax:AOpnd} (ho:o.op= .move x∨o.op= .assign x) (hx:copnd glob x=some ax):
    Done K w0 ρ nid h (aev T ax) ((execOp a.eval o).run P w):=by
  have hr:=VR_opnd hg ht hx
  rcases ho with ho |ho <;>exact Done.val R hr (by simp[execOp,ho])
theorem d_pick (R:Rel K w0 ρ h w) (hg:GR glob ρ) (ht:TR ρ T a) {c x y:Operand} {ac ax ay:AOpnd} {b:Bool} (ho:o.op= .pick c x y) (hc:copnd glob c=some ac)
    (hx:copnd glob x=some ax) (hy:copnd glob y=some ay) (hb:aev T ac= .bool b):Done K w0 ρ nid h (if b then aev T ax else aev T ay) ((execOp a.eval o).run P w):=by
  have hrc:=VR_opnd hg ht hc
  rw[hb] at hrc
  have e:a.eval c= .bool b:=hrc
  have hrx:=VR_opnd hg ht hx
  have hry:=VR_opnd hg ht hy
  cases b
  · exact Done.val R hry (by simp[execOp,ho,e,asBool])
  · exact Done.val R hrx (by simp[execOp,ho,e,asBool])
theorem d_nilc (R:Rel K w0 ρ h w) (hg:GR glob ρ) (ht:TR ρ T a) {x:Operand} {ax:AOpnd} (ho:o.op= .nilCheck x) (hx:copnd glob x=some ax)
    (hv:(∃ b i f,aev T ax= .ptr b i f)∨ ∃ f c d,aev T ax= .func f c d):Done K w0 ρ nid h (aev T ax) ((execOp a.eval o).run P w):=by
  have hr:=VR_opnd hg ht hx
  rcases hv with ⟨b,i,f,e⟩|⟨f,c,d,e⟩
  · rw[e] at hr ⊢
    obtain ⟨p,hp,ev⟩:=hr
    exact Done.val R ⟨p,hp,rfl⟩ (by simp[execOp,ho,ev])
  · rw[e] at hr ⊢
    obtain ⟨x',y',ev,h1⟩:=hr
    exact Done.val R ⟨x',y',rfl,h1⟩ (by simp[execOp,ho,ev])
theorem d_bin (R:Rel K w0 ρ h w) (hg:GR glob ρ) (ht:TR ρ T a) {op:BinOp} {t u:TypeId} {x y:Operand} {ax ay:AOpnd} {v:AV} (ho:o.op= .binOp op t x y u) (hx:copnd glob x=some ax) (hy:copnd glob y=some ay)
    (hv:abin op (aev T ax) (aev T ay)=some v):Done K w0 ρ nid h v ((execOp a.eval o).run P w):=by
  obtain ⟨v',h1,h2,h3⟩:=run_abin (P:=P) (w:=w) t hv (VR_opnd hg ht hx) (VR_opnd hg ht hy)
  exact Done.val R h2 (by simp[execOp,ho,h3,h1])
theorem d_un (R:Rel K w0 ρ h w) (hg:GR glob ρ) (ht:TR ρ T a) {op:UnOp} {t:TypeId} {x:Operand} {ax:AOpnd} {v:AV} (ho:o.op= .unOp op t x) (hx:copnd glob x=some ax)
    (hv:aun op (aev T ax)=some v):Done K w0 ρ nid h v ((execOp a.eval o).run P w):=by
  obtain ⟨v',h1,h2⟩:=run_aun (P:=P) (w:=w) hv (VR_opnd hg ht hx)
  exact Done.val R h2 (by simp[execOp,ho,h1])
theorem run_peq {d:Nat} {t:TypeId} {sh:List CK} (hs:plainShape P d t=some sh) (hd:d≤10000) {x y:AV} {x' y':Value} {b:Bool} (hb:peq (isAggT P t) sh x y=some b) (hx:VR ρ x x') (hy:VR ρ y y'):
    (Op.equal t x' y').run P w= .ok b w:=by
  have hE:=eq_sound (ρ:=ρ) hs 10000 hd
  unfold Op.equal Op.maxDepth
  unfold peq at hb
  split at hb
  · rename_i ha
    split at hb
    · obtain ⟨X,rfl,h1⟩:=hx
      obtain ⟨Y,rfl,h2⟩:=hy
      have:=hE _ _ X Y b w h1 h2 hb
      rw[if_pos ha] at this
      exact this
    · cases hb
  · rename_i ha
    split at hb
    · rename_i k
      have h1:VRs ρ [x] (#[x']:Array Value).toList:=⟨x',[],rfl,hx,rfl⟩
      have h2:VRs ρ [y] (#[y']:Array Value).toList:=⟨y',[],rfl,hy,rfl⟩
      have:=hE [x] [y] #[x'] #[y'] b w h1 h2 (by simp[peqL,hb])
      rw[if_neg ha] at this
      obtain ⟨p,q,e1,e2,h3⟩:=this
      cases e1;cases e2
      exact h3
    · cases hb
theorem run_eqGuard {op:BinOp} {t:TypeId} {X Y:Operand} {d:Nat} {sh:List CK} (hs:plainShape P d t=some sh) (hgt:P.eqGuardType P.depth t=false) {x y:AV} {x' y':Value} {b:Bool} (hb:peq (isAggT P t) sh x y=some b) (hx:VR ρ x x') (hy:VR ρ y y'):
    (eqGuard op t X Y x' y').run P w= .ok () w:=by
  unfold peq at hb
  split at hb
  · split at hb
    · obtain ⟨p,rfl,_⟩:=hx
      obtain ⟨q,rfl,_⟩:=hy
      exact run_eqGuard_agg w op t X Y p q hgt
    · cases hb
  · split at hb
    · rename_i k
      cases k
      · obtain ⟨p,q,rfl,rfl,_⟩:=peq1_b hb
        cases hx;cases hy
        rw[eqGuard_at_bool];rfl
      · obtain ⟨k,p,q,rfl,rfl,_⟩:=peq1_i hb
        cases hx;cases hy
        rw[eqGuard_at_int];rfl
      · obtain ⟨p,q,rfl,rfl,_⟩:=peq1_s hb
        obtain ⟨p',rfl,_⟩:=hx
        obtain ⟨q',rfl,_⟩:=hy
        rw[eqGuard_at_string];rfl
    · cases hb
theorem run_binEq {op:BinOp} (hop:op= .eql∨op= .neq) {t:TypeId} {d:Nat} {sh:List CK} (hs:plainShape P d t=some sh) (hd:d≤10000) {x y:AV} {x' y':Value} {b:Bool} (hb:peq (isAggT P t) sh x y=some b) (hx:VR ρ x x') (hy:VR ρ y y'):
    (binOp op t x' y').run P w= .ok (.bool (if op= .neq then !b else b)) w:=by
  have hE:=run_peq (w:=w) hs hd hb hx hy
  unfold peq at hb
  split at hb
  · split at hb
    · obtain ⟨p,rfl,_⟩:=hx
      obtain ⟨q,rfl,_⟩:=hy
      rcases hop with rfl |rfl <;>simp[binOp,hE]
    · cases hb
  · split at hb
    · rename_i k
      cases k
      · obtain ⟨p,q,rfl,rfl,_⟩:=peq1_b hb
        cases hx;cases hy
        rcases hop with rfl |rfl <;>simp[binOp,hE]
      · obtain ⟨k,p,q,rfl,rfl,hbb⟩:=peq1_i hb
        cases hx;cases hy
        subst hbb
        rcases hop with rfl |rfl <;>simp[binOp,Op.intCmp,bne]
      · obtain ⟨p,q,rfl,rfl,hbb⟩:=peq1_s hb
        obtain ⟨p',rfl,hp⟩:=hx
        obtain ⟨q',rfl,hq⟩:=hy
        subst hbb
        rcases hop with rfl |rfl <;>simp[binOp,Op.stringOp,ByteArray.toList_eq,hp,hq]
    · cases hb
theorem d_eql (R:Rel K w0 ρ h w) (hg:GR glob ρ) (ht:TR ρ T a) {op:BinOp} (hop:op= .eql∨op= .neq) {t u:TypeId} {x y:Operand} {ax ay:AOpnd} {sh:List CK} {b:Bool} (ho:o.op= .binOp op t x y u)
    (hs:plainShape P 20 t=some sh) (hgt:P.eqGuardType P.depth t=false) (hx:copnd glob x=some ax) (hy:copnd glob y=some ay) (hb:peq (isAggT P t) sh (aev T ax) (aev T ay)=some b):
    Done K w0 ρ nid h (.bool (if op= .neq then !b else b)) ((execOp a.eval o).run P w):=by
  have hrx:=VR_opnd hg ht hx
  have hry:=VR_opnd hg ht hy
  have h1:=run_eqGuard (w:=w) (op:=op) (X:=x) (Y:=y) hs hgt hb hrx hry
  have h2:=run_binEq (w:=w) hop hs (by decide) hb hrx hry
  exact Done.val R VR_bool (by simp[execOp,ho,h1,h2])
theorem d_iface (R:Rel K w0 ρ h w) (hg:GR glob ρ) (ht:TR ρ T a) {t:TypeId} {x:Operand} {ax:AOpnd} (ho:o.op= .makeInterface t x) (hx:copnd glob x=some ax)
    (hn:(∀ ms,P.underlying t≠some (.interface ms))∧P.underlying t≠none):Done K w0 ρ nid h (.iface t (aev T ax)) ((execOp a.eval o).run P w):=by
  have hr:=VR_opnd hg ht hx
  refine Done.val R ⟨a.eval x,rfl,hr⟩ ?_
  cases hu:P.underlying t with
  |none=>exact absurd hu hn.2
  | some d=>
    simp only[execOp,ho,Instr.makeInterface,Sem.run_bind,run_underlying hu,Result.andThen_ok]
    cases d <;>first |(exact absurd hu (hn.1 _))|simp
theorem d_mkfunc (R:Rel K w0 ρ h w) (hg:GR glob ρ) (ht:TR ρ T a) {f:FuncId} {xs ys:Array Operand} {axs ays:List AOpnd} (ho:o.op= .makeFunc (.func f) xs ys) (hx:copnds glob xs.toList=some axs) (hy:copnds glob ys.toList=some ays):
    Done K w0 ρ nid h (.func f (axs.map (aev T)) (ays.map (aev T))) ((execOp a.eval o).run P w):=by
  have h1:=VRs_opnds hg ht hx
  have h2:=VRs_opnds hg ht hy
  exact Done.val R ⟨xs.map a.eval,ys.map a.eval,rfl,by simpa using h1,by simpa using h2⟩ (by simp[execOp,ho,Instr.makeFunc])
theorem d_fieldA (R:Rel K w0 ρ h w) (hg:GR glob ρ) (ht:TR ρ T a) {s:TypeId} {x:Operand} {f:Nat} {fs:Array Field} {fd:Field} {ax:AOpnd} {b i k:Nat} (ho:o.op= .fieldAddr s x f) (hu:P.underlying s=some (.struct fs)) (hf:fs[f]? =some fd)
    (hz:P.cellsOf fd.type≠0) (hx:copnd glob x=some ax) (hv:aev T ax= .ptr b i k):Done K w0 ρ nid h (.ptr b i (k+fd.offset)) ((execOp a.eval o).run P w):=by
  have hr:=VR_opnd hg ht hx
  rw[hv] at hr
  obtain ⟨p,hp,ev⟩:=hr
  refine Done.val R ⟨p,hp,rfl⟩ ?_
  have hi:(P.info? fd.type).isSome=true:=by
    unfold Program.cellsOf at hz
    cases h:P.info? fd.type with
    |none=>rw[h] at hz;exact absurd rfl hz
    |some _=>rfl
  simp only[execOp,ho,Instr.fieldAt,Sem.run_bind,run_underlying hu,Result.andThen_ok,hf,ev,Instr.sureAddr,Sem.run_pure,fieldPlace,run_sizeOf' hi,hz,if_false,Pl.at_add]
theorem d_ext (R:Rel K w0 ρ h w) (hg:GR glob ρ) (ht:TR ρ T a) {x:Operand} {i:Nat} {ax:AOpnd} {vs:List AV} {v:AV} (ho:o.op= .extract x i) (hx:copnd glob x=some ax) (hv:aev T ax= .tuple vs) (hi:vs[i]? =some v):
    Done K w0 ρ nid h v ((execOp a.eval o).run P w):=by
  have hr:=VR_opnd hg ht hx
  rw[hv] at hr
  obtain ⟨c',ev,h1⟩:=hr
  obtain ⟨v',hv',hvr⟩:=h1.get hi
  have e:c'[i]? =some v':=by simpa using hv'
  exact Done.val R hvr (by simp[execOp,ho,ev,Instr.extract,e])
theorem d_tassert (R:Rel K w0 ρ h w) (hg:GR glob ρ) (ht:TR ρ T a) {x:Operand} {xt t:TypeId} {ok:Bool} {ax:AOpnd} {v:AV} (ho:o.op= .typeAssert x xt t ok) (hx:copnd glob x=some ax)
    (hn:(∀ ms,P.underlying t≠some (.interface ms))∧P.underlying t≠none) (hv:aev T ax= .iface t v):Done K w0 ρ nid h (if ok then .tuple [v,.bool true] else v) ((execOp a.eval o).run P w):=by
  have hr:=VR_opnd hg ht hx
  rw[hv] at hr
  obtain ⟨x',ev,h1⟩:=hr
  have key:(Instr.typeAssert (.iface t x') xt t ok).run P w= .ok (if ok then .tuple #[x',.bool true] else x') w:=by
    cases hu:P.underlying t with
    |none=>exact absurd hu hn.2
    | some d=>
      simp only[Instr.typeAssert,Sem.run_bind,run_underlying hu,Result.andThen_ok]
      cases d <;>first |(exact absurd hu (hn.1 _))|simp
  cases ok
  · exact Done.val R h1 (by simp[execOp,ho,ev,key])
  · exact Done.val R (v':= .tuple #[x',.bool true]) ⟨#[x',.bool true],rfl,⟨x',[.bool true],rfl,h1,⟨_,[],rfl,rfl,rfl⟩⟩⟩ (by simp[execOp,ho,ev,key])
theorem d_field (R:Rel K w0 ρ h w) (hg:GR glob ρ) (ht:TR ρ T a) {s:TypeId} {x:Operand} {f:Nat} {fs:Array Field} {fd:Field} {ax:AOpnd} {cs:List AV} {v:AV} (ho:o.op= .field s x f) (hu:P.underlying s=some (.struct fs)) (hf:fs[f]? =some fd)
    (hd:(P.underlying fd.type).isSome=true) (hx:copnd glob x=some ax) (hv:aev T ax= .agg cs) (hl:fd.offset+P.cellsOf fd.type≤cs.length)
    (hr:if isAggT P fd.type=true then v= .agg ((cs.drop fd.offset).take (P.cellsOf fd.type)) else (cs.drop fd.offset).take (P.cellsOf fd.type)=[v]):Done K w0 ρ nid h v ((execOp a.eval o).run P w):=by
  have hro:=VR_opnd hg ht hx
  rw[hv] at hro
  obtain ⟨c',ev,h1⟩:=hro
  have key: ∀ v',(part fd.type c' fd.offset).run P w= .ok v' w→(execOp a.eval o).run P w= .ok (.value v') w:=by
    intro v' hp
    simp only[execOp,ho,Instr.field,Sem.run_bind,run_underlying hu,Result.andThen_ok,hf,ev,asAgg,Sem.run_pure,hp]
  have h2:=extract_rel h1 fd.offset (P.cellsOf fd.type)
  by_cases ha:isAggT P fd.type=true
  · rw[if_pos ha] at hr
    subst hr
    exact Done.val R ⟨_,rfl,h2⟩ (key _ (run_part_agg hd ha _ _ w))
  · rw[if_neg ha] at hr
    rw[hr] at h2
    obtain ⟨x',vs,e1,h3,h4⟩:=h2
    have hget:c'[fd.offset]? =some x':=by
      have:((cs.drop fd.offset).take (P.cellsOf fd.type))[0]? =some v:=by rw[hr];rfl
      rw[List.getElem?_take] at this
      split at this
      · rw[List.getElem?_drop,Nat.add_zero] at this
        obtain ⟨y,hy,_⟩:=h1.get this
        have h5:(c'.extract fd.offset (fd.offset+P.cellsOf fd.type)).toList[0]? =some x':=by rw[e1];rfl
        rw[Array.getElem?_toList,Array.getElem?_extract] at h5
        split at h5
        · simpa using h5
        · cases h5
      · cases this
    exact Done.val R h3 (key _ (run_part_one hd (by simpa using ha) hget w))
end
section
variable {P:Program} {glob:Nat→Option AV} {K:Kp} {w0 w:World} {ρ:Rho} {h:Blks} {nid:Nat} {T:Tr} {a:Act} {o:Oper}
theorem row_place (R:Rel K w0 ρ h w) {b:Nat} {own:Bool} {e:Nat} {es:List (List AV)} {p:Pl} (hb:bget h b=some (.row own e es)) (hp:ρ b=some p):p.esz=e:=by
  obtain ⟨q,hq,hB⟩:=R.blk b _ hb
  have:q=p:=Option.some.inj (hq.symm.trans hp)
  subst this
  exact hB.1
theorem d_idxS (R:Rel K w0 ρ h w) (hg:GR glob ρ) (ht:TR ρ T a) {t e:TypeId} {x i:Operand} {ax ai:AOpnd} {b j n:Nat} {c:Option Nat} {k:IntKind} {m:Int} {own:Bool} {es:List (List AV)} (ho:o.op= .indexAddr t x i) (hu:P.underlying t=some (.slice e))
    (hx:copnd glob x=some ax) (hi:copnd glob i=some ai) (hv:aev T ax= .slice b j n c) (hm:aev T ai= .int k m) (hb:bget h b=some (.row own (P.cellsOf e) es)) (he:(P.info? e).isSome=true) (h0:0≤m) (hlt:m.toNat<n):
    Done K w0 ρ nid h (.ptr b (j+m.toNat) 0) ((execOp a.eval o).run P w):=by
  have hrx:=VR_opnd hg ht hx
  have hri:=VR_opnd hg ht hi
  rw[hv] at hrx
  rw[hm] at hri
  obtain ⟨p,ad,cap,hp,ex,hle,hk,_⟩:=hrx
  have ei:a.eval i= .int k m:=hri
  have had:ad=p.at_ j 0:=by
    rcases hk with h |h
    · omega
    · exact h.1
  subst had
  refine Done.val R ⟨p,hp,rfl⟩ ?_
  have hin:0≤m∧m<(n:Int):=⟨h0,by omega⟩
  simp only[execOp,ho,Instr.indexAt,Sem.run_bind,run_underlying hu,Result.andThen_ok,ei,asIntOf,Sem.run_pure,ex,hin,and_self,if_true,run_sizeOf' he,Pl.at_elem p j m.toNat (row_place R hb hp)]
theorem d_idxA (R:Rel K w0 ρ h w) (hg:GR glob ρ) (ht:TR ρ T a) {t e:TypeId} {x i:Operand} {ax ai:AOpnd} {b j f n:Nat} {k:IntKind} {m:Int} {own:Bool} {es:List (List AV)} {esz':Nat} (ho:o.op= .indexAddr t x i) (hu:P.underlying t=some (.array n e))
    (hx:copnd glob x=some ax) (hi:copnd glob i=some ai) (hv:aev T ax= .ptr b j f) (hm:aev T ai= .int k m) (hb:bget h b=some (.row own esz' es)) (he:(P.info? e).isSome=true) (h0:0≤m) (hlt:m.toNat<n):
    Done K w0 ρ nid h (if esz'=P.cellsOf e∧f=0 then .ptr b (j+m.toNat) 0 else .ptr b j (f+m.toNat*P.cellsOf e)) ((execOp a.eval o).run P w):=by
  have hrx:=VR_opnd hg ht hx
  have hri:=VR_opnd hg ht hi
  rw[hv] at hrx
  rw[hm] at hri
  obtain ⟨p,hp,ex⟩:=hrx
  have ei:a.eval i= .int k m:=hri
  have hin:0≤m∧m<(n:Int):=⟨h0,by omega⟩
  have key:(execOp a.eval o).run P w= .ok (.value (.pointer (some ((p.at_ j f).add (m.toNat*P.cellsOf e))))) w:=by
    simp only[execOp,ho,Instr.indexAt,Sem.run_bind,run_underlying hu,Result.andThen_ok,ei,asIntOf,Sem.run_pure,ex,Instr.sureAddr,hin,and_self,if_true,run_sizeOf' he]
  split
  · rename_i hc
    obtain ⟨hc1,rfl⟩:=hc
    exact Done.val R ⟨p,hp,rfl⟩ (by rw[key,Pl.at_elem p j m.toNat ((row_place R hb hp).trans hc1)])
  · exact Done.val R ⟨p,hp,rfl⟩ (by rw[key,Pl.at_add])
theorem d_idxV (R:Rel K w0 ρ h w) (hg:GR glob ρ) (ht:TR ρ T a) {t e:TypeId} {x i:Operand} {ax ai:AOpnd} {cs:List AV} {n:Nat} {k:IntKind} {m:Int} {v:AV} (ho:o.op= .index t x i) (hu:P.underlying t=some (.array n e))
    (hx:copnd glob x=some ax) (hi:copnd glob i=some ai) (hv:aev T ax= .agg cs) (hm:aev T ai= .int k m) (hd:(P.underlying e).isSome=true) (h0:0≤m) (hlt:m.toNat<n)
    (hr:if isAggT P e=true then v= .agg ((cs.drop (m.toNat*P.cellsOf e)).take (P.cellsOf e)) else (cs.drop (m.toNat*P.cellsOf e)).take (P.cellsOf e)=[v]):Done K w0 ρ nid h v ((execOp a.eval o).run P w):=by
  have hrx:=VR_opnd hg ht hx
  have hri:=VR_opnd hg ht hi
  rw[hv] at hrx
  rw[hm] at hri
  obtain ⟨c',ex,h1⟩:=hrx
  have ei:a.eval i= .int k m:=hri
  have hin:0≤m∧m<(n:Int):=⟨h0,by omega⟩
  have key: ∀ v',(part e c' (m.toNat*P.cellsOf e)).run P w= .ok v' w→(execOp a.eval o).run P w= .ok (.value v') w:=by
    intro v' hp
    simp only[execOp,ho,Instr.index,Sem.run_bind,run_underlying hu,Result.andThen_ok,ei,asIntOf,Sem.run_pure,ex,hin,and_self,if_true,run_sizeOf' (info_of_underlying hd),hp]
  have h2:=extract_rel h1 (m.toNat*P.cellsOf e) (P.cellsOf e)
  by_cases ha:isAggT P e=true
  · rw[if_pos ha] at hr
    subst hr
    exact Done.val R ⟨_,rfl,h2⟩ (key _ (run_part_agg hd ha _ _ w))
  · rw[if_neg ha] at hr
    rw[hr] at h2
    obtain ⟨x',vs,e1,h3,h4⟩:=h2
    have hget:c'[m.toNat*P.cellsOf e]? =some x':=by
      have h5:(c'.extract (m.toNat*P.cellsOf e) (m.toNat*P.cellsOf e+P.cellsOf e)).toList[0]? =some x':=by rw[e1];rfl
      rw[Array.getElem?_toList,Array.getElem?_extract] at h5
      split at h5
      · simpa using h5
      · cases h5
    exact Done.val R h3 (key _ (run_part_one hd (by simpa using ha) hget w))
theorem d_idxStr (R:Rel K w0 ρ h w) (hg:GR glob ρ) (ht:TR ρ T a) {t:TypeId} {x i:Operand} {ax ai:AOpnd} {s:List UInt8} {k:IntKind} {m:Int} {c:UInt8} (ho:o.op= .index t x i) (hu:P.underlying t=some .string)
    (hx:copnd glob x=some ax) (hi:copnd glob i=some ai) (hv:aev T ax= .str s) (hm:aev T ai= .int k m) (h0:0≤m) (hc:s[m.toNat]? =some c):Done K w0 ρ nid h (.int .u8 c.toNat) ((execOp a.eval o).run P w):=by
  have hrx:=VR_opnd hg ht hx
  have hri:=VR_opnd hg ht hi
  rw[hv] at hrx
  rw[hm] at hri
  obtain ⟨b,ex,hb⟩:=hrx
  have ei:a.eval i= .int k m:=hri
  have hget:b[m.toNat]? =some c:=by
    rw[←hb] at hc
    rw[Array.getElem?_toList] at hc
    obtain ⟨hlt,hcc⟩:=Array.getElem?_eq_some_iff.1 hc
    have hlt':m.toNat<b.size:=hlt
    rw[getElem?_pos b m.toNat hlt']
    exact congrArg some hcc
  exact Done.val R VR_int (by simp only[execOp,ho,Instr.index,Sem.run_bind,run_underlying hu,Result.andThen_ok,ei,asIntOf,Sem.run_pure,ex,h0,if_true,hget])
theorem d_conv_int (R:Rel K w0 ρ h w) (hg:GR glob ρ) (ht:TR ρ T a) {s d:TypeId} {x:Operand} {ax:AOpnd} {j k l:IntKind} {n:Int} (ho:o.op= .convert s d x) (hs:P.underlying s=some (.int j)) (hd:P.underlying d=some (.int k))
    (hx:copnd glob x=some ax) (hv:aev T ax= .int l n):Done K w0 ρ nid h (.int k (k.wrap n)) ((execOp a.eval o).run P w):=by
  have hr:=VR_opnd hg ht hx
  rw[hv] at hr
  have e:a.eval x= .int l n:=hr
  exact Done.val R VR_int (by simp[execOp,ho,convert,run_underlying hs,run_underlying hd,e,Conv.intToInt])
theorem d_conv_same (R:Rel K w0 ρ h w) (hg:GR glob ρ) (ht:TR ρ T a) {s d:TypeId} {x:Operand} {ax:AOpnd} {l:List UInt8} (ho:o.op= .convert s d x) (hs:P.underlying s=some .string) (hd:P.underlying d=some .string)
    (hx:copnd glob x=some ax) (hv:aev T ax= .str l):Done K w0 ρ nid h (.str l) ((execOp a.eval o).run P w):=by
  have hr:=VR_opnd hg ht hx
  rw[hv] at hr
  obtain ⟨b,e,hb⟩:=hr
  exact Done.val R ⟨b,rfl,hb⟩ (by simp[execOp,ho,convert,run_underlying hs,run_underlying hd,e])
theorem bound_run {dflt:Nat} {x:Option Operand} {ax:Option AOpnd} {r cap:Nat} (hg:GR glob ρ) (ht:TR ρ T a) (hx:copt glob x=some ax) (hb:bound? dflt (ax.map (aev T))=some r) (hle:r≤cap):
    (x=none∧ax=none∧r=dflt)∨(∃ y ay,x=some y∧ax=some ay∧ ∀ code,(Instr.sliceBound (a.eval y) cap code).run P w= .ok r w):=by
  rcases VR_opt hg ht hx with ⟨rfl,rfl⟩|⟨y,ay,rfl,rfl,hr⟩
  · simp only[Option.map_none,bound?] at hb
    cases hb
    exact .inl ⟨rfl,rfl,rfl⟩
  · right
    refine ⟨y,ay,rfl,rfl,fun code=> ?_⟩
    simp only[Option.map_some] at hb
    unfold bound? at hb
    split at hb
    · rename_i e;cases e
    · rename_i k n e
      split at hb
      · rename_i h0
        cases hb
        have e':=Option.some.inj e
        rw[e'] at hr
        have ey:a.eval y= .int k n:=hr
        have hin:0≤n∧n≤(cap:Int):=⟨h0,by omega⟩
        simp[Instr.sliceBound,ey,asIntOf,hin]
      · cases hb
    · cases hb
end
section
variable {P:Program} {glob:Nat→Option AV} {K:Kp} {w0 w:World} {ρ:Rho} {h:Blks} {nid:Nat} {T:Tr} {a:Act} {o:Oper}
theorem run_bounds (hg:GR glob ρ) (ht:TR ρ T a) (isSlice:Bool) {len cap:Nat} {lo hi mx:Option Operand} {alo ahi amx:Option AOpnd} (hlo:copt glob lo=some alo) (hhi:copt glob hi=some ahi) (hmx:copt glob mx=some amx)
    {l hh m C:Nat} (bl:bound? 0 (alo.map (aev T))=some l) (bh:bound? len (ahi.map (aev T))=some hh) (bm:bound? C (amx.map (aev T))=some m) (h1:l≤hh) (h2:hh≤m) (h3:m≤C) (h4:C≤cap) (hno:mx=none∨hi≠none):
    (Instr.sliceBounds isSlice len cap (lo.map a.eval) (hi.map a.eval) (mx.map a.eval)).run P w= .ok (l,hh,if amx.isSome then m else cap) w:=by
  rcases bound_run (P:=P) (w:=w) (cap:=cap) hg ht hmx bm (by omega) with ⟨rfl,rfl,rfl⟩|⟨ym,aym,rfl,rfl,km⟩
  · rcases bound_run (P:=P) (w:=w) (cap:=cap) hg ht hhi bh (by omega) with ⟨rfl,rfl,rfl⟩|⟨yh,ayh,rfl,rfl,kh⟩
    · rcases bound_run (P:=P) (w:=w) (cap:=hh) hg ht hlo bl h1 with ⟨rfl,rfl,rfl⟩|⟨yl,ayl,rfl,rfl,kl⟩
      · simp[Instr.sliceBounds]
      · simp[Instr.sliceBounds,kl]
    · rcases bound_run (P:=P) (w:=w) (cap:=hh) hg ht hlo bl h1 with ⟨rfl,rfl,rfl⟩|⟨yl,ayl,rfl,rfl,kl⟩
      · simp[Instr.sliceBounds,kh]
      · simp[Instr.sliceBounds,kh,kl]
  · rcases bound_run (P:=P) (w:=w) (cap:=m) hg ht hhi bh h2 with ⟨rfl,rfl,rfl⟩|⟨yh,ayh,rfl,rfl,kh⟩
    · rcases hno with e |e
      · cases e
      · exact absurd rfl e
    · rcases bound_run (P:=P) (w:=w) (cap:=hh) hg ht hlo bl h1 with ⟨rfl,rfl,rfl⟩|⟨yl,ayl,rfl,rfl,kl⟩
      · simp[Instr.sliceBounds,km,kh]
      · simp[Instr.sliceBounds,km,kh,kl]
theorem d_sliceStr (R:Rel K w0 ρ h w) (hg:GR glob ρ) (ht:TR ρ T a) {t:TypeId} {x:Operand} {lo hi:Option Operand} {ax:AOpnd} {alo ahi:Option AOpnd} {s:List UInt8} {l hh:Nat} (ho:o.op= .slice t x lo hi none) (hu:P.underlying t=some .string)
    (hx:copnd glob x=some ax) (hlo:copt glob lo=some alo) (hhi:copt glob hi=some ahi) (hv:aev T ax= .str s) (bl:bound? 0 (alo.map (aev T))=some l) (bh:bound? s.length (ahi.map (aev T))=some hh) (h1:l≤hh) (h2:hh≤s.length):
    Done K w0 ρ nid h (.str ((s.drop l).take (hh - l))) ((execOp a.eval o).run P w):=by
  have hr:=VR_opnd hg ht hx
  rw[hv] at hr
  obtain ⟨b,e,hb⟩:=hr
  have hsz:b.size=s.length:=by rw[←hb,Array.length_toList];rfl
  have hB:=run_bounds (P:=P) (w:=w) (mx:=none) (amx:=none) hg ht false (cap:=s.length) hlo hhi rfl bl bh (C:=s.length) (m:=s.length) rfl h1 h2 (Nat.le_refl _) (Nat.le_refl _) (.inl rfl)
  refine Done.val R (v':= .string (b.extract l hh)) ⟨_,rfl,by rw[Go.Lib.extract_data,hb]⟩ ?_
  have e1:(Instr.slice t (.string b) (lo.map a.eval) (hi.map a.eval) none).run P w= .ok (.string (b.extract l hh)) w:=by
    simp only[Instr.slice,Sem.run_bind,run_underlying hu,Result.andThen_ok,hsz]
    simp only[Option.map_none] at hB
    simp[hB]
  have e2:(Instr.sliceAt t (.string b) (lo.map a.eval) (hi.map a.eval) none).run P w= .ok (.string (b.extract l hh)) w:=by
    simp only[Instr.sliceAt,Sem.run_bind,run_underlying hu,Result.andThen_ok]
    exact e1
  simp[execOp,ho,e,e2]
theorem d_sliceS (R:Rel K w0 ρ h w) (hg:GR glob ρ) (ht:TR ρ T a) {t e:TypeId} {x:Operand} {lo hi mx:Option Operand} {ax:AOpnd} {alo ahi amx:Option AOpnd} {v:AV} (ho:o.op= .slice t x lo hi mx) (hu:P.underlying t=some (.slice e)) (he:(P.info? e).isSome=true)
    (hx:copnd glob x=some ax) (hlo:copt glob lo=some alo) (hhi:copt glob hi=some ahi) (hmx:copt glob mx=some amx) (hno:mx=none∨hi≠none)
    (hv:aslice (bget h) (P.cellsOf e) (aev T ax) (alo.map (aev T)) (ahi.map (aev T)) (amx.map (aev T))=some v):Done K w0 ρ nid h v ((execOp a.eval o).run P w):=by
  have hr:=VR_opnd hg ht hx
  have step: ∀ {base:Option Addr} {len cap l hh M:Nat},a.eval x= .slice base len cap→(Instr.sliceBounds true len cap (lo.map a.eval) (hi.map a.eval) (mx.map a.eval)).run P w= .ok (l,hh,M) w→
      (execOp a.eval o).run P w= .ok (.value (.slice (if M=l then base else base.map (·.add (l*P.cellsOf e))) (hh - l) (M - l))) w:=by
    intro base len cap l hh M ex hB
    have e2:(Instr.sliceAt t (.slice base len cap) (lo.map a.eval) (hi.map a.eval) (mx.map a.eval)).run P w= .ok (.slice (if M=l then base else base.map (·.add (l*P.cellsOf e))) (hh - l) (M - l)) w:=by
      simp only[Instr.sliceAt,Instr.slice,Sem.run_bind,run_underlying hu,Result.andThen_ok,hB,run_sizeOf' he,Sem.run_pure]
    simp only[execOp,ho,ex,Sem.run_bind,e2,Result.andThen_ok,Sem.run_pure]
  unfold aslice at hv
  split at hv
  · rename_i ev
    split at hv
    · rename_i bm bh bl
      cases hv
      rw[ev] at hr
      have ex:a.eval x= .slice none 0 0:=hr
      have hB:=run_bounds (P:=P) (w:=w) hg ht true (len:=0) (cap:=0) hlo hhi hmx bl bh bm (Nat.le_refl _) (Nat.le_refl _) (Nat.le_refl _) (Nat.le_refl _) hno
      refine Done.val R (v':= .slice none 0 0) (by simp[VR]) ?_
      rw[step ex hB]
      cases amx <;>simp
    · cases hv
  · rename_i ev
    split at hv
    · rename_i bm bh bl
      cases hv
      rw[ev] at hr
      obtain ⟨ad,ex⟩:=hr
      have hB:=run_bounds (P:=P) (w:=w) hg ht true (len:=0) (cap:=0) hlo hhi hmx bl bh bm (Nat.le_refl _) (Nat.le_refl _) (Nat.le_refl _) (Nat.le_refl _) hno
      refine Done.val R (v':= .slice (some ad) 0 0) ⟨ad,rfl⟩ ?_
      rw[step ex hB]
      cases amx <;>simp
    · cases hv
  · rename_i b i n c ev
    split at hv
    · rename_i own ez es hb
      split at hv
      · cases hv
      · rename_i hez
        have hez:ez=P.cellsOf e:=Classical.byContradiction fun k=>hez k
        split at hv
        · rename_i m hh l bm bh bl
          split at hv
          · rename_i hc
            obtain ⟨h1,h2,h3⟩:=hc
            cases hv
            rw[ev] at hr
            obtain ⟨p,ad,cap,hp,ex,hle,hk,hcap,hend,hmax⟩:=hr
            have hC:c.getD n≤cap:=by
              cases c with
              |none=>exact hle
              |some m'=>have:=hcap m' rfl;simp;omega
            have hB:=run_bounds (P:=P) (w:=w) hg ht true (len:=n) (cap:=cap) hlo hhi hmx bl bh bm h1 h2 h3 hC hno
            have hesz:p.esz=P.cellsOf e:=(row_place R hb hp).trans hez
            have hst:=step ex hB
            have eadr: ∀ M:Nat,(if M=l then some ad else (some ad).map fun x=>x.add (l*P.cellsOf e))=some (if M=l then ad else ad.add (l*P.cellsOf e)):=by
              intro M
              split <;>rfl
            rw[eadr] at hst
            refine Done.val R ⟨p,_,_,hp,rfl,?_,?_,?_,?_,?_⟩ hst
            · cases amx <;>simp <;>omega
            · by_cases hM:(if amx.isSome then m else cap)=l
              · left;omega
              · right
                rw[if_neg hM]
                rcases hk with hk |⟨hk1,hk2⟩
                · exfalso
                  apply hM
                  cases amx <;>simp <;>omega
                · subst hk1
                  refine ⟨Pl.at_elem p i l hesz,?_⟩
                  cases amx <;>simp <;>omega
            · intro q hq
              cases amx with
              | none=>
                cases c with
                |none=>simp at hq
                | some m'=>
                  have:=hcap m' rfl
                  simp at hq ⊢
                  omega
              | some y=>
                simp at hq ⊢
                omega
            · intro hq
              cases amx with
              | none=>
                cases c with
                | none=>
                  have:=hend rfl
                  simp
                  simp at h3
                  omega
                |some m'=>simp at hq
              |some y=>simp at hq
            · cases amx <;>simp <;>omega
          · cases hv
        · cases hv
    · cases hv
  · cases hv
end
open Go.RowKit (Below)
theorem choose_list {ρ:Rho} {Q:Nat→Value→Prop}: ∀ (cs:List AV),(∀ (j:Nat) (a:AV),cs[j]? =some a→ ∃ v,Q j v∧VR ρ a v)→ ∃ vs,VRs ρ cs vs∧ ∀ (j:Nat) (v:Value),vs[j]? =some v→Q j v
  | [],_=>⟨[],by simp[VRs],by simp⟩
  | c::cs,h=>by
    obtain ⟨v,hq,hv⟩:=h 0 c rfl
    obtain ⟨vs,hvs,hq'⟩:=choose_list (Q:=fun j=>Q (j+1)) cs (fun j a ha=>h (j+1) a (by simpa using ha))
    refine ⟨v::vs,⟨v,vs,rfl,hv,hvs⟩,fun j u hu=> ?_⟩
    cases j with
    |zero=>simp at hu;subst hu;exact hq
    |succ j=>exact hq' j u (by simpa using hu)
section
variable {P:Program} {glob:Nat→Option AV} {K:Kp} {w0 w:World} {ρ:Rho} {h:Blks} {nid:Nat} {T:Tr} {a:Act} {o:Oper}
theorem cells_of_rowGet (R:Rel K w0 ρ h w) {b:Nat} {own:Bool} {esz:Nat} {es:List (List AV)} {p:Pl} {i f n:Nat} {cs:List AV} (hb:bget h b=some (.row own esz es)) (hp:ρ b=some p) (hg:rowGet esz es i f n=some cs):
    cs.length=n∧ ∃ vs,VRs ρ cs vs∧ ∀ (j:Nat) (v:Value),vs[j]? =some v→w.cell? ((p.at_ i f).add j)=some v:=by
  obtain ⟨q,hq,hB⟩:=R.blk b _ hb
  have e:q=p:=Option.some.inj (hq.symm.trans hp)
  subst e
  obtain ⟨h1,h2,h3,h4,arr,el,fr,hh,h5,h6,h7,h8⟩:=hB
  obtain ⟨hl,hj⟩:=rowGet_spec h2 h3 hg
  refine ⟨hl,choose_list cs fun j x hx=> ?_⟩
  obtain ⟨v,hv,hr⟩:=h6 _ x (hj j x hx)
  refine ⟨v,?_,hr⟩
  rw[Pl.at_add]
  unfold Pl.at_ World.cell?
  simp only[hh,h1]
  have e:q.base+(i*esz+(f+j))=q.base+(i*esz+f+j):=by omega
  rw[e]
  simpa using hv
theorem run_loadAt (R:Rel K w0 ρ h w) {t:TypeId} {b:Nat} {own:Bool} {esz:Nat} {es:List (List AV)} {p:Pl} {i f:Nat} {cs:List AV} (hu:(P.underlying t).isSome=true) (hb:bget h b=some (.row own esz es)) (hp:ρ b=some p) (hg:rowGet esz es i f (P.cellsOf t)=some cs):
    (isAggT P t=true→ ∃ v,(loadVar t (p.at_ i f)).run P w= .ok v w∧VR ρ (.agg cs) v)∧(isAggT P t=false→ ∀ x,cs=[x]→ ∃ v,(loadVar t (p.at_ i f)).run P w= .ok v w∧VR ρ x v):=by
  obtain ⟨hl,vs,hvs,hc⟩:=cells_of_rowGet R hb hp hg
  constructor
  · intro ha
    refine ⟨.agg vs.toArray,?_,⟨vs.toArray,rfl,by simpa using hvs⟩⟩
    have hlen:vs.length=P.cellsOf t:=by rw[←hvs.length,hl]
    unfold loadVar
    rw[Sem.run_bind,run_isAgg hu,Result.andThen_ok,ha,if_pos rfl,Sem.run_bind,run_sizeOf' (info_of_underlying hu),Result.andThen_ok,←hlen,Sem.run_bind,run_loadCells_list w _ vs hc]
    rfl
  · intro ha x hx
    subst hx
    obtain ⟨v,vs',rfl,h1,h2⟩:=hvs
    refine ⟨v,?_,h1⟩
    have:=hc 0 v rfl
    have e:(p.at_ i f).add 0=p.at_ i f:=by simp[Addr.add]
    rw[e] at this
    unfold loadVar
    rw[Sem.run_bind,run_isAgg hu,Result.andThen_ok,ha]
    simp[this]
theorem d_load (R:Rel K w0 ρ h w) (hg:GR glob ρ) (ht:TR ρ T a) {t:TypeId} {x:Operand} {ax:AOpnd} {b i f:Nat} {own:Bool} {esz:Nat} {es:List (List AV)} {cs:List AV} {v:AV} (ho:o.op= .load t x) (hu:(P.underlying t).isSome=true) (hx:copnd glob x=some ax)
    (hv:aev T ax= .ptr b i f) (hb:bget h b=some (.row own esz es)) (hr:rowGet esz es i f (P.cellsOf t)=some cs) (hres:if isAggT P t=true then v= .agg cs else cs=[v]):Done K w0 ρ nid h v ((execOp a.eval o).run P w):=by
  have hrx:=VR_opnd hg ht hx
  rw[hv] at hrx
  obtain ⟨p,hp,ex⟩:=hrx
  obtain ⟨k1,k2⟩:=run_loadAt (P:=P) R hu hb hp hr
  by_cases ha:isAggT P t=true
  · rw[if_pos ha] at hres
    subst hres
    obtain ⟨v',h1,h2⟩:=k1 ha
    exact Done.val R h2 (by simp[execOp,ho,ex,Instr.loadAt,Instr.sureAddr,h1])
  · rw[if_neg ha] at hres
    obtain ⟨v',h1,h2⟩:=k2 (by simpa using ha) v hres
    exact Done.val R h2 (by simp[execOp,ho,ex,Instr.loadAt,Instr.sureAddr,h1])
theorem run_stores (P:Program) (cb f:Nat) (el:TypeId) (fr:Nat × Nat): ∀ (vs:List Value) (i:Nat) (arr:Array Value) (w:World),w.heap[cb]? =some (.cells arr el fr)→(∀ k,k<arr.size→ ¬ (fr.1≤k∧k<fr.2))→f+i+vs.length≤arr.size→
    (∀ v∈vs,v.oneCell'=true)→ ∃ (w':World) (arr':Array Value),(storeCells ⟨cb,f,none⟩ vs i).run P w= .ok () w'∧w'.heap[cb]? =some (.cells arr' el fr)∧arr'.size=arr.size∧
      (∀ k,arr'[k]? =if f+i≤k∧k<f+i+vs.length then vs[k - (f+i)]? else arr[k]?)∧(∀ k,k≠cb→w'.heap[k]? =w.heap[k]?)∧w'.heap.size=w.heap.size∧w'.os=w.os∧w'.tape=w.tape∧w'.output=w.output
  | [],i,arr,w,hh,_,_,_=>by
    refine ⟨w,arr,rfl,hh,rfl,fun k=> ?_,fun _ _=>rfl,rfl,rfl,rfl,rfl⟩
    rw[if_neg (by simp)]
  | v ::vs,i,arr,w,hh,hfz,hl,h1=>by
    simp only[List.length_cons] at hl
    have hadd:(⟨cb,f,none⟩:Addr).add i=⟨cb,f+i,none⟩:=by unfold Addr.add;split <;>simp_all
    have hi:f+i<arr.size:=by omega
    have hcell:w.cell? ⟨cb,f+i,none⟩=some arr[f+i]:=by simp[World.cell?,hh,hi]
    have hfro:w.frozen? ⟨cb,f+i,none⟩=false:=by
      obtain ⟨lo,hi'⟩:=fr
      have:=hfz (f+i) hi
      simp only[World.frozen?,hh,Bool.and_eq_false_iff,decide_eq_false_iff_not]
      simp only at this
      omega
    have hlt:cb<w.heap.size:=(Array.getElem?_eq_some_iff.1 hh).1
    have hst:(store ((⟨cb,f,none⟩:Addr).add i) v).run P w= .ok () (w.setCell ⟨cb,f+i,none⟩ v):=by
      rw[hadd,run_store P w _ v _ (h1 v (by simp)),hcell]
      simp[hfro]
    have hh':(w.setCell ⟨cb,f+i,none⟩ v).heap[cb]? =some (.cells (arr.setIfInBounds (f+i) v) el fr):=by
      simp[World.setCell,Array.getElem?_modify,hh]
    obtain ⟨w',arr',e1,e2,e3,e4,e5,e6,e7,e8,e9⟩:=run_stores P cb f el fr vs (i+1) (arr.setIfInBounds (f+i) v) (w.setCell ⟨cb,f+i,none⟩ v) hh' (by simpa using hfz) (by simp;omega) (fun x hx=>h1 x (by simp[hx]))
    refine ⟨w',arr',by simp only[storeCells,Sem.run_bind,hst,Result.andThen_ok,e1],e2,by simpa using e3,fun k=> ?_,fun k hk=> ?_,by simpa using e6,e7,e8,e9⟩
    · rw[e4 k]
      by_cases hk:k=f+i
      · subst hk
        rw[if_neg (by omega),if_pos (by simp only[List.length_cons];omega)]
        simp[hi]
      · by_cases hin:f+i≤k∧k<f+i+(v::vs).length
        · simp only[List.length_cons] at hin
          rw[if_pos (by omega),if_pos (by simp only[List.length_cons];omega)]
          have e:k - (f+i)=(k - (f+(i+1)))+1:=by omega
          rw[e,List.getElem?_cons_succ]
        · simp only[List.length_cons] at hin
          rw[if_neg (by omega),if_neg (by simp only[List.length_cons];omega),Array.getElem?_setIfInBounds,if_neg (by omega)]
    · rw[e5 k hk]
      exact Below.heap_setCell w _ v k hk
theorem VRs_scalar {ρ:Rho} {cs:List AV} {vs:List Value} (h:VRs ρ cs vs) (hs: ∀ x∈cs,x.scalar=true): ∀ v∈vs,v.oneCell'=true:=by
  intro v hv
  obtain ⟨j,hj⟩:=List.getElem?_of_mem hv
  obtain ⟨hl,hp'⟩:=(VRs_iff ρ _ _).1 h
  have hlt:j<cs.length:=by have:=(List.getElem?_eq_some_iff.1 hj).1;omega
  have hcj:cs[j]? =some cs[j]:=List.getElem?_eq_getElem hlt
  exact VR_scalar (hp' j _ v hcj hj) (hs _ (List.getElem_mem hlt))
theorem row_written (R:Rel K w0 ρ h w) {b:Nat} {esz:Nat} {es es':List (List AV)} {p:Pl} {at_:Nat} {cs:List AV} {vs:List Value} (hb:bget h b=some (.row true esz es)) (hp:ρ b=some p) (hcs:VRs ρ cs vs) (hsca: ∀ x∈cs,x.scalar=true)
    (hall: ∀ e∈es',e.length=esz) (hlen:es'.length=es.length) (hle:at_+cs.length≤es.length*esz) (hfl:es'.flatten=es.flatten.take at_++cs++es.flatten.drop (at_+cs.length)):
    ∃ w',(storeCells ⟨p.cb,p.base+at_,none⟩ vs).run P w= .ok () w'∧Rel K w0 ρ (bput h b (some (.row true esz es'))) w':=by
  obtain ⟨q,hq,hB⟩:=R.blk b _ hb
  have e:q=p:=Option.some.inj (hq.symm.trans hp)
  subst e
  obtain ⟨h1,h2,h3,h4,arr,el,fr,hh,h5,h6,h7,h8⟩:=hB
  have hsc:=VRs_scalar hcs hsca
  have hl:=hcs.length
  have hlim:es.length*esz≤q.lim*esz:=Nat.mul_le_mul_right _ h4
  obtain ⟨w',arr',e1,e2,e3,e4,e5,e6,e7,e8,e9⟩:=run_stores P q.cb (q.base+at_) el fr vs 0 arr w hh (h7 rfl).2 (by omega) hsc
  refine ⟨w',e1,R.set hb hp rfl e6 e7 e8 e9 e5 ⟨h1,h2,hall,by omega,arr',el,fr,e2,by omega,fun k x hx=> ?_,fun _=>⟨(h7 rfl).1,by rw[e3];exact (h7 rfl).2⟩,fun x hx=> ?_⟩⟩
  rotate_left
  · rw[hfl] at hx
    simp only[List.mem_append] at hx
    rcases hx with (hx |hx)|hx
    · exact h8 x (List.mem_of_mem_take hx)
    · exact hsca x hx
    · exact h8 x (List.mem_of_mem_drop hx)
  rw[hfl] at hx
  have hfl0:=flatten_len es h3
  rw[get_splice (by omega)] at hx
  rw[e4]
  split at hx
  · rename_i hin
    rw[if_pos (by omega)]
    have e:q.base+k - (q.base+at_+0)=k - at_:=by omega
    rw[e]
    exact hcs.get hx
  · rename_i hin
    rw[if_neg (by omega)]
    exact h6 k x hx
theorem d_store (R:Rel K w0 ρ h w) (hg:GR glob ρ) (ht:TR ρ T a) {t:TypeId} {x y:Operand} {ax ay:AOpnd} {b i f:Nat} {esz:Nat} {es es':List (List AV)} {cs:List AV} (ho:o.op= .store t x y) (hi:(P.info? t).isSome=true) (hx:copnd glob x=some ax) (hy:copnd glob y=some ay)
    (hv:aev T ax= .ptr b i f) (hc:(aev T ay).cells? =some cs) (hb:bget h b=some (.row true esz es)) (hn:cs.length=P.cellsOf t) (hsc:cs.all AV.scalar=true) (hr:rowSet esz es i f cs=some es'):
    Done K w0 ρ nid (bput h b (some (.row true esz es'))) .undef ((execOp a.eval o).run P w):=by
  have hrx:=VR_opnd hg ht hx
  have hry:=VR_opnd hg ht hy
  rw[hv] at hrx
  obtain ⟨p,hp,ex⟩:=hrx
  have hcs:=VR_cells hry hc
  obtain ⟨q,hq,hB⟩:=R.blk b _ hb
  have e:q=p:=Option.some.inj (hq.symm.trans hp)
  subst e
  obtain ⟨h1,h2,h3,_⟩:=hB
  obtain ⟨k1,k2,k3,k4⟩:=rowSet_spec h2 h3 hr
  obtain ⟨w',e1,e2⟩:=row_written (P:=P) R hb hp hcs (List.all_eq_true.1 hsc) k1 k2 k3 k4
  refine ⟨.skip,undef,w',ρ,?_,.inr ⟨rfl,rfl⟩,by simp[VR,undef],e2,Rho.le_refl _,fun _ _=>rfl⟩
  have hsz:(a.eval y).cells.size=P.cellsOf t:=by have:=hcs.length;simp at this;omega
  have ea:q.at_ i f=⟨q.cb,q.base+(i*esz+f),none⟩:=by unfold Pl.at_;rw[h1]
  have key:(Instr.storeAt t (.pointer (some (q.at_ i f))) (a.eval y)).run P w= .ok () w':=by
    simp only[Instr.storeAt,Instr.sureAddr,Sem.run_bind,Sem.run_pure,Result.andThen_ok,storeVar,run_sizeOf' hi,hsz,ne_eq,not_true_eq_false,if_false,ea]
    simpa using e1
  simp[execOp,ho,ex,key]
end
open Go.RowKit (Below)
section
variable {P:Program} {glob:Nat→Option AV} {K:Kp} {w0 w:World} {ρ:Rho} {h:Blks} {nid:Nat} {T:Tr} {a:Act} {o:Oper}
theorem below_alloc (w:World) (x:Obj):Below w.heap.size w (w.alloc x):=(Below.refl _ _).alloc (Nat.le_refl _) x
theorem heap_alloc_last (w:World) (x:Obj):(w.alloc x).heap[w.heap.size]? =some x:=heap_alloc_new w x
theorem new_row (R:Rel K w0 ρ h w) (hid:nid≤h.length) (hn:ρ nid=none) {w1:World} (hb:Below w.heap.size w w1) {arr:Array Value} {el:TypeId} {fr:Nat × Nat} {esz lim:Nat} {es:List (List AV)}
    (hh:w1.heap[w.heap.size]? =some (.cells arr el fr)) (he:0<esz) (hall: ∀ e∈es,e.length=esz) (hlim:es.length≤lim) (hsz:lim*esz≤arr.size) (hfr: ∀ k,k<arr.size→ ¬ (fr.1≤k∧k<fr.2))
    (hc: ∀ (k:Nat) (x:AV),es.flatten[k]? =some x→ ∃ v,arr[k]? =some v∧VR ρ x v) (hsc: ∀ x∈es.flatten,x.scalar=true):
    Rel K w0 (ρ.put nid ⟨w.heap.size,0,esz,lim⟩) (bput h nid (some (.row true esz es))) w1:=by
  have R1:=R.grow hb
  refine R1.put hid hn ⟨rfl,he,hall,hlim,arr,el,fr,hh,by simpa using hsz,fun k x hx=> ?_,fun _=>⟨R.fresh,hfr⟩,hsc⟩ fun c y q hy hq=> ?_
  · obtain ⟨v,hv,hr⟩:=hc k x hx
    exact ⟨v,by simpa using hv,hr.mono (Rho.le_put _ hn)⟩
  · obtain ⟨q',hq',hB⟩:=R.blk c y hy
    have e:q'=q:=Option.some.inj (hq'.symm.trans hq)
    subst e
    have:=hB.lt
    exact fun e=>by simp at e;omega
theorem done_new {v':Value} {w1:World} {x:AV} {h':Blks} {p:Pl} {r:Result Next} (hn:ρ nid=none) (R:Rel K w0 (ρ.put nid p) h' w1) (hv:VR (ρ.put nid p) x v') (hr:r= .ok (.value v') w1):Done K w0 ρ nid h' x r:=
  ⟨.value v',v',w1,_,hr,.inl rfl,hv,R,Rho.le_put p hn,fun _ hb=>Rho.put_ne ρ p hb⟩
theorem zeroC_spec {t:TypeId} {cs:List AV} (hz:zeroC P t=some cs): ∃ z:Value,(∀ w:World,(zeroValue t).run P w= .ok z w)∧(∀ ρ,VRs ρ cs z.cells.toList)∧cs.length=P.cellsOf t∧cs.all AV.scalar=true∧ ∃ i,P.info? t=some i∧i.zero=some z:=by
  unfold zeroC at hz
  split at hz
  · rename_i z hzz
    split at hz
    · rename_i x hx
      split at hz
      · rename_i c hc
        split at hz
        · rename_i hcond
          cases hz
          obtain ⟨i,hi,hiz⟩:=Option.bind_eq_some_iff.1 hzz
          exact ⟨z,fun w=>by simp[zeroValue,typeInfo,hi,hiz],fun ρ=>VR_cells (VR_absV ρ hx) hc,hcond.1,hcond.2,i,hi,hiz⟩
        · cases hz
      · cases hz
    · cases hz
  · cases hz
theorem VRs_cells {cs:List AV} {vs:List Value} (hr:VRs ρ cs vs) (k:Nat) (x:AV) (hx:cs[k]? =some x): ∃ v,vs.toArray[k]? =some v∧VR ρ x v:=by
  obtain ⟨v,hv,h1⟩:=hr.get hx
  exact ⟨v,by simpa using hv,h1⟩
theorem at_zero (cb esz lim:Nat):Pl.at_ ⟨cb,0,esz,lim⟩ 0 0=⟨cb,0,none⟩:=by simp[Pl.at_]
theorem d_alloc (R:Rel K w0 ρ h w) (hid:nid≤h.length) (hn:ρ nid=none) {t:TypeId} {zc:List AV} {esz:Nat} (ho:o.op= .alloc t) (hz:zeroC P t=some zc) (he:esz≠0) (hm:zc.length / esz*esz=zc.length):
    Done K w0 ρ nid (bput h nid (some (.row true esz (chunk esz (zc.length / esz) zc)))) (.ptr nid 0 0) ((execOp a.eval o).run P w):=by
  obtain ⟨z,h1,h2,h3,h4,_⟩:=zeroC_spec hz
  have hl:=(h2 ρ).length
  refine done_new hn (new_row R hid hn (below_alloc w (.cells z.cells t)) (heap_alloc_last w _) (by omega) (chunk_all _ _ _ (by omega)) (lim:=zc.length / esz) (by rw[chunk_len];exact Nat.le_refl _) (by simp at hl;omega) (by simp) ?_ (by rw[chunk_flatten _ _ _ hm.symm];exact List.all_eq_true.1 h4)) (v':= .pointer (some ⟨w.heap.size,0,none⟩)) ?_ ?_
  · rw[chunk_flatten _ _ _ hm.symm]
    intro k x hx
    obtain ⟨v,hv,hr⟩:=(h2 ρ).get hx
    exact ⟨v,by simpa using hv,hr⟩
  · exact ⟨_,Rho.put_self _ _ _,by rw[at_zero]⟩
  · simp[execOp,ho,Instr.alloc,h1,newVar,newRow]
theorem d_box (R:Rel K w0 ρ h w) (hg:GR glob ρ) (ht:TR ρ T a) (hid:nid≤h.length) (hn:ρ nid=none) {t:TypeId} {x:Operand} {ax:AOpnd} {cs:List AV} {esz n:Nat} (ho:o.op= .box t x) (hx:copnd glob x=some ax) (hc:(aev T ax).cells? =some cs)
    (hl:cs.length=n) (he:esz≠0) (hm:n / esz*esz=n) (hsc:cs.all AV.scalar=true):
    Done K w0 ρ nid (bput h nid (some (.row true esz (chunk esz (n / esz) cs)))) (.ptr nid 0 0) ((execOp a.eval o).run P w):=by
  have h2:=VR_cells (VR_opnd hg ht hx) hc
  have hl2:=h2.length
  refine done_new hn (new_row R hid hn (below_alloc w (.cells (a.eval x).cells t)) (heap_alloc_last w _) (by omega) (chunk_all _ _ _ (by omega)) (lim:=n / esz) (by rw[chunk_len];exact Nat.le_refl _) (by simp at hl2;omega) (by simp) ?_ (by rw[chunk_flatten _ _ _ (by omega)];exact List.all_eq_true.1 hsc)) (v':= .pointer (some ⟨w.heap.size,0,none⟩)) ?_ ?_
  · rw[chunk_flatten _ _ _ (by omega)]
    intro k x hx
    obtain ⟨v,hv,hr⟩:=h2.get hx
    exact ⟨v,by simpa using hv,hr⟩
  · exact ⟨_,Rho.put_self _ _ _,by rw[at_zero]⟩
  · simp[execOp,ho,Instr.box,newVar,newRow]
theorem fold_set (off:Nat): ∀ (vs:List Value) (j:Nat) (cells:Array Value),off+j+vs.length≤cells.size→
    ((vs.zipIdx j).foldl (fun cs (x:Value × Nat)=>cs.setIfInBounds (off+x.2) x.1) cells).toList=cells.toList.take (off+j)++vs++cells.toList.drop (off+j+vs.length)
  | [],j,cells,_=>by simp
  | v ::vs,j,cells,hl=>by
    simp only[List.length_cons] at hl
    simp only[List.zipIdx_cons,List.foldl_cons]
    rw[fold_set off vs (j+1) _ (by simp;omega)]
    refine List.ext_getElem? fun k=> ?_
    have e1:off+(j+1)+vs.length=off+j+(v::vs).length:=by simp only[List.length_cons];omega
    rw[get_splice (by simp;omega),get_splice (by simp only[List.length_cons,Array.length_toList];omega)]
    simp only[Array.getElem?_toList,Array.getElem?_setIfInBounds,List.length_cons]
    by_cases hk:k=off+j
    · subst hk
      rw[if_neg (by omega),if_pos rfl,if_pos (by omega),if_pos (by omega)]
      simp
    · by_cases hin:off+j≤k∧k<off+j+(vs.length+1)
      · rw[if_pos (by omega),if_pos hin]
        have e:k - (off+j)=(k - (off+(j+1)))+1:=by omega
        rw[e,List.getElem?_cons_succ]
      · rw[if_neg (by omega),if_neg hin,if_neg (by omega)]
theorem splice_rel {cs ws:List AV} {X:Array Value} {v:Value} (h1:VRs ρ cs X.toList) (h2:VRs ρ ws v.cells.toList) (off:Nat) (hl:off+ws.length≤cs.length):
    VRs ρ (cs.take off++ws++cs.drop (off+ws.length)) ((v.cells.zipIdx.foldl (fun cs (x:Value × Nat)=>cs.setIfInBounds (off+x.2) x.1) X)).toList:=by
  have l1:=h1.length
  have l2:=h2.length
  simp at l1 l2
  rw[←Array.foldl_toList,Array.toList_zipIdx,fold_set off _ 0 X (by simp;omega)]
  simp only[Nat.add_zero,Array.length_toList]
  rw[l2]
  exact ((h1.take off).append h2).append (h1.drop _)
theorem fillC_rel {place:Nat→Option (Nat × Nat)}: ∀ (parts:List (Nat × Operand)) (aparts:List (Nat × Nat × AOpnd)) (cs cs':List AV) (X:Array Value),GR glob ρ→TR ρ T a→cparts glob place parts=some aparts→
    VRs ρ cs X.toList→fillC cs (aparts.map fun (o,s,x)=>(o,s,aev T x))=some cs'→ ∃ X',Instr.fill place X (parts.map fun (i,x)=>(i,a.eval x))=some X'∧VRs ρ cs' X'.toList
  | [],aparts,cs,cs',X,hg,ht,hp,hr,hf=>by
    simp only[cparts] at hp
    cases hp
    simp only[List.map_nil,fillC] at hf
    cases hf
    exact ⟨X,rfl,hr⟩
  | (i, x)::parts,aparts,cs,cs',X,hg,ht,hp,hr,hf=>by
    simp only[cparts] at hp
    split at hp
    · rename_i oo ss ax rest hpl hx hrest
      cases hp
      simp only[List.map_cons,fillC] at hf
      split at hf
      · rename_i ws hws
        split at hf
        · rename_i hcond
          obtain ⟨hc1,hc2⟩:=hcond
          have hv:=VR_opnd hg ht hx
          have h2:=VR_cells hv hws
          have l1:=hr.length
          have l2:=h2.length
          simp at l1 l2
          have hsp:=splice_rel hr h2 oo (by omega)
          rw[hc1] at hsp
          obtain ⟨X',e1,e2⟩:=fillC_rel parts rest _ cs' _ hg ht hrest hsp hf
          refine ⟨X',?_,e2⟩
          simp only[List.map_cons,Instr.fill,hpl]
          rw[if_neg (by simp only[Bool.or_eq_true,decide_eq_true_eq,not_or];omega)]
          exact e1
        · cases hf
      · cases hf
    · cases hp
theorem d_build (R:Rel K w0 ρ h w) (hg:GR glob ρ) (ht:TR ρ T a) {t:TypeId} {parts:Array (Nat × Operand)} {aparts:List (Nat × Nat × AOpnd)} {zc cs:List AV} {place:Nat→Option (Nat × Nat)} (ho:o.op= .build t parts) (hz:zeroC P t=some zc)
    (hpl:(∃ fs:Array Field,P.underlying t=some (.struct fs)∧(∀ f∈fs,(P.info? f.type).isSome=true)∧place=fun i=>(fs[i]?).map fun f=>(f.offset,P.cellsOf f.type))∨
      (∃ n e,P.underlying t=some (.array n e)∧(P.info? e).isSome=true∧place=fun i=>some (i*P.cellsOf e,P.cellsOf e)))
    (hp:cparts glob place parts.toList=some aparts) (hf:fillC zc (aparts.map fun (o,s,x)=>(o,s,aev T x))=some cs):Done K w0 ρ nid h (.agg cs) ((execOp a.eval o).run P w):=by
  obtain ⟨z,h1,h2,h3,h4,_⟩:=zeroC_spec hz
  obtain ⟨X',e1,e2⟩:=fillC_rel parts.toList aparts zc cs z.cells hg ht hp (h2 ρ) hf
  refine Done.val R (v':= .agg X') ⟨X',rfl,e2⟩ ?_
  have epl:((parts.map fun (i,x)=>(i,a.eval x)).toList)=parts.toList.map fun (i,x)=>(i,a.eval x):=by simp
  rcases hpl with ⟨fs,hu,hfi,rfl⟩|⟨n,e,hu,hei,rfl⟩
  · have key: ∀ (l:List Field) (w:World),(∀ f∈l,(P.info? f.type).isSome=true)→(l.mapM fun f=>do pure (f.offset,←sizeOf f.type):Sem (List (Nat × Nat))).run P w= .ok (l.map fun f=>(f.offset,P.cellsOf f.type)) w:=by
      intro l
      induction l with
      |nil=>intro w _;simp
      | cons f l ih=>
        intro w hl
        rw[List.mapM_cons]
        simp only[Sem.run_bind,run_sizeOf' (hl f (by simp)),Result.andThen_ok,Sem.run_pure,ih w (fun g hg=>hl g (by simp[hg])),List.map_cons]
    have hm: ∀ w:World,(fs.mapM fun f=>do pure (f.offset,←sizeOf f.type):Sem (Array (Nat × Nat))).run P w= .ok (fs.map fun f=>(f.offset,P.cellsOf f.type)) w:=by
      intro w
      have:=key fs.toList w (by simpa using hfi)
      rw[Array.mapM_eq_mapM_toList]
      simp only[Sem.run_map,this,Result.andThen_ok]
      congr 1
      apply Array.ext'
      simp
    simp only[execOp,ho,Instr.build,Sem.run_bind,h1,run_underlying hu,Result.andThen_ok,hm,epl]
    have efill:(fun (i:Nat)=>(fs.map fun f=>(f.offset,P.cellsOf f.type))[i]?)=fun i=>(fs[i]?).map fun f=>(f.offset,P.cellsOf f.type):=by
      funext i
      simp
    rw[efill,e1]
    simp
  · simp only[execOp,ho,Instr.build,Sem.run_bind,h1,run_underlying hu,Result.andThen_ok,run_sizeOf' hei,epl,e1,Sem.run_pure]
end
open Go.RowKit (Below)
section
variable {P:Program} {glob:Nat→Option AV} {K:Kp} {w0 w:World} {ρ:Rho} {h:Blks} {nid:Nat} {T:Tr} {a:Act} {o:Oper}
theorem ofBytes_rel (l:List UInt8):VRs ρ (ofBytes l).flatten (l.map fun b=>Value.int .u8 b.toNat):=by
  induction l with
  |nil=>simp[ofBytes,VRs]
  |cons b l ih=>exact ⟨_,_,rfl,rfl,ih⟩
theorem ofBytes_len (l:List UInt8):(ofBytes l).length=l.length:=by simp[ofBytes]
theorem ofBytes_all (l:List UInt8): ∀ e∈ofBytes l,e.length=1:=by
  intro e he
  simp only[ofBytes,List.mem_map] at he
  obtain ⟨b,_,rfl⟩:=he
  rfl
theorem ofBytes_scalar (l:List UInt8): ∀ x∈(ofBytes l).flatten,x.scalar=true:=by
  intro x hx
  simp only[List.mem_flatten,ofBytes,List.mem_map] at hx
  obtain ⟨_,⟨b,_,rfl⟩,hx⟩:=hx
  simp only[List.mem_singleton] at hx
  subst hx
  rfl
theorem row_scalars (R:Rel K w0 ρ h w) {b:Nat} {own:Bool} {esz:Nat} {es:List (List AV)} (hb:bget h b=some (.row own esz es)): ∀ x∈es.flatten,x.scalar=true:=by
  obtain ⟨q,_,hB⟩:=R.blk b _ hb
  obtain ⟨_,_,_,_,_,_,_,_,_,_,_,h8⟩:=hB
  exact h8
theorem win_cells (R:Rel K w0 ρ h w) {b:Nat} {own:Bool} {esz:Nat} {es:List (List AV)} {p:Pl} (hb:bget h b=some (.row own esz es)) (hp:ρ b=some p) (i n:Nat) (hle:i+n≤es.length):
    ∃ vs,VRs ρ ((es.drop i).take n).flatten vs∧vs.length=n*esz∧ ∀ (j:Nat) (v:Value),vs[j]? =some v→w.cell? ((p.at_ i 0).add j)=some v:=by
  obtain ⟨q,hq,hB⟩:=R.blk b _ hb
  have e:q=p:=Option.some.inj (hq.symm.trans hp)
  subst e
  obtain ⟨h1,h2,h3,h4,arr,el,fr,hh,h5,h6,h7,h8⟩:=hB
  have hall': ∀ e∈es.drop i,e.length=esz:=fun e he=>h3 e (List.mem_of_mem_drop he)
  have hfl:((es.drop i).take n).flatten=(es.flatten.drop (i*esz)).take (n*esz):=by rw[flatten_take _ _ hall',flatten_drop _ _ h3]
  have hlen:=flatten_len es h3
  have hmul:(i+n)*esz≤es.length*esz:=Nat.mul_le_mul_right _ hle
  rw[Nat.add_mul] at hmul
  obtain ⟨vs,hvs,hc⟩:=choose_list (ρ:=ρ) (Q:=fun j v=>w.cell? ((q.at_ i 0).add j)=some v) ((es.drop i).take n).flatten (fun j x hx=>by
    rw[hfl,List.getElem?_take] at hx
    split at hx
    · rw[List.getElem?_drop] at hx
      obtain ⟨v,hv,hr⟩:=h6 _ x hx
      refine ⟨v,?_,hr⟩
      rw[Pl.at_add]
      unfold Pl.at_ World.cell?
      simp only[hh,h1]
      have e:q.base+(i*esz+(0+j))=q.base+(i*esz+j):=by omega
      rw[e]
      simpa using hv
    · cases hx)
  refine ⟨vs,hvs,?_,hc⟩
  have:=hvs.length
  rw[hfl] at this
  rw[List.length_take,List.length_drop] at this
  omega
theorem elems_spec (R:Rel K w0 ρ h w) {esz:Nat} {x:AV} {x':Value} {xs:List (List AV)} (he:0<esz) (hx:elemsOf (bget h) esz x=some xs) (hr:VR ρ x x'):
    ((∀ e∈xs,e.length=esz)∧ ∀ x∈xs.flatten,x.scalar=true)∧(∀ w1:World,(Builtin.lenOf x').run P w1= .ok xs.length w1)∧
    ∃ vs,VRs ρ xs.flatten vs∧vs.length=xs.length*esz∧ ∀ k,k≤xs.length→ ∀ w1:World,w1.heap=w.heap→(Builtin.firstCells esz k x').run P w1= .ok (vs.take (k*esz)).toArray w1:=by
  unfold elemsOf at hx
  split at hx
  · cases hx
    have ex:x'= .slice none 0 0:=hr
    subst ex
    exact ⟨⟨by simp,by simp⟩,fun w1=>by simp[Builtin.lenOf],[],by simp[VRs],by simp,fun k _ w1 _=>by simp[Builtin.firstCells]⟩
  · cases hx
    obtain ⟨ad,rfl⟩:=hr
    exact ⟨⟨by simp,by simp⟩,fun w1=>by simp[Builtin.lenOf],[],by simp[VRs],by simp,fun k hk w1 _=>by
      have:k=0:=by simpa using hk
      subst this
      simp[Builtin.firstCells,loadCells,loadCellsFrom]⟩
  · cases hx
    obtain ⟨ad,k0,rfl⟩:=hr
    exact ⟨⟨by simp,by simp⟩,fun w1=>by simp[Builtin.lenOf],[],by simp[VRs],by simp,fun k hk w1 _=>by
      have:k=0:=by simpa using hk
      subst this
      cases ad <;>simp[Builtin.firstCells,loadCells,loadCellsFrom]⟩
  · cases hx
    obtain ⟨p,ad,cap,hp,rfl,_⟩:=hr
    exact ⟨⟨by simp,by simp⟩,fun w1=>by simp[Builtin.lenOf],[],by simp[VRs],by simp,fun k hk w1 _=>by
      have:k=0:=by simpa using hk
      subst this
      simp[Builtin.firstCells,loadCells,loadCellsFrom]⟩
  · rename_i b i n c hn0
    split at hx
    · rename_i own e es hb
      split at hx
      · rename_i hez
        subst hez
        unfold winGet at hx
        split at hx
        · rename_i hle
          cases hx
          obtain ⟨p,ad,cap,hp,rfl,hncap,hk,_⟩:=hr
          obtain ⟨vs,h1,h2,h3⟩:=win_cells R hb hp i n hle
          have hlen:((es.drop i).take n).length=n:=by rw[List.length_take,List.length_drop];omega
          have hn:n≠0:=fun e0=>hn0 e0
          have had:ad=p.at_ i 0:=by
            rcases hk with h |h
            · omega
            · exact h.1
          subst had
          obtain ⟨q,hq,hB⟩:=R.blk b _ hb
          refine ⟨⟨fun x hx=>hB.2.2.1 x (List.mem_of_mem_drop (List.mem_of_mem_take hx)),fun x hx=>row_scalars R hb x (by
            simp only[List.mem_flatten] at hx ⊢
            obtain ⟨l,hl,hx⟩:=hx
            exact ⟨l,List.mem_of_mem_drop (List.mem_of_mem_take hl),hx⟩)⟩,fun w1=>by rw[hlen];simp[Builtin.lenOf],vs,h1,by rw[hlen];exact h2,fun k hk w1 hw1=> ?_⟩
          rw[hlen] at hk
          have hkm:k*e≤n*e:=Nat.mul_le_mul_right _ hk
          have hl:(vs.take (k*e)).length=k*e:=by rw[List.length_take];omega
          have:=run_loadCells_list (P:=P) w1 (p.at_ i 0) (vs.take (k*e)) (fun j v hv=>by
            rw[List.getElem?_take] at hv
            split at hv
            · have h4:=h3 j v hv
              unfold World.cell? at h4 ⊢
              rw[hw1]
              exact h4
            · cases hv)
          rw[hl] at this
          simp[Builtin.firstCells,this]
        · cases hx
      · cases hx
    · cases hx
  · rename_i s
    split at hx
    · rename_i h1
      subst h1
      cases hx
      obtain ⟨b,rfl,hb⟩:=hr
      have hsz:b.size=s.length:=by rw[←hb,Array.length_toList];rfl
      refine ⟨⟨ofBytes_all s,ofBytes_scalar s⟩,fun w1=>by simp[Builtin.lenOf,hsz,ofBytes_len],_,ofBytes_rel s,by simp[ofBytes_len],fun k _ w1 _=> ?_⟩
      simp only[Builtin.firstCells,Sem.run_pure,Nat.mul_one]
      congr 1
      apply Array.ext'
      simp only[Array.toList_map,Go.Lib.extract_data,hb,List.drop_zero,Nat.sub_zero,List.map_take]
    · cases hx
  · cases hx
theorem sizes_le {need bytes:Nat} (h:need*bytes≤roomMost):need*bytes≤140737488355328:=by
  unfold roomMost at h;omega
theorem newCap_spec (w:World) (need old:Nat) (e:TypeId) (h:need≤maxLen): ∃ k,need≤k∧k≤maxLen∧(choose (.appendCap need old e)).run P w= .ok k {w with drawn:=w.drawn+1}:=by
  refine ⟨(Question.appendCap need old e).cut (w.tape w.drawn (.appendCap need old e)),?_,?_,?_⟩
  · simp[Question.cut]
  · unfold maxLen at*
    simp only[Question.cut]
    have:w.tape w.drawn (.appendCap need old e) % (2 ^ 63 - need)<2 ^ 63 - need:=Nat.mod_lt _ (by omega)
    omega
  · simp[Question.forced]
end
end Go.Abs
end
