/- What an abstract value
   Conditions: none. -/
import Derived.Test.YteeknodhjojhhaaGreatDoorEv1
import Derived.Laws.Strings
import Derived.Laws.Cover1
import Derived.Lib.SmallJoins
import Derived.Lib.Strings
import Derived.Laws.StructEq
import Derived.ChangeKeysEq
set_option linter.unusedSimpArgs false
set_option linter.unusedVariables false
set_option maxRecDepth 100000
noncomputable section
namespace Go.Abs
open List Option IntKind
open Go.RowKit (Below)
structure Pl where
 cb:Nat
 bC:Nat
 bZ:Nat
 xG:Nat
abbrev dR:=Nat->Option Pl
def Pl.lA(p:Pl)(i o:Nat):Addr:=⟨p.cb,p.bC+(i*p.bZ+o),none⟩
mutual
def VR(ρ:dR):AV->Value->Prop
 |.undef,v=>v=.tuple #[]
 |.bool b,v=>v=.bool b
 |.int k n,v=>v=.int k n
 |.fN s,v=>∃b:ByteArray,v=.string b/\b.data.toList=s
 |.qL,v=>v=.pointer none
 |.ptr b i o,v=>∃p,ρ b=some p/\v=.pointer (some (p.lA i o))
 |.aF,v=>v=.slice none 0 0
 |.fg,v=>∃a,v=.slice (some a) 0 0
 |.slice b i n c,v=>∃p a k,ρ b=some p/\v=.slice (some a) n k/\n<=k/\(k=0\/(a=p.lA i 0/\i+k<=p.xG))/\(∀m,c=some m->k=m)/\(c=none->i+k=p.xG)/\k<=maxLen
 |.lT,v=>v=.map none
 |.map b,v=>∃p,ρ b=some p/\v=.map (some p.cb)
 |.nilFunc,v=>v=.nilFunc
 |.func f a c,v=>∃a' c',v=.func (.func f) a' c'/\fz ρ a a'.toList/\fz ρ c c'.toList
 |.nilIface,v=>v=.nilIface
 |.iface t x,v=>∃x',v=.iface t x'/\VR ρ x x'
 |.agg cs,v=>∃c',v=.agg c'/\fz ρ cs c'.toList
 |.tuple cs,v=>∃c',v=.tuple c'/\fz ρ cs c'.toList
 |.yield l,v=>∃p,ρ l=some p/\v=.func (.yield p.cb) #[] #[]
 |.Vo,v=>v.oneCell'=true
 |.Hl n,v=>∃a k,v=.slice a n k
def fz(ρ:dR):List AV->List Value->Prop
 |[],l=>l=[]
 |a::as,l=>∃v vs,l=v::vs/\VR ρ a v/\fz ρ as vs
end
theorem nL(ρ:dR):∀(as:List AV) (vs:List Value),fz ρ as vs↔as.length=vs.length/\∀(i:Nat) (a:AV) (v:Value),as[i]?=some a->vs[i]?=some v->VR ρ a v
 |[],vs=>by
  simp[fz];constructor
  .rintro rfl;rfl
  .intro h;exact eq_nil_of_length_eq_zero h.symm
 |a::as,vs=>by
  simp only[fz];constructor
  .rintro ⟨v,iA,rfl,h1,h2⟩;obtain⟨hl,hi⟩:=(nL ρ as iA).1 h2;refine⟨by simp[hl],λi x y hx hy=>?_⟩;cases i with
   |zero=>simp at hx hy;subst hx hy;exact h1
   |succ i=>simp at hx hy;exact hi i x y hx hy
  .rintro ⟨hl,hi⟩;cases vs with
   |nil=>simp at hl
   |cons v iA=>
    refine⟨v,iA,rfl,hi 0 a v rfl rfl,(nL ρ as iA).2 ⟨by simpa using hl,λi x y hx hy=>hi (i+1) x y (by simpa using hx) (by simpa using hy)⟩⟩
theorem fz.length{ρ:dR}{as:List AV}{vs:List Value}(h:fz ρ as vs):as.length=vs.length:=((nL ρ as vs).1 h).1
theorem fz.get{ρ:dR}{as:List AV}{vs:List Value}(h:fz ρ as vs){i:Nat}{a:AV}(ha:as[i]?=some a):∃v,vs[i]?=some v/\VR ρ a v:=by
 obtain⟨hl,hi⟩:=(nL ρ as vs).1 h;have jU:i<as.length:=(List.getElem?_eq_some_iff.1 ha).1;have hv:vs[i]?=some (vs[i]'Z):=getElem?_eq_getElem Z;exact⟨_,hv,hi i a _ ha hv⟩
theorem fz.append{ρ:dR}:∀{as bs:List AV} {vs ws:List Value},fz ρ as vs->fz ρ bs ws->fz ρ (as++bs) (vs++ws)
 |[],_,vs,_,h,h'=>by simp[fz]at h;subst h;simpa using h'
 |a::as,_,_,_,h,h'=>by
  obtain⟨v,iA,rfl,h1,h2⟩:=h;exact⟨v,iA++_,rfl,h1,fz.append h2 h'⟩
theorem fz.take{ρ:dR}{as:List AV}{vs:List Value}(h:fz ρ as vs)(n:Nat):fz ρ (as.take n) (vs.take n):=by
 obtain⟨hl,hi⟩:=(nL ρ as vs).1 h;refine(nL ρ _ _).2 ⟨by simp[hl],λi a v ha hv=>?_⟩;rw[getElem?_take]at ha hv;by_cases hn:i<n
 .rw[aG hn]at ha hv;exact hi i a v ha hv
 .rw[aq hn]at ha;cases ha
theorem fz.drop{ρ:dR}{as:List AV}{vs:List Value}(h:fz ρ as vs)(n:Nat):fz ρ (as.drop n) (vs.drop n):=by
 obtain⟨hl,hi⟩:=(nL ρ as vs).1 h;refine(nL ρ _ _).2 ⟨by simp[hl],λi a v ha hv=>?_⟩;simp only[getElem?_drop]at ha hv;exact hi _ a v ha hv
def dR.le(ρ gO:dR):Prop:=∀b p,ρ b=some p->gO b=some p
mutual
theorem VR.mono{ρ gO:dR}(h:ρ.le gO):∀{a:AV} {v:Value},VR ρ a v->VR gO a v
 |.undef,_,hv|.bool _,_,hv|.int _ _,_,hv|.fN _,_,hv|.qL,_,hv|.aF,_,hv|.fg,_,hv|.lT,_,hv|.nilFunc,_,hv|.nilIface,_,hv|.Vo,_,hv|.Hl _,_,hv=>by simpa[VR]using hv
 |.ptr _ _ _,_,hv=>by obtain⟨p,hp,e⟩:=hv;exact⟨p,h _ _ hp,e⟩
 |.slice _ _ _ _,_,hv=>by obtain⟨p,a,k,hp,r⟩:=hv;exact⟨p,a,k,h _ _ hp,r⟩
 |.map _,_,hv=>by obtain⟨p,hp,e⟩:=hv;exact⟨p,h _ _ hp,e⟩
 |.func _ _ _,_,hv=>by obtain⟨a',c',e,h1,h2⟩:=hv;exact⟨a',c',e,fz.mono h h1,fz.mono h h2⟩
 |.iface _ _,_,hv=>by obtain⟨x',e,h1⟩:=hv;exact⟨x',e,VR.mono h h1⟩
 |.agg _,_,hv=>by obtain⟨c',e,h1⟩:=hv;exact⟨c',e,fz.mono h h1⟩
 |.tuple _,_,hv=>by obtain⟨c',e,h1⟩:=hv;exact⟨c',e,fz.mono h h1⟩
 |.yield _,_,hv=>by obtain⟨p,hp,e⟩:=hv;exact⟨p,h _ _ hp,e⟩
theorem fz.mono{ρ gO:dR}(h:ρ.le gO):∀{as:List AV} {vs:List Value},fz ρ as vs->fz gO as vs
 |[],_,hv=>by simpa[fz]using hv
 |_::_,_,hv=>by obtain⟨v,vs,e,h1,h2⟩:=hv;exact⟨v,vs,e,VR.mono h h1,fz.mono h h2⟩
end
theorem dR.le_refl(ρ:dR):ρ.le ρ:=λ_ _ h=>h
theorem dR.le_trans{a b c:dR}(h:a.le b)(k:b.le c):a.le c:=λx p hp=>k x p (h x p hp)
def Names(ρ:dR)(l:List Nat):Prop:=∀b∈l,∃p,ρ b=some p
mutual
theorem VR.names{ρ:dR}:∀{a:AV} {v:Value},VR ρ a v->Names ρ a.cj
 |.undef,_,_|.bool _,_,_|.int _ _,_,_|.fN _,_,_|.qL,_,_|.aF,_,_|.fg,_,_|.lT,_,_|.nilFunc,_,_|.nilIface,_,_|.Vo,_,_|.Hl _,_,_=>by simp[AV.cj,Names]
 |.ptr _ _ _,_,hv=>by obtain⟨p,hp,_⟩:=hv;simpa[AV.cj,Names]using⟨p,hp⟩
 |.slice _ _ _ _,_,hv=>by obtain⟨p,_,_,hp,_⟩:=hv;simpa[AV.cj,Names]using⟨p,hp⟩
 |.map _,_,hv=>by obtain⟨p,hp,_⟩:=hv;simpa[AV.cj,Names]using⟨p,hp⟩
 |.func _ _ _,_,hv=>by
  obtain⟨_,_,_,h1,h2⟩:=hv;intro b hb;simp only[AV.cj,mem_append]at hb;exact hb.elim (fz.names h1 b) (fz.names h2 b)
 |.iface _ x,_,hv=>by obtain⟨_,_,h1⟩:=hv;have h2:=VR.names (a:=x) h1;simpa only[AV.cj]using h2
 |.agg cs,_,hv=>by obtain⟨_,_,h1⟩:=hv;have h2:=fz.names (as:=cs) h1;simpa only[AV.cj]using h2
 |.tuple cs,_,hv=>by obtain⟨_,_,h1⟩:=hv;have h2:=fz.names (as:=cs) h1;simpa only[AV.cj]using h2
 |.yield _,_,hv=>by obtain⟨p,hp,_⟩:=hv;simpa[AV.cj,Names]using⟨p,hp⟩
theorem fz.names{ρ:dR}:∀{as:List AV} {vs:List Value},fz ρ as vs->Names ρ (hH as)
 |[],_,_=>by simp[hH,Names]
 |_::_,_,hv=>by
  obtain⟨_,_,_,h1,h2⟩:=hv;intro b hb;simp only[hH,mem_append]at hb;exact hb.elim (VR.names h1 b) (fz.names h2 b)
end
def Hw(ρ:dR)(T:Tr)(tmps:Array Value):Prop:=∀p:cO,VR ρ (dL p T) (tmps.getD p.toNat undef)
theorem Hw.mono{ρ gO:dR}{T:Tr}{tmps:Array Value}(h:Hw ρ T tmps)(hl:ρ.le gO):Hw gO T tmps:=λp=>(h p).mono hl
structure Kp where
 jW:Nat->Prop
 loop:oe->Loop->Prop
instance:CoeFun Kp (λ_=>Nat->Prop):=⟨Kp.jW⟩
def sT(K:Kp)(ρ:dR)(w:World)(p:Pl):bp->Prop
 |.row bS bZ es=>
  p.bZ=bZ/\0<bZ/\(∀e∈es,e.length=bZ)/\es.length<=p.xG/\
  ∃gP el fr,w.heap[p.cb]?=some (.cells gP el fr)/\p.bC+p.xG*bZ<=gP.size/\
   (∀k a,es.flatten[k]?=some a->∃v,gP[p.bC+k]?=some v/\VR ρ a v)/\
   (bS=true->¬K p.cb/\∀i,i<gP.size->¬(fr.1<=i/\i<fr.2))/\(∀x∈es.flatten,x.cU=true)
 |.map fF=>
  ¬K p.cb/\∃es clock,w.heap[p.cb]?=some (.map es clock)/\fF.length=es.size/\
   ∀(i:Nat) (x:AV×AV) (e:MapEntry),fF[i]?=some x->es[i]?=some e->VR ρ x.1 e.key/\VR ρ x.2 e.val
 |.loop l=>¬K p.cb/\∃r,w.heap[p.cb]?=some (.loop r)/\K.loop l r/\Hw ρ l.tmps r.tmps
 |.nZ=>¬K p.cb/\w.heap[p.cb]?=some (.deferred (some []))
structure Kept(K:Kp)(w w':World):Prop where
 os:w'.os=w.os
 tape:w'.tape=w.tape
 output:w'.output=w.output
 size:w.heap.size<=w'.heap.size
 lt:∀k,K k->k<w.heap.size
 block:∀k,K k->w'.heap[k]?=w.heap[k]?
structure Rel(K:Kp)(w0:World)(ρ:dR)(h:aN)(w:World):Prop where
 below:Kept K w0 w
 xH:∀b,h.length<=b->ρ b=none
 mV:∀b x,aj h b=some x->∃p,ρ b=some p/\sT K ρ w p x
 sep:∀b c x y p q,aj h b=some x->aj h c=some y->ρ b=some p->ρ c=some q->x.bS=true->b≠c->p.cb≠q.cb
theorem sT.lt{K:Kp}{ρ:dR}{w:World}{p:Pl}{x:bp}(h:sT K ρ w p x):p.cb<w.heap.size:=by
 have key:∀{o:Obj},w.heap[p.cb]?=some o->p.cb<w.heap.size:=λhg=>(Array.getElem?_eq_some_iff.1 hg).1
 cases x with
 |row bS bZ es=>obtain⟨_,_,_,_,gP,el,fr,hg,_⟩:=h;exact key hg
 |map fF=>obtain⟨_,es,clock,hg,_⟩:=h;exact key hg
 |loop l=>obtain⟨_,r,hg,_⟩:=h;exact key hg
 |nZ=>exact key h.2
theorem sT.Ep{K:Kp}{ρ:dR}{w:World}{p:Pl}{x:bp}(h:sT K ρ w p x)(ho:x.bS=true):¬K p.cb:=by
 cases x with
 |row bS bZ es=>obtain⟨_,_,_,_,gP,el,fr,hg,_,_,h3,_⟩:=h;exact(h3 ho).1
 |map fF=>exact h.1
 |loop l=>exact h.1
 |nZ=>exact h.1
theorem sT.bw{K:Kp}{ρ gO:dR}{w w':World}{p:Pl}{x:bp}(h:sT K ρ w p x)(hρ:ρ.le gO)(hw:w'.heap[p.cb]?=w.heap[p.cb]?):sT K gO w' p x:=by
 cases x with
 |row bS bZ es=>
  obtain⟨h1,h2,h3,h4,gP,el,fr,hg,h5,h6,h7⟩:=h;exact⟨h1,h2,h3,h4,gP,el,fr,hw.trans hg,h5,λk a ha=>let⟨v,hv,hr⟩:=h6 k a ha;⟨v,hv,hr.mono hρ⟩,h7⟩
 |map fF=>
  obtain⟨h1,es,clock,hg,h2,h3⟩:=h;exact⟨h1,es,clock,hw.trans hg,h2,λi a e ha he=>let⟨x,y⟩:=h3 i a e ha he;⟨x.mono hρ,y.mono hρ⟩⟩
 |loop l=>obtain⟨h1,r,hg,h2,h3⟩:=h;exact⟨h1,r,hw.trans hg,h2,h3.mono hρ⟩
 |nZ=>exact⟨h.1,hw.trans h.2⟩
theorem rN(t:Mt):CU t 0=(match t with|.e=>none|.n x _ _=>x):=by cases t<;>rfl
theorem Hx(k:Nat):CU .e k=none:=rfl
theorem j7(x:Option bp)(l r:Mt)(k:Nat):CU (.n x l r) (k+1)=cond (Nat.beq (k%2) 0) (CU l (k/2)) (CU r (k/2)):=rfl
theorem mq(x:Option bp)(f k:Nat):uj x (f+1) (k+1) .e=cond (Nat.beq (k%2) 0) (.n none (uj x f (k/2) .e) .e) (.n none .e (uj x f (k/2) .e)):=rfl
theorem eN(x v:Option bp)(l r:Mt)(f k:Nat):uj x (f+1) (k+1) (.n v l r)=cond (Nat.beq (k%2) 0) (.n v (uj x f (k/2) l) r) (.n v l (uj x f (k/2) r)):=rfl
theorem uz(x:Option bp)(f:Nat):uj x (f+1) 0 .e=.n x .e .e:=rfl
theorem jG(x v:Option bp)(l r:Mt)(f:Nat):uj x (f+1) 0 (.n v l r)=.n x l r:=rfl
theorem Jl{k j:Nat}(h:k%2≠j%2):Nat.beq (k%2) 0=!Nat.beq (j%2) 0:=by
 have h1:k%2=0\/k%2=1:=Z;have h2:j%2=0\/j%2=1:=Z;rcases h1 with h1|h1<;>rcases h2 with h2|h2<;>rw[h1,h2]<;>first|rfl|exact absurd (h1.trans h2.symm) h
theorem zi(x:Option bp):∀(f k:Nat) (t:Mt),k<f->∀j,CU (uj x f k t) j=if j=k then x else CU t j
 |0,k,t,hk,j=>absurd hk Z
 |f+1,0,t,_,j=>by
  cases t with
  |e=>
   rw[uz];cases j with
   |zero=>rw[rN];simp
   |succ j=>rw[j7];simp[Hx]
  |n v l r=>
   rw[jG];cases j with
   |zero=>rw[rN];simp
   |succ j=>rw[j7,j7];simp
 |f+1,k+1,t,hk,j=>by
  have Jm:k/2<f:=Z;have key:∀(j:Nat),(k%2=j%2->j/2=k/2->j=k):=λj h1 h2=>Z
  cases t with
  |e=>
   rw[mq];cases j with
   |zero=>cases Nat.beq (k%2) 0<;>simp[rN]
   |succ j=>
    by_cases hp:k%2=j%2
    .have ih:=zi x f (k/2) .e Jm (j/2);rw[show Nat.beq (k%2) 0=Nat.beq (j%2) 0 by rw[hp]];cases hb:Nat.beq (j%2) 0<;>
      (
       simp only[cond];rw[j7,hb];simp only[cond,ih,Hx]
       by_cases e:j=k
       .subst e;simp
       .rw[aq (λe2=>e (key j hp e2)),aq Z])
    .have hb:=Jl hp;rw[hb];cases rF:Nat.beq (j%2) 0<;>
      (simp only[Bool.not_true,Bool.not_false,cond];rw[j7,rF];simp only[cond,Hx];rw[aq (by intro e;apply hp;omega)])
  |n v l r=>
   rw[eN];cases j with
   |zero=>cases Nat.beq (k%2) 0<;>simp[rN]
   |succ j=>
    by_cases hp:k%2=j%2
    .rw[show Nat.beq (k%2) 0=Nat.beq (j%2) 0 by rw[hp],j7 v l r];cases hb:Nat.beq (j%2) 0<;>
      (
       simp only[cond];rw[j7,hb];simp only[cond]
       rw[zi x f (k/2) _ Jm (j/2)]
       by_cases e:j=k
       .subst e;simp
       .rw[aq (λe2=>e (key j hp e2)),aq Z])
    .have hb:=Jl hp;rw[hb,j7 v l r];cases rF:Nat.beq (j%2) 0<;>
      (simp only[Bool.not_true,Bool.not_false,cond];rw[j7,rF];simp only[cond];rw[aq (by intro e;apply hp;omega)])
theorem Jn{h:aN}{b:Nat}(hb:b<h.length):aj h b=CU h.zd b:=by
 unfold aj;rw[show Nat.blt b h.length=true from(iff_of_eq Nat.blt_eq).2 hb];rfl
theorem mL{h:aN}{b:Nat}(hb:h.length<=b):aj h b=none:=by
 unfold aj;cases e:Nat.blt b h.length
 .rfl
 .have:=(iff_of_eq Nat.blt_eq).1 e;omega
theorem ag{h:aN}{b:Nat}{x:bp}(hx:aj h b=some x):b<h.length:=by
 rcases Nat.lt_or_ge b h.length with l|l
 .exact l
 .rw[mL l]at hx;cases hx
theorem iY(m:Mem)(c:j9):(m.apply c).ah=aQ m.ah c.id c.mV:=rfl
theorem cw{h:aN}{b:Nat}{x:Option bp}:(aQ h b x).length=max h.length (b+1):=by
 simp only[aQ];cases e:Nat.blt b h.length
 .have:¬b<h.length:=λl=>by rw[(iff_of_eq Nat.blt_eq).2 l]at e;cases e
  simp only[cond];omega
 .have:=(iff_of_eq Nat.blt_eq).1 e;simp only[cond];omega
theorem kN{h:aN}{b:Nat}{x:Option bp}(_:b<=h.length):(aQ h b x).length=max h.length (b+1):=cw
theorem dw{h:aN}{b c:Nat}{x:Option bp}(hb:b<=h.length):aj (aQ h b x) c=if c=b then x else aj h c:=by
 rcases Nat.lt_or_ge c (aQ h b x).length with l|l
 .rw[Jn l];simp only[aQ];rw[zi x _ _ _ (Nat.lt_succ_self b)];by_cases e:c=b
  .rw[aG e,aG e]
  .rw[aq e,aq e];rw[kN hb]at l;rw[Jn Z]
 .rw[mL l];rw[kN hb]at l;rw[aq Z,mL Z]
theorem eY{h:aN}{b c:Nat}{x:Option bp}(hb:b<h.length):aj (aQ h b x) c=if c=b then x else aj h c:=dw Z
def dR.put(ρ:dR)(b:Nat)(p:Pl):dR:=λc=>if c=b then some p else ρ c
theorem dR.iB(ρ:dR)(b:Nat)(p:Pl):ρ.put b p b=some p:=by simp[dR.put]
theorem dR.uC(ρ:dR){b c:Nat}(p:Pl)(h:c≠b):ρ.put b p c=ρ c:=by simp[dR.put,h]
theorem dR.wX{ρ:dR}{b:Nat}(p:Pl)(h:ρ b=none):ρ.le (ρ.put b p):=by
 intro c q hq;by_cases e:c=b
 .subst e;rw[h]at hq;cases hq
 .rw[dR.uC _ _ e];exact hq
section
variable{K:Kp}{w0 w w':World}{ρ:dR}{h:aN}
theorem Rel.world(r:Rel K w0 ρ h w)(hb:Kept K w0 w')(hs:w.heap.size<=w'.heap.size)(hk:∀b x p,aj h b=some x->ρ b=some p->w'.heap[p.cb]?=w.heap[p.cb]?):Rel K w0 ρ h w' where
 below:=hb
 xH:=r.xH
 mV:=λb x hx=>let⟨p,hp,hB⟩:=r.mV b x hx;⟨p,hp,hB.bw (dR.le_refl _) (hk b x p hx hp)⟩
 sep:=r.sep
theorem Rel.fresh(r:Rel K w0 ρ h w):¬K w.heap.size:=λhk=>absurd (gA (r.below.lt _ hk) r.below.size) (Nat.lt_irrefl _)
theorem Rel.xN(r:Rel K w0 ρ h w)(hb:Below w.heap.size w w'):Rel K w0 ρ h w':=
 r.world ⟨hb.os.trans r.below.os,hb.tape.trans r.below.tape,hb.output.trans r.below.output,bK r.below.size hb.size,r.below.lt,λk hk=>(hb.block k (gA (r.below.lt k hk) r.below.size)).trans (r.below.block k hk)⟩ hb.size λb x p hx hp=>by
  obtain⟨q,hq,hB⟩:=r.mV b x hx;have e:q=p:=Option.some.inj (hq.symm.trans hp);subst e;exact hb.block _ hB.lt
theorem Rel.kill(r:Rel K w0 ρ h w){b:Nat}(hb:b<h.length):Rel K w0 ρ (aQ h b none) w where
 below:=r.below
 xH:=λc hc=>r.xH c (by rw[kN Z]at hc;omega)
 mV:=λc x hx=>by
  rw[dw Z]at hx;split at hx
  .cases hx
  .exact r.mV c x hx
 sep:=λc d x y p q hx hy hp hq ho jV=>by
  rw[dw Z]at hx hy;split at hx
  .cases hx
  .split at hy
   .cases hy
   .exact r.sep c d x y p q hx hy hp hq ho jV
theorem Rel.put(r:Rel K w0 ρ h w){b:Nat}{x:bp}{p:Pl}(hb:b<=h.length)(hn:ρ b=none)(hB:sT K (ρ.put b p) w p x)
 (Zu:∀c y q,aj h c=some y->ρ c=some q->q.cb≠p.cb):Rel K w0 (ρ.put b p) (aQ h b (some x)) w where
 below:=r.below
 xH:=λc hc=>by
  rw[kN hb]at hc;rw[dR.uC _ _ Z];exact r.xH c Z
 mV:=λc y hy=>by
  rw[dw hb]at hy;split at hy
  .rename_i e;cases hy;subst e;exact⟨p,dR.iB _ _ _,hB⟩
  .rename_i e;obtain⟨q,hq,hBq⟩:=r.mV c y hy;exact⟨q,by rw[dR.uC _ _ e];exact hq,hBq.bw (dR.wX p hn) rfl⟩
 sep:=λc d x' y p' q hx hy hp hq ho jV=>by
  rw[dw hb]at hx hy;split at hx
  .rename_i e;subst e;rw[aq (λe=>jV e.symm)]at hy;rw[dR.iB]at hp;rw[dR.uC _ _ (λe=>jV e.symm)]at hq;cases hp;exactλe=>Zu d y q hy hq e.symm
  .rename_i e;rw[dR.uC _ _ e]at hp;split at hy
   .rename_i e';subst e';rw[dR.iB]at hq;cases hq;exact Zu c x' p' hx hp
   .rename_i e';rw[dR.uC _ _ e']at hq;exact r.sep c d x' y p' q hx hy hp hq ho jV
theorem Rel.set(r:Rel K w0 ρ h w){b:Nat}{x x':bp}{p:Pl}(hx:aj h b=some x)(hp:ρ b=some p)(ho:x.bS=true)
 (hs:w'.heap.size=w.heap.size) (hos:w'.os=w.os) (htp:w'.tape=w.tape) (hou:w'.output=w.output)
 (hw:∀k,k≠p.cb->w'.heap[k]?=w.heap[k]?) (hB:sT K ρ w' p x'):Rel K w0 ρ (aQ h b (some x')) w':=by
 have jU:=ag hx;obtain⟨q,hq,hBx⟩:=r.mV b x hx;have e:q=p:=Option.some.inj (hq.symm.trans hp);subst e;have Zv:=hBx.Ep ho;refine⟨⟨hos.trans r.below.os,htp.trans r.below.tape,hou.trans r.below.output,by rw[hs];exact r.below.size,r.below.lt,λk hk=>(hw k (λe=>Zv (e▸hk))).trans (r.below.block k hk)⟩,
  λc hc=>r.xH c (by rw[kN Z]at hc;omega),λc y hy=>?_,λc d y z p' q' hy hz Aa Jo hoy jV=>?_⟩
 .rw[dw Z]at hy;split at hy
  .rename_i e;cases hy;subst e;exact⟨q,hq,hB⟩
  .rename_i e;obtain⟨s,tR,hBs⟩:=r.mV c y hy;exact⟨s,tR,hBs.bw (dR.le_refl _) (hw _ (λe'=>r.sep b c x y q s hx hy hq tR ho (λRA=>e RA.symm) e'.symm))⟩
 .rw[dw Z]at hy hz;split at hy
  .rename_i e;subst e;rw[aq (λe=>jV e.symm)]at hz;exact r.sep c d x z p' q' hx hz Aa Jo ho jV
  .split at hz
   .rename_i e e';subst e';exactλRA=>r.sep d c x y q' p' hx hy Jo Aa ho (λe3=>jV e3.symm) RA.symm
   .exact r.sep c d y z p' q' hy hz Aa Jo hoy jV
end
section
variable{α:Type}
theorem pC{n:Nat}(hn:0<n):∀(es:List (List α)) (k:Nat),(∀e∈es,e.length=n)->es.flatten[k]?=(es[k/n]?).bind λe=>e[k%n]?
 |[],k,_=>by simp
 |e::es,k,h=>by
  have he:e.length=n:=h e (by simp);have hes:∀x∈es,x.length=n:=λx hx=>h x (by simp[hx])
  rw[flatten_cons];by_cases hk:k<n
  .rw[getElem?_append_left Z,Nat.div_eq_of_lt hk,Nat.mod_eq_of_lt hk];simp
  .rw[getElem?_append_right Z,he,pC hn es (k-n) hes];have e1:k/n=(k-n)/n+1:=by
    rw[Nat.div_eq_sub_div hn Z]
   have e2:k%n=(k-n)%n:=by
    rw[Nat.mod_eq_sub_mod Z]
   rw[e1,e2];simp
theorem gd{n:Nat}:∀(es:List (List α)),(∀e∈es,e.length=n)->es.flatten.length=es.length*n
 |[],_=>by simp
 |e::es,h=>by
  rw[flatten_cons,length_append,h e (by simp),gd es (λx hx=>h x (by simp[hx])),length_cons,Nat.succ_mul];omega
theorem Bl{es:List α}{i:Nat}{e:α}(h:es[i]?=some e):e∈es:=mem_of_getElem? h
theorem Er{n:Nat}(hn:0<n){es:List (List α)}(h:∀e∈es,e.length=n){i j:Nat}{e:List α}(he:es[i]?=some e) (hj:j<n):es.flatten[i*n+j]?=e[j]?:=by
 have e1:(i*n+j)/n=i:=by rw[Nat.mul_comm,Nat.mul_add_div hn,Nat.div_eq_of_lt hj,Nat.add_zero]
 have e2:(i*n+j)%n=j:=by rw[Nat.mul_comm,Nat.mul_add_mod,Nat.mod_eq_of_lt hj]
 rw[pC hn es _ h,e1,e2,he];rfl
theorem jO{n:Nat}:∀(es:List (List α)) (i:Nat),(∀e∈es,e.length=n)->(es.drop i).flatten=es.flatten.drop (i*n)
 |[],i,_=>by simp
 |e::es,0,_=>by simp
 |e::es,i+1,h=>by
  have he:e.length=n:=h e (by simp);rw[drop_succ_cons,jO es i (λx hx=>h x (by simp[hx])),flatten_cons,Nat.succ_mul,drop_append,he];have:e.drop (i*n+n)=[]:=drop_eq_nil_of_le Z;rw[this,nil_append];congr 1;omega
theorem iU{n:Nat}:∀(es:List (List α)) (i:Nat),(∀e∈es,e.length=n)->(es.take i).flatten=es.flatten.take (i*n)
 |[],i,_=>by simp
 |e::es,0,_=>by simp
 |e::es,i+1,h=>by
  have he:e.length=n:=h e (by simp);rw[take_succ_cons,flatten_cons,iU es i (λx hx=>h x (by simp[hx])),flatten_cons,Nat.succ_mul,take_append,he,take_of_length_le (l:=e) Z];congr 2;omega
end
theorem vA(n:Nat):∀(k:Nat) (l:List AV),(mF n k l).length=k
 |0,_=>rfl
 |k+1,l=>by simp[mF,vA n k]
theorem vB(n:Nat):∀(k:Nat) (l:List AV),k*n<=l.length->∀e∈mF n k l,e.length=n
 |0,_,_=>by simp[mF]
 |k+1,l,h=>by
  rw[Nat.succ_mul]at h;intro e he;simp only[mF,mem_cons]at he;rcases he with rfl|he
  .simp;omega
  .exact vB n k (l.drop n) (by simp;omega) e he
theorem j8(n:Nat):∀(k:Nat) (l:List AV),l.length=k*n->(mF n k l).flatten=l
 |0,l,h=>by
  rw[Nat.zero_mul]at h;simp[mF,eq_nil_of_length_eq_zero h]
 |k+1,l,h=>by
  rw[Nat.succ_mul]at h;rw[mF,flatten_cons,j8 n k (l.drop n) (by simp;omega),take_append_drop]
theorem xO{bZ:Nat}{es:List (List AV)}{i o n:Nat}{cs:List AV}(hn:0<bZ)(hG:∀e∈es,e.length=bZ)(h:iT bZ es i o n=some cs):
 cs.length=n/\∀j a,cs[j]?=some a->es.flatten[i*bZ+o+j]?=some a:=by
 unfold iT at h;split at h
 .rename_i oT;split at h
  .rename_i e he;cases h;have hl:=hG e (Bl he);refine⟨by simp;omega,λj a ha=>?_⟩;have hj:j<n:=by
    have:=(List.getElem?_eq_some_iff.1 ha).1;simp at this;omega
   rw[getElem?_take,aG hj,getElem?_drop]at ha;rw[Nat.add_assoc,Er hn hG he Z];exact ha
  .cases h
 .split at h
  .rename_i hc;obtain⟨ho,hk,oT⟩:=hc;cases h;subst ho;rw[iU _ _ (λe he=>hG e (mem_of_mem_drop he)),jO _ _ hG,hk];have eV:=gd es hG;have hmul:(i+n/bZ)*bZ<=es.length*bZ:=Nat.mul_le_mul_right _ oT;rw[Nat.add_mul,hk]at hmul;refine⟨by simp only[length_take,length_drop];omega,λj a ha=>?_⟩;have hj:j<n:=by
    have:=(List.getElem?_eq_some_iff.1 ha).1;simp only[length_take,length_drop]at this;omega
   rw[getElem?_take,aG hj,getElem?_drop]at ha;simpa using ha
  .cases h
theorem Bm{bZ i o:Nat}:(i+o/bZ)*bZ+o%bZ=i*bZ+o:=by
 rw[Nat.add_mul,Nat.add_assoc];congr 1;rw[Nat.mul_comm];exact Nat.div_add_mod o bZ
theorem FC{bZ:Nat}{es:List (List AV)}{i o n:Nat}{cs:List AV}(hn:0<bZ)(hG:∀e∈es,e.length=bZ)(h:fG bZ es i o n=some cs):
 cs.length=n/\∀j a,cs[j]?=some a->es.flatten[i*bZ+o+j]?=some a:=by
 unfold fG at h;cases hb:Nat.ble bZ o<;>rw[hb]at h<;>simp only[cond]at h
 .exact xO hn hG h
 .have:=xO hn hG h;rw[Bm]at this;exact this
theorem pD{α:Type}{l vs:List α}{a k:Nat}(h:a+vs.length<=l.length):
 (l.take a++vs++l.drop (a+vs.length))[k]?=if a<=k/\k<a+vs.length then vs[k-a]? else l[k]?:=by
 have ht:(l.take a).length=a:=by simp;omega
 by_cases h1:k<a
 .rw[aq Z,append_assoc,getElem?_append_left Z,getElem?_take,aG h1]
 .by_cases h2:k<a+vs.length
  .rw[aG ⟨Z,h2⟩,getElem?_append_left (by simp;omega),getElem?_append_right Z,ht]
  .rw[aq Z,getElem?_append_right (by simp;omega),getElem?_drop];congr 1;simp;omega
theorem xP{bZ:Nat}{es pd:List (List AV)}{i o:Nat}{vs:List AV}(hn:0<bZ)(hG:∀e∈es,e.length=bZ)(h:nJ bZ es i o vs=some pd):
 (∀e∈pd,e.length=bZ)/\pd.length=es.length/\i*bZ+o+vs.length<=es.length*bZ/\pd.flatten=es.flatten.take (i*bZ+o)++vs++es.flatten.drop (i*bZ+o+vs.length):=by
 have eV:=gd es hG;unfold nJ at h;split at h
 .rename_i oT;split at h
  .rename_i e he;cases h;have hl:=hG e (Bl he);have hi:i<es.length:=(List.getElem?_eq_some_iff.1 he).1;have hmul:(i+1)*bZ<=es.length*bZ:=Nat.mul_le_mul_right _ hi;rw[Nat.succ_mul]at hmul;have Ag2:(e.take o++vs++e.drop (o+vs.length)).length=bZ:=by simp;omega
   have Dj:∀x∈es.set i (e.take o++vs++e.drop (o+vs.length)),x.length=bZ:=by
    intro x hx;rcases mem_or_eq_of_mem_set hx with hx|rfl
    .exact hG x hx
    .exact Ag2
   refine⟨Dj,by simp,Z,?_⟩;refine ext_getElem? λk=>?_
   rw[pD Z,pC hn _ _ Dj,pC hn _ _ hG];have hk:=Nat.div_add_mod k bZ;have hr:=Nat.mod_lt k hn;generalize hq:k/bZ=q at*;generalize YD:k%bZ=r at*;by_cases hqi:q=i
   .subst hqi;rw[getElem?_set_self hi,he];simp only[bind_some];rw[pD Z];have e1:bZ*q=q*bZ:=Nat.mul_comm _ _;by_cases uw:o<=r/\r<o+vs.length
    .rw[aG uw,aG Z];congr 1;omega
    .rw[aq uw,aq Z]
   .rw[getElem?_set_ne Z];rcases Nat.lt_or_gt_of_ne hqi with jU|RB
    .have h1:(q+1)*bZ<=i*bZ:=Nat.mul_le_mul_right _ jU;rw[Nat.succ_mul]at h1;have e1:bZ*q=q*bZ:=Nat.mul_comm _ _;rw[aq Z]
    .have h1:(i+1)*bZ<=q*bZ:=Nat.mul_le_mul_right _ RB;rw[Nat.succ_mul]at h1;have e1:bZ*q=q*bZ:=Nat.mul_comm _ _;rw[aq Z]
  .cases h
 .split at h
  .rename_i hc;obtain⟨ho,hk,oT⟩:=hc;cases h;subst ho;have hmul:(i+vs.length/bZ)*bZ<=es.length*bZ:=Nat.mul_le_mul_right _ oT;rw[Nat.add_mul,hk]at hmul;have Zw:(es.take i++mF bZ (vs.length/bZ) vs++es.drop (i+vs.length/bZ)).length=es.length:=by
    simp only[length_append,length_take,length_drop,vA];generalize vs.length/bZ=q at*;omega
   refine⟨λx hx=>?_,Zw,Z,?_⟩
   .simp only[mem_append]at hx;rcases hx with(hx|hx)|hx
    .exact hG x (mem_of_mem_take hx)
    .exact vB _ _ _ Z x hx
    .exact hG x (mem_of_mem_drop hx)
   .rw[flatten_append,flatten_append,iU _ _ hG,jO _ _ hG,j8 _ _ _ Z,Nat.add_mul,hk];simp
  .cases h
theorem FD{bZ:Nat}{es pd:List (List AV)}{i o:Nat}{vs:List AV}(hn:0<bZ)(hG:∀e∈es,e.length=bZ)(h:iX bZ es i o vs=some pd):
 (∀e∈pd,e.length=bZ)/\pd.length=es.length/\i*bZ+o+vs.length<=es.length*bZ/\pd.flatten=es.flatten.take (i*bZ+o)++vs++es.flatten.drop (i*bZ+o+vs.length):=by
 unfold iX at h;cases hb:Nat.ble bZ o<;>rw[hb]at h<;>simp only[cond]at h
 .exact xP hn hG h
 .have:=xP hn hG h;rw[Bm]at this;exact this
open Go.RowKit (Below)
def TR(ρ:dR)(T:Tr)(a:Act):Prop:=Hw ρ T a.tmps
def GR(aM:Nat->Option AV)(ρ:dR):Prop:=∀g v,aM g=some v->VR ρ v (.pointer (some ⟨g,0,none⟩))
theorem GR.mono{aM:Nat->Option AV}{ρ gO:dR}(h:GR aM ρ)(hl:ρ.le gO):GR aM gO:=λg v hg=>(h g v hg).mono hl
mutual
theorem xQ(ρ:dR):∀{v:Value} {a:AV},mY v=some a->VR ρ a v
 |.bool b,a,h=>by simp only[mY]at h;cases h;simp[VR]
 |.int k n,a,h=>by simp only[mY]at h;cases h;simp[VR]
 |.string s,a,h=>by simp only[mY]at h;cases h;exact⟨s,rfl,rfl⟩
 |.pointer none,a,h=>by simp only[mY]at h;cases h;simp[VR]
 |.pointer (some _),a,h=>by simp[mY]at h
 |.slice none n c,a,h=>by
  unfold mY at h;split at h<;>first|(cases h;done)|skip
  all_goals first|(rename_i e;cases e;cases h;simp[VR];done)|(simp_all;done)|(cases h;simp_all [VR];done)
 |.slice (some _) _ _,a,h=>by simp[mY]at h
 |.map none,a,h=>by simp only[mY]at h;cases h;simp[VR]
 |.map (some _),a,h=>by simp[mY]at h
 |.nilFunc,a,h=>by simp only[mY]at h;cases h;simp[VR]
 |.nilIface,a,h=>by simp only[mY]at h;cases h;simp[VR]
 |.iface t v,a,h=>by
  simp only[mY,map_eq_some_iff]at h;obtain⟨x,hx,rfl⟩:=h;exact⟨v,rfl,xQ ρ hx⟩
 |.func (.func f) ⟨fs⟩ ⟨cs⟩,a,h=>by
  simp only[mY]at h;split at h
  .rename_i x y hx hy;cases h;exact⟨⟨fs⟩,⟨cs⟩,rfl,vD ρ hx,vD ρ hy⟩
  .cases h
 |.func (.method _) _ _,a,h=>by simp[mY]at h
 |.func (.methodOf _ _) _ _,a,h=>by simp[mY]at h
 |.func (.via _ _ _ _) _ _,a,h=>by simp[mY]at h
 |.func (.yield _) _ _,a,h=>by simp[mY]at h
 |.agg ⟨cs⟩,a,h=>by
  simp only[mY,map_eq_some_iff]at h;obtain⟨x,hx,rfl⟩:=h;exact⟨⟨cs⟩,rfl,vD ρ hx⟩
 |.float _ _,a,h=>by simp[mY]at h
 |.complex _ _ _,a,h=>by simp[mY]at h
 |.chan _,a,h=>by simp[mY]at h
 |.tuple _,a,h=>by simp[mY]at h
theorem vD(ρ:dR):∀{vs:List Value} {as:List AV},Bg vs=some as->fz ρ as vs
 |[],as,h=>by simp only[Bg]at h;cases h;simp[fz]
 |v::vs,as,h=>by
  simp only[Bg]at h;split at h
  .rename_i x y hx hy;cases h;exact⟨v,vs,rfl,xQ ρ hx,vD ρ hy⟩
  .cases h
end
section
variable{P:Program}{aM:Nat->Option AV}{ρ:dR}{T:Tr}{a:Act}
theorem cO.wY:∀p:cO,p.succ.toNat=p.toNat+1
 |.z=>rfl
 |.l p=>rfl
 |.r p=>by simp only[cO.succ,cO.toNat,cO.wY p];omega
theorem cO.toNat_ofNat:∀n:Nat,(cO.ofNat n).toNat=n
 |0=>rfl
 |n+1=>by rw[cO.ofNat,cO.wY,cO.toNat_ofNat n]
theorem cO.toNat_inj:∀{p q:cO},p.toNat=q.toNat->p=q
 |.z,.z,_=>rfl
 |.z,.l q,h|.z,.r q,h=>by simp only[cO.toNat]at h;omega
 |.l p,.z,h|.r p,.z,h=>by simp only[cO.toNat]at h;omega
 |.l p,.r q,h|.r p,.l q,h=>by simp only[cO.toNat]at h;omega
 |.l p,.l q,h=>by rw[cO.toNat_inj (p:=p) (q:=q) (by simp only[cO.toNat]at h;omega)]
 |.r p,.r q,h=>by rw[cO.toNat_inj (p:=p) (q:=q) (by simp only[cO.toNat]at h;omega)]
theorem zj(p:cO):dL p .e=.undef:=by cases p<;>rfl
theorem iR(x:AV):∀(p q:cO) (T:Tr),dL q (gq x p T)=if q=p then x else dL q T
 |.z,q,T=>by
  have hs:gq x .z T=(match T with|.e=>.n x .e .e|.n _ l r=>.n x l r):=by cases T<;>rfl
  cases q<;>cases T<;>simp[hs,dL]<;>exact zj _
 |.l p,q,T=>by
  have hs:gq x (.l p) T=(match T with|.e=>.n .undef (gq x p .e) .e|.n v l r=>.n v (gq x p l) r):=by cases T<;>rfl
  cases q with
  |z=>cases T<;>simp[hs,dL]
  |l q=>cases T<;>(rw[hs];first|(have h1:=iR x p q .e;simp only[zj]at h1;simpa[dL]using h1)|(rename_i v l r;have h1:=iR x p q l;simpa[dL]using h1))
  |r q=>cases T<;>(rw[hs];simp;first|rfl|exact zj _)
 |.r p,q,T=>by
  have hs:gq x (.r p) T=(match T with|.e=>.n .undef .e (gq x p .e)|.n v l r=>.n v l (gq x p r)):=by cases T<;>rfl
  cases q with
  |z=>cases T<;>simp[hs,dL]
  |r q=>cases T<;>(rw[hs];first|(have h1:=iR x p q .e;simp only[zj]at h1;simpa[dL]using h1)|(rename_i v l r;have h1:=iR x p q r;simpa[dL]using h1))
  |l q=>cases T<;>(rw[hs];simp;first|rfl|exact zj _)
theorem TR.get(h:TR ρ T a)(n:Nat):VR ρ (dL (.ofNat n) T) (a.tmps.getD n undef):=by
 have:=h (.ofNat n);rwa[cO.toNat_ofNat]at this
theorem ch(hg:GR aM ρ)(h:TR ρ T a):∀{x:Operand} {ax:bE},bO aM x=some ax->VR ρ (cP T ax) (a.eval x)
 |.tmp t,ax,hc=>by simp only[bO]at hc;cases hc;exact h.get t
 |.const v,ax,hc=>by
  simp only[bO,map_eq_some_iff]at hc;obtain⟨x,hx,rfl⟩:=hc;exact xQ ρ hx
 |.global g,ax,hc=>by
  simp only[bO,map_eq_some_iff]at hc;obtain⟨x,hx,rfl⟩:=hc;exact hg g x hx
 |.func f,ax,hc=>by simp only[bO]at hc;cases hc;exact⟨#[],#[],rfl,by simp[fz],by simp[fz]⟩
theorem ni(hg:GR aM ρ)(h:TR ρ T a):∀{xs:List Operand} {Hn:List bE},mK aM xs=some Hn->fz ρ (Hn.map (cP T)) (xs.map a.eval)
 |[],Hn,hc=>by simp only[mK]at hc;cases hc;simp[fz]
 |x::xs,Hn,hc=>by
  simp only[mK]at hc;split at hc
  .rename_i y ys hy Hz;cases hc;exact⟨_,_,rfl,ch hg h hy,ni hg h Hz⟩
  .cases hc
theorem Vr(hg:GR aM ρ)(h:TR ρ T a){x:Option Operand}{ax:Option bE}(hc:pg aM x=some ax):
 (x=none/\ax=none)\/∃y ay,x=some y/\ax=some ay/\VR ρ (cP T ay) (a.eval y):=by
 cases x with
 |none=>simp only[pg]at hc;cases hc;exact .inl ⟨rfl,rfl⟩
 |some y=>
  simp only[pg,map_eq_some_iff]at hc;obtain⟨ay,hy,rfl⟩:=hc;exact .inr ⟨y,ay,rfl,rfl,ch hg h hy⟩
theorem xR{x:AV}{v:Value}{cs:List AV}(h:VR ρ x v)(hc:x.cells?=some cs):fz ρ cs v.cells.toList:=by
 cases x<;>simp only[AV.cells?]at hc<;>first|(cases hc;done)|cases hc
 case agg=>obtain⟨c',rfl,h1⟩:=h;exact h1
 case bool b=>cases h;exact⟨_,[],rfl,rfl,rfl⟩
 case int k n=>cases h;exact⟨_,[],rfl,rfl,rfl⟩
 case fN s=>obtain⟨b,rfl,h1⟩:=h;exact⟨_,[],rfl,⟨b,rfl,h1⟩,rfl⟩
 case qL=>cases h;exact⟨_,[],rfl,rfl,rfl⟩
 case ptr b i o=>obtain⟨p,hp,rfl⟩:=h;exact⟨_,[],rfl,⟨p,hp,rfl⟩,rfl⟩
 case aF=>cases h;exact⟨_,[],rfl,rfl,rfl⟩
 case fg=>obtain⟨p,rfl⟩:=h;exact⟨_,[],rfl,⟨p,rfl⟩,rfl⟩
 case slice b i n c=>obtain⟨p,ad,k,hp,rfl,h1⟩:=h;exact⟨_,[],rfl,⟨p,ad,k,hp,rfl,h1⟩,rfl⟩
 case lT=>cases h;exact⟨_,[],rfl,rfl,rfl⟩
 case map b=>obtain⟨p,hp,rfl⟩:=h;exact⟨_,[],rfl,⟨p,hp,rfl⟩,rfl⟩
 case nilFunc=>cases h;exact⟨_,[],rfl,rfl,rfl⟩
 case func=>obtain⟨x,y,rfl,h1⟩:=h;exact⟨_,[],rfl,⟨x,y,rfl,h1⟩,rfl⟩
 case nilIface=>cases h;exact⟨_,[],rfl,rfl,rfl⟩
 case iface t x=>obtain⟨y,rfl,h1⟩:=h;exact⟨_,[],rfl,⟨y,rfl,h1⟩,rfl⟩
 case yield l=>obtain⟨p,hp,rfl⟩:=h;exact⟨_,[],rfl,⟨p,hp,rfl⟩,rfl⟩
 case Vo=>exact⟨v,[],by cases v<;>first|rfl|(cases h;done),h,rfl⟩
 case Hl n=>obtain⟨x,y,rfl⟩:=h;exact⟨_,[],rfl,⟨x,y,rfl⟩,rfl⟩
theorem Lt{x:AV}{v:Value}(h:VR ρ x v)(hs:x.cU=true):v.oneCell'=true:=by
 cases x<;>simp only[AV.cU]at hs<;>first|(cases hs;done)|skip
 case bool b=>cases h;rfl
 case int k n=>cases h;rfl
 case fN s=>obtain⟨b,rfl,_⟩:=h;rfl
 case qL=>cases h;rfl
 case ptr b i o=>obtain⟨p,hp,rfl⟩:=h;rfl
 case aF=>cases h;rfl
 case fg=>obtain⟨p,rfl⟩:=h;rfl
 case slice b i n c=>obtain⟨p,ad,k,hp,rfl,_⟩:=h;rfl
 case lT=>cases h;rfl
 case map b=>obtain⟨p,hp,rfl⟩:=h;rfl
 case nilFunc=>cases h;rfl
 case func f fs cs=>obtain⟨x,y,rfl,_⟩:=h;rfl
 case nilIface=>cases h;rfl
 case iface t x=>obtain⟨y,rfl,_⟩:=h;rfl
 case yield l=>obtain⟨p,hp,rfl⟩:=h;rfl
 case Vo=>exact h
 case Hl n=>obtain⟨x,y,rfl⟩:=h;rfl
end
open Go.RowKit (Below)
def gS(h:aN):List j9->aN
 |[]=>h
 |c::cs=>gS (aQ h c.id c.mV) cs
theorem lC:∀(cs:List j9) (m:Mem),(m.dX cs).ah=gS m.ah cs
 |[],_=>rfl
 |c::cs,m=>by rw[Mem.dX,lC cs,gS,iY]
def cV(K:Kp)(w0:World)(ρ:dR)(bU:Nat)(h':aN)(v:AV)(r:Result Next):Prop:=
 ∃nx v' w' gO,r=.ok nx w'/\(nx=.value v'\/(nx=.skip/\v'=undef))/\VR gO v v'/\Rel K w0 gO h' w'/\ρ.le gO/\(∀b,b≠bU->gO b=ρ b)
section
variable{P:Program}{K:Kp}{w0 w:World}{ρ:dR}{h:aN}{bU:Nat}
theorem cV.val{v:AV}{v':Value}{r:Result Next}(R:Rel K w0 ρ h w)(hv:VR ρ v v')(hr:r=.ok (.value v') w):cV K w0 ρ bU h v r:=
 ⟨.value v',v',w,ρ,hr,.inl rfl,hv,R,dR.le_refl _,λ_ _=>rfl⟩
theorem nj{k:IntKind}{n:Int}:VR ρ (.int k n) (.int k n):=by simp[VR]
theorem xS{b:Bool}:VR ρ (.bool b) (.bool b):=by simp[VR]
theorem Bn{j k:IntKind}(h:Be j k=true):j=k:=by cases j<;>cases k<;>simp_all [Be]
theorem zk:∀(a b:List UInt8),qf a b=(a==b)
 |[],[]=>rfl
 |[],_::_=>rfl
 |_::_,[]=>rfl
 |a::as,b::bs=>by
  rw[qf,zk as bs];have:(a.toNat==b.toNat)=(a==b):=by
   rw[Bool.eq_iff_iff];simp[UInt8.toNat_inj]
  rw[this];rfl
theorem Bo:∀(a b:List UInt8),qg a b=Op.bytesLess a b
 |[],[]=>rfl
 |[],_::_=>rfl
 |_::_,[]=>rfl
 |a::as,b::bs=>by
  rw[qg,Op.bytesLess,Bo as bs];have e1:Nat.blt a.toNat b.toNat=decide (a<b):=by
   rw[Bool.eq_iff_iff];simp[Nat.blt_eq,UInt8.lt_iff_toNat_lt]
  have e2:(a.toNat==b.toNat)=(a==b):=by
   rw[Bool.eq_iff_iff];simp[UInt8.toNat_inj]
  rw[e1,e2]
theorem HA{op:BinOp}{k:IntKind}{a b:Int}{v:AV}(t:TypeId)(hb:kK op k a b=some v):∃v',(binOp op t (.int k a) (.int k b)).run P w=.ok v' w/\VR ρ v v':=by
 cases op<;>simp only[kK]at hb<;>first|(cases hb;done)|skip
 case quo=>split at hb<;>first|(cases hb;done)|(rename_i hz;cases hb;exact⟨_,by simp[binOp,Op.intDiv,hz],nj⟩)
 case rem=>split at hb<;>first|(cases hb;done)|(rename_i hz;cases hb;exact⟨_,by simp[binOp,Op.intDiv,hz],nj⟩)
 all_goals (cases hb;first|exact⟨_,by simp[binOp,Op.intArith,Op.intBits,Op.intCmp],nj⟩|exact⟨_,by simp[binOp,Op.intCmp],xS⟩)
theorem HB{op:BinOp}{a b:ByteArray}{v:AV}(t:TypeId)(hb:o7 op a.data.toList b.data.toList=some v):∃v',(binOp op t (.string a) (.string b)).run P w=.ok v' w/\VR ρ v v':=by
 have ea:=ByteArray.toList_eq a;have eb:=ByteArray.toList_eq b;cases op<;>simp only[o7]at hb<;>first|(cases hb;done)|skip
 case add=>
  split at hb
  .rename_i oT;cases hb;have h1:¬((a.size+b.size:Nat):Int)>i64.max:=by
    have e1:a.data.toList.length=a.size:=by rw[Array.length_toList];rfl
    have e2:b.data.toList.length=b.size:=by rw[Array.length_toList];rfl
    rw[max_i64];omega
   exact⟨.string (a++b),by simp only[binOp,Op.stringOp];rw[aq h1];rfl,⟨_,rfl,Go.Joins.data_append a b⟩⟩
  .cases hb
 all_goals (cases hb;exact⟨_,by simp[binOp,Op.stringOp,ea,eb,zk,Bo],xS⟩)
theorem NG{op:BinOp}{x y v:AV}{x' y':Value}(t:TypeId)(hb:Hu op x y=some v)(hx:VR ρ x x')(hy:VR ρ y y'):∃v',(binOp op t x' y').run P w=.ok v' w/\VR ρ v v'/\∀X Y,eqGuard op t X Y x' y'=pure ():=by
 unfold Hu at hb;split at hb
 .rename_i k a k' b;cases hx;cases hy;split at hb
  .split at hb
   .cases hb
   .rename_i hn;cases hb;exact⟨_,by simp[binOp,Op.shift,hn],nj,λX Y=>by simp only[eqGuard_at_int]⟩
  .split at hb
   .cases hb
   .rename_i hn;cases hb;exact⟨_,by simp[binOp,Op.shift,hn],nj,λX Y=>by simp only[eqGuard_at_int]⟩
  .split at hb
   .rename_i hk;have:=Bn hk;subst this;obtain⟨v',h1,h2⟩:=HA (P:=P) (w:=w) (ρ:=ρ) t hb;exact⟨v',h1,h2,λX Y=>by simp only[eqGuard_at_int]⟩
   .cases hb
 .obtain⟨bx,rfl,hbx⟩:=hx;obtain⟨by',rfl,HC⟩:=hy;rw[<-hbx,<-HC]at hb;obtain⟨v',h1,h2⟩:=HB (P:=P) (w:=w) (ρ:=ρ) t hb;exact⟨v',h1,h2,λX Y=>by simp only[eqGuard_at_string]⟩
 .cases hb
theorem RC{op:UnOp}{x v:AV}{x':Value}(hb:Vp op x=some v)(hx:VR ρ x x'):∃v',(Op.unary op x').run P w=.ok v' w/\VR ρ v v':=by
 unfold Vp at hb;split at hb
 .cases hx;cases hb;exact⟨_,by simp[Op.unary],xS⟩
 .cases hx;cases hb;exact⟨_,by simp[Op.unary,Op.intArith],nj⟩
 .cases hx;simp only[kK]at hb;cases hb;exact⟨_,by simp[Op.unary,Op.intBits],nj⟩
 .cases hb
end
section
variable{P:Program}{ρ:dR}
theorem uD:∀{d:Nat} {t:TypeId} {sh:List CK},cd P d t=some sh->sh.length=P.cellsOf t
 |0,_,_,h=>by simp[cd]at h
 |d+1,t,sh,h=>by
  unfold cd at h;split at h
  .split at h<;>first|(cases h;done)|(cases h;simp_all)
  .split at h<;>first|(cases h;done)|(cases h;simp_all)
  .split at h<;>first|(cases h;done)|(cases h;simp_all)
  .split at h
   .cases h
   .split at h
    .split at h
     .cases h;assumption
     .cases h
    .cases h
  .split at h
   .split at h
    .rename_i n e _ sh' _ hl;cases h;rw[hl.2,length_flatten];simp[hl.1]
    .cases h
   .cases h
  .cases h
theorem qk:∀{k1 k2:List CK} {as bs:List AV} {r:Bool},mG (k1++k2) as bs=some r->
 ∃r1 r2,mG k1 (as.take k1.length) (bs.take k1.length)=some r1/\mG k2 (as.drop k1.length) (bs.drop k1.length)=some r2/\r=(r1&&r2)
 |[],k2,as,bs,r,h=>⟨true,r,by simp[mG],by simpa using h,by simp⟩
 |k::k1,k2,as,bs,r,h=>by
  rw[cons_append]at h;unfold mG at h;split at h
  .rename_i e;cases e
  .rename_i k' ks' a as b bs e;injection e with e1 e2
   subst e1 e2;split at h
   .rename_i x y hx hy;cases h;obtain⟨r1,r2,h1,h2,rfl⟩:=qk hy;exact⟨x&&r1,r2,by simp[mG,hx,h1],by simpa using h2,by rw[Bool.and_assoc]⟩
   .cases h
  .cases h
theorem kO:∀{ks:List CK} {as bs:List AV} {r:Bool},mG ks as bs=some r->as.length=ks.length/\bs.length=ks.length
 |[],as,bs,r,h=>by
  unfold mG at h;split at h<;>simp_all
 |k::ks,as,bs,r,h=>by
  unfold mG at h;split at h
  .simp_all
  .rename_i k' ks' a as b bs e;injection e with e1 e2
   subst e1 e2;split at h
   .rename_i x y hx hy;have:=kO hy;simp[this]
   .cases h
  .cases h
theorem dK{t:TypeId}(h:(P.info? t).isSome=true)(w:World):(sizeOf t).run P w=.ok (P.cellsOf t) w:=by
 obtain⟨i,hi⟩:=isSome_iff_exists.1 h;simp[sizeOf,typeInfo,hi,Program.cellsOf]
theorem info_of_underlying{t:TypeId}(h:(P.underlying t).isSome=true):(P.info? t).isSome=true:=by
 unfold Program.underlying at h;cases hi:P.info? t with
 |none=>rw[hi]at h;cases h
 |some i=>rfl
theorem vE{t:TypeId}(h:(P.underlying t).isSome=true)(w:World):(isAgg t).run P w=.ok (cL P t) w:=by
 obtain⟨d,hd⟩:=isSome_iff_exists.1 h;unfold isAgg cL;rw[Sem.run_bind,run_underlying hd,hd];cases d<;>simp
theorem sU{t:TypeId}(h:(P.underlying t).isSome=true)(ha:cL P t=true)(cs:Array Value)(off:Nat)(w:World):
 (part t cs off).run P w=.ok (.agg (cs.extract off (off+P.cellsOf t))) w:=by
 unfold part;rw[Sem.run_bind,vE h];simp[ha,dK (info_of_underlying h)]
theorem sV{t:TypeId}(h:(P.underlying t).isSome=true)(ha:cL P t=false){cs:Array Value}{off:Nat}{v:Value}(hv:cs[off]?=some v) (w:World):
 (part t cs off).run P w=.ok v w:=by
 unfold part;rw[Sem.run_bind,vE h];simp[ha,hv]
theorem jX{d:Nat}{t:TypeId}{sh:List CK}(h:cd P d t=some sh):(P.underlying t).isSome=true:=by
 cases d with
 |zero=>simp[cd]at h
 |succ d=>
  unfold cd at h;split at h<;>first|(cases h;done)|(rename_i e;rw[e];rfl)|(rename_i e _;rw[e];rfl)
def EqAt(P:Program)(ρ:dR)(d:Nat)(t:TypeId)(sh:List CK):Prop:=
 ∀(D:Nat),d<=D->∀(as bs:List AV) (X Y:Array Value) (r:Bool) (w:World),fz ρ as X.toList->fz ρ bs Y.toList->mG sh as bs=some r->
  if cL P t=true then(Op.equalIn D t (.agg X) (.agg Y)).run P w=.ok r w
  else∃x y,X=#[x]/\Y=#[y]/\(Op.equalIn D t x y).run P w=.ok r w
theorem jH{as:List AV}{X:Array Value}(h:fz ρ as X.toList)(o k:Nat):fz ρ ((as.drop o).take k) (X.extract o (o+k)).toList:=by
 rw[Array.toList_extract,extract_eq_take_drop];have e:o+k-o=k:=Z;rw[e];exact(h.drop o).take k
theorem rO{d:Nat}{t:TypeId}{sh:List CK}(hs:cd P d t=some sh)(X:Array Value)(o:Nat):
 (cL P t=true->∀w:World,(part t X o).run P w=.ok (.agg (X.extract o (o+sh.length))) w)/\
 (cL P t=false->∀x,X.extract o (o+sh.length)=#[x]->∀w:World,(part t X o).run P w=.ok x w):=by
 have hu:=jX hs;have eV:=uD hs;refine⟨λha w=>by rw[sU hu ha,eV],λha x hx w=>sV hu ha ?_ w⟩;have h1:(X.extract o (o+sh.length))[0]?=some x:=by rw[hx];rfl
 have h2:0<(X.extract o (o+sh.length)).size:=by rw[hx];simp
 rw[Array.getElem?_extract]at h1;split at h1
 .simpa using h1
 .cases h1
theorem Dk{d:Nat}(ih:∀{t:TypeId} {sh:List CK},cd P d t=some sh->EqAt P ρ d t sh):
 ∀(fs:List Field) (o:Nat) (sh:List CK),cd.sP (cd P d) o fs=some sh->∀(D:Nat),d<=D->∀(as bs:List AV) (X Y:Array Value) (r:Bool) (w:World),
  fz ρ as X.toList->fz ρ bs Y.toList->mG sh (as.drop o) (bs.drop o)=some r->(Op.eqFields D X Y fs).run P w=.ok r w
 |[],o,sh,hs,D,hD,as,bs,X,Y,r,w,hx,hy,hr=>by
  simp only[cd.sP]at hs;cases hs;have:=kO hr;simp only[length_nil,length_drop]at this;have e1:as.drop o=[]:=drop_eq_nil_of_le Z;have e2:bs.drop o=[]:=drop_eq_nil_of_le Z;rw[e1,e2]at hr;simp only[mG]at hr;cases hr;simp[Op.eqFields]
 |f::fs,o,sh,hs,D,hD,as,bs,X,Y,r,w,hx,hy,hr=>by
  simp only[cd.sP]at hs;split at hs
  .cases hs
  .rename_i dO;split at hs
   .rename_i s1 h1;split at hs
    .rename_i s2 h2;cases hs;have pE:f.name≠ "_":=λe=>dO (.inl e)
     have RD:f.offset=o:=Classical.byContradiction λe=>dO (.inr e)
     obtain⟨r1,r2,p1,p2,rfl⟩:=qk hr;rw[drop_drop,drop_drop]at p2;have mw:=Dk ih fs (o+s1.length) s2 h2 D hD as bs X Y r2 w hx hy p2;have hE:=ih h1 D hD _ _ (X.extract o (o+s1.length)) (Y.extract o (o+s1.length)) r1 w (jH hx o s1.length) (jH hy o s1.length) p1;simp only[Op.eqFields,pE,ne_eq,not_false_eq_true,if_true,RD,Sem.run_bind];obtain⟨Vs,Vt⟩:=rO h1 X o;obtain⟨py1,py2⟩:=rO h1 Y o;by_cases ha:cL P f.type=true
     .rw[aG ha]at hE;rw[Vs ha,Result.andThen_ok,py1 ha,Result.andThen_ok,hE,Result.andThen_ok];cases r1
      .simp
      .simpa using mw
     .rw[aq ha]at hE;obtain⟨x,y,ex,ey,hE⟩:=hE;have RE:cL P f.type=false:=by simpa using ha
      rw[Vt RE x ex,Result.andThen_ok,py2 RE y ey,Result.andThen_ok,hE,Result.andThen_ok];cases r1
      .simp
      .simpa using mw
    .cases hs
   .cases hs
theorem FE{d:Nat}{e:TypeId}{sh:List CK}(hs:cd P d e=some sh)(hE:EqAt P ρ d e sh):
 ∀(m i:Nat) (D:Nat),d<=D->∀(as bs:List AV) (X Y:Array Value) (r:Bool) (w:World),
  fz ρ as X.toList->fz ρ bs Y.toList->mG (replicate m sh).flatten (as.drop (i*sh.length)) (bs.drop (i*sh.length))=some r->(Op.eqItems D e sh.length X Y (range' i m)).run P w=.ok r w
 |0,i,D,hD,as,bs,X,Y,r,w,hx,hy,hr=>by
  simp only[replicate_zero,flatten_nil]at hr;have:=kO hr;simp only[length_nil,length_drop]at this;rw[drop_eq_nil_of_le Z,drop_eq_nil_of_le Z]at hr;simp only[mG]at hr;cases hr;simp[Op.eqItems]
 |m+1,i,D,hD,as,bs,X,Y,r,w,hx,hy,hr=>by
  rw[replicate_succ,flatten_cons]at hr;obtain⟨r1,r2,p1,p2,rfl⟩:=qk hr;rw[drop_drop,drop_drop]at p2;have ei:i*sh.length+sh.length=(i+1)*sh.length:=by rw[Nat.succ_mul]
  rw[ei]at p2;have mw:=FE hs hE m (i+1) D hD as bs X Y r2 w hx hy p2;have hF:=hE D hD _ _ (X.extract (i*sh.length) (i*sh.length+sh.length)) (Y.extract (i*sh.length) (i*sh.length+sh.length)) r1 w (jH hx _ _) (jH hy _ _) p1;obtain⟨Vs,Vt⟩:=rO hs X (i*sh.length);obtain⟨py1,py2⟩:=rO hs Y (i*sh.length);rw[range'_succ];simp only[Op.eqItems,Sem.run_bind];by_cases ha:cL P e=true
  .rw[aG ha]at hF;rw[Vs ha,Result.andThen_ok,py1 ha,Result.andThen_ok,hF,Result.andThen_ok];cases r1
   .simp
   .simpa using mw
  .rw[aq ha]at hF;obtain⟨x,y,ex,ey,hF⟩:=hF;have RE:cL P e=false:=by simpa using ha
   rw[Vt RE x ex,Result.andThen_ok,py2 RE y ey,Result.andThen_ok,hF,Result.andThen_ok];cases r1
   .simp
   .simpa using mw
theorem jP{as:List AV}{X:Array Value}(h:fz ρ as X.toList)(hl:as.length=1):∃a x,as=[a]/\X=#[x]/\VR ρ a x:=by
 match as,hl with
 |[a],_=>
  obtain⟨v,vs,e,h1,h2⟩:=h;simp only[fz]at h2;subst h2;exact⟨a,v,rfl,by apply Array.ext';simpa using e,h1⟩
theorem Bp{a b:AV}{r:Bool}(h:zg .b a b=some r):∃x y,a=.bool x/\b=.bool y/\r=(x==y):=by
 unfold zg at h;split at h
 .cases h;exact⟨_,_,rfl,rfl,rfl⟩
 .contradiction
 .contradiction
 .cases h
theorem Bq{a b:AV}{r:Bool}(h:zg .i a b=some r):∃k x y,a=.int k x/\b=.int k y/\r=(x==y):=by
 unfold zg at h;split at h
 .contradiction
 .split at h
  .rename_i hk;have:=Bn hk;subst this;cases h;exact⟨_,_,_,rfl,rfl,rfl⟩
  .cases h
 .contradiction
 .cases h
theorem Br{a b:AV}{r:Bool}(h:zg .s a b=some r):∃x y,a=.fN x/\b=.fN y/\r=(x==y):=by
 unfold zg at h;split at h
 .contradiction
 .contradiction
 .cases h;exact⟨_,_,rfl,rfl,zk _ _⟩
 .cases h
theorem Bs{k:CK}{a b:AV}{r:Bool}(h:mG [k] [a] [b]=some r):zg k a b=some r:=by
 simp only[mG]at h;cases hp:zg k a b with
 |none=>rw[hp]at h;cases h
 |some x=>rw[hp]at h;simpa using h
theorem Bt:∀{d:Nat} {t:TypeId} {sh:List CK},cd P d t=some sh->EqAt P ρ d t sh
 |0,_,_,h=>by simp[cd]at h
 |d+1,t,sh,h=>by
  intro D hD as bs X Y r w hx hy hr;obtain⟨D,rfl⟩:∃D',D=D'+1:=⟨D-1,Z⟩;have h0:=h;unfold cd at h;split at h
  .rename_i hu;split at h<;>cases h;have jQ:cL P t=false:=by simp[cL,hu]
   rw[jQ,aq (by simp)];obtain⟨l1,l2⟩:=kO hr;obtain⟨a,x,rfl,rfl,Nh⟩:=jP hx l1;obtain⟨b,y,rfl,rfl,HC⟩:=jP hy l2;refine⟨x,y,rfl,rfl,?_⟩;obtain⟨p,q,rfl,rfl,rfl⟩:=Bp (Bs hr);cases Nh;cases HC;simp[Op.equalIn,run_underlying hu]
  .rename_i hu;split at h<;>cases h;have jQ:cL P t=false:=by simp[cL,hu]
   rw[jQ,aq (by simp)];obtain⟨l1,l2⟩:=kO hr;obtain⟨a,x,rfl,rfl,Nh⟩:=jP hx l1;obtain⟨b,y,rfl,rfl,HC⟩:=jP hy l2;refine⟨x,y,rfl,rfl,?_⟩;obtain⟨k,p,q,rfl,rfl,rfl⟩:=Bq (Bs hr);cases Nh;cases HC;simp[Op.equalIn,run_underlying hu]
  .rename_i hu;split at h<;>cases h;have jQ:cL P t=false:=by simp[cL,hu]
   rw[jQ,aq (by simp)];obtain⟨l1,l2⟩:=kO hr;obtain⟨a,x,rfl,rfl,Nh⟩:=jP hx l1;obtain⟨b,y,rfl,rfl,HC⟩:=jP hy l2;refine⟨x,y,rfl,rfl,?_⟩;obtain⟨p,q,rfl,rfl,rfl⟩:=Br (Bs hr);obtain⟨p',rfl,hp⟩:=Nh;obtain⟨q',rfl,hq⟩:=HC;rw[run_equalIn_string w D t p' q' hu,ByteArray.toList_eq,ByteArray.toList_eq,hp,hq]
  .rename_i fs hu;split at h
   .cases h
   .rename_i wZ;split at h
    .rename_i sh' hf;split at h<;>cases h;have jQ:cL P t=true:=by simp[cL,hu]
     rw[aG jQ];have hfo:P.fieldsOf t=fs:=by simp[Program.fieldsOf,hu]
     rw[run_equalIn_struct w D t X Y (by rw[hfo];exact hu) (by simpa using wZ),hfo];exact Dk (λh=>Bt h) fs.toList 0 _ hf D Z as bs X Y r w hx hy (by simpa using hr)
    .cases h
  .rename_i n e hu;split at h
   .rename_i sh' he;split at h
    .rename_i hl;cases h;have jQ:cL P t=true:=by simp[cL,hu]
     rw[aG jQ];obtain⟨i,hi⟩:=isSome_iff_exists.1 (info_of_underlying (jX he));rw[run_equalIn_array w D X Y hu hi,<-hl.1,range_eq_range'];exact FE he (Bt he) n 0 D Z as bs X Y r w hx hy (by simpa using hr)
    .cases h
   .cases h
  .cases h
end
theorem Pl.Bu(p:Pl)(i o n:Nat):(p.lA i o).add n=p.lA i (o+n):=by
 unfold Addr.add Pl.lA;split
 .rename_i h;subst h;rfl
 .simp only[Addr.mk.injEq,and_true,true_and];omega
theorem Pl.xT(p:Pl)(i k:Nat){bZ:Nat}(h:p.bZ=bZ):(p.lA i 0).add (k*bZ)=p.lA (i+k) 0:=by
 rw[Pl.Bu];subst h;simp only[Pl.lA,Addr.mk.injEq,and_true,true_and,Nat.add_mul];omega
section
variable{P:Program}{aM:Nat->Option AV}{K:Kp}{w0 w:World}{ρ:dR}{h:aN}{bU:Nat}{T:Tr}{a:Act}{o:Oper}
theorem Zx(R:Rel K w0 ρ h w)(hg:GR aM ρ)(ht:TR ρ T a){x:Operand}{ax:bE}(ho:o.op=.move x\/o.op=.assign x)(hx:bO aM x=some ax):
 cV K w0 ρ bU h (cP T ax) ((execOp a.eval o).run P w):=by
 have hr:=ch hg ht hx;rcases ho with ho|ho<;>exact cV.val R hr (by simp[execOp,ho])
theorem NH(R:Rel K w0 ρ h w)(hg:GR aM ρ)(ht:TR ρ T a){c x y:Operand}{ac ax ay:bE}{b:Bool}(ho:o.op=.pick c x y)(hc:bO aM c=some ac)
 (hx:bO aM x=some ax) (hy:bO aM y=some ay) (hb:cP T ac=.bool b):cV K w0 ρ bU h (if b then cP T ax else cP T ay) ((execOp a.eval o).run P w):=by
 have hrc:=ch hg ht hc;rw[hb]at hrc;have e:a.eval c=.bool b:=hrc;have rP:=ch hg ht hx;have YE:=ch hg ht hy;cases b
 .exact cV.val R YE (by simp[execOp,ho,e,asBool])
 .exact cV.val R rP (by simp[execOp,ho,e,asBool])
theorem NI(R:Rel K w0 ρ h w)(hg:GR aM ρ)(ht:TR ρ T a){x:Operand}{ax:bE}(ho:o.op=.nilCheck x)(hx:bO aM x=some ax)
 (hv:(∃b i f,cP T ax=.ptr b i f)\/∃f c d,cP T ax=.func f c d):cV K w0 ρ bU h (cP T ax) ((execOp a.eval o).run P w):=by
 have hr:=ch hg ht hx;rcases hv with⟨b,i,f,e⟩|⟨f,c,d,e⟩
 .rw[e]at hr|-;obtain⟨p,hp,ev⟩:=hr;exact cV.val R ⟨p,hp,rfl⟩ (by simp[execOp,ho,ev])
 .rw[e]at hr|-;obtain⟨x',y',ev,h1⟩:=hr;exact cV.val R ⟨x',y',rfl,h1⟩ (by simp[execOp,ho,ev])
theorem Zy(R:Rel K w0 ρ h w)(hg:GR aM ρ)(ht:TR ρ T a){op:BinOp}{t u:TypeId}{x y:Operand}{ax ay:bE}{v:AV}(ho:o.op=.binOp op t x y u)(hx:bO aM x=some ax)(hy:bO aM y=some ay)
 (hv:Hu op (cP T ax) (cP T ay)=some v):cV K w0 ρ bU h v ((execOp a.eval o).run P w):=by
 obtain⟨v',h1,h2,h3⟩:=NG (P:=P) (w:=w) t hv (ch hg ht hx) (ch hg ht hy);exact cV.val R h2 (by simp[execOp,ho,h3,h1])
theorem Ag3(R:Rel K w0 ρ h w)(hg:GR aM ρ)(ht:TR ρ T a){op:UnOp}{t:TypeId}{x:Operand}{ax:bE}{v:AV}(ho:o.op=.unOp op t x)(hx:bO aM x=some ax)
 (hv:Vp op (cP T ax)=some v):cV K w0 ρ bU h v ((execOp a.eval o).run P w):=by
 obtain⟨v',h1,h2⟩:=RC (P:=P) (w:=w) hv (ch hg ht hx);exact cV.val R h2 (by simp[execOp,ho,h1])
theorem Es{d:Nat}{t:TypeId}{sh:List CK}(hs:cd P d t=some sh)(hd:d<=10000){x y:AV}{x' y':Value}{b:Bool}(hb:uv (cL P t) sh x y=some b)(hx:VR ρ x x')(hy:VR ρ y y'):
 (Op.equal t x' y').run P w=.ok b w:=by
 have hE:=Bt (ρ:=ρ) hs 10000 hd;unfold Op.equal Op.maxDepth;unfold uv at hb;split at hb
 .rename_i ha;split at hb
  .obtain⟨X,rfl,h1⟩:=hx;obtain⟨Y,rfl,h2⟩:=hy;have:=hE _ _ X Y b w h1 h2 hb;rw[aG ha]at this;exact this
  .cases hb
 .rename_i ha;split at hb
  .rename_i k;have h1:fz ρ [x] (#[x']:Array Value).toList:=⟨x',[],rfl,hx,rfl⟩;have h2:fz ρ [y] (#[y']:Array Value).toList:=⟨y',[],rfl,hy,rfl⟩;have:=hE [x] [y] #[x'] #[y'] b w h1 h2 (by simp[mG,hb]);rw[aq ha]at this;obtain⟨p,q,e1,e2,h3⟩:=this;cases e1;cases e2;exact h3
  .cases hb
theorem FF{op:BinOp}{t:TypeId}{X Y:Operand}{d:Nat}{sh:List CK}(hs:cd P d t=some sh)(RB:P.eqGuardType P.depth t=false){x y:AV}{x' y':Value}{b:Bool}(hb:uv (cL P t) sh x y=some b)(hx:VR ρ x x')(hy:VR ρ y y'):
 (eqGuard op t X Y x' y').run P w=.ok () w:=by
 unfold uv at hb;split at hb
 .split at hb
  .obtain⟨p,rfl,_⟩:=hx;obtain⟨q,rfl,_⟩:=hy;exact run_eqGuard_agg w op t X Y p q RB
  .cases hb
 .split at hb
  .rename_i k;cases k
   .obtain⟨p,q,rfl,rfl,_⟩:=Bp hb;cases hx;cases hy;rw[eqGuard_at_bool];rfl
   .obtain⟨k,p,q,rfl,rfl,_⟩:=Bq hb;cases hx;cases hy;rw[eqGuard_at_int];rfl
   .obtain⟨p,q,rfl,rfl,_⟩:=Br hb;obtain⟨p',rfl,_⟩:=hx;obtain⟨q',rfl,_⟩:=hy;rw[eqGuard_at_string];rfl
  .cases hb
theorem Lu{op:BinOp}(Ni:op=.eql\/op=.neq){t:TypeId}{d:Nat}{sh:List CK}(hs:cd P d t=some sh)(hd:d<=10000){x y:AV}{x' y':Value}{b:Bool}(hb:uv (cL P t) sh x y=some b)(hx:VR ρ x x')(hy:VR ρ y y'):
 (binOp op t x' y').run P w=.ok (.bool (if op=.neq then !b else b)) w:=by
 have hE:=Es (w:=w) hs hd hb hx hy;unfold uv at hb;split at hb
 .split at hb
  .obtain⟨p,rfl,_⟩:=hx;obtain⟨q,rfl,_⟩:=hy;rcases Ni with rfl|rfl<;>simp[binOp,hE]
  .cases hb
 .split at hb
  .rename_i k;cases k
   .obtain⟨p,q,rfl,rfl,_⟩:=Bp hb;cases hx;cases hy;rcases Ni with rfl|rfl<;>simp[binOp,hE]
   .obtain⟨k,p,q,rfl,rfl,sK⟩:=Bq hb;cases hx;cases hy;subst sK;rcases Ni with rfl|rfl<;>simp[binOp,Op.intCmp,bne]
   .obtain⟨p,q,rfl,rfl,sK⟩:=Br hb;obtain⟨p',rfl,hp⟩:=hx;obtain⟨q',rfl,hq⟩:=hy;subst sK;rcases Ni with rfl|rfl<;>simp[binOp,Op.stringOp,ByteArray.toList_eq,hp,hq]
  .cases hb
theorem Zz(R:Rel K w0 ρ h w)(hg:GR aM ρ)(ht:TR ρ T a){op:BinOp}(Ni:op=.eql\/op=.neq){t u:TypeId}{x y:Operand}{ax ay:bE}{sh:List CK}{b:Bool}(ho:o.op=.binOp op t x y u)
 (hs:cd P 20 t=some sh) (RB:P.eqGuardType P.depth t=false) (hx:bO aM x=some ax) (hy:bO aM y=some ay) (hb:uv (cL P t) sh (cP T ax) (cP T ay)=some b):
 cV K w0 ρ bU h (.bool (if op=.neq then !b else b)) ((execOp a.eval o).run P w):=by
 have rP:=ch hg ht hx;have YE:=ch hg ht hy;have h1:=FF (w:=w) (op:=op) (X:=x) (Y:=y) hs RB hb rP YE;have h2:=Lu (w:=w) Ni hs aZ hb rP YE;exact cV.val R xS (by simp[execOp,ho,h1,h2])
theorem RG(R:Rel K w0 ρ h w)(hg:GR aM ρ)(ht:TR ρ T a){t:TypeId}{x:Operand}{ax:bE}(ho:o.op=.makeInterface t x)(hx:bO aM x=some ax)
 (hn:(∀ms,P.underlying t≠some (.interface ms))/\P.underlying t≠none):cV K w0 ρ bU h (.iface t (cP T ax)) ((execOp a.eval o).run P w):=by
 have hr:=ch hg ht hx;refine cV.val R ⟨a.eval x,rfl,hr⟩ ?_;cases hu:P.underlying t with
 |none=>exact absurd hu hn.2
 |some d=>
  simp only[execOp,ho,Instr.makeInterface,Sem.run_bind,run_underlying hu,Result.andThen_ok];cases d<;>first|(exact absurd hu (hn.1 _))|simp
theorem NJ(R:Rel K w0 ρ h w)(hg:GR aM ρ)(ht:TR ρ T a){f:FuncId}{xs ys:Array Operand}{Hn ays:List bE}(ho:o.op=.makeFunc (.func f) xs ys)(hx:mK aM xs.toList=some Hn)(hy:mK aM ys.toList=some ays):
 cV K w0 ρ bU h (.func f (Hn.map (cP T)) (ays.map (cP T))) ((execOp a.eval o).run P w):=by
 have h1:=ni hg ht hx;have h2:=ni hg ht hy;exact cV.val R ⟨xs.map a.eval,ys.map a.eval,rfl,by simpa using h1,by simpa using h2⟩ (by simp[execOp,ho,Instr.makeFunc])
theorem NL(R:Rel K w0 ρ h w)(hg:GR aM ρ)(ht:TR ρ T a){s:TypeId}{x:Operand}{f:Nat}{fs:Array Field}{fd:Field}{ax:bE}{b i k:Nat}(ho:o.op=.fieldAddr s x f)(hu:P.underlying s=some (.struct fs))(hf:fs[f]?=some fd)
 (hz:P.cellsOf fd.type≠0) (hx:bO aM x=some ax) (hv:cP T ax=.ptr b i k):cV K w0 ρ bU h (.ptr b i (k+fd.offset)) ((execOp a.eval o).run P w):=by
 have hr:=ch hg ht hx;rw[hv]at hr;obtain⟨p,hp,ev⟩:=hr;refine cV.val R ⟨p,hp,rfl⟩ ?_;have hi:(P.info? fd.type).isSome=true:=by
  unfold Program.cellsOf at hz;cases h:P.info? fd.type with
  |none=>rw[h]at hz;exact absurd rfl hz
  |some _=>rfl
 simp only[execOp,ho,Instr.fieldAt,Sem.run_bind,run_underlying hu,Result.andThen_ok,hf,ev,Instr.sureAddr,Sem.run_pure,fieldPlace,dK hi,hz,if_false,Pl.Bu]
theorem ZA(R:Rel K w0 ρ h w)(hg:GR aM ρ)(ht:TR ρ T a){x:Operand}{i:Nat}{ax:bE}{vs:List AV}{v:AV}(ho:o.op=.extract x i)(hx:bO aM x=some ax)(hv:cP T ax=.tuple vs)(hi:vs[i]?=some v):
 cV K w0 ρ bU h v ((execOp a.eval o).run P w):=by
 have hr:=ch hg ht hx;rw[hv]at hr;obtain⟨c',ev,h1⟩:=hr;obtain⟨v',Et,hvr⟩:=h1.get hi;have e:c'[i]?=some v':=by simpa using Et
 exact cV.val R hvr (by simp[execOp,ho,ev,Instr.extract,e])
theorem Lv(R:Rel K w0 ρ h w)(hg:GR aM ρ)(ht:TR ρ T a){x:Operand}{xt t:TypeId}{ok:Bool}{ax:bE}{v:AV}(ho:o.op=.typeAssert x xt t ok)(hx:bO aM x=some ax)
 (hn:(∀ms,P.underlying t≠some (.interface ms))/\P.underlying t≠none) (hv:cP T ax=.iface t v):cV K w0 ρ bU h (if ok then .tuple [v,.bool true]else v) ((execOp a.eval o).run P w):=by
 have hr:=ch hg ht hx;rw[hv]at hr;obtain⟨x',ev,h1⟩:=hr;have key:(Instr.typeAssert (.iface t x') xt t ok).run P w=.ok (if ok then .tuple #[x',.bool true]else x') w:=by
  cases hu:P.underlying t with
  |none=>exact absurd hu hn.2
  |some d=>
   simp only[Instr.typeAssert,Sem.run_bind,run_underlying hu,Result.andThen_ok];cases d<;>first|(exact absurd hu (hn.1 _))|simp
 cases ok
 .exact cV.val R h1 (by simp[execOp,ho,ev,key])
 .exact cV.val R (v':=.tuple #[x',.bool true]) ⟨#[x',.bool true],rfl,⟨x',[.bool true],rfl,h1,⟨_,[],rfl,rfl,rfl⟩⟩⟩ (by simp[execOp,ho,ev,key])
theorem Jp(R:Rel K w0 ρ h w)(hg:GR aM ρ)(ht:TR ρ T a){s:TypeId}{x:Operand}{f:Nat}{fs:Array Field}{fd:Field}{ax:bE}{cs:List AV}{v:AV}(ho:o.op=.field s x f)(hu:P.underlying s=some (.struct fs))(hf:fs[f]?=some fd)
 (hd:(P.underlying fd.type).isSome=true) (hx:bO aM x=some ax) (hv:cP T ax=.agg cs) (hl:fd.offset+P.cellsOf fd.type<=cs.length)
 (hr:if cL P fd.type=true then v=.agg ((cs.drop fd.offset).take (P.cellsOf fd.type))else(cs.drop fd.offset).take (P.cellsOf fd.type)=[v]):cV K w0 ρ bU h v ((execOp a.eval o).run P w):=by
 have Lw:=ch hg ht hx;rw[hv]at Lw;obtain⟨c',ev,h1⟩:=Lw;have key:∀v',(part fd.type c' fd.offset).run P w=.ok v' w->(execOp a.eval o).run P w=.ok (.value v') w:=by
  intro v' hp;simp only[execOp,ho,Instr.field,Sem.run_bind,run_underlying hu,Result.andThen_ok,hf,ev,asAgg,Sem.run_pure,hp]
 have h2:=jH h1 fd.offset (P.cellsOf fd.type);by_cases ha:cL P fd.type=true
 .rw[aG ha]at hr;subst hr;exact cV.val R ⟨_,rfl,h2⟩ (key _ (sU hd ha _ _ w))
 .rw[aq ha]at hr;rw[hr]at h2;obtain⟨x',vs,e1,h3,h4⟩:=h2;have mB:c'[fd.offset]?=some x':=by
   have:((cs.drop fd.offset).take (P.cellsOf fd.type))[0]?=some v:=by rw[hr];rfl
   rw[getElem?_take]at this;split at this
   .rw[getElem?_drop,Nat.add_zero]at this;obtain⟨y,hy,_⟩:=h1.get this;have h5:(c'.extract fd.offset (fd.offset+P.cellsOf fd.type)).toList[0]?=some x':=by rw[e1];rfl
    rw[Array.getElem?_toList,Array.getElem?_extract]at h5;split at h5
    .simpa using h5
    .cases h5
   .cases this
  exact cV.val R h3 (key _ (sV hd (by simpa using ha) mB w))
end
section
variable{P:Program}{aM:Nat->Option AV}{K:Kp}{w0 w:World}{ρ:dR}{h:aN}{bU:Nat}{T:Tr}{a:Act}{o:Oper}
theorem rQ(R:Rel K w0 ρ h w){b:Nat}{bS:Bool}{e:Nat}{es:List (List AV)}{p:Pl}(hb:aj h b=some (.row bS e es))(hp:ρ b=some p):p.bZ=e:=by
 obtain⟨q,hq,hB⟩:=R.mV b _ hb;have:q=p:=Option.some.inj (hq.symm.trans hp);subst this;exact hB.1
theorem Vu(R:Rel K w0 ρ h w)(hg:GR aM ρ)(ht:TR ρ T a){t e:TypeId}{x i:Operand}{ax ai:bE}{b j n:Nat}{c:Option Nat}{k:IntKind}{m:Int}{bS:Bool}{es:List (List AV)}(ho:o.op=.indexAddr t x i)(hu:P.underlying t=some (.slice e))
 (hx:bO aM x=some ax) (hi:bO aM i=some ai) (hv:cP T ax=.slice b j n c) (hm:cP T ai=.int k m) (hb:aj h b=some (.row bS (P.cellsOf e) es)) (he:(P.info? e).isSome=true) (h0:0<=m) (jU:m.toNat<n):
 cV K w0 ρ bU h (.ptr b (j+m.toNat) 0) ((execOp a.eval o).run P w):=by
 have rP:=ch hg ht hx;have NM:=ch hg ht hi;rw[hv]at rP;rw[hm]at NM;obtain⟨p,ad,cap,hp,ex,oT,hk,_⟩:=rP;have ei:a.eval i=.int k m:=NM;have Fo:ad=p.lA j 0:=by
  rcases hk with h|h
  .omega
  .exact h.1
 subst Fo;refine cV.val R ⟨p,hp,rfl⟩ ?_;have uw:0<=m/\m<(n:Int):=⟨h0,Z⟩;simp only[execOp,ho,Instr.indexAt,Sem.run_bind,run_underlying hu,Result.andThen_ok,ei,asIntOf,Sem.run_pure,ex,uw,and_self,if_true,dK he,Pl.xT p j m.toNat (rQ R hb hp)]
theorem Vv(R:Rel K w0 ρ h w)(hg:GR aM ρ)(ht:TR ρ T a){t e:TypeId}{x i:Operand}{ax ai:bE}{b j f n:Nat}{k:IntKind}{m:Int}{bS:Bool}{es:List (List AV)}{ZB:Nat}(ho:o.op=.indexAddr t x i)(hu:P.underlying t=some (.array n e))
 (hx:bO aM x=some ax) (hi:bO aM i=some ai) (hv:cP T ax=.ptr b j f) (hm:cP T ai=.int k m) (hb:aj h b=some (.row bS ZB es)) (he:(P.info? e).isSome=true) (h0:0<=m) (jU:m.toNat<n):
 cV K w0 ρ bU h (if ZB=P.cellsOf e/\f=0 then .ptr b (j+m.toNat) 0 else .ptr b j (f+m.toNat*P.cellsOf e)) ((execOp a.eval o).run P w):=by
 have rP:=ch hg ht hx;have NM:=ch hg ht hi;rw[hv]at rP;rw[hm]at NM;obtain⟨p,hp,ex⟩:=rP;have ei:a.eval i=.int k m:=NM;have uw:0<=m/\m<(n:Int):=⟨h0,Z⟩;have key:(execOp a.eval o).run P w=.ok (.value (.pointer (some ((p.lA j f).add (m.toNat*P.cellsOf e))))) w:=by
  simp only[execOp,ho,Instr.indexAt,Sem.run_bind,run_underlying hu,Result.andThen_ok,ei,asIntOf,Sem.run_pure,ex,Instr.sureAddr,uw,and_self,if_true,dK he]
 split
 .rename_i hc;obtain⟨NN,rfl⟩:=hc;exact cV.val R ⟨p,hp,rfl⟩ (by rw[key,Pl.xT p j m.toNat ((rQ R hb hp).trans NN)])
 .exact cV.val R ⟨p,hp,rfl⟩ (by rw[key,Pl.Bu])
theorem NO(R:Rel K w0 ρ h w)(hg:GR aM ρ)(ht:TR ρ T a){t e:TypeId}{x i:Operand}{ax ai:bE}{cs:List AV}{n:Nat}{k:IntKind}{m:Int}{v:AV}(ho:o.op=.index t x i)(hu:P.underlying t=some (.array n e))
 (hx:bO aM x=some ax) (hi:bO aM i=some ai) (hv:cP T ax=.agg cs) (hm:cP T ai=.int k m) (hd:(P.underlying e).isSome=true) (h0:0<=m) (jU:m.toNat<n)
 (hr:if cL P e=true then v=.agg ((cs.drop (m.toNat*P.cellsOf e)).take (P.cellsOf e))else(cs.drop (m.toNat*P.cellsOf e)).take (P.cellsOf e)=[v]):cV K w0 ρ bU h v ((execOp a.eval o).run P w):=by
 have rP:=ch hg ht hx;have NM:=ch hg ht hi;rw[hv]at rP;rw[hm]at NM;obtain⟨c',ex,h1⟩:=rP;have ei:a.eval i=.int k m:=NM;have uw:0<=m/\m<(n:Int):=⟨h0,Z⟩;have key:∀v',(part e c' (m.toNat*P.cellsOf e)).run P w=.ok v' w->(execOp a.eval o).run P w=.ok (.value v') w:=by
  intro v' hp;simp only[execOp,ho,Instr.index,Sem.run_bind,run_underlying hu,Result.andThen_ok,ei,asIntOf,Sem.run_pure,ex,uw,and_self,if_true,dK (info_of_underlying hd),hp]
 have h2:=jH h1 (m.toNat*P.cellsOf e) (P.cellsOf e);by_cases ha:cL P e=true
 .rw[aG ha]at hr;subst hr;exact cV.val R ⟨_,rfl,h2⟩ (key _ (sU hd ha _ _ w))
 .rw[aq ha]at hr;rw[hr]at h2;obtain⟨x',vs,e1,h3,h4⟩:=h2;have mB:c'[m.toNat*P.cellsOf e]?=some x':=by
   have h5:(c'.extract (m.toNat*P.cellsOf e) (m.toNat*P.cellsOf e+P.cellsOf e)).toList[0]?=some x':=by rw[e1];rfl
   rw[Array.getElem?_toList,Array.getElem?_extract]at h5;split at h5
   .simpa using h5
   .cases h5
  exact cV.val R h3 (key _ (sV hd (by simpa using ha) mB w))
theorem NP(R:Rel K w0 ρ h w)(hg:GR aM ρ)(ht:TR ρ T a){t:TypeId}{x i:Operand}{ax ai:bE}{s:List UInt8}{k:IntKind}{m:Int}{c:UInt8}(ho:o.op=.index t x i)(hu:P.underlying t=some .string)
 (hx:bO aM x=some ax) (hi:bO aM i=some ai) (hv:cP T ax=.fN s) (hm:cP T ai=.int k m) (h0:0<=m) (hc:s[m.toNat]?=some c):cV K w0 ρ bU h (.int .u8 c.toNat) ((execOp a.eval o).run P w):=by
 have rP:=ch hg ht hx;have NM:=ch hg ht hi;rw[hv]at rP;rw[hm]at NM;obtain⟨b,ex,hb⟩:=rP;have ei:a.eval i=.int k m:=NM;have mB:b[m.toNat]?=some c:=by
  rw[<-hb]at hc;rw[Array.getElem?_toList]at hc;obtain⟨jU,hcc⟩:=Array.getElem?_eq_some_iff.1 hc;have Ag4:m.toNat<b.size:=jU;rw[getElem?_pos b m.toNat Ag4];exact congrArg some hcc
 exact cV.val R nj (by simp only[execOp,ho,Instr.index,Sem.run_bind,run_underlying hu,Result.andThen_ok,ei,asIntOf,Sem.run_pure,ex,h0,if_true,mB])
theorem HD(R:Rel K w0 ρ h w)(hg:GR aM ρ)(ht:TR ρ T a){s d:TypeId}{x:Operand}{ax:bE}{j k l:IntKind}{n:Int}(ho:o.op=.convert s d x)(hs:P.underlying s=some (.int j))(hd:P.underlying d=some (.int k))
 (hx:bO aM x=some ax) (hv:cP T ax=.int l n):cV K w0 ρ bU h (.int k (k.wrap n)) ((execOp a.eval o).run P w):=by
 have hr:=ch hg ht hx;rw[hv]at hr;have e:a.eval x=.int l n:=hr;exact cV.val R nj (by simp[execOp,ho,convert,run_underlying hs,run_underlying hd,e,Conv.intToInt])
theorem FG(R:Rel K w0 ρ h w)(hg:GR aM ρ)(ht:TR ρ T a){s d:TypeId}{x:Operand}{ax:bE}{l:List UInt8}(ho:o.op=.convert s d x)(hs:P.underlying s=some .string)(hd:P.underlying d=some .string)
 (hx:bO aM x=some ax) (hv:cP T ax=.fN l):cV K w0 ρ bU h (.fN l) ((execOp a.eval o).run P w):=by
 have hr:=ch hg ht hx;rw[hv]at hr;obtain⟨b,e,hb⟩:=hr;exact cV.val R ⟨b,rfl,hb⟩ (by simp[execOp,ho,convert,run_underlying hs,run_underlying hd,e])
theorem oU{Ry:Nat}{x:Option Operand}{ax:Option bE}{r cap:Nat}(hg:GR aM ρ)(ht:TR ρ T a)(hx:pg aM x=some ax)(hb:fH Ry (ax.map (cP T))=some r)(oT:r<=cap):
 (x=none/\ax=none/\r=Ry)\/(∃y ay,x=some y/\ax=some ay/\∀code,(Instr.sliceBound (a.eval y) cap code).run P w=.ok r w):=by
 rcases Vr hg ht hx with⟨rfl,rfl⟩|⟨y,ay,rfl,rfl,hr⟩
 .simp only[map_none,fH]at hb;cases hb;exact .inl ⟨rfl,rfl,rfl⟩
 .right;refine⟨y,ay,rfl,rfl,λcode=>?_⟩;simp only[map_some]at hb;unfold fH at hb;split at hb
  .rename_i e;cases e
  .rename_i k n e;split at hb
   .rename_i h0;cases hb;have e':=Option.some.inj e;rw[e']at hr;have ey:a.eval y=.int k n:=hr;have uw:0<=n/\n<=(cap:Int):=⟨h0,Z⟩;simp[Instr.sliceBound,ey,asIntOf,uw]
   .cases hb
  .cases hb
end
section
variable{P:Program}{aM:Nat->Option AV}{K:Kp}{w0 w:World}{ρ:dR}{h:aN}{bU:Nat}{T:Tr}{a:Act}{o:Oper}
theorem pF(hg:GR aM ρ)(ht:TR ρ T a)(isSlice:Bool){len cap:Nat}{lo hi mx:Option Operand}{Jq Jr Bv:Option bE}(Ew:pg aM lo=some Jq)(Ho:pg aM hi=some Jr)(Nj:pg aM mx=some Bv)
 {l hh m C:Nat} (bl:fH 0 (Jq.map (cP T))=some l) (bh:fH len (Jr.map (cP T))=some hh) (bm:fH C (Bv.map (cP T))=some m) (h1:l<=hh) (h2:hh<=m) (h3:m<=C) (h4:C<=cap) (Dl:mx=none\/hi≠none):
 (Instr.sliceBounds isSlice len cap (lo.map a.eval) (hi.map a.eval) (mx.map a.eval)).run P w=.ok (l,hh,if Bv.isSome then m else cap) w:=by
 rcases oU (P:=P) (w:=w) (cap:=cap) hg ht Nj bm Z with⟨rfl,rfl,rfl⟩|⟨ym,aym,rfl,rfl,km⟩
 .rcases oU (P:=P) (w:=w) (cap:=cap) hg ht Ho bh Z with⟨rfl,rfl,rfl⟩|⟨yh,ayh,rfl,rfl,kh⟩
  .rcases oU (P:=P) (w:=w) (cap:=hh) hg ht Ew bl h1 with⟨rfl,rfl,rfl⟩|⟨yl,ayl,rfl,rfl,kl⟩
   .simp[Instr.sliceBounds]
   .simp[Instr.sliceBounds,kl]
  .rcases oU (P:=P) (w:=w) (cap:=hh) hg ht Ew bl h1 with⟨rfl,rfl,rfl⟩|⟨yl,ayl,rfl,rfl,kl⟩
   .simp[Instr.sliceBounds,kh]
   .simp[Instr.sliceBounds,kh,kl]
 .rcases oU (P:=P) (w:=w) (cap:=m) hg ht Ho bh h2 with⟨rfl,rfl,rfl⟩|⟨yh,ayh,rfl,rfl,kh⟩
  .rcases Dl with e|e
   .cases e
   .exact absurd rfl e
  .rcases oU (P:=P) (w:=w) (cap:=hh) hg ht Ew bl h1 with⟨rfl,rfl,rfl⟩|⟨yl,ayl,rfl,rfl,kl⟩
   .simp[Instr.sliceBounds,km,kh]
   .simp[Instr.sliceBounds,km,kh,kl]
theorem HE(R:Rel K w0 ρ h w)(hg:GR aM ρ)(ht:TR ρ T a){t:TypeId}{x:Operand}{lo hi:Option Operand}{ax:bE}{Jq Jr:Option bE}{s:List UInt8}{l hh:Nat}(ho:o.op=.slice t x lo hi none)(hu:P.underlying t=some .string)
 (hx:bO aM x=some ax) (Ew:pg aM lo=some Jq) (Ho:pg aM hi=some Jr) (hv:cP T ax=.fN s) (bl:fH 0 (Jq.map (cP T))=some l) (bh:fH s.length (Jr.map (cP T))=some hh) (h1:l<=hh) (h2:hh<=s.length):
 cV K w0 ρ bU h (.fN ((s.drop l).take (hh-l))) ((execOp a.eval o).run P w):=by
 have hr:=ch hg ht hx;rw[hv]at hr;obtain⟨b,e,hb⟩:=hr;have rG:b.size=s.length:=by rw[<-hb,Array.length_toList];rfl
 have hB:=pF (P:=P) (w:=w) (mx:=none) (Bv:=none) hg ht false (cap:=s.length) Ew Ho rfl bl bh (C:=s.length) (m:=s.length) rfl h1 h2 cB cB (.inl rfl);refine cV.val R (v':=.string (b.extract l hh)) ⟨_,rfl,by rw[Go.Lib.extract_data,hb]⟩ ?_;have e1:(Instr.slice t (.string b) (lo.map a.eval) (hi.map a.eval) none).run P w=.ok (.string (b.extract l hh)) w:=by
  simp only[Instr.slice,Sem.run_bind,run_underlying hu,Result.andThen_ok,rG];simp only[map_none]at hB;simp[hB]
 have e2:(Instr.sliceAt t (.string b) (lo.map a.eval) (hi.map a.eval) none).run P w=.ok (.string (b.extract l hh)) w:=by
  simp only[Instr.sliceAt,Sem.run_bind,run_underlying hu,Result.andThen_ok];exact e1
 simp[execOp,ho,e,e2]
theorem NQ(R:Rel K w0 ρ h w)(hg:GR aM ρ)(ht:TR ρ T a){t e:TypeId}{x:Operand}{lo hi mx:Option Operand}{ax:bE}{Jq Jr Bv:Option bE}{v:AV}(ho:o.op=.slice t x lo hi mx)(hu:P.underlying t=some (.slice e))(he:(P.info? e).isSome=true)
 (hx:bO aM x=some ax) (Ew:pg aM lo=some Jq) (Ho:pg aM hi=some Jr) (Nj:pg aM mx=some Bv) (Dl:mx=none\/hi≠none)
 (hv:lU (aj h) (P.cellsOf e) (cP T ax) (Jq.map (cP T)) (Jr.map (cP T)) (Bv.map (cP T))=some v):cV K w0 ρ bU h v ((execOp a.eval o).run P w):=by
 have hr:=ch hg ht hx;have step:∀{bC:Option Addr} {len cap l hh M:Nat},a.eval x=.slice bC len cap->(Instr.sliceBounds true len cap (lo.map a.eval) (hi.map a.eval) (mx.map a.eval)).run P w=.ok (l,hh,M) w->
  (execOp a.eval o).run P w=.ok (.value (.slice (if M=l then bC else bC.map (·.add (l*P.cellsOf e))) (hh-l) (M-l))) w:=by
  intro bC len cap l hh M ex hB;have e2:(Instr.sliceAt t (.slice bC len cap) (lo.map a.eval) (hi.map a.eval) (mx.map a.eval)).run P w=.ok (.slice (if M=l then bC else bC.map (·.add (l*P.cellsOf e))) (hh-l) (M-l)) w:=by
   simp only[Instr.sliceAt,Instr.slice,Sem.run_bind,run_underlying hu,Result.andThen_ok,hB,dK he,Sem.run_pure]
  simp only[execOp,ho,ex,Sem.run_bind,e2,Result.andThen_ok,Sem.run_pure]
 unfold lU at hv;split at hv
 .rename_i ev;split at hv
  .rename_i bm bh bl;cases hv;rw[ev]at hr;have ex:a.eval x=.slice none 0 0:=hr;have hB:=pF (P:=P) (w:=w) hg ht true (len:=0) (cap:=0) Ew Ho Nj bl bh bm cB cB cB cB Dl;refine cV.val R (v':=.slice none 0 0) (by simp[VR]) ?_;rw[step ex hB];cases Bv<;>simp
  .cases hv
 .rename_i ev;split at hv
  .rename_i bm bh bl;cases hv;rw[ev]at hr;obtain⟨ad,ex⟩:=hr;have hB:=pF (P:=P) (w:=w) hg ht true (len:=0) (cap:=0) Ew Ho Nj bl bh bm cB cB cB cB Dl;refine cV.val R (v':=.slice (some ad) 0 0) ⟨ad,rfl⟩ ?_;rw[step ex hB];cases Bv<;>simp
  .cases hv
 .rename_i b i n c ev;split at hv
  .rename_i bS ez es hb;split at hv
   .cases hv
   .rename_i RH;have RH:ez=P.cellsOf e:=Classical.byContradiction λk=>RH k
    split at hv
    .rename_i m hh l bm bh bl;split at hv
     .rename_i hc;obtain⟨h1,h2,h3⟩:=hc;cases hv;rw[ev]at hr;obtain⟨p,ad,cap,hp,ex,oT,hk,uE,xa,Ex⟩:=hr;have hC:c.getD n<=cap:=by
       cases c with
       |none=>exact oT
       |some m'=>have:=uE m' rfl;simp;omega
      have hB:=pF (P:=P) (w:=w) hg ht true (len:=n) (cap:=cap) Ew Ho Nj bl bh bm h1 h2 h3 hC Dl;have FH:p.bZ=P.cellsOf e:=(rQ R hb hp).trans RH;have wZ:=step ex hB;have Ag5:∀M:Nat,(if M=l then some ad else(some ad).map λx=>x.add (l*P.cellsOf e))=some (if M=l then ad else ad.add (l*P.cellsOf e)):=by
       intro M;split<;>rfl
      rw[Ag5]at wZ;refine cV.val R ⟨p,_,_,hp,rfl,?_,?_,?_,?_,?_⟩ wZ
      .cases Bv<;>simp<;>omega
      .by_cases hM:(if Bv.isSome then m else cap)=l
       .left;omega
       .right;rw[aq hM];rcases hk with hk|⟨Vw,Jm⟩
        .exfalso;apply hM;cases Bv<;>simp<;>omega
        .subst Vw;refine⟨Pl.xT p i l FH,?_⟩;cases Bv<;>simp<;>omega
      .intro q hq;cases Bv with
       |none=>
        cases c with
        |none=>simp at hq
        |some m'=>
         have:=uE m' rfl;simp at hq|-;omega
       |some y=>
        simp at hq|-;omega
      .intro hq;cases Bv with
       |none=>
        cases c with
        |none=>
         have:=xa rfl;simp;simp at h3;omega
        |some m'=>simp at hq
       |some y=>simp at hq
      .cases Bv<;>simp<;>omega
     .cases hv
    .cases hv
  .cases hv
 .cases hv
end
open Go.RowKit (Below)
theorem uF{ρ:dR}{Q:Nat->Value->Prop}:∀(cs:List AV),(∀(j:Nat) (a:AV),cs[j]?=some a->∃v,Q j v/\VR ρ a v)->∃vs,fz ρ cs vs/\∀(j:Nat) (v:Value),vs[j]?=some v->Q j v
 |[],_=>⟨[],by simp[fz],by simp⟩
 |c::cs,h=>by
  obtain⟨v,hq,hv⟩:=h 0 c rfl;obtain⟨vs,wA,Jo⟩:=uF (Q:=λj=>Q (j+1)) cs (λj a ha=>h (j+1) a (by simpa using ha));refine⟨v::vs,⟨v,vs,rfl,hv,wA⟩,λj u hu=>?_⟩;cases j with
  |zero=>simp at hu;subst hu;exact hq
  |succ j=>exact Jo j u (by simpa using hu)
section
variable{P:Program}{aM:Nat->Option AV}{K:Kp}{w0 w:World}{ρ:dR}{h:aN}{bU:Nat}{T:Tr}{a:Act}{o:Oper}
theorem Ay(R:Rel K w0 ρ h w){b:Nat}{bS:Bool}{bZ:Nat}{es:List (List AV)}{p:Pl}{i f n:Nat}{cs:List AV}(hb:aj h b=some (.row bS bZ es))(hp:ρ b=some p)(hg:fG bZ es i f n=some cs):
 cs.length=n/\∃vs,fz ρ cs vs/\∀(j:Nat) (v:Value),vs[j]?=some v->w.cell? ((p.lA i f).add j)=some v:=by
 obtain⟨q,hq,hB⟩:=R.mV b _ hb;have e:q=p:=Option.some.inj (hq.symm.trans hp);subst e;obtain⟨h1,h2,h3,h4,gP,el,fr,hh,h5,h6,h7,h8⟩:=hB;obtain⟨hl,hj⟩:=FC h2 h3 hg;refine⟨hl,uF cs λj x hx=>?_⟩;obtain⟨v,hv,hr⟩:=h6 _ x (hj j x hx);refine⟨v,?_,hr⟩;rw[Pl.Bu];unfold Pl.lA World.cell?;simp only[hh,h1];have e:q.bC+(i*bZ+(f+j))=q.bC+(i*bZ+f+j):=Z;rw[e];simpa using hv
theorem xd(R:Rel K w0 ρ h w){t:TypeId}{b:Nat}{bS:Bool}{bZ:Nat}{es:List (List AV)}{p:Pl}{i f:Nat}{cs:List AV}(hu:(P.underlying t).isSome=true)(hb:aj h b=some (.row bS bZ es))(hp:ρ b=some p)(hg:fG bZ es i f (P.cellsOf t)=some cs):
 (cL P t=true->∃v,(loadVar t (p.lA i f)).run P w=.ok v w/\VR ρ (.agg cs) v)/\(cL P t=false->∀x,cs=[x]->∃v,(loadVar t (p.lA i f)).run P w=.ok v w/\VR ρ x v):=by
 obtain⟨hl,vs,wA,hc⟩:=Ay R hb hp hg;constructor
 .intro ha;refine⟨.agg vs.toArray,?_,⟨vs.toArray,rfl,by simpa using wA⟩⟩;have eV:vs.length=P.cellsOf t:=by rw[<-wA.length,hl]
  unfold loadVar;rw[Sem.run_bind,vE hu,Result.andThen_ok,ha,aG rfl,Sem.run_bind,dK (info_of_underlying hu),Result.andThen_ok,<-eV,Sem.run_bind,run_loadCells_list w _ vs hc];rfl
 .intro ha x hx;subst hx;obtain⟨v,iA,rfl,h1,h2⟩:=wA;refine⟨v,?_,h1⟩;have:=hc 0 v rfl;have e:(p.lA i f).add 0=p.lA i f:=by simp[Addr.add]
  rw[e]at this;unfold loadVar;rw[Sem.run_bind,vE hu,Result.andThen_ok,ha];simp[this]
theorem NR(R:Rel K w0 ρ h w)(hg:GR aM ρ)(ht:TR ρ T a){t:TypeId}{x:Operand}{ax:bE}{b i f:Nat}{bS:Bool}{bZ:Nat}{es:List (List AV)}{cs:List AV}{v:AV}(ho:o.op=.load t x)(hu:(P.underlying t).isSome=true)(hx:bO aM x=some ax)
 (hv:cP T ax=.ptr b i f) (hb:aj h b=some (.row bS bZ es)) (hr:fG bZ es i f (P.cellsOf t)=some cs) (Az:if cL P t=true then v=.agg cs else cs=[v]):cV K w0 ρ bU h v ((execOp a.eval o).run P w):=by
 have rP:=ch hg ht hx;rw[hv]at rP;obtain⟨p,hp,ex⟩:=rP;obtain⟨k1,k2⟩:=xd (P:=P) R hu hb hp hr;by_cases ha:cL P t=true
 .rw[aG ha]at Az;subst Az;obtain⟨v',h1,h2⟩:=k1 ha;exact cV.val R h2 (by simp[execOp,ho,ex,Instr.loadAt,Instr.sureAddr,h1])
 .rw[aq ha]at Az;obtain⟨v',h1,h2⟩:=k2 (by simpa using ha) v Az;exact cV.val R h2 (by simp[execOp,ho,ex,Instr.loadAt,Instr.sureAddr,h1])
theorem xg(P:Program)(cb f:Nat)(el:TypeId)(fr:Nat×Nat):∀(vs:List Value) (i:Nat) (gP:Array Value) (w:World),w.heap[cb]?=some (.cells gP el fr)->(∀k,k<gP.size->¬(fr.1<=k/\k<fr.2))->f+i+vs.length<=gP.size->
 (∀v∈vs,v.oneCell'=true)->∃(w':World) (xh:Array Value),(storeCells ⟨cb,f,none⟩ vs i).run P w=.ok () w'/\w'.heap[cb]?=some (.cells xh el fr)/\xh.size=gP.size/\
  (∀k,xh[k]?=if f+i<=k/\k<f+i+vs.length then vs[k-(f+i)]? else gP[k]?)/\(∀k,k≠cb->w'.heap[k]?=w.heap[k]?)/\w'.heap.size=w.heap.size/\w'.os=w.os/\w'.tape=w.tape/\w'.output=w.output
 |[],i,gP,w,hh,_,_,_=>by
  refine⟨w,gP,rfl,hh,rfl,λk=>?_,λ_ _=>rfl,rfl,rfl,rfl,rfl⟩;rw[aq (by simp)]
 |v::vs,i,gP,w,hh,hfz,hl,h1=>by
  simp only[length_cons]at hl;have Vx:(⟨cb,f,none⟩:Addr).add i=⟨cb,f+i,none⟩:=by unfold Addr.add;split<;>simp_all
  have hi:f+i<gP.size:=Z;have NS:w.cell? ⟨cb,f+i,none⟩=some gP[f+i]:=by simp[World.cell?,hh,hi]
  have Ag6:w.frozen? ⟨cb,f+i,none⟩=false:=by
   obtain⟨lo,lV⟩:=fr;have:=hfz (f+i) hi;simp only[World.frozen?,hh,Bool.and_eq_false_iff,decide_eq_false_iff_not];simp only at this;omega
  have wZ:(store ((⟨cb,f,none⟩:Addr).add i) v).run P w=.ok () (w.setCell ⟨cb,f+i,none⟩ v):=by
   rw[Vx,run_store P w _ v _ (h1 v (by simp)),NS];simp[Ag6]
  have YF:(w.setCell ⟨cb,f+i,none⟩ v).heap[cb]?=some (.cells (gP.setIfInBounds (f+i) v) el fr):=by
   simp[World.setCell,Array.getElem?_modify,hh]
  obtain⟨w',xh,e1,e2,e3,e4,e5,e6,e7,e8,e9⟩:=xg P cb f el fr vs (i+1) (gP.setIfInBounds (f+i) v) (w.setCell ⟨cb,f+i,none⟩ v) YF (by simpa using hfz) (by simp;omega) (λx hx=>h1 x (by simp[hx]));refine⟨w',xh,by simp only[storeCells,Sem.run_bind,wZ,Result.andThen_ok,e1],e2,by simpa using e3,λk=>?_,λk hk=>?_,by simpa using e6,e7,e8,e9⟩
  .rw[e4 k];by_cases hk:k=f+i
   .subst hk;rw[aq Z,aG (by simp only[length_cons];omega)];simp[hi]
   .by_cases uw:f+i<=k/\k<f+i+(v::vs).length
    .simp only[length_cons]at uw;rw[aG Z,aG (by simp only[length_cons];omega)];have e:k-(f+i)=(k-(f+(i+1)))+1:=Z;rw[e,getElem?_cons_succ]
    .simp only[length_cons]at uw;rw[aq Z,aq (by simp only[length_cons];omega),Array.getElem?_setIfInBounds,aq Z]
  .rw[e5 k hk];exact Below.heap_setCell w _ v k hk
theorem Bw{ρ:dR}{cs:List AV}{vs:List Value}(h:fz ρ cs vs)(hs:∀x∈cs,x.cU=true):∀v∈vs,v.oneCell'=true:=by
 intro v hv;obtain⟨j,hj⟩:=getElem?_of_mem hv;obtain⟨hl,Aa⟩:=(nL ρ _ _).1 h;have jU:j<cs.length:=by have:=(List.getElem?_eq_some_iff.1 hj).1;omega
 have hcj:cs[j]?=some cs[j]:=getElem?_eq_getElem jU;exact Lt (Aa j _ v hcj hj) (hs _ (getElem_mem jU))
theorem uG(R:Rel K w0 ρ h w){b:Nat}{bZ:Nat}{es pd:List (List AV)}{p:Pl}{lA:Nat}{cs:List AV}{vs:List Value}(hb:aj h b=some (.row true bZ es))(hp:ρ b=some p)(FI:fz ρ cs vs)(ZC:∀x∈cs,x.cU=true)
 (hG:∀e∈pd,e.length=bZ) (eV:pd.length=es.length) (oT:lA+cs.length<=es.length*bZ) (ZD:pd.flatten=es.flatten.take lA++cs++es.flatten.drop (lA+cs.length)):
 ∃w',(storeCells ⟨p.cb,p.bC+lA,none⟩ vs).run P w=.ok () w'/\Rel K w0 ρ (aQ h b (some (.row true bZ pd))) w':=by
 obtain⟨q,hq,hB⟩:=R.mV b _ hb;have e:q=p:=Option.some.inj (hq.symm.trans hp);subst e;obtain⟨h1,h2,h3,h4,gP,el,fr,hh,h5,h6,h7,h8⟩:=hB;have NT:=Bw FI ZC;have hl:=FI.length;have NU:es.length*bZ<=q.xG*bZ:=Nat.mul_le_mul_right _ h4;obtain⟨w',xh,e1,e2,e3,e4,e5,e6,e7,e8,e9⟩:=xg P q.cb (q.bC+lA) el fr vs 0 gP w hh (h7 rfl).2 Z NT;refine⟨w',e1,R.set hb hp rfl e6 e7 e8 e9 e5 ⟨h1,h2,hG,Z,xh,el,fr,e2,Z,λk x hx=>?_,λ_=>⟨(h7 rfl).1,by rw[e3];exact(h7 rfl).2⟩,λx hx=>?_⟩⟩;rotate_left
 .rw[ZD]at hx;simp only[mem_append]at hx;rcases hx with(hx|hx)|hx
  .exact h8 x (mem_of_mem_take hx)
  .exact ZC x hx
  .exact h8 x (mem_of_mem_drop hx)
 rw[ZD]at hx;have Al0:=gd es h3;rw[pD Z]at hx;rw[e4];split at hx
 .rename_i uw;rw[aG Z];have e:q.bC+k-(q.bC+lA+0)=k-lA:=Z;rw[e];exact FI.get hx
 .rename_i uw;rw[aq Z];exact h6 k x hx
theorem RJ(R:Rel K w0 ρ h w)(hg:GR aM ρ)(ht:TR ρ T a){t:TypeId}{x y:Operand}{ax ay:bE}{b i f:Nat}{bZ:Nat}{es pd:List (List AV)}{cs:List AV}(ho:o.op=.store t x y)(hi:(P.info? t).isSome=true)(hx:bO aM x=some ax)(hy:bO aM y=some ay)
 (hv:cP T ax=.ptr b i f) (hc:(cP T ay).cells?=some cs) (hb:aj h b=some (.row true bZ es)) (hn:cs.length=P.cellsOf t) (NT:cs.all AV.cU=true) (hr:iX bZ es i f cs=some pd):
 cV K w0 ρ bU (aQ h b (some (.row true bZ pd))) .undef ((execOp a.eval o).run P w):=by
 have rP:=ch hg ht hx;have YE:=ch hg ht hy;rw[hv]at rP;obtain⟨p,hp,ex⟩:=rP;have FI:=xR YE hc;obtain⟨q,hq,hB⟩:=R.mV b _ hb;have e:q=p:=Option.some.inj (hq.symm.trans hp);subst e;obtain⟨h1,h2,h3,_⟩:=hB;obtain⟨k1,k2,k3,k4⟩:=FD h2 h3 hr;obtain⟨w',e1,e2⟩:=uG (P:=P) R hb hp FI (List.all_eq_true.1 NT) k1 k2 k3 k4;refine⟨.skip,undef,w',ρ,?_,.inr ⟨rfl,rfl⟩,by simp[VR,undef],e2,dR.le_refl _,λ_ _=>rfl⟩;have rG:(a.eval y).cells.size=P.cellsOf t:=by have:=FI.length;simp at this;omega
 have ea:q.lA i f=⟨q.cb,q.bC+(i*bZ+f),none⟩:=by unfold Pl.lA;rw[h1]
 have key:(Instr.storeAt t (.pointer (some (q.lA i f))) (a.eval y)).run P w=.ok () w':=by
  simp only[Instr.storeAt,Instr.sureAddr,Sem.run_bind,Sem.run_pure,Result.andThen_ok,storeVar,dK hi,rG,ne_eq,not_true_eq_false,if_false,ea];simpa using e1
 simp[execOp,ho,ex,key]
end
open Go.RowKit (Below)
section
variable{P:Program}{aM:Nat->Option AV}{K:Kp}{w0 w:World}{ρ:dR}{h:aN}{bU:Nat}{T:Tr}{a:Act}{o:Oper}
theorem gF(w:World)(x:Obj):Below w.heap.size w (w.alloc x):=(Below.refl _ _).alloc cB x
theorem fe(w:World)(x:Obj):(w.alloc x).heap[w.heap.size]?=some x:=heap_alloc_new w x
theorem sW(R:Rel K w0 ρ h w)(wC:bU<=h.length)(hn:ρ bU=none){w1:World}(hb:Below w.heap.size w w1){gP:Array Value}{el:TypeId}{fr:Nat×Nat}{bZ xG:Nat}{es:List (List AV)}
 (hh:w1.heap[w.heap.size]?=some (.cells gP el fr)) (he:0<bZ) (hG:∀e∈es,e.length=bZ) (NU:es.length<=xG) (rG:xG*bZ<=gP.size) (hfr:∀k,k<gP.size->¬(fr.1<=k/\k<fr.2))
 (hc:∀(k:Nat) (x:AV),es.flatten[k]?=some x->∃v,gP[k]?=some v/\VR ρ x v) (NT:∀x∈es.flatten,x.cU=true):
 Rel K w0 (ρ.put bU ⟨w.heap.size,0,bZ,xG⟩) (aQ h bU (some (.row true bZ es))) w1:=by
 have R1:=R.xN hb;refine R1.put wC hn ⟨rfl,he,hG,NU,gP,el,fr,hh,by simpa using rG,λk x hx=>?_,λ_=>⟨R.fresh,hfr⟩,NT⟩ λc y q hy hq=>?_
 .obtain⟨v,hv,hr⟩:=hc k x hx;exact⟨v,by simpa using hv,hr.mono (dR.wX _ hn)⟩
 .obtain⟨q',Jo,hB⟩:=R.mV c y hy;have e:q'=q:=Option.some.inj (Jo.symm.trans hq);subst e;have:=hB.lt;exactλe=>by simp at e;omega
theorem lD{v':Value}{w1:World}{x:AV}{h':aN}{p:Pl}{r:Result Next}(hn:ρ bU=none)(R:Rel K w0 (ρ.put bU p) h' w1)(hv:VR (ρ.put bU p) x v')(hr:r=.ok (.value v') w1):cV K w0 ρ bU h' x r:=
 ⟨.value v',v',w1,_,hr,.inl rfl,hv,R,dR.wX p hn,λ_ hb=>dR.uC ρ p hb⟩
theorem lW{t:TypeId}{cs:List AV}(hz:qj P t=some cs):∃z:Value,(∀w:World,(zeroValue t).run P w=.ok z w)/\(∀ρ,fz ρ cs z.cells.toList)/\cs.length=P.cellsOf t/\cs.all AV.cU=true/\∃i,P.info? t=some i/\i.zero=some z:=by
 unfold qj at hz;split at hz
 .rename_i z hzz;split at hz
  .rename_i x hx;split at hz
   .rename_i c hc;split at hz
    .rename_i dO;cases hz;obtain⟨i,hi,RK⟩:=bind_eq_some_iff.1 hzz;exact⟨z,λw=>by simp[zeroValue,typeInfo,hi,RK],λρ=>xR (xQ ρ hx) hc,dO.1,dO.2,i,hi,RK⟩
    .cases hz
   .cases hz
  .cases hz
 .cases hz
theorem ql(cb bZ xG:Nat):Pl.lA ⟨cb,0,bZ,xG⟩ 0 0=⟨cb,0,none⟩:=by simp[Pl.lA]
theorem RL(R:Rel K w0 ρ h w)(wC:bU<=h.length)(hn:ρ bU=none){t:TypeId}{zc:List AV}{bZ:Nat}(ho:o.op=.alloc t)(hz:qj P t=some zc)(he:bZ≠0)(hm:zc.length/bZ*bZ=zc.length):
 cV K w0 ρ bU (aQ h bU (some (.row true bZ (mF bZ (zc.length/bZ) zc)))) (.ptr bU 0 0) ((execOp a.eval o).run P w):=by
 obtain⟨z,h1,h2,h3,h4,_⟩:=lW hz;have hl:=(h2 ρ).length;refine lD hn (sW R wC hn (gF w (.cells z.cells t)) (fe w _) Z (vB _ _ _ Z) (xG:=zc.length/bZ) (by rw[vA];exact cB) (by simp at hl;omega) (by simp) ?_ (by rw[j8 _ _ _ hm.symm];exact List.all_eq_true.1 h4)) (v':=.pointer (some ⟨w.heap.size,0,none⟩)) ?_ ?_
 .rw[j8 _ _ _ hm.symm];intro k x hx;obtain⟨v,hv,hr⟩:=(h2 ρ).get hx;exact⟨v,by simpa using hv,hr⟩
 .exact⟨_,dR.iB _ _ _,by rw[ql]⟩
 .simp[execOp,ho,Instr.alloc,h1,newVar,newRow]
theorem ZE(R:Rel K w0 ρ h w)(hg:GR aM ρ)(ht:TR ρ T a)(wC:bU<=h.length)(hn:ρ bU=none){t:TypeId}{x:Operand}{ax:bE}{cs:List AV}{bZ n:Nat}(ho:o.op=.box t x)(hx:bO aM x=some ax)(hc:(cP T ax).cells?=some cs)
 (hl:cs.length=n) (he:bZ≠0) (hm:n/bZ*bZ=n) (NT:cs.all AV.cU=true):
 cV K w0 ρ bU (aQ h bU (some (.row true bZ (mF bZ (n/bZ) cs)))) (.ptr bU 0 0) ((execOp a.eval o).run P w):=by
 have h2:=xR (ch hg ht hx) hc;have xU:=h2.length;refine lD hn (sW R wC hn (gF w (.cells (a.eval x).cells t)) (fe w _) Z (vB _ _ _ Z) (xG:=n/bZ) (by rw[vA];exact cB) (by simp at xU;omega) (by simp) ?_ (by rw[j8 _ _ _ Z];exact List.all_eq_true.1 NT)) (v':=.pointer (some ⟨w.heap.size,0,none⟩)) ?_ ?_
 .rw[j8 _ _ _ Z];intro k x hx;obtain⟨v,hv,hr⟩:=h2.get hx;exact⟨v,by simpa using hv,hr⟩
 .exact⟨_,dR.iB _ _ _,by rw[ql]⟩
 .simp[execOp,ho,Instr.box,newVar,newRow]
theorem FJ(off:Nat):∀(vs:List Value) (j:Nat) (cells:Array Value),off+j+vs.length<=cells.size->
 ((vs.zipIdx j).foldl (λcs (x:Value×Nat)=>cs.setIfInBounds (off+x.2) x.1) cells).toList=cells.toList.take (off+j)++vs++cells.toList.drop (off+j+vs.length)
 |[],j,cells,_=>by simp
 |v::vs,j,cells,hl=>by
  simp only[length_cons]at hl;simp only[zipIdx_cons,foldl_cons];rw[FJ off vs (j+1) _ (by simp;omega)];refine ext_getElem? λk=>?_
  have e1:off+(j+1)+vs.length=off+j+(v::vs).length:=by simp only[length_cons];omega
  rw[pD (by simp;omega),pD (by simp only[length_cons,Array.length_toList];omega)];simp only[Array.getElem?_toList,Array.getElem?_setIfInBounds,length_cons];by_cases hk:k=off+j
  .subst hk;rw[aq Z,aG rfl,aG Z,aG Z];simp
  .by_cases uw:off+j<=k/\k<off+j+(vs.length+1)
   .rw[aG Z,aG uw];have e:k-(off+j)=(k-(off+(j+1)))+1:=Z;rw[e,getElem?_cons_succ]
   .rw[aq Z,aq uw,aq Z]
theorem HF{cs ws:List AV}{X:Array Value}{v:Value}(h1:fz ρ cs X.toList)(h2:fz ρ ws v.cells.toList)(off:Nat)(hl:off+ws.length<=cs.length):
 fz ρ (cs.take off++ws++cs.drop (off+ws.length)) ((v.cells.zipIdx.foldl (λcs (x:Value×Nat)=>cs.setIfInBounds (off+x.2) x.1) X)).toList:=by
 have l1:=h1.length;have l2:=h2.length;simp at l1 l2;rw[<-Array.foldl_toList,Array.toList_zipIdx,FJ off _ 0 X (by simp;omega)];simp only[Nat.add_zero,Array.length_toList];rw[l2];exact((h1.take off).append h2).append (h1.drop _)
theorem zm{py:Nat->Option (Nat×Nat)}:∀(cM:List (Nat×Operand)) (kg:List (Nat×Nat×bE)) (cs AA:List AV) (X:Array Value),GR aM ρ->TR ρ T a->sQ aM py cM=some kg->
 fz ρ cs X.toList->uy cs (kg.map λ(o,s,x)=>(o,s,cP T x))=some AA->∃X',Instr.fill py X (cM.map λ(i,x)=>(i,a.eval x))=some X'/\fz ρ AA X'.toList
 |[],kg,cs,AA,X,hg,ht,hp,hr,hf=>by
  simp only[sQ]at hp;cases hp;simp only[map_nil,uy]at hf;cases hf;exact⟨X,rfl,hr⟩
 |(i,x)::cM,kg,cs,AA,X,hg,ht,hp,hr,hf=>by
  simp only[sQ]at hp;split at hp
  .rename_i oo ss ax fX T7 hx mw;cases hp;simp only[map_cons,uy]at hf;split at hf
   .rename_i ws hws;split at hf
    .rename_i dO;obtain⟨NN,hc2⟩:=dO;have hv:=ch hg ht hx;have h2:=xR hv hws;have l1:=hr.length;have l2:=h2.length;simp at l1 l2;have T8:=HF hr h2 oo Z;rw[NN]at T8;obtain⟨X',e1,e2⟩:=zm cM fX _ AA _ hg ht mw T8 hf;refine⟨X',?_,e2⟩;simp only[map_cons,Instr.fill,T7];rw[aq (by simp only[Bool.or_eq_true,decide_eq_true_eq,not_or];omega)];exact e1
    .cases hf
   .cases hf
  .cases hp
theorem Js(R:Rel K w0 ρ h w)(hg:GR aM ρ)(ht:TR ρ T a){t:TypeId}{cM:Array (Nat×Operand)}{kg:List (Nat×Nat×bE)}{zc cs:List AV}{py:Nat->Option (Nat×Nat)}(ho:o.op=.build t cM)(hz:qj P t=some zc)
 (T7:(∃fs:Array Field,P.underlying t=some (.struct fs)/\(∀f∈fs,(P.info? f.type).isSome=true)/\py=λi=>(fs[i]?).map λf=>(f.offset,P.cellsOf f.type))\/
  (∃n e,P.underlying t=some (.array n e)/\(P.info? e).isSome=true/\py=λi=>some (i*P.cellsOf e,P.cellsOf e)))
 (hp:sQ aM py cM.toList=some kg) (hf:uy zc (kg.map λ(o,s,x)=>(o,s,cP T x))=some cs):cV K w0 ρ bU h (.agg cs) ((execOp a.eval o).run P w):=by
 obtain⟨z,h1,h2,h3,h4,_⟩:=lW hz;obtain⟨X',e1,e2⟩:=zm cM.toList kg zc cs z.cells hg ht hp (h2 ρ) hf;refine cV.val R (v':=.agg X') ⟨X',rfl,e2⟩ ?_;have epl:((cM.map λ(i,x)=>(i,a.eval x)).toList)=cM.toList.map λ(i,x)=>(i,a.eval x):=by simp
 rcases T7 with⟨fs,hu,hfi,rfl⟩|⟨n,e,hu,hei,rfl⟩
 .have key:∀(l:List Field) (w:World),(∀f∈l,(P.info? f.type).isSome=true)->(l.mapM λf=>do pure (f.offset,<-sizeOf f.type):Sem (List (Nat×Nat))).run P w=.ok (l.map λf=>(f.offset,P.cellsOf f.type)) w:=by
   intro l;induction l with
   |nil=>intro w _;simp
   |cons f l ih=>
    intro w hl;rw[mapM_cons];simp only[Sem.run_bind,dK (hl f (by simp)),Result.andThen_ok,Sem.run_pure,ih w (λg hg=>hl g (by simp[hg])),map_cons]
  have hm:∀w:World,(fs.mapM λf=>do pure (f.offset,<-sizeOf f.type):Sem (Array (Nat×Nat))).run P w=.ok (fs.map λf=>(f.offset,P.cellsOf f.type)) w:=by
   intro w;have:=key fs.toList w (by simpa using hfi);rw[Array.mapM_eq_mapM_toList];simp only[Sem.run_map,this,Result.andThen_ok];congr 1;apply Array.ext';simp
  simp only[execOp,ho,Instr.build,Sem.run_bind,h1,run_underlying hu,Result.andThen_ok,hm,epl];have ZF:(λ(i:Nat)=>(fs.map λf=>(f.offset,P.cellsOf f.type))[i]?)=λi=>(fs[i]?).map λf=>(f.offset,P.cellsOf f.type):=by
   funext i;simp
  rw[ZF,e1];simp
 .simp only[execOp,ho,Instr.build,Sem.run_bind,h1,run_underlying hu,Result.andThen_ok,dK hei,epl,e1,Sem.run_pure]
end
open Go.RowKit (Below)
section
variable{P:Program}{aM:Nat->Option AV}{K:Kp}{w0 w:World}{ρ:dR}{h:aN}{bU:Nat}{T:Tr}{a:Act}{o:Oper}
theorem Ab(l:List UInt8):fz ρ (lR l).flatten (l.map λb=>Value.int .u8 b.toNat):=by
 induction l with
 |nil=>simp[lR,fz]
 |cons b l ih=>exact⟨_,_,rfl,rfl,ih⟩
theorem uH(l:List UInt8):(lR l).length=l.length:=by simp[lR]
theorem Ac(l:List UInt8):∀e∈lR l,e.length=1:=by
 intro e he;simp only[lR,mem_map]at he;obtain⟨b,_,rfl⟩:=he;rfl
theorem uJ(l:List UInt8):∀x∈(lR l).flatten,x.cU=true:=by
 intro x hx;simp only[mem_flatten,lR,mem_map]at hx;obtain⟨_,⟨b,_,rfl⟩,hx⟩:=hx;simp only[mem_singleton]at hx;subst hx;rfl
theorem FK(R:Rel K w0 ρ h w){b:Nat}{bS:Bool}{bZ:Nat}{es:List (List AV)}(hb:aj h b=some (.row bS bZ es)):∀x∈es.flatten,x.cU=true:=by
 obtain⟨q,_,hB⟩:=R.mV b _ hb;obtain⟨_,_,_,_,_,_,_,_,_,_,_,h8⟩:=hB;exact h8
theorem Dm(R:Rel K w0 ρ h w){b:Nat}{bS:Bool}{bZ:Nat}{es:List (List AV)}{p:Pl}(hb:aj h b=some (.row bS bZ es))(hp:ρ b=some p)(i n:Nat)(oT:i+n<=es.length):
 ∃vs,fz ρ ((es.drop i).take n).flatten vs/\vs.length=n*bZ/\∀(j:Nat) (v:Value),vs[j]?=some v->w.cell? ((p.lA i 0).add j)=some v:=by
 obtain⟨q,hq,hB⟩:=R.mV b _ hb;have e:q=p:=Option.some.inj (hq.symm.trans hp);subst e;obtain⟨h1,h2,h3,h4,gP,el,fr,hh,h5,h6,h7,h8⟩:=hB;have Dj:∀e∈es.drop i,e.length=bZ:=λe he=>h3 e (mem_of_mem_drop he)
 have ZD:((es.drop i).take n).flatten=(es.flatten.drop (i*bZ)).take (n*bZ):=by rw[iU _ _ Dj,jO _ _ h3]
 have eV:=gd es h3;have hmul:(i+n)*bZ<=es.length*bZ:=Nat.mul_le_mul_right _ oT;rw[Nat.add_mul]at hmul;obtain⟨vs,wA,hc⟩:=uF (ρ:=ρ) (Q:=λj v=>w.cell? ((q.lA i 0).add j)=some v) ((es.drop i).take n).flatten (λj x hx=>by
  rw[ZD,getElem?_take]at hx;split at hx
  .rw[getElem?_drop]at hx;obtain⟨v,hv,hr⟩:=h6 _ x hx;refine⟨v,?_,hr⟩;rw[Pl.Bu];unfold Pl.lA World.cell?;simp only[hh,h1];have e:q.bC+(i*bZ+(0+j))=q.bC+(i*bZ+j):=Z;rw[e];simpa using hv
  .cases hx)
 refine⟨vs,wA,?_,hc⟩;have:=wA.length;rw[ZD]at this;rw[length_take,length_drop]at this;omega
theorem sX(R:Rel K w0 ρ h w){bZ:Nat}{x:AV}{x':Value}{xs:List (List AV)}(he:0<bZ)(hx:eW (aj h) bZ x=some xs)(hr:VR ρ x x'):
 ((∀e∈xs,e.length=bZ)/\∀x∈xs.flatten,x.cU=true)/\(∀w1:World,(Builtin.lenOf x').run P w1=.ok xs.length w1)/\
 ∃vs,fz ρ xs.flatten vs/\vs.length=xs.length*bZ/\∀k,k<=xs.length->∀w1:World,w1.heap=w.heap->(Builtin.firstCells bZ k x').run P w1=.ok (vs.take (k*bZ)).toArray w1:=by
 unfold eW at hx;split at hx
 .cases hx;have ex:x'=.slice none 0 0:=hr;subst ex;exact⟨⟨by simp,by simp⟩,λw1=>by simp[Builtin.lenOf],[],by simp[fz],by simp,λk _ w1 _=>by simp[Builtin.firstCells]⟩
 .cases hx;obtain⟨ad,rfl⟩:=hr;exact⟨⟨by simp,by simp⟩,λw1=>by simp[Builtin.lenOf],[],by simp[fz],by simp,λk hk w1 _=>by
   have:k=0:=by simpa using hk
   subst this;simp[Builtin.firstCells,loadCells,loadCellsFrom]⟩
 .cases hx;obtain⟨ad,k0,rfl⟩:=hr;exact⟨⟨by simp,by simp⟩,λw1=>by simp[Builtin.lenOf],[],by simp[fz],by simp,λk hk w1 _=>by
   have:k=0:=by simpa using hk
   subst this;cases ad<;>simp[Builtin.firstCells,loadCells,loadCellsFrom]⟩
 .cases hx;obtain⟨p,ad,cap,hp,rfl,_⟩:=hr;exact⟨⟨by simp,by simp⟩,λw1=>by simp[Builtin.lenOf],[],by simp[fz],by simp,λk hk w1 _=>by
   have:k=0:=by simpa using hk
   subst this;simp[Builtin.firstCells,loadCells,loadCellsFrom]⟩
 .rename_i b i n c hn0;split at hx
  .rename_i bS e es hb;split at hx
   .rename_i RH;subst RH;unfold wU at hx;split at hx
    .rename_i oT;cases hx;obtain⟨p,ad,cap,hp,rfl,AlV,hk,_⟩:=hr;obtain⟨vs,h1,h2,h3⟩:=Dm R hb hp i n oT;have eV:((es.drop i).take n).length=n:=by rw[length_take,length_drop];omega
     have hn:n≠0:=λe0=>hn0 e0
     have Fo:ad=p.lA i 0:=by
      rcases hk with h|h
      .omega
      .exact h.1
     subst Fo;obtain⟨q,hq,hB⟩:=R.mV b _ hb;refine⟨⟨λx hx=>hB.2.2.1 x (mem_of_mem_drop (mem_of_mem_take hx)),λx hx=>FK R hb x (by
      simp only[mem_flatten]at hx|-
      obtain⟨l,hl,hx⟩:=hx
      exact⟨l,mem_of_mem_drop (mem_of_mem_take hl),hx⟩)⟩,λw1=>by rw[eV];simp[Builtin.lenOf],vs,h1,by rw[eV];exact h2,λk hk w1 Jt=>?_⟩
     rw[eV]at hk;have hkm:k*e<=n*e:=Nat.mul_le_mul_right _ hk;have hl:(vs.take (k*e)).length=k*e:=by rw[length_take];omega
     have:=run_loadCells_list (P:=P) w1 (p.lA i 0) (vs.take (k*e)) (λj v hv=>by
      rw[getElem?_take]at hv;split at hv
      .have h4:=h3 j v hv;unfold World.cell? at h4|-;rw[Jt];exact h4
      .cases hv)
     rw[hl]at this;simp[Builtin.firstCells,this]
    .cases hx
   .cases hx
  .cases hx
 .rename_i s;split at hx
  .rename_i h1;subst h1;cases hx;obtain⟨b,rfl,hb⟩:=hr;have rG:b.size=s.length:=by rw[<-hb,Array.length_toList];rfl
   refine⟨⟨Ac s,uJ s⟩,λw1=>by simp[Builtin.lenOf,rG,uH],_,Ab s,by simp[uH],λk _ w1 _=>?_⟩;simp only[Builtin.firstCells,Sem.run_pure,Nat.mul_one];congr 1;apply Array.ext';simp only[Array.toList_map,Go.Lib.extract_data,hb,drop_zero,Nat.sub_zero,map_take]
  .cases hx
 .cases hx
theorem NV{Bx bytes:Nat}(h:Bx*bytes<=dQ):Bx*bytes<=140737488355328:=by
 unfold dQ at h;omega
theorem uK(w:World)(Bx mX:Nat)(e:TypeId)(h:Bx<=maxLen):∃k,Bx<=k/\k<=maxLen/\(choose (.appendCap Bx mX e)).run P w=.ok k {w with drawn:=w.drawn+1}:=by
 refine⟨(Question.appendCap Bx mX e).cut (w.tape w.drawn (.appendCap Bx mX e)),?_,?_,?_⟩
 .simp[Question.cut]
 .unfold maxLen at*;simp only[Question.cut];have:w.tape w.drawn (.appendCap Bx mX e)%(2^63-Bx)<2^63-Bx:=Nat.mod_lt _ Z;omega
 .simp[Question.forced]
end
end Go.Abs
end
