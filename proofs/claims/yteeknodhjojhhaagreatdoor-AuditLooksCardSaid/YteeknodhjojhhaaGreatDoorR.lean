/- How the arguments of the law are read.
   Conditions: none. -/
import Derived.Test.YteeknodhjojhhaaGreatDoorPi
set_option linter.unusedSimpArgs false
set_option linter.unusedVariables false
set_option maxRecDepth 100000
set_option maxHeartbeats 16000000
noncomputable section
namespace Go.Abs
open List Option IntKind
structure Eh(w:World)(ρ:dR)(p:Pl)(es:List (List AV)):Prop where
 pos:0<p.bZ
 all:∀e∈es,e.length=p.bZ
 xG:es.length<=p.xG
 sc:∀a∈es.flatten,a.cU=true
 cell:∃gP el fr,w.heap[p.cb]?=some (.cells gP el fr)/\p.bC+p.xG*p.bZ<=gP.size/\∀(k:Nat) (a:AV),es.flatten[k]?=some a->∃v,gP[p.bC+k]?=some v/\VR ρ a v
theorem ON.AgX{w:World}{p:Pl}{es:List (List AV)}(H:ON w p es)(ρ:dR):Eh w ρ p es:=by
 obtain⟨gP,el,fr,h1,h2,h3⟩:=H.cell;exact⟨H.pos,H.all,H.xG,H.sc,gP,el,fr,h1,h2,h3 ρ⟩
theorem Eh.mono{w:World}{ρ gO:dR}{p:Pl}{es:List (List AV)}(H:Eh w ρ p es)(h:ρ.le gO):Eh w gO p es:=by
 obtain⟨gP,el,fr,h1,h2,h3⟩:=H.cell;exact⟨H.pos,H.all,H.xG,H.sc,gP,el,fr,h1,h2,λk a ha=>by obtain⟨v,hv,hr⟩:=h3 k a ha;exact⟨v,hv,hr.mono h⟩⟩
def NA(w:World)(l:jI):Prop:=∀x∈l,Eh w (nT l) x.1 x.2
theorem TJ(l m:jI):(nT l).le (nT (l++m)):=λb p h=>by
 show((l++m)[b]?).map _=_;obtain⟨x,hx,rfl⟩:=map_eq_some_iff.1 h;rw[getElem?_append_left (List.getElem?_eq_some_iff.1 hx).1,hx];rfl
theorem Nf(l m:jI):aY ⟨fT l ⟨0,.e⟩,[],[]⟩ ⟨fT (l++m) ⟨0,.e⟩,[],[]⟩:=by
 have h1:=(pK l ⟨0,.e⟩).1;have h2:=(pK (l++m) ⟨0,.e⟩).1;refine⟨by simp only;rw[h1,h2,length_append];omega,λb hb=>?_,rfl,[],rfl,λ_ h=>by cases h⟩;simp only at hb|-;rw[h1]at hb;rw[pM,pM,getElem?_append_left (by simpa using hb)]
def Fl(l l':jI):Prop:=∃m,l'=l++m
theorem Fl.refl(l:jI):Fl l l:=⟨[],(append_nil l).symm⟩
theorem Fl.trans{a b c:jI}(h:Fl a b)(k:Fl b c):Fl a c:=by
 obtain⟨m,rfl⟩:=h;obtain⟨m',rfl⟩:=k;exact⟨m++m',append_assoc _ _ _⟩
theorem Fl.le{l l':jI}(h:Fl l l'):(nT l).le (nT l'):=by obtain⟨m,rfl⟩:=h;exact TJ l m
theorem Fl.bw{l l':jI}(h:Fl l l'):aY ⟨fT l ⟨0,.e⟩,[],[]⟩ ⟨fT l' ⟨0,.e⟩,[],[]⟩:=by obtain⟨m,rfl⟩:=h;exact Nf l m
theorem TK{P:Program}{aM:Nat->Option AV}{w:World}(l:jI)(hl:NA w l):Rel (Gb P aM w) w (nT l) (fT l ⟨0,.e⟩) w:=by
 have h1:=(pK l ⟨0,.e⟩).1;simp only[Nat.zero_add]at h1;refine⟨⟨rfl,rfl,rfl,cB,λk hk=>hk,λ_ _=>rfl⟩,λb hb=>?_,λb x hx=>?_,λb c x y p q hx hy hp hq ho=>?_⟩
 .show(l[b]?).map _=none;rw[getElem?_eq_none Z];rfl
 .rw[pM]at hx;obtain⟨y,hy,rfl⟩:=map_eq_some_iff.1 hx;have T:=hl _ (mem_of_getElem? hy);obtain⟨gP,el,fr,hh,rG,hc⟩:=T.cell;exact⟨y.1,by show(l[b]?).map _=_;rw[hy];rfl,rfl,T.pos,T.all,T.xG,gP,el,fr,hh,rG,hc,λh=>(by cases h),T.sc⟩
 .rw[pM]at hx;obtain⟨z,hz,rfl⟩:=map_eq_some_iff.1 hx;cases ho
section
variable{H:Type}{P:Program}{w:World}{held:Bool}{enc:TypeId×Value->H}
structure Rd(enc:TypeId×Value->H)(P:Program)(w:World)(held:Bool)(t:TypeId)(ι:Type)(C:ι->List AV)(G:aN->ι->Prop):Prop where
 len:∀k,(C k).length=P.cellsOf t
 up:∀l l' k,Fl l l'->G (fT l ⟨0,.e⟩) k->G (fT l' ⟨0,.e⟩) k
 sc:∀h k,G h k->∀a∈C k,a.cU=true
 rd:∀(fuel:Nat) (cs:List Value) (x:DataW H×List MemPlace) (l:jI),NA w l->DataW.trod enc P w 0 (λ_=>true) held fuel t cs=some x->∃l' k,Fl l l'/\NA w l'/\fz (nT l') (C k) cs/\G (fT l' ⟨0,.e⟩) k
variable{ι:Type}{C:ι->List AV}{G:aN->ι->Prop}{e:TypeId}
theorem Rd.Df(R:Rd enc P w held e ι C G){fuel len:Nat}{a:Addr}(hc:∀i,i<len->∃cs x,w.cells? 0 (a.add (i*P.cellsOf e)) (P.cellsOf e)=some cs/\DataW.trod enc P w 0 (λ_=>true) held fuel e cs=some x)(l:jI)(hl:NA w l):
 ∀j,j<=len->∃(l':jI) (ks:List ι),Fl l l'/\ks.length=j/\NA w l'/\(∀i k,ks[i]?=some k->∃cs,w.cells? 0 (a.add (i*P.cellsOf e)) (P.cellsOf e)=some cs/\fz (nT l') (C k) cs)/\∀k∈ks,G (fT l' ⟨0,.e⟩) k
 |0,_=>⟨l,[],.refl l,rfl,hl,λi k h=>by simp at h,λk h=>by cases h⟩
 |j+1,hj=>by
  obtain⟨l1,ks,p1,h1,h2,h3,h4⟩:=Rd.Df R hc l hl j Z;obtain⟨cs,x,FI,hx⟩:=hc j Z;obtain⟨l2,k,p2,g1,g2,g3⟩:=R.rd fuel cs x l1 h2 hx;refine⟨l2,ks++[k],p1.trans p2,by simp[h1],g1,λi k' hk=>?_,λk' hk=>?_⟩
  .rw[getElem?_append]at hk;split at hk
   .obtain⟨AA,q1,q2⟩:=h3 i k' hk;exact⟨AA,q1,q2.mono p2.le⟩
   .rename_i hi;rw[h1]at hi hk;have lV:=(List.getElem?_eq_some_iff.1 hk).1;simp only[length_singleton]at lV;obtain rfl:i=j:=Z;rw[Nat.sub_self]at hk;simp only[getElem?_cons_zero,Option.some.injEq]at hk;subst hk;exact⟨cs,FI,g2⟩
  .rcases mem_append.1 hk with hk|hk
   .exact R.up _ _ _ p2 (h4 k' hk)
   .rw[mem_singleton]at hk;subst hk;exact g3
theorem Rd.sl(R:Rd enc P w held e ι C G){t:TypeId}(hu:P.underlying t=some (.slice e))(sY:0<P.cellsOf e){fuel:Nat}{cs:List Value}{x:DataW H×List MemPlace}{l:jI}(hl:NA w l)(h:DataW.trod enc P w 0 (λ_=>true) held fuel t cs=some x):
 ∃(l':jI) (v:AV) (ks:List ι),Fl l l'/\NA w l'/\fz (nT l') [v] cs/\aT (fT l' ⟨0,.e⟩) (P.cellsOf e) v (ks.map C)/\∀x∈ks,G (fT l' ⟨0,.e⟩) x:=by
 rcases DataW.trod_slice hu h with⟨rfl,_⟩|⟨a,len,cap,Df,fX,n,_,rfl,_,_,oT,Ex,OH,hrd,T8,_⟩
 .exact⟨l,.Hl 0,[],.refl l,hl,⟨_,[],rfl,⟨none,0,rfl⟩,rfl⟩,.none rfl (.inr (.inr rfl)),λx hx=>by cases hx⟩
 .obtain⟨Ama,AlS⟩:=T8 rfl
  rcases Nat.eq_zero_or_pos len with h0|h0
  .subst h0
   exact⟨l,.Hl 0,[],.refl l,hl,⟨_,[],rfl,⟨some a,cap,rfl⟩,rfl⟩,.none rfl (.inr (.inr rfl)),λx hx=>by cases hx⟩
  .have uR:∀i,i<len->∃cs x,w.cells? 0 (a.add (i*P.cellsOf e)) (P.cellsOf e)=some cs/\DataW.trod enc P w 0 (λ_=>true) held n e cs=some x:=λi hi=>by
    have:=hrd i hi;rw[getElem?_eq_getElem Z]at this;obtain⟨cs,h1,h2⟩:=bind_eq_some_iff.1 this;exact⟨cs,_,h1,h2⟩
   have hG:∀i,i<cap->∃cs,w.cells? 0 (a.add (i*P.cellsOf e)) (P.cellsOf e)=some cs:=λi hi=>by
    rcases Nat.lt_or_ge i len with jU|Zv
    .obtain⟨cs,_,h1,_⟩:=uR i jU;exact⟨cs,h1⟩
    .have:=AlS (i-len) Z;rw[getElem?_eq_getElem Z,show len+(i-len)=i by omega]at this;obtain⟨cs,h1,_⟩:=bind_eq_some_iff.1 this;exact⟨cs,h1⟩
   obtain⟨l1,ks,p1,k1,k2,k3,k4⟩:=R.Df uR l hl len cB
   obtain⟨cs0,_,XO,_⟩:=uR 0 h0
   obtain⟨l0,g0⟩:=zx XO
   have HI:=g0 0 sY
   rw[getElem?_eq_getElem Z]at HI
   have AlT:a.spot=none/\∃gP el fr,w.heap[a.block]?=some (.cells gP el fr):=by
    have e0:(a.add (0*P.cellsOf e)).add 0=a:=by simp[Addr.add]
    rw[e0]at HI;simp only[World.cell?]at HI;split at HI
    .rename_i gP el fr hh;split at HI
     .cases HI
     .rename_i hs;exact⟨by simpa using hs,gP,el,fr,hh⟩
    .cases HI
   obtain⟨Vl,gP,el,fr,hh⟩:=AlT
   obtain⟨bb,oo,ss⟩:=a
   simp only at Vl hh
   subst Vl
   simp only[Gd]at uR hG k3
   have NS:∀k v,w.cell? ⟨bb,oo+k,none⟩=some v->gP[oo+k]?=some v:=λk v hv=>by
    simp only[World.cell?,hh]at hv;simpa using hv
   have hat:∀i cs,w.cells? 0 ⟨bb,oo+i*P.cellsOf e,none⟩ (P.cellsOf e)=some cs->∀j v,cs[j]?=some v->gP[oo+(i*P.cellsOf e+j)]?=some v:=λi cs FI j v hv=>by
    obtain⟨l1,g1⟩:=zx FI;have hj:j<P.cellsOf e:=by rw[<-l1];exact(List.getElem?_eq_some_iff.1 hv).1
    have:=(g1 j hj).trans hv;refine NS _ _ ?_;rw[<-this,Gd,Nat.add_assoc]
   have rG:oo+cap*P.cellsOf e<=gP.size:=by
    obtain⟨cs,FI⟩:=hG (cap-1) Z;obtain⟨l1,_⟩:=zx FI;have hv:cs[P.cellsOf e-1]?=some (cs[P.cellsOf e-1]'Z):=getElem?_eq_getElem Z;have:=(Array.getElem?_eq_some_iff.1 (hat _ cs FI _ _ hv)).1;have hm:(cap-1)*P.cellsOf e+P.cellsOf e=cap*P.cellsOf e:=by
     rw[<-Nat.succ_mul];congr 1;omega
    omega
   have HN:Eh w (nT l1) ⟨bb,oo,P.cellsOf e,cap⟩ (ks.map C):=by
    refine⟨sY,λx hx=>?_,by simp only[length_map,k1];exact oT,λb hb=>?_,gP,el,fr,hh,rG,λq b hb=>?_⟩
    .obtain⟨k,_,rfl⟩:=mem_map.1 hx;exact R.len k
    .obtain⟨y,hl,EG⟩:=mem_flatten.1 hb;obtain⟨k,hk,rfl⟩:=mem_map.1 hl;exact R.sc _ k (k4 k hk) b EG
    .have Dj:∀x∈ks.map C,x.length=P.cellsOf e:=λx hx=>by
      obtain⟨k,_,rfl⟩:=mem_map.1 hx;exact R.len k
     rw[pC sY _ _ Dj]at hb;obtain⟨es,he,hb⟩:=bind_eq_some_iff.1 hb;rw[getElem?_map]at he;obtain⟨k,hk,rfl⟩:=map_eq_some_iff.1 he;obtain⟨cs,FI,hr⟩:=k3 _ k hk;obtain⟨v,hv,hr⟩:=hr.get hb;refine⟨v,?_,hr⟩;rw[<-hat _ cs FI _ v hv];congr 2;rw[Nat.mul_comm];exact(Nat.div_add_mod q (P.cellsOf e)).symm
   have p2:Fl l1 (l1++[((⟨bb,oo,P.cellsOf e,cap⟩:Pl),ks.map C)]):=⟨_,rfl⟩
   refine⟨l1++[((⟨bb,oo,P.cellsOf e,cap⟩:Pl),ks.map C)],.slice l1.length 0 len (some cap),ks,p1.trans p2,?_,?_,?_,λx hx=>R.up _ _ _ p2 (k4 x hx)⟩
   .intro x hx
    rcases mem_append.1 hx with hx|hx
    .exact(k2 x hx).mono p2.le
    .rw[mem_singleton]at hx
     subst hx
     exact HN.mono p2.le
   .refine⟨_,[],rfl,⟨⟨bb,oo,P.cellsOf e,cap⟩,(⟨bb,oo,P.cellsOf e,cap⟩:Pl).lA 0 0,cap,?_,by simp[Pl.lA],oT,.inr ⟨rfl,by simp⟩,λm hm=>(by cases hm;rfl),λhm=>(by cases hm),Ex⟩,rfl⟩
    show((l1++_)[l1.length]?).map _=_
    rw[getElem?_append_right cB,Nat.sub_self]
    rfl
   .refine .some l1.length 0 (some cap) false (ks.map C) (by simp[k1]) ?_ (by rw[drop_zero,take_length]) (λk hk=>by cases hk;simp only[length_map,k1];exact oT)
    rw[pM,getElem?_append_right cB,Nat.sub_self]
    rfl
end
def zY(rec:TypeId->Option (List TypeDesc)):Nat->List (Nat×Nat×TypeId)->Option (List TypeDesc)
 |_,[]=>some []
 |o,(off,sz,t)::fs=>
  match rec t with
  |some az=>if off=o/\az.length=sz then(zY rec (o+sz) fs).map (az++·)else none
  |none=>none
def cM(P:Program):Nat->TypeId->Option (List TypeDesc)
 |0,_=>none
 |n+1,t=>
  match P.underlying t with
  |some (.struct fs)=>(zY (cM P n) 0 (fs.toList.map λf=>(f.offset,P.cellsOf f.type,f.type))).bind λts=>if ts.length=P.cellsOf t then some ts else none
  |some (.array k e)=>(zY (cM P n) 0 ((List.range k).map λi=>(i*P.cellsOf e,P.cellsOf e,e))).bind λts=>if ts.length=P.cellsOf t then some ts else none
  |some (.int k)=>some [.int k]
  |some .bool=>some [.bool]
  |some .string=>some [.string]
  |some (.slice e)=>some [.slice e]
  |_=>none
section
variable{H:Type}{P:Program}{w:World}{held:Bool}{enc:TypeId×Value->H}
def TL(enc:TypeId×Value->H)(P:Program)(w:World)(held:Bool):List TypeDesc->List Value->Prop
 |[],cs=>cs=[]
 |u::us,cs=>∃c AA,cs=c::AA/\(∃t n x,P.underlying t=some u/\DataW.trod enc P w 0 (λ_=>true) held n t [c]=some x)/\TL enc P w held us AA
theorem TL.append:∀{us vs:List TypeDesc} {cs ds:List Value},TL enc P w held us cs->TL enc P w held vs ds->TL enc P w held (us++vs) (cs++ds)
 |[],_,_,_,h,k=>by cases h;exact k
 |_::_,_,_,_,h,k=>by
  obtain⟨c,AA,rfl,h1,h2⟩:=h;exact⟨c,_,rfl,h1,TL.append h2 k⟩
theorem tM{n fuel:Nat}{cs:List Value}(ih:∀(t:TypeId) (c:List Value) (x:DataW H×List MemPlace) (ts:List TypeDesc),DataW.trod enc P w 0 (λ_=>true) held fuel t c=some x->cM P n t=some ts->TL enc P w held ts c):
 ∀(fl:List (Nat×Nat×TypeId)) (o:Nat) (ts:List TypeDesc),zY (cM P n) o fl=some ts->(∀f∈fl,∃x,DataW.trod enc P w 0 (λ_=>true) held fuel f.2.2 ((cs.drop f.1).take f.2.1)=some x)->TL enc P w held ts ((cs.drop o).take ts.length)
 |[],o,ts,h,_=>by simp only[zY]at h;cases h;exact take_zero
 |(off,sz,t)::fl,o,ts,h,hi=>by
  simp only[zY]at h;split at h
  .rename_i a1 h1;split at h
   .rename_i hc;obtain⟨rfl,rG⟩:=hc;simp only[map_eq_some_iff]at h;obtain⟨a2,h2,rfl⟩:=h;obtain⟨x,hx⟩:=hi _ (mem_cons_self ..);have g1:=ih t _ x a1 hx h1;have g2:=tM ih fl (off+sz) a2 h2 (λf hf=>hi f (mem_cons_of_mem _ hf));simp only at g1;rw[length_append,rG,take_add,drop_drop];exact g1.append g2
   .cases h
  .cases h
theorem fW:∀(n fuel:Nat) (t:TypeId) (cs:List Value) (x:DataW H×List MemPlace) (ts:List TypeDesc),DataW.trod enc P w 0 (λ_=>true) held fuel t cs=some x->cM P n t=some ts->TL enc P w held ts cs
 |0,_,_,_,_,_,_,h=>by simp[cM]at h
 |n+1,fuel,t,cs,x,ts,ht,h=>by
  simp only[cM]at h;split at h
  .rename_i fs hu;obtain⟨az,hf,h⟩:=bind_eq_some_iff.1 h;split at h
   .rename_i eV;cases h;obtain⟨xs,m,rfl,rfl,hl,hn,OH⟩:=DataW.trod_struct hu ht;have:=tM (cs:=cs) (λt c x ts h1 h2=>fW n m t c x ts h1 h2) _ 0 ts hf (λf hf=>by
     obtain⟨g,hg,rfl⟩:=mem_map.1 hf;obtain⟨i,hi⟩:=getElem?_of_mem hg;have lV:fs[i]?=some g:=by simpa using hi
     have:=OH i g lV;have jU:i<xs.length:=by rw[hn];exact(Array.getElem?_eq_some_iff.1 lV).1
     rw[getElem?_eq_getElem jU]at this;exact⟨_,this⟩)
    rw[drop_zero,eV,<-hl,take_length]at this;exact this
   .cases h
  .rename_i k e hu;obtain⟨az,hf,h⟩:=bind_eq_some_iff.1 h;split at h
   .rename_i eV;cases h;obtain⟨xs,m,rfl,rfl,hl,hn,OH⟩:=DataW.trod_array hu ht;have:=tM (cs:=cs) (λt c x ts h1 h2=>fW n m t c x ts h1 h2) _ 0 ts hf (λf hf=>by
     obtain⟨i,hi,rfl⟩:=mem_map.1 hf;have jU:i<k:=by simpa using hi
     have:=OH i jU;rw[getElem?_eq_getElem Z]at this;exact⟨_,this⟩)
    rw[drop_zero,eV,<-hl,take_length]at this;exact this
   .cases h
  .rename_i k hu;cases h;obtain⟨i,rfl,_⟩:=DataW.trod_int hu ht;exact⟨_,[],rfl,⟨t,fuel,x,hu,ht⟩,rfl⟩
  .rename_i hu;cases h;obtain⟨i,rfl,_⟩:=DataW.trod_bool hu ht;exact⟨_,[],rfl,⟨t,fuel,x,hu,ht⟩,rfl⟩
  .rename_i hu;cases h;obtain⟨i,rfl,_⟩:=DataW.trod_string hu ht;exact⟨_,[],rfl,⟨t,fuel,x,hu,ht⟩,rfl⟩
  .rename_i e hu;cases h;rcases DataW.trod_slice hu ht with⟨rfl,_⟩|⟨a,len,cap,Df,fX,n',_,rfl,_⟩<;>exact⟨_,[],rfl,⟨t,fuel,x,hu,ht⟩,rfl⟩
  .cases h
theorem cN{k:IntKind}{c:Value}(h:∃t n x,P.underlying t=some (.int k)/\DataW.trod enc P w 0 (λ_=>true) held n t [c]=some x):∃i,c=.int k i/\k.min<=i/\i<=k.max:=by
 obtain⟨t,n,x,hu,h⟩:=h;obtain⟨i,e,_,hw⟩:=DataW.trod_int hu h;simp only[List.cons.injEq,and_true]at e;simp only[Lit.wf,Bool.and_eq_true,decide_eq_true_eq]at hw;exact⟨i,e,hw⟩
theorem Ln{c:Value}(h:∃t n x,P.underlying t=some .bool/\DataW.trod enc P w 0 (λ_=>true) held n t [c]=some x):∃b,c=.bool b:=by
 obtain⟨t,n,x,hu,h⟩:=h;obtain⟨i,e,_⟩:=DataW.trod_bool hu h;simp only[List.cons.injEq,and_true]at e;exact⟨i,e⟩
theorem QS{c:Value}(h:∃t n x,P.underlying t=some .string/\DataW.trod enc P w 0 (λ_=>true) held n t [c]=some x):∃s:ByteArray,c=.string s:=by
 obtain⟨t,n,x,hu,h⟩:=h;obtain⟨i,e,_⟩:=DataW.trod_string hu h;simp only[List.cons.injEq,and_true]at e;exact⟨i,e⟩
theorem vz{ι:Type}{C:ι->List AV}{G:aN->ι->Prop}{e k:Nat}(R:Rd enc P w held e ι C G)(he:P.cellsOf e=k)(hk:0<k){c:Value}{l:jI}(hl:NA w l)(h:∃t n x,P.underlying t=some (.slice e)/\DataW.trod enc P w 0 (λ_=>true) held n t [c]=some x):
 ∃(l':jI) (v:AV) (ks:List ι),Fl l l'/\NA w l'/\VR (nT l') v c/\aT (fT l' ⟨0,.e⟩) k v (ks.map C)/\∀x∈ks,G (fT l' ⟨0,.e⟩) x:=by
 obtain⟨t,n,x,hu,h⟩:=h;subst he;obtain⟨l',v,ks,h1,h2,⟨_,_,e,h3,e'⟩,h4⟩:=R.sl hu hk hl h;simp only[List.cons.injEq]at e;obtain⟨rfl,_⟩:=e;exact⟨l',v,ks,h1,h2,h3,h4⟩
end
section
variable{H:Type}{P:Program}{w:World}{held:Bool}{enc:TypeId×Value->H}{t bt mt st rt ut pt vt lt xt:TypeId}
theorem nH{i:Int}(h:IntKind.u64.min<=i/\i<=IntKind.u64.max):0<=i/\i<=18446744073709551615:=h
theorem aT.up{l l':jI}{e:Nat}{v:AV}{es:List (List AV)}(H:aT (fT l ⟨0,.e⟩) e v es)(p:Fl l l'):aT (fT l' ⟨0,.e⟩) e v es:=aT.bw (m:=⟨fT l ⟨0,.e⟩,[],[]⟩) (m':=⟨fT l' ⟨0,.e⟩,[],[]⟩) H p.bw
theorem df.up{l l':jI}{v:AV}{x:List PX}(H:df (fT l ⟨0,.e⟩) v x)(p:Fl l l'):df (fT l' ⟨0,.e⟩) v x:=df.bw (m:=⟨fT l ⟨0,.e⟩,[],[]⟩) (m':=⟨fT l' ⟨0,.e⟩,[],[]⟩) H p.bw
theorem Yy(hp:cM P 8 t=some [.int .i64,.int .u64,.int .i64,.int .i64,.int .i64,.int .i64,.int .i64,.int .i64,.string])(hc:P.cellsOf t=9):Rd enc P w held t (fR) dt (λ_ b=>0<=b.id.s/\I b.eO)where
 len:=λk=>by rw[hc];rfl
 up:=λl l' k p h=>h
 sc:=λh k _ a ha=>by simp only[dt,mem_cons,not_mem_nil,or_false]at ha;rcases ha with rfl|rfl|rfl|rfl|rfl|rfl|rfl|rfl|rfl<;>rfl
 rd:=λfuel cs x l hl h=>by
  obtain⟨c1,_,rfl,r1,c2,_,rfl,r2,c3,_,rfl,r3,c4,_,rfl,r4,c5,_,rfl,r5,c6,_,rfl,r6,c7,_,rfl,r7,c8,_,rfl,r8,c9,_,rfl,r9,rfl⟩:=fW 8 fuel t cs x _ h hp;obtain⟨i1,rfl,a1,b1⟩:=cN r1;obtain⟨i2,rfl,a2,b2⟩:=cN r2;obtain⟨i3,rfl,a3,b3⟩:=cN r3;obtain⟨i4,rfl,a4,b4⟩:=cN r4;obtain⟨i5,rfl,a5,b5⟩:=cN r5;obtain⟨i6,rfl,a6,b6⟩:=cN r6;obtain⟨i7,rfl,a7,b7⟩:=cN r7;obtain⟨i8,rfl,a8,b8⟩:=cN r8;obtain⟨i9,rfl⟩:=QS r9;exact⟨l,⟨⟨i1,i2,i3⟩,i4,i5,i6,i7,i8,i9.data.toList⟩,.refl l,hl,⟨_,_,rfl,rfl,_,_,rfl,rfl,_,_,rfl,rfl,_,_,rfl,rfl,_,_,rfl,rfl,_,_,rfl,rfl,_,_,rfl,rfl,_,_,rfl,rfl,_,_,rfl,⟨i9,rfl,rfl⟩,rfl⟩,⟨(nH ⟨a2,b2⟩).1,⟨a8,b8⟩⟩⟩
theorem Yz(hp:cM P 8 t=some [.int .i64,.int .i64,.int .i64,.int .i64,.int .i64,.int .i64])(hc:P.cellsOf t=6):Rd enc P w held t (bF) bY (λ_ _=>True)where
 len:=λk=>by rw[hc];rfl
 up:=λl l' k p h=>h
 sc:=λh k _ a ha=>by simp only[bY,mem_cons,not_mem_nil,or_false]at ha;rcases ha with rfl|rfl|rfl|rfl|rfl|rfl<;>rfl
 rd:=λfuel cs x l hl h=>by
  obtain⟨c1,_,rfl,r1,c2,_,rfl,r2,c3,_,rfl,r3,c4,_,rfl,r4,c5,_,rfl,r5,c6,_,rfl,r6,rfl⟩:=fW 8 fuel t cs x _ h hp;obtain⟨i1,rfl,a1,b1⟩:=cN r1;obtain⟨i2,rfl,a2,b2⟩:=cN r2;obtain⟨i3,rfl,a3,b3⟩:=cN r3;obtain⟨i4,rfl,a4,b4⟩:=cN r4;obtain⟨i5,rfl,a5,b5⟩:=cN r5;obtain⟨i6,rfl,a6,b6⟩:=cN r6;exact⟨l,⟨i1,i2,i3,i4,i5,i6⟩,.refl l,hl,⟨_,_,rfl,rfl,_,_,rfl,rfl,_,_,rfl,rfl,_,_,rfl,rfl,_,_,rfl,rfl,_,_,rfl,rfl,rfl⟩,trivial⟩
theorem AgY(hp:cM P 8 t=some [.int .i64,.int .u64,.int .i64]){ρ:dR}{fuel:Nat}{cs:List Value}{x:DataW H×List MemPlace}(h:DataW.trod enc P w 0 (λ_=>true) held fuel t cs=some x):∃y:iF,fz ρ (gQ y) cs:=by
 obtain⟨c1,_,rfl,r1,c2,_,rfl,r2,c3,_,rfl,r3,rfl⟩:=fW 8 fuel t cs x _ h hp;obtain⟨i1,rfl,a1,b1⟩:=cN r1;obtain⟨i2,rfl,a2,b2⟩:=cN r2;obtain⟨i3,rfl,a3,b3⟩:=cN r3;exact⟨⟨i1,i2,i3⟩,_,_,rfl,rfl,_,_,rfl,rfl,_,_,rfl,rfl,rfl⟩
theorem TM(hp:cM P 8 t=some [.int .i64,.int .u64,.int .i64,.int .i64])(hc:P.cellsOf t=4):Rd enc P w held t (rZ) nV (λ_ _=>True)where
 len:=λk=>by rw[hc];rfl
 up:=λl l' k p h=>h
 sc:=λh k _ a ha=>by simp only[nV,mem_cons,not_mem_nil,or_false]at ha;rcases ha with rfl|rfl|rfl|rfl<;>rfl
 rd:=λfuel cs x l hl h=>by
  obtain⟨c1,_,rfl,r1,c2,_,rfl,r2,c3,_,rfl,r3,c4,_,rfl,r4,rfl⟩:=fW 8 fuel t cs x _ h hp;obtain⟨i1,rfl,a1,b1⟩:=cN r1;obtain⟨i2,rfl,a2,b2⟩:=cN r2;obtain⟨i3,rfl,a3,b3⟩:=cN r3;obtain⟨i4,rfl,a4,b4⟩:=cN r4;exact⟨l,⟨⟨i1,i2,i3⟩,i4⟩,.refl l,hl,⟨_,_,rfl,rfl,_,_,rfl,rfl,_,_,rfl,rfl,_,_,rfl,rfl,rfl⟩,trivial⟩
theorem TN(hp:cM P 8 t=some [.int .u64,.int .u64,.int .i64,.int .u64,.int .i64])(hc:P.cellsOf t=5):Rd enc P w held t (kF) gW (λ_ x=>0<=x.off/\0<=x.size)where
 len:=λk=>by rw[hc];rfl
 up:=λl l' k p h=>h
 sc:=λh k _ a ha=>by simp only[gW,mem_cons,not_mem_nil,or_false]at ha;rcases ha with rfl|rfl|rfl|rfl|rfl<;>rfl
 rd:=λfuel cs x l hl h=>by
  obtain⟨c1,_,rfl,r1,c2,_,rfl,r2,c3,_,rfl,r3,c4,_,rfl,r4,c5,_,rfl,r5,rfl⟩:=fW 8 fuel t cs x _ h hp;obtain⟨i1,rfl,a1,b1⟩:=cN r1;obtain⟨i2,rfl,a2,b2⟩:=cN r2;obtain⟨i3,rfl,a3,b3⟩:=cN r3;obtain⟨i4,rfl,a4,b4⟩:=cN r4;obtain⟨i5,rfl,a5,b5⟩:=cN r5;exact⟨l,⟨i1,i2,⟨i3,i4,i5⟩⟩,.refl l,hl,⟨_,_,rfl,rfl,_,_,rfl,rfl,_,_,rfl,rfl,_,_,rfl,rfl,_,_,rfl,rfl,rfl⟩,⟨(nH ⟨a1,b1⟩).1,(nH ⟨a2,b2⟩).1⟩⟩
theorem YA(hp:cM P 8 t=some [.int .u64,.int .u64])(hc:P.cellsOf t=2):Rd enc P w held t (Int×Int) lG (λ_ _=>True)where
 len:=λk=>by rw[hc];rfl
 up:=λl l' k p h=>h
 sc:=λh k _ a ha=>by simp only[lG,mem_cons,not_mem_nil,or_false]at ha;rcases ha with rfl|rfl<;>rfl
 rd:=λfuel cs x l hl h=>by
  obtain⟨c1,_,rfl,r1,c2,_,rfl,r2,rfl⟩:=fW 8 fuel t cs x _ h hp;obtain⟨i1,rfl,a1,b1⟩:=cN r1;obtain⟨i2,rfl,a2,b2⟩:=cN r2;exact⟨l,(i1,i2),.refl l,hl,⟨_,_,rfl,rfl,_,_,rfl,rfl,rfl⟩,trivial⟩
theorem YB(hp:cM P 8 t=some [.int .u64])(hc:P.cellsOf t=1):Rd enc P w held t (Int) kU (λ_ _=>True)where
 len:=λk=>by rw[hc];rfl
 up:=λl l' k p h=>h
 sc:=λh k _ a ha=>by simp only[kU,mem_cons,not_mem_nil,or_false]at ha;subst ha;rfl
 rd:=λfuel cs x l hl h=>by
  obtain⟨c1,_,rfl,r1,rfl⟩:=fW 8 fuel t cs x _ h hp;obtain⟨i1,rfl,a1,b1⟩:=cN r1;exact⟨l,i1,.refl l,hl,⟨_,_,rfl,rfl,rfl⟩,trivial⟩
theorem TO(hp:cM P 8 t=some [.string])(hc:P.cellsOf t=1):Rd enc P w held t (List UInt8) oI (λ_ _=>True)where
 len:=λk=>by rw[hc];rfl
 up:=λl l' k p h=>h
 sc:=λh k _ a ha=>by simp only[oI,mem_cons,not_mem_nil,or_false]at ha;subst ha;rfl
 rd:=λfuel cs x l hl h=>by
  obtain⟨c1,_,rfl,r1,rfl⟩:=fW 8 fuel t cs x _ h hp;obtain⟨i1,rfl⟩:=QS r1;exact⟨l,i1.data.toList,.refl l,hl,⟨_,_,rfl,⟨i1,rfl,rfl⟩,rfl⟩,trivial⟩
structure Tys(P:Program)(bt mt st rt ut pt vt lt xt:TypeId):Prop where
 b:cM P 8 bt=some [.int .i64,.int .u64,.int .i64,.int .i64,.int .i64,.int .i64,.int .i64,.int .i64,.string]/\P.cellsOf bt=9
 m:cM P 8 mt=some [.int .i64,.int .u64,.int .i64,.int .i64]/\P.cellsOf mt=4
 s:cM P 8 st=some [.int .u64,.int .u64,.int .i64,.int .u64,.int .i64]/\P.cellsOf st=5
 r:cM P 8 rt=some [.int .u64,.int .u64]/\P.cellsOf rt=2
 u:cM P 8 ut=some [.int .u64]/\P.cellsOf ut=1
 x:cM P 8 xt=some [.string]/\P.cellsOf xt=1
 p:cM P 8 pt=some [.int .i64,.int .u64,.bool,.int .u64,.int .u64,.int .u64,.int .u64,.slice st,.int .u64,.int .u64,.int .u64,.slice rt,.slice ut]/\P.cellsOf pt=13
 v:cM P 8 vt=some [.int .i64,.int .u64,.int .u64,.int .u64,.int .u64,.int .i64,.int .i64,.int .i64,.int .i64,.int .i64,.int .i64,.int .i64,.int .i64,.int .i64,.int .i64,.int .i64,.bool,.int .i64,.int .u64,.int .i64,.int .u64,.int .i64,.slice bt,.slice mt,.slice pt,.slice pt]/\P.cellsOf vt=26
 l:cM P 8 lt=some [.int .i64,.int .i64,.slice xt]/\P.cellsOf lt=3
theorem Lo(T:Tys P bt mt st rt ut pt vt lt xt):Rd enc P w held pt PX wh (λh x=>ic h x.p x.s x.t x.k/\Tb x.p)where
 len:=λk=>by rw[T.p.2];rfl
 up:=λl l' k p h=>⟨ic.bw (m:=⟨fT l ⟨0,.e⟩,[],[]⟩) (m':=⟨fT l' ⟨0,.e⟩,[],[]⟩) h.1 p.bw,h.2⟩
 sc:=λh k g a ha=>by
  simp only[wh,dc,mem_cons,not_mem_nil,or_false]at ha;rcases ha with rfl|rfl|rfl|rfl|rfl|rfl|rfl|rfl|rfl|rfl|rfl|rfl|rfl
  all_goals first|rfl|exact g.1.s.s.sc|exact g.1.r.t.sc|exact g.1.r.k.sc
 rd:=λfuel cs x l hl h=>by
  obtain⟨c1,_,rfl,r1,c2,_,rfl,r2,c3,_,rfl,r3,c4,_,rfl,r4,c5,_,rfl,r5,c6,_,rfl,r6,c7,_,rfl,r7,c8,_,rfl,r8,c9,_,rfl,r9,c10,_,rfl,DW,c11,_,rfl,DX,c12,_,rfl,DY,c13,_,rfl,DZ,rfl⟩:=fW 8 fuel pt cs x _ h T.p.1;obtain⟨i1,rfl,a1,b1⟩:=cN r1;obtain⟨i2,rfl,a2,b2⟩:=cN r2;obtain⟨i3,rfl⟩:=Ln r3;obtain⟨i4,rfl,a4,b4⟩:=cN r4;obtain⟨i5,rfl,a5,b5⟩:=cN r5;obtain⟨i6,rfl,a6,b6⟩:=cN r6;obtain⟨i7,rfl,a7,b7⟩:=cN r7;obtain⟨i9,rfl,a9,b9⟩:=cN r9;obtain⟨i10,rfl,Nl,b10⟩:=cN DW;obtain⟨i11,rfl,SH,b11⟩:=cN DX;obtain⟨l1,v1,k1,p1,sZ,q1,s1,g1⟩:=vz (TN T.s.1 T.s.2) T.s.2 Z hl r8;obtain⟨l2,v2,k2,p2,xU,q2,s2,g2⟩:=vz (YA T.r.1 T.r.2) T.r.2 Z sZ DY;obtain⟨l3,v3,k3,p3,hl3,q3,s3,g3⟩:=vz (YB T.u.1 T.u.2) T.u.2 Z xU DZ;have p23:=p2.trans p3;have f4:=nH ⟨a4,b4⟩;have f5:=nH ⟨a5,b5⟩;have f6:=nH ⟨a6,b6⟩;have f7:=nH ⟨a7,b7⟩;have f9:=nH ⟨a9,b9⟩;have f10:=nH ⟨Nl,b10⟩;have f11:=nH ⟨SH,b11⟩;exact⟨l3,⟨⟨i1,i2,i3,i4,⟨i5,i6,i7,k1⟩,⟨i9,i10,i11,k2,k3⟩⟩,v1,v2,v3⟩,p1.trans p23,hl3,⟨_,_,rfl,rfl,_,_,rfl,rfl,_,_,rfl,(by simp[VR]),_,_,rfl,rfl,_,_,rfl,rfl,_,_,rfl,rfl,_,_,rfl,rfl,_,_,rfl,q1.mono p23.le,_,_,rfl,rfl,_,_,rfl,rfl,_,_,rfl,rfl,_,_,rfl,q2.mono p3.le,_,_,rfl,q3,rfl⟩,
   ⟨⟨s1.up p23,f7.1,f6.1,f5.2,f6.2,g1⟩,⟨s2.up p3,s3,f10.1,f9.2⟩⟩,⟨f7.1,f6.1,f5.2,f6.2,g1,f10.1,f9.2,f11.1,f4.1⟩⟩
theorem TP(T:Tys P bt mt st rt ut pt vt lt xt):Rd enc P w held vt VX dI (λh x=>ue h x/\wP x/\PK x.v)where
 len:=λk=>by rw[T.v.2];rfl
 up:=λl l' k p h=>⟨ue.bw (m:=⟨fT l ⟨0,.e⟩,[],[]⟩) (m':=⟨fT l' ⟨0,.e⟩,[],[]⟩) h.1 p.bw,h.2⟩
 sc:=λh k g a ha=>by
  simp only[dI,mem_cons,not_mem_nil,or_false]at ha;rcases ha with rfl|rfl|rfl|rfl|rfl|rfl|rfl|rfl|rfl|rfl|rfl|rfl|rfl|rfl|rfl|rfl|rfl|rfl|rfl|rfl|rfl|rfl|rfl|rfl|rfl|rfl
  all_goals first|rfl|exact g.1.b.sc|exact g.1.m.sc|exact g.1.p.v.sc|exact g.1.q.v.sc
 rd:=λfuel cs x l hl h=>by
  obtain⟨c1,_,rfl,r1,c2,_,rfl,r2,c3,_,rfl,r3,c4,_,rfl,r4,c5,_,rfl,r5,c6,_,rfl,r6,c7,_,rfl,r7,c8,_,rfl,r8,c9,_,rfl,r9,c10,_,rfl,DW,c11,_,rfl,DX,c12,_,rfl,DY,c13,_,rfl,DZ,c14,_,rfl,Fw,c15,_,rfl,D0,Q8,_,rfl,Yg,c17,_,rfl,Tf,c18,_,rfl,r18,c19,_,rfl,r19,c20,_,rfl,r20,c21,_,rfl,r21,c22,_,rfl,r22,c23,_,rfl,r23,c24,_,rfl,r24,c25,_,rfl,r25,c26,_,rfl,r26,rfl⟩:=fW 8 fuel vt cs x _ h T.v.1;obtain⟨i1,rfl,a1,b1⟩:=cN r1;obtain⟨i2,rfl,a2,b2⟩:=cN r2;obtain⟨i3,rfl,a3,b3⟩:=cN r3;obtain⟨i4,rfl,a4,b4⟩:=cN r4;obtain⟨i5,rfl,a5,b5⟩:=cN r5;obtain⟨i6,rfl,a6,b6⟩:=cN r6;obtain⟨i7,rfl,a7,b7⟩:=cN r7;obtain⟨i8,rfl,a8,b8⟩:=cN r8;obtain⟨i9,rfl,a9,b9⟩:=cN r9;obtain⟨i10,rfl,Nl,b10⟩:=cN DW;obtain⟨i11,rfl,SH,b11⟩:=cN DX;obtain⟨i12,rfl,a12,b12⟩:=cN DY;obtain⟨i13,rfl,a13,b13⟩:=cN DZ;obtain⟨i14,rfl,a14,b14⟩:=cN Fw;obtain⟨i15,rfl,a15,b15⟩:=cN D0;obtain⟨i16,rfl,YX,Xa⟩:=cN Yg;obtain⟨zQ,rfl⟩:=Ln Tf;obtain⟨i18,rfl,a18,b18⟩:=cN r18;obtain⟨i19,rfl,a19,b19⟩:=cN r19;obtain⟨i20,rfl,a20,b20⟩:=cN r20;obtain⟨i21,rfl,a21,b21⟩:=cN r21;obtain⟨i22,rfl,a22,UL⟩:=cN r22;obtain⟨l1,v1,k1,p1,sZ,q1,s1,g1⟩:=vz (Yy T.b.1 T.b.2) T.b.2 Z hl r23;obtain⟨l2,v2,k2,p2,xU,q2,s2,g2⟩:=vz (TM T.m.1 T.m.2) T.m.2 Z sZ r24;obtain⟨l3,v3,k3,p3,hl3,q3,s3,g3⟩:=vz (Lo T) T.p.2 Z xU r25;obtain⟨l4,v4,k4,p4,hl4,q4,s4,g4⟩:=vz (Lo T) T.p.2 Z hl3 r26;have p34:=p3.trans p4;have p24:=p2.trans p34;have g3':df (fT l3 ⟨0,.e⟩) v3 k3:=⟨s3,λx hx=>(g3 x hx).1⟩;exact⟨l4,⟨⟨⟨i1,i2,i3,i4,i5,i6,i7,i8,i9,i10,i11,i12,i13,i14,i15,i16⟩,zQ,⟨i18,i19,⟨i20,i21,i22⟩,k1,k2,k3.map (·.p)⟩,k4.map (·.p)⟩,v1,v2,v3,k3,v4,k4⟩,p1.trans p24,hl4,⟨_,_,rfl,rfl,_,_,rfl,rfl,_,_,rfl,rfl,_,_,rfl,rfl,_,_,rfl,rfl,_,_,rfl,rfl,_,_,rfl,rfl,_,_,rfl,rfl,_,_,rfl,rfl,_,_,rfl,rfl,_,_,rfl,rfl,_,_,rfl,rfl,_,_,rfl,rfl,_,_,rfl,rfl,_,_,rfl,rfl,_,_,rfl,rfl,_,_,rfl,(by simp[VR]),_,_,rfl,rfl,_,_,rfl,rfl,_,_,rfl,rfl,_,_,rfl,rfl,_,_,rfl,rfl,_,_,rfl,q1.mono p24.le,_,_,rfl,q2.mono p34.le,_,_,rfl,q3.mono p4.le,_,_,rfl,q4,rfl⟩,
   ⟨s1.up p24,s2.up p34,g3'.up p4,⟨s4,λx hx=>(g4 x hx).1⟩⟩,⟨rfl,rfl⟩,⟨(nH ⟨a4,b4⟩).1,(nH ⟨a5,b5⟩).1,(nH ⟨a2,b2⟩).1,g1,λp hp=>by
    obtain⟨y,hy,rfl⟩:=mem_map.1 hp;exact(g3 y hy).2,λp hp=>by
    obtain⟨y,hy,rfl⟩:=mem_map.1 hp;exact(g4 y hy).2⟩⟩
theorem TQ(T:Tys P bt mt st rt ut pt vt lt xt):Rd enc P w held lt LX jB (λh x=>aT h 1 x.f (x.l.dh.map oI))where
 len:=λk=>by rw[T.l.2];rfl
 up:=λl l' k p h=>h.up p
 sc:=λh k g a ha=>by
  simp only[jB,mem_cons,not_mem_nil,or_false]at ha;rcases ha with rfl|rfl|rfl
  all_goals first|rfl|exact g.sc
 rd:=λfuel cs x l hl h=>by
  obtain⟨c1,_,rfl,r1,c2,_,rfl,r2,c3,_,rfl,r3,rfl⟩:=fW 8 fuel lt cs x _ h T.l.1;obtain⟨i1,rfl,a1,b1⟩:=cN r1;obtain⟨i2,rfl,a2,b2⟩:=cN r2;obtain⟨l1,v1,k1,p1,sZ,q1,s1,g1⟩:=vz (TO T.x.1 T.x.2) T.x.2 Z hl r3;exact⟨l1,⟨⟨i1,i2,k1⟩,v1⟩,p1,sZ,⟨_,_,rfl,rfl,_,_,rfl,rfl,_,_,rfl,q1,rfl⟩,s1⟩
theorem TT(T:Tys P bt mt st rt ut pt vt lt xt)(hp:cM P 8 t=some [.int .i64,.slice vt,.slice lt]){fuel:Nat}{cs:List Value}{x:DataW H×List MemPlace}{l:jI}(hl:NA w l)(h:DataW.trod enc P w 0 (λ_=>true) held fuel t cs=some x):
 ∃(l':jI) (s:cE),Fl l l'/\NA w l'/\fz (nT l') (cJ s) cs/\iM (fT l' ⟨0,.e⟩) s/\(∀x∈s.vs,wP x)/\∀x∈s.vs,PK x.v:=by
 obtain⟨c1,_,rfl,r1,c2,_,rfl,r2,c3,_,rfl,r3,rfl⟩:=fW 8 fuel t cs x _ h hp;obtain⟨i1,rfl,a1,b1⟩:=cN r1;obtain⟨l1,v1,k1,p1,sZ,q1,s1,g1⟩:=vz (TP T) T.v.2 Z hl r2;obtain⟨l2,v2,k2,p2,xU,q2,s2,g2⟩:=vz (TQ T) T.l.2 Z sZ r3;exact⟨l2,⟨i1,v1,k1,v2,k2⟩,p1.trans p2,xU,⟨_,_,rfl,rfl,_,_,rfl,q1.mono p2.le,_,_,rfl,q2,rfl⟩,
  ⟨s1.up p2,s2,λx hx=>ue.bw (m:=⟨fT l1 ⟨0,.e⟩,[],[]⟩) (m':=⟨fT l2 ⟨0,.e⟩,[],[]⟩) (g1 x hx).1 p2.bw,g2⟩,λx hx=>(g1 x hx).2.1,λx hx=>(g1 x hx).2.2⟩
end
end Go.Abs
end
