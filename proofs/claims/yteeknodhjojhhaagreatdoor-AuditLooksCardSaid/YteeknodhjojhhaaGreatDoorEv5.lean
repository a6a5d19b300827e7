/- Regions whose order is drawn; calls; rows of the memory
   Conditions: none. -/
import Derived.Test.YteeknodhjojhhaaGreatDoorEv4
import Derived.OpenShut
set_option linter.unusedSimpArgs false
set_option linter.unusedVariables false
set_option maxRecDepth 100000
noncomputable section
namespace Go.Abs
open List Option IntKind
def j6.quiet(op:j6):Bool:=!op.pA&&!op.iG
section
variable{get oA:Nat->Option bp}{bU Aae:Nat}{T T':Tr}
theorem AT{xs:List bE}(h:∀x∈xs,cP T x=cP T' x):xs.map (cP T)=xs.map (cP T'):=map_congr_left h
theorem qo{x:Option bE}(h:∀y∈x.toList,cP T y=cP T' y):x.map (cP T)=x.map (cP T'):=by
 cases x with
 |none=>rfl
 |some y=>simp[h y (by simp)]
theorem R7{op:j6}(h:∀x∈op.z9,cP T x=cP T' x):bG get bU T op=bG get bU T' op:=by
 have h1:∀{x:bE},x∈op.z9->cP T x=cP T' x:=λhx=>h _ hx
 cases op<;>simp only[j6.z9,mem_cons,not_mem_nil,or_false,forall_eq_or_imp,forall_eq,mem_append,mem_map]at h;case build z cM=>
  have e:(cM.map λ(x:Nat×Nat×bE)=>(x.1,x.2.1,cP T x.2.2))=cM.map λ(x:Nat×Nat×bE)=>(x.1,x.2.1,cP T' x.2.2):=map_congr_left λx hx=>by rw[h x.2.2 ⟨x,hx,rfl⟩]
  simp only[bG,e]
 case Aw bZ len z cM=>
  have e:(cM.map λ(x:Nat×bE)=>(x.1,cP T x.2))=cM.map λ(x:Nat×bE)=>(x.1,cP T' x.2):=map_congr_left λx hx=>by rw[h x.2 ⟨x,hx,rfl⟩]
  simp only[bG,e]
 case A9 f a c=>
  simp only[bG,AT (λx hx=>h x (.inl hx)),AT (λx hx=>h x (.inr hx))]
 case rJ x lo hi=>simp only[bG,h.1,qo (λx hx=>h.2 x (.inl hx)),qo (λx hx=>h.2 x (.inr hx))]
 case qM x lo hi mx=>simp only[bG,h.1,qo (λx hx=>h.2 x (.inl hx)),qo (λx hx=>h.2 x (.inr (.inl hx))),qo (λx hx=>h.2 x (.inr (.inr hx)))]
 case qN x lo hi mx=>simp only[bG,h.1,qo (λx hx=>h.2 x (.inl hx)),qo (λx hx=>h.2 x (.inr (.inl hx))),qo (λx hx=>h.2 x (.inr (.inr hx)))]
 case sN m xs=>simp only[bG,AT h]
 case call=>rfl
 case rL=>rfl
 case invoke=>rfl
 all_goals simp only[bG,h]
theorem oB(hg:∀b x,get b=some x->oA b=some x){bZ:Nat}{x:AV}{r:List (List AV)}(h:eW get bZ x=some r):eW oA bZ x=some r:=by
 unfold eW at h|-;split at h
 .exact h
 .exact h
 .exact h
 .exact h
 .split at h
  .rename_i hb;rw[hg _ _ hb];exact h
  .cases h
 .exact h
 .cases h
theorem F6(hg:∀b x,get b=some x->oA b=some x){bZ:Nat}{x:AV}{lo hi mx:Option AV}{r:AV}(h:lU get bZ x lo hi mx=some r):lU oA bZ x lo hi mx=some r:=by
 unfold lU at h|-;split at h
 .exact h
 .exact h
 .split at h
  .rename_i hb;rw[hg _ _ hb];exact h
  .cases h
 .cases h
theorem EH(hg:∀b x,get b=some x->oA b=some x){bZ len:Nat}{x:AV}{lo hi mx:Option AV}{r:AV}(h:nK get bZ len x lo hi mx=some r):nK oA bZ len x lo hi mx=some r:=by
 unfold nK at h|-;split at h
 .split at h
  .rename_i hb;rw[hg _ _ hb];exact h
  .cases h
 .cases h
theorem EI(hg:∀b x,get b=some x->oA b=some x){bZ bytes:Nat}{s x:AV}{r:AV×List j9}(h:eC get bU bZ bytes s x=some r):eC oA bU bZ bytes s x=some r:=by
 unfold eC at h|-;split at h
 .cases h
 .rename_i hx;rw[oB hg hx];exact h
 .rename_i jV hx;rw[oB hg hx];split at h
  .split
   .rename_i e;cases e
   .rename_i e;cases e;exact absurd rfl jV
   .rename_i e;cases e;exact h
  .split
   .rename_i e;cases e
   .rename_i e;cases e;exact absurd rfl jV
   .rename_i e;cases e;exact h
  .split at h
   .rename_i hb;split
    .rename_i e;cases e
    .rename_i e;cases e;exact absurd rfl jV
    .rename_i e;cases e;simp only[hg _ _ hb];exact h
   .cases h
  .cases h
theorem HV(hg:∀b x,get b=some x->oA b=some x){bZ:Nat}{d s:AV}{r:AV×List j9}(h:z8 get bZ d s=some r):z8 oA bZ d s=some r:=by
 unfold z8 at h|-;split at h
 .cases h
 .rename_i hx;rw[oB hg hx];simp only;split at h
  .exact h
  .exact h
  .simp only at h|-;split at h
   .rw[aG (by assumption)];exact h
   .rw[aq (by assumption)];split at h
    .rename_i hb;rw[hg _ _ hb];exact h
    .cases h
  .cases h
theorem HW(hg:∀b x,get b=some x->oA b=some x){op:j6}{r:AV×List j9}(h:bG get bU T op=some r):bG oA bU T op=some r:=by
 cases op<;>simp only[bG]at h|-;case tN=>exact EI hg h
 case copy=>exact HV hg h
 case qM=>
  simp only[map_eq_some_iff]at h|-;obtain⟨v,h1,h2⟩:=h;exact⟨v,F6 hg h1,h2⟩
 case qN=>
  simp only[map_eq_some_iff]at h|-;obtain⟨v,h1,h2⟩:=h;exact⟨v,EH hg h1,h2⟩
 case conv k x=>
  split at h
  .exact h
  .exact h
  .split at h
   .cases h
   .split at h
    .rename_i hx;rw[oB hg hx];exact h
    .cases h
  .exact h
  .cases h
 case load=>
  split at h
  .split at h
   .rename_i hb;rw[hg _ _ hb];exact h
   .cases h
  .cases h
 case store=>
  split at h
  .split at h
   .rename_i hb;rw[hg _ _ hb];exact h
   .cases h
  .cases h
 case Ek=>
  split at h
  .split at h
   .rename_i hb;rw[hg _ _ hb];exact h
   .cases h
  .cases h
 case Bb=>
  split at h
  .split at h
   .rename_i hb;rw[hg _ _ hb];exact h
   .cases h
  .cases h
 case len=>
  split at h;all_goals first
   |exact h
   |(
    split at h
    .rename_i hb
     rw[hg _ _ hb]
     exact h
    .cases h)
   |(cases h;done)
 case look=>
  split at h
  .exact h
  .split at h
   .rename_i hb;rw[hg _ _ hb];exact h
   .cases h
  .cases h
 case qO=>
  split at h
  .split at h
   .rename_i hb;rw[hg _ _ hb];exact h
   .cases h
  .cases h
 all_goals exact h
theorem Dz{op:j6}(hq:op.quiet=true):bG get bU T op=bG get Aae T op:=by
 cases op<;>simp[j6.quiet,j6.pA,j6.iG]at hq<;>try rfl
 case conv k x=>
  cases k with
  |Zs n=>simp at hq
  |toInt k=>simp only[bG];split<;>first|rfl|simp_all
  |nQ=>simp only[bG];split<;>first|rfl|simp_all
  |b2s=>simp only[bG]
theorem LO{au:bR}{op:j6}(h:∀x∈op.z9,cP T x=cP T' x):eD get au T op=eD get au T' op:=by
 have hl:∀{xs:List bE},(∀x∈xs,cP T x=cP T' x)->wW T xs=wW T' xs:=by
  intro xs hx;rw[pH,pH,AT hx]
 cases op<;>simp only[eD];case call f args=>rw[hl (xs:=args) h]
 case rL x args=>
  simp only[j6.z9,mem_cons,forall_eq_or_imp]at h;rw[h.1,hl h.2]
 case invoke x name args=>
  simp only[j6.z9,mem_cons,forall_eq_or_imp]at h;rw[h.1,hl h.2];simp only[bG,cP]
end
structure nY(m m':Mem):Prop where
 hU:∃l,m'.hU=l++m.hU/\(∀b,b∉l->aj m'.ah b=aj m.ah b)/\∀b∈l,b<m'.ah.length
 bS:∀b x,aj m'.ah b=some x->x.bS=false->aj m.ah b=some x
 len:m.ah.length<=m'.ah.length
theorem nY.refl(m:Mem):nY m m:=⟨⟨[],rfl,λ_ _=>rfl,λ_ h=>by cases h⟩,λ_ _ h _=>h,cB⟩
theorem nY.trans{a b c:Mem}(h:nY a b)(k:nY b c):nY a c where
 hU:=by
  obtain⟨l,h1,h2,h3⟩:=h.hU;obtain⟨l',k1,k2,k3⟩:=k.hU;refine⟨l'++l,by rw[k1,h1,append_assoc],λx hx=>?_,λx hx=>?_⟩
  .simp only[mem_append,not_or]at hx;rw[k2 x hx.1,h2 x hx.2]
  .rcases mem_append.1 hx with hx|hx
   .exact k3 x hx
   .exact gA (h3 x hx) k.len
 bS:=λx y hx hy=>h.bS x y (k.bS x y hx hy) hy
 len:=bK h.len k.len
theorem nY.aV{m m':Mem}(h:nY m m')(d d':List Nat):nY {m with aV:=d} {m' with aV:=d'}:=⟨h.hU,h.bS,h.len⟩
theorem nY.apply{m:Mem}{c:j9}(wC:c.id<=m.ah.length)(hb:∀x,c.mV=some x->x.bS=true):nY m (m.apply c)where
 hU:=⟨[c.id],rfl,λb hb=>by rw[iY,dw wC,aq (by simpa using hb)],λb hb=>by
  rw[mem_singleton]at hb;subst hb;rw[iY,cw];omega⟩
 bS:=λb x hx ho=>by
  rw[iY,dw wC]at hx;split at hx
  .rw[hb _ hx]at ho;cases ho
  .exact hx
 len:=by rw[iY,cw];omega
theorem Ow{x:bp}(h:x.data=true):x.bS=true:=by cases x<;>first|exact h|rfl|cases h
theorem nY.dX:∀(cs:List j9) (m:Mem),(∀c∈cs,c.id<=m.ah.length/\∀x,c.mV=some x->x.bS=true)->nY m (m.dX cs)
 |[],m,_=>nY.refl m
 |c::cs,m,h=>by
  obtain⟨h1,h2⟩:=h c (by simp);have t:=nY.apply (c:=c) h1 h2;refine t.trans (nY.dX cs _ λd hd=>?_);obtain⟨g1,g2⟩:=h d (by simp[hd]);exact⟨bK g1 t.len,g2⟩
theorem tu:∀(n:Nat) (h:aN),(zZ h n).length=h.length+n
 |0,_=>rfl
 |n+1,h=>by rw[zZ,tu n,cw];omega
theorem rV:∀(n:Nat) (h:aN) (b:Nat),aj (zZ h n) b=aj h b
 |0,_,_=>rfl
 |n+1,h,b=>by
  rw[zZ,rV n,dw cB];split
  .rename_i e;rw[e,mL cB]
  .rfl
theorem nY.om(m:Mem)(n:Nat):nY m (m.om n)where
 hU:=⟨[],rfl,λb _=>rV n m.ah b,λ_ h=>by cases h⟩
 bS:=λb x hx _=>by rw[<-rV n m.ah b];exact hx
 len:=by show _<=(zZ m.ah n).length;rw[tu];omega
def tW(call:eX):Prop:=∀c vs m v m',call c vs m=some (v,m')->nY m m'
theorem BK{get:Nat->Option bp}{bU:Nat}{T:Tr}{op:j6}{v:AV}{cs:List j9}{m:Mem}(hg:∀b x,get b=some x->aj m.ah b=some x)(hn:bU<=m.ah.length)(h:bG get bU T op=some (v,cs)):
 ∀c∈cs,c.id<=m.ah.length/\∀x,c.mV=some x->x.bS=true:=λc hc=>by
 obtain⟨h1,h2⟩:=iZ h c hc;refine⟨?_,λx hx=>Ow (h2 x hx)⟩;rcases h1 with e|⟨x,h1,_⟩
 .omega
 .exact Nat.le_of_lt (ag (hg _ _ h1))
theorem BL{call:eX}{au:bR}(hc:tW call):∀(os:List cS) (T T':Tr) (m m':Mem),xK call au os T m=some (T',m')->nY m m'
 |[],T,T',m,m',h=>by simp only[xK]at h;cases h;exact nY.refl _
 |o::os,T,T',m,m',h=>by
  simp only[xK]at h;split at h
  .split at h
   .rename_i v m1 ho;refine nY.trans ?_ (BL hc os _ _ _ _ h);unfold xJ at ho;cases wg:o.op.dZ<;>rw[wg]at ho<;>simp only[cond]at ho
    .split at ho
     .rename_i hp;cases ho;exact nY.dX _ _ (BK (λ_ _ h=>h) cB hp)
     .cases ho
    .split at ho
     .exact hc _ _ _ _ _ ho
     .cases ho
   .cases h
  .exact BL hc os _ _ _ _ h
  .cases h
theorem yc{l:List Nat}{k:Nat}:ins l k=true↔k∈l:=by
 induction l with
 |nil=>simp[ins]
 |cons x l ih=>
  simp only[ins,mem_cons];cases hb:Nat.beq x k
  .have:x≠k:=λe=>by subst e;rw[Nat.beq_refl]at hb;cases hb
   simp only[cond,ih];exact⟨λh=>.inr h,λh=>h.elim (λe=>absurd e.symm this) id⟩
  .have:=Nat.eq_of_beq_eq_true hb;subst this;simp
theorem qq:∀(l:List Nat) (h:aN),(∀b∈l,b<h.length)->(mA h l).length=h.length
 |[],_,_=>rfl
 |b::l,h,hl=>by
  have hb:=hl b (by simp);have e:(aQ h b none).length=h.length:=by rw[cw];omega
  rw[mA,qq l _ (λc hc=>by rw[e];exact hl c (by simp[hc])),e]
theorem yd:∀(l:List Nat) (h:aN),(∀b∈l,b<h.length)->∀c,aj (mA h l) c=if c∈l then none else aj h c
 |[],_,_,_=>by simp[mA]
 |b::l,h,hl,c=>by
  have hb:=hl b (by simp);have e:(aQ h b none).length=h.length:=by rw[cw];omega
  rw[mA,yd l _ (λc hc=>by rw[e];exact hl c (by simp[hc])),dw (Nat.le_of_lt hb)];by_cases h1:c∈l
  .simp[h1]
  .by_cases h2:c=b
   .simp[h2]
   .simp[h1,h2]
theorem nS:∀(l:List Nat) (h:aN) (m:Mem),(∀b∈l,b<m.ah.length)->(kM m h l).ah.length=m.ah.length/\∀c,aj (kM m h l).ah c=if c∈l then aj h c else aj m.ah c
 |[],_,_,_=>by simp[kM]
 |b::l,h,m,hl=>by
  have hb:=hl b (by simp);have e:(aQ m.ah b (aj h b)).length=m.ah.length:=by rw[cw];omega
  obtain⟨g1,g2⟩:=nS l h {m with ah:=aQ m.ah b (aj h b)} (λc hc=>by simp only;rw[e];exact hl c (by simp[hc]));refine⟨by rw[kM,g1];exact e,λc=>?_⟩;rw[kM,g2];simp only;rw[dw (Nat.le_of_lt hb)];by_cases h1:c∈l
  .simp[h1]
  .by_cases h2:c=b
   .simp[h2]
   .simp[h1,h2]
theorem qu{wr:List Nat}{mk:Bool}:∀{rs:List jN},mI wr mk rs=false->∀r∈rs,(mk&&r.mj)=false/\(∀b∈wr,r.mH b=false)/\∀b∈wr,b∉r.wr
 |[],_,r,hr=>by cases hr
 |q::rs,h,r,hr=>by
  simp only[mI,Bool.or_eq_false_iff]at h;obtain⟨⟨⟨h1,h2⟩,h3⟩,h4⟩:=h;rcases mem_cons.1 hr with rfl|hr
  .refine⟨h1,λb hb=>?_,λb hb hm=>?_⟩
   .have:=List.any_eq_false.1 h2 b hb;simpa using this
   .have:=List.any_eq_false.1 h3 b hb;exact this (yc.2 hm)
  .exact qu h4 r hr
def BM(cq:List jN)(n:Nat):Prop:=∀r∈cq,∀b∈r.wr,b<n
theorem n6:∀(cs:List j9) (m:Mem),m.ah.length<=(m.dX cs).ah.length/\∀c∈cs,c.id<(m.dX cs).ah.length
 |[],m=>⟨cB,λ_ h=>by cases h⟩
 |c::cs,m=>by
  obtain⟨h1,h2⟩:=n6 cs (m.apply c);have h3:m.ah.length<=(m.apply c).ah.length/\c.id<(m.apply c).ah.length:=by rw[iY,cw];omega
  refine⟨bK h3.1 h1,λd hd=>?_⟩;rcases mem_cons.1 hd with rfl|hd
  .exact gA h3.2 h1
  .exact h2 d hd
theorem BM.gu{cq:List jN}{n:Nat}(h:BM cq n)(p:jN->Bool):∀b∈(cq.filter p).flatMap (·.wr),b<n:=λb hb=>by
 obtain⟨r,hr,hb⟩:=mem_flatMap.1 hb;exact h r (mem_filter.1 hr).1 b hb
theorem yf{call:eX}(hc:tW call){c:hZ}{vs:List AV}{v:AV}{m m2:Mem}{gu:List Nat}(hm:∀b∈gu,b<m.ah.length)(h:call c vs {ah:=mA m.ah gu,hU:=[]}=some (v,m2)):
 nY m {ah:=(kM m2 m.ah gu).ah,hU:=m2.hU++m.hU,aV:=m.aV}:=by
 have t:=hc _ _ _ _ _ h;have eV:(mA m.ah gu).length=m.ah.length:=qq _ _ hm;have xU:∀b∈gu,b<m2.ah.length:=λb hb=>gA (hm b hb) (by have:=t.len;simp only[eV]at this;exact this)
 obtain⟨g1,g2⟩:=nS gu m.ah m2 xU;obtain⟨l,e1,e2,e3⟩:=t.hU;simp only[append_nil]at e1;subst e1;refine⟨⟨m2.hU,rfl,λb hb=>?_,λb hb=>by simp only;rw[g1];exact e3 b hb⟩,λb x hx ho=>?_,by simp only;rw[g1,<-eV];exact t.len⟩
 .simp only;rw[g2];split
  .rfl
  .rw[e2 b hb];simp only;rw[yd _ _ hm,aq (by assumption)]
 .simp only at hx;rw[g2]at hx;split at hx
  .exact hx
  .have:=t.bS b x hx ho;simp only at this;rw[yd _ _ hm,aq (by assumption)]at this;exact this
theorem zt{α:Type}{b:Bool}{x:Option α}{y:α}(h:cond b x none=some y):b=true/\x=some y:=by cases b<;>first|(cases h;done)|exact⟨rfl,h⟩
theorem vH{α:Type}{b:Bool}{x:Option α}{y:α}(h:cond b none x=some y):b=false/\x=some y:=by cases b<;>first|(cases h;done)|exact⟨rfl,h⟩
theorem JF{bC n:Nat}{s:Option Nat}(h:sO bC n s=true):∀k,s=some k->bC+k<n:=λk hk=>by subst hk;exact(iff_of_eq Nat.blt_eq).1 h
theorem JG{bC n:Nat}{s:Option Nat}(h:sO bC n s=true):m9 bC n s<=n:=by
 cases s with
 |none=>exact cB
 |some k=>exact Nat.le_of_lt (JF h k rfl)
theorem F7{m:Mem}{l:Nat}{x:bp}(hb:aj m.ah l=some x)(y:oe):nY m (m.apply ⟨l,some (.loop y),[]⟩):=nY.apply (Nat.le_of_lt (ag hb)) (λx hx=>by cases hx;rfl)
theorem vI{call:eX}{au:bR}(hc:tW call){bC:Nat}:∀(os:List cS) (i:Nat) (cq:List jN) (T T':Tr) (m m':Mem),mJ call au bC i os cq T m=some (T',m')->BM cq m.ah.length->nY m m'
 |[],i,cq,T,T',m,m',h,_=>by simp only[mJ]at h;cases h;exact nY.refl _
 |o::os,i,cq,T,T',m,m',h,hr=>by
  simp only[mJ]at h;split at h
  .cases wg:o.op.dZ<;>rw[wg]at h<;>simp only[cond_true,cond_false]at h
   .split at h
    .rename_i v cs hp;obtain⟨hz,h⟩:=vH h;simp only[Bool.or_eq_false_iff,Bool.not_eq_false']at hz;have t:nY m (m.dX cs):=nY.dX _ _ (BK (λb x hb=>(zt hb).2) (JG hz.1) hp);refine t.trans (vI hc os _ _ _ _ _ _ h (λr xX b hb=>?_));rcases mem_cons.1 xX with rfl|xX
     .obtain⟨c,hc,rfl⟩:=mem_map.1 hb;exact(n6 cs m).2 c hc
     .exact gA (hr r xX b hb) t.len
    .cases h
   .split at h
    .rename_i c vs Z1;split at h
     .rename_i v m2 fJ;obtain⟨hz,h⟩:=vH h;have hm:=hr.gu (λr=>!ins o.after r.mE);have t:=yf hc hm fJ;have t2:=hc _ _ _ _ _ fJ;refine t.trans (vI hc os _ _ _ _ _ _ h (λr xX b hb=>?_));rcases mem_cons.1 xX with rfl|xX
      .obtain⟨l,e1,_,e3⟩:=t2.hU;simp only[append_nil]at e1;subst e1;have eV:(mA m.ah ((cq.filter λr=>!ins o.after r.mE).flatMap (·.wr))).length=m.ah.length:=qq _ _ hm;show b<(kM m2 m.ah _).ah.length;rw[(nS _ _ _ (λb hb=>gA (hm b hb) (by have:=t2.len;rw[<-eV];exact this))).1];exact e3 b hb
      .exact gA (hr r xX b hb) t.len
     .cases h
    .cases h
  .exact vI hc os _ _ _ _ _ _ h hr
  .cases h
theorem F8:∀(bs:List Nat) (m:Mem),(∀b∈bs,b<=m.ah.length)->nY m (m.gC bs)
 |[],m,_=>nY.refl m
 |b::bs,m,h=>by
  have t:nY m (m.apply ⟨b,none,[]⟩):=nY.apply (h b (by simp)) (λx hx=>by cases hx);exact t.trans (F8 bs _ λc hc=>bK (h c (by simp[hc])) t.len)
def tX(m:Mem):Prop:=∀b∈m.aV,b<=m.ah.length
theorem tX.le{m m':Mem}(h:tX m)(hd:m'.aV=m.aV)(hl:m.ah.length<=m'.ah.length):tX m':=λb hb=>bK (h b (hd▸hb)) hl
theorem DA{body:Tr->Mem->Option (cT×Tr×Mem)}(hb:∀T m e T' m',body T m=some (e,T',m')->tX m->nY m m'/\tX m'):∀(n:Nat) (T:Tr) (m:Mem) (e:cT) (T':Tr) (m':Mem),tO body n T m=some (e,T',m')->tX m->nY m m'/\tX m'
 |0,_,_,_,_,_,h,_=>by simp[tO]at h
 |n+1,T,m,e,T',m',h,hd=>by
  simp only[tO]at h;split at h
  .rename_i T1 m1 h1;obtain⟨t1,d1⟩:=hb _ _ _ _ _ h1 hd;obtain⟨t2,d2⟩:=DA hb n T1 m1 e T' m' h d1;exact⟨t1.trans t2,d2⟩
  .exact hb _ _ _ _ _ h hd
theorem zu{call:eX}{au:bR}(hc:tW call)(QY:qn call){fuel:Nat}{rd:Bool}:∀(c:eQ) (T:Tr) (m:Mem) (e:cT) (T':Tr) (m':Mem),dY call au fuel rd c T m=some (e,T',m')->tX m->nY m m'/\tX m':=by
 intro c;induction c with
 |skip=>intro T m e T' m' h hd;simp only[dY]at h;cases h;exact⟨nY.refl _,hd⟩
 |mW=>intro T m e T' m' h hd;simp[dY]at h
 |region wT ns dC=>
  intro T m e T' m' h hd;simp only[dY]at h;split at h
  .rename_i T1 m1 h1;cases h;cases wT
   .simp only[cond_false]at h1;have t:=BL hc _ _ _ _ _ h1;exact⟨t,hd.le (vF QY _ _ _ _ _ h1) t.len⟩
   .simp only[cond_true]at h1;have t:=(nY.om m ns).trans (vI hc _ _ _ _ _ _ _ h1 (λ_ hr=>by cases hr));exact⟨t,hd.le ((pJ QY _ _ _ _ _ _ _ _ h1).trans (Dy _ _)) t.len⟩
  .cases h
 |seq x y YK ihy=>
  intro T m e T' m' h hd;simp only[dY]at h;split at h
  .rename_i T1 m1 h1;obtain⟨t1,d1⟩:=YK _ _ _ _ _ h1 hd;obtain⟨t2,d2⟩:=ihy _ _ _ _ _ h d1;exact⟨t1.trans t2,d2⟩
  .exact YK _ _ _ _ _ h hd
 |cond x c1 c2 ih1 ih2=>
  intro T m e T' m' h hd;simp only[dY]at h;split at h
  .exact ih1 _ _ _ _ _ h hd
  .exact ih2 _ _ _ _ _ h hd
  .cases h
 |block id x ih=>
  intro T m e T' m' h hd;simp only[dY]at h;split at h
  .rename_i NC T1 m1 h1;have:=ih _ _ _ _ _ h1 hd;cases hq:Nat.beq NC id<;>rw[hq]at h<;>simp only[cond]at h<;>cases h<;>exact this
  .exact ih _ _ _ _ _ h hd
 |loop x ih=>
  intro T m e T' m' h hd;simp only[dY]at h;exact DA ih _ _ _ _ _ _ h hd
 |exit id=>intro T m e T' m' h hd;simp only[dY]at h;cases h;exact⟨nY.refl _,hd⟩
 |ret=>intro T m e T' m' h hd;simp only[dY]at h;cases h;exact⟨nY.refl _,hd⟩
 |rangeFunc f ps x y _ _=>
  intro T m e T' m' h hd;simp only[dY]at h;cases rd
  .simp only[cond_false]at h;split at h
   .rename_i g fa fc ev;split at h
    .rename_i u m2 Fq;have e1:(aQ m.ah m.ah.length (some .nZ)).length=m.ah.length+1:=by rw[cw];omega
     have t1:nY m {m.apply ⟨m.ah.length,some .nZ,[]⟩with aV:=m.ah.length::m.aV}:=(nY.apply (m:=m) (c:=⟨m.ah.length,some .nZ,[]⟩) cB (λx hx=>by cases hx;rfl)).aV m.aV _;have d1:tX {m.apply ⟨m.ah.length,some .nZ,[]⟩with aV:=m.ah.length::m.aV}:=λb hb=>by
      simp only[iY,e1];rcases mem_cons.1 hb with rfl|hb
      .omega
      .have:=hd b hb;omega
     have el:(m.apply ⟨m.ah.length,some .nZ,[]⟩).ah.length=({m.apply ⟨m.ah.length,some .nZ,[]⟩with aV:=m.ah.length::m.aV}:Mem).ah.length:=rfl;rw[el]at h Fq;generalize ({m.apply ⟨m.ah.length,some .nZ,[]⟩with aV:=m.ah.length::m.aV}:Mem)=ma at t1 d1 h Fq;have t2:nY ma (ma.apply ⟨ma.ah.length,some (.loop {state:=.ready,pending:=none,tmps:=T,params:=ps,assign:=x,body:=y}),[]⟩):=nY.apply cB (λx hx=>by cases hx;rfl);have t3:=hc _ _ _ _ _ Fq;have VV:=t2.trans t3;have d3:tX m2:=d1.le ((QY _ _ _ _ _ Fq).trans rfl) VV.len;split at h
     .have t4:nY m2 (m2.apply ⟨ma.ah.length,none,[]⟩):=nY.apply VV.len (λx hx=>by cases hx);split at h
      .cases h
      .cases h;exact⟨(t1.trans VV).trans t4,d3.le rfl t4.len⟩
     .cases h
    .cases h
   .cases h
  .simp only[cond_true]at h;cases h
theorem zv(F:FuncId->Option bD)(au:bR){sm:ct}(HQ:qn (Hm sm))(wZ:tW (Hm sm)):∀n,tW (dJ F au sm n)
 |0=>λc vs m v m' h=>by simp[dJ]at h
 |n+1=>λc vs m v m' h=>by
  have ih:=zv F au HQ wZ n;have ihd:=lY F au HQ n;have nil:tX {m with aV:=[]}:=λ_ hb=>by cases hb
  cases c with
  |fn f=>
   simp only[dJ]at h;split at h
   .rename_i hs;cases h;exact wZ (.fn f) vs m v m' hs
   split at h
   .cases h
   .cases hb:Nat.ble vs.length (bD.ntmps _)<;>rw[hb]at h<;>simp only[cond]at h
    .cases h
    .have key:∀(e:cT) (T:Tr) (m1:Mem) (fn:bD),dY (dJ F au sm n) au n false fn.body (lz vs .z .e) {m with aV:=[]}=some (e,T,m1)->∀d,nY m {m1.gC m1.aV with aV:=d}:=by
      intro e T m1 fn he d;obtain⟨t,d1⟩:=zu ih ihd _ _ _ _ _ _ he nil;exact(t.trans (F8 _ _ d1)).aV m.aV d
     split at h
     .rename_i he;split at h
      .cases h;exact key _ _ _ _ he _
      .cases h
     .rename_i he;split at h
      .cases h;exact key _ _ _ _ he _
      .cases h
     .cases h
  |yield l=>
   simp only[dJ]at h;split at h
   .split at h
    .split at h
     .cases h
     .split at h
      .rename_i JD;obtain⟨t1,d1⟩:=zu ih ihd _ _ _ _ _ _ JD nil;split at h
       .rename_i AF;split at h
        .split at h
         .rename_i RZ;have t1':=F7 AF;obtain⟨t2,d2⟩:=zu ih ihd _ _ _ _ _ _ RZ (d1.le rfl (t1' _).len);split at h
          .rename_i rF;have t3:=F7 rF;have t:=λ(x:oe)=>((t1.trans (t1' _)).trans t2).trans (t3 x)
           split at h
           .cases h;exact(t _).aV m.aV m.aV
           .cases h;exact(t _).aV m.aV m.aV
          .cases h
         .cases h
        .cases h
       .cases h
      .cases h
    .cases h
   .cases h
structure Sg where
 tv:cO->AV
 get:Nat->Option bp
 len:Nat
def sig(T:Tr)(h:aN):Sg:={tv:=λp=>dL p T,get:=aj h,len:=h.length}
structure oC where
 mE:Nat
 dst:Option cO
 looks:List cO
 after:List Nat
 v:AV
 wr:List Nat
 cg:Nat->Option bp
 len:Nat
 mj:Bool
 xH:Nat->Bool
 val:Nat->Option bp
 tv:cO->AV
 Aht:Nat
open Classical in
def oC.tN (s:oC) (σ:Sg):Sg:=
 {tv:=λp=>if s.dst=some p then s.v else σ.tv p,get:=λb=>if b∈s.wr then s.cg b else σ.get b,len:=max σ.len s.len}
structure oC.ok(s:oC)(σ:Sg):Prop where
 mem:∀b,(s.xH b=true\/b∈s.wr)->σ.get b=s.val b
 tmp:∀p∈s.looks,σ.tv p=s.tv p
 len:s.mj=true->σ.len=s.Aht
def oC.wf(s:oC):Prop:=s.mj=false->s.len=0
structure np(x y:oC):Prop where
 seen:∀b∈x.wr,y.xH b=false
 Aaf:∀b∈y.wr,x.xH b=false
 wr:∀b∈x.wr,b∉y.wr
 mj:(x.mj&&y.mj)=false
structure uO(x y:oC):Prop where
 dst:∀d,x.dst=some d->y.dst≠some d
 looks:∀d,x.dst=some d->d∉y.looks
 VW:∀d,y.dst=some d->d∉x.looks
theorem oC.Ox{x y:oC}(hm:np x y)(hd:uO x y)(σ:Sg):x.tN (y.tN σ)=y.tN (x.tN σ):=by
 unfold oC.tN;simp only[Sg.mk.injEq];refine⟨funext λp=>?_,funext λb=>?_,Z⟩
 .by_cases h1:x.dst=some p
  .rw[aG h1,aq (hd.dst p h1),aG h1]
  .rw[aq h1,aq h1]
 .by_cases h1:b∈x.wr
  .rw[aG h1,aq (hm.wr b h1),aG h1]
  .rw[aq h1,aq h1]
theorem oC.Oy{x y:oC}(hm:np x y)(hd:uO x y)(hw:x.wf){σ:Sg}:y.ok (x.tN σ)↔y.ok σ:=by
 have e1:∀b,(y.xH b=true\/b∈y.wr)->(x.tN σ).get b=σ.get b:=λb hb=>by
  unfold oC.tN;simp only;rw[aq];intro hx;rcases hb with h|h
  .rw[hm.seen b hx]at h;cases h
  .exact hm.wr b hx h
 have e2:∀p∈y.looks,(x.tN σ).tv p=σ.tv p:=λp hp=>by
  unfold oC.tN;simp only;rw[aq];exactλhx=>hd.looks p hx hp
 have e3:y.mj=true->(x.tN σ).len=σ.len:=λhy=>by
  have:=hm.mj;rw[hy,Bool.and_true]at this;have:=hw this;unfold oC.tN;simp only[this];omega
 exact⟨λh=>⟨λb hb=>(e1 b hb).symm.trans (h.mem b hb),λp hp=>(e2 p hp).symm.trans (h.tmp p hp),λhy=>(e3 hy).symm.trans (h.len hy)⟩,
  λh=>⟨λb hb=>(e1 b hb).trans (h.mem b hb),λp hp=>(e2 p hp).trans (h.tmp p hp),λhy=>(e3 hy).trans (h.len hy)⟩⟩
theorem np.symm{x y:oC}(h:np x y):np y x:=⟨h.Aaf,h.seen,λb hb hx=>h.wr b hx hb,by rw[Bool.and_comm];exact h.mj⟩
theorem uO.symm{x y:oC}(h:uO x y):uO y x:=⟨λd hd hx=>h.dst d hx hd,h.VW,h.looks⟩
def DC:List oC->Sg->Prop
 |[],_=>True
 |s::ss,σ=>s.ok σ/\DC ss (s.tN σ)
def kj:List oC->Sg->Sg
 |[],σ=>σ
 |s::ss,σ=>kj ss (s.tN σ)
theorem BN{x:oC}:∀(l r:List oC) (σ:Sg),DC (l++x::r) σ->(∀y∈l,np y x/\uO y x/\y.wf)->x.wf->x.ok σ/\DC (l++r) (x.tN σ)/\kj (l++x::r) σ=kj (l++r) (x.tN σ)
 |[],r,σ,h,_,_=>⟨h.1,h.2,rfl⟩
 |y::l,r,σ,h,hl,hx=>by
  obtain⟨h1,h2⟩:=h;obtain⟨m,d,wy⟩:=hl y (by simp);obtain⟨g1,g2,g3⟩:=BN l r (y.tN σ) h2 (λz hz=>hl z (by simp[hz])) hx;have hc:=oC.Ox m.symm d.symm σ;refine⟨(oC.Oy m d wy).1 g1,⟨(oC.Oy m.symm d.symm hx).2 h1,?_⟩,?_⟩
  .rw[<-hc];exact g2
  .show kj (l++x::r) (y.tN σ)=kj (l++r) (y.tN (x.tN σ));rw[g3,hc]
inductive Info(call:eX)(au:bR)(bC:Nat)(o:cS):oC->Prop
 |skip (T:Tr) (i:Nat) (hw:jM T o.guard=some false):
  Info call au bC o ⟨i,o.dst,Fm o.op o.guard,o.after,.undef,[],λ_=>none,0,false,λ_=>false,λ_=>none,λp=>dL p T,0⟩
 |HX (T:Tr) (i:Nat) (get:Nat->Option bp) (v:AV) (cs:List j9) (h:aN) (hw:jM T o.guard=some true) (hc:o.op.dZ=false)
  (hp:bG get (m9 bC h.length o.iN) T o.op=some (v,cs)) (hg:∀b x,get b=some x->aj h b=some x) (hs:∀k,o.iN=some k->bC+k<h.length):
  Info call au bC o ⟨i,o.dst,Fm o.op o.guard,o.after,v,cs.map (·.id),aj (gS h cs),if o.op.iG then(gS h cs).length else 0,o.op.iG,λb=>(get b).isSome,aj h,λp=>dL p T,h.length⟩
 |call (T:Tr) (i:Nat) (h1:aN) (c:hZ) (vs:List AV) (v:AV) (m2:Mem) (hw:jM T o.guard=some true) (wg:o.op.dZ=true) (hc:eD (aj h1) au T o.op=some (c,vs)) (hv:call c vs {ah:=h1,hU:=[]}=some (v,m2)):
  Info call au bC o ⟨i,o.dst,Fm o.op o.guard,o.after,v,m2.hU,aj m2.ah,m2.ah.length,true,λb=>(aj h1 b).isSome,aj h1,λp=>dL p T,h1.length⟩
theorem Info.wf{call:eX}{au:bR}{bC:Nat}{o:cS}{s:oC}(h:Info call au bC o s):s.wf:=by
 cases h with
 |skip=>exactλ_=>rfl
 |HX=>exactλhm=>by simp only at hm;simp[hm]
 |call=>exactλhm=>by cases hm
theorem Info.cM{call:eX}{au:bR}{bC:Nat}{o:cS}{s:oC}(h:Info call au bC o s):s.dst=o.dst/\s.looks=Fm o.op o.guard/\s.after=o.after:=by
 cases h<;>exact⟨rfl,rfl,rfl⟩
def DD(cq:List jN)(s:oC):Prop:=(s.wr=[]/\(∀b,s.xH b=false)/\s.mj=false)\/∃r∈cq,r.mE=s.mE/\r.wr=s.wr/\(∀b,r.mH b=s.xH b)/\r.mj=s.mj
theorem DD.om{cq:List jN}{s:oC}(h:DD cq s)(r:jN):DD (r::cq) s:=h.imp id λ⟨q,hq,h⟩=>⟨q,by simp[hq],h⟩
theorem rW:∀(cs:List j9) {h:aN},(∀c∈cs,c.id<=h.length)->∀b,b∉cs.map (·.id)->aj (gS h cs) b=aj h b
 |[],_,_,_,_=>rfl
 |c::cs,h,hc,b,hb=>by
  simp only[map_cons,mem_cons,not_or]at hb;have h1:=hc c (by simp);rw[gS,rW cs (λd hd=>by have:=hc d (by simp[hd]);rw[cw];omega) b hb.2,dw h1,aq hb.1]
theorem oD:∀(cs:List j9) {h:aN},h.length<=(gS h cs).length/\((∀c∈cs,c.id<h.length)->(gS h cs).length=h.length)
 |[],_=>⟨cB,λ_=>rfl⟩
 |c::cs,h=>by
  obtain⟨h1,h2⟩:=oD cs (h:=aQ h c.id c.mV);have h3:h.length<=(aQ h c.id c.mV).length:=by rw[cw];omega
  refine⟨bK h3 h1,λhc=>?_⟩;have h4:(aQ h c.id c.mV).length=h.length:=by have:=hc c (by simp);rw[cw];omega
  rw[gS,h2 (λd hd=>by rw[h4];exact hc d (by simp[hd])),h4]
theorem LP{get:Nat->Option bp}{bU:Nat}{T:Tr}{op:j6}{v:AV}{cs:List j9}{h:aN}(hq:op.quiet=true)(hg:∀b x,get b=some x->aj h b=some x)(hp:bG get bU T op=some (v,cs)):∀c∈cs,c.id<h.length:=λc hc=>by
 have h1:=(iZ hp c hc).1;rw[Dz (Aae:=c.id+1) hq]at hp;have h2:=(iZ hp c hc).1;rcases h2 with e|⟨x,hx,_⟩
 .omega
 .exact ag (hg _ _ hx)
def uP(o:cS):Prop:=o.iN.isSome=o.op.pA
theorem DE{get:Nat->Option bp}{bC:Nat}{T:Tr}{o:cS}{v:AV}{cs:List j9}{h:aN}(ho:uP o)(hm:o.op.iG=false)(hg:∀b x,get b=some x->aj h b=some x)(hs:∀k,o.iN=some k->bC+k<h.length)
 (hp:bG get (m9 bC h.length o.iN) T o.op=some (v,cs)):∀c∈cs,c.id<h.length:=by
 cases hk:o.iN with
 |none=>
  have hq:o.op.quiet=true:=by
   unfold uP at ho;rw[hk]at ho;simp[j6.quiet,hm,<-ho]
  exact LP hq hg hp
 |some k=>
  rw[hk]at hp;intro c hc;rcases(iZ hp c hc).1 with e|⟨x,hx,_⟩
  .rw[e];exact hs k hk
  .exact ag (hg _ _ hx)
section
variable{call:eX}{au:bR}{bC:Nat}
theorem R8(T:Tr)(d:Option cO)(v:AV)(p:cO):dL p (eU T d v)=if d=some p then v else dL p T:=by
 cases d with
 |none=>simp[eU]
 |some d=>
  rw[eU,iR];by_cases e:p=d
  .subst e;simp
  .rw[aq e,aq (λh=>e (Option.some.inj h).symm)]
theorem rX{T:Tr}{h h':aN}{s:oC}{d:Option cO}{v:AV}(hd:s.dst=d)(hv:s.v=v)(hw:∀b,aj h' b=if b∈s.wr then s.cg b else aj h b)(hl:h'.length=max h.length s.len):s.tN (sig T h)=sig (eU T d v) h':=by
 unfold oC.tN sig;simp only[Sg.mk.injEq];refine⟨funext λp=>?_,funext λb=>?_,hl.symm⟩
 .rw[R8,hd,hv]
 .rw[hw b]
theorem tY:∀(cs:List j9) (h:aN),h.length<=(gS h cs).length:=λcs _=>(oD cs).1
theorem Am(Q0:tW call):∀(os:List cS) (i:Nat) (cq:List jN) (T T':Tr) (m m':Mem) (done:List oC),mJ call au bC i os cq T m=some (T',m')->BM cq m.ah.length->(∀s∈done,DD cq s)->(∀o∈os,uP o)->
 ∃ss:List oC,ss.length=os.length/\DC ss (sig T m.ah)/\kj ss (sig T m.ah)=sig T' m'.ah/\(∀j s,ss[j]?=some s->s.mE=i+j/\∃o,os[j]?=some o/\Info call au bC o s)/\
  (∀s∈ss,∀d∈done,d.mE∉s.after->np d s)/\ss.Pairwise (λs t=>s.mE∉t.after->np s t)
 |[],i,cq,T,T',m,m',done,h,_,_,_=>by
  simp only[mJ]at h;cases h;exact⟨[],rfl,trivial,rfl,λj s hs=>(by simp at hs),λs hs=>(by simp at hs),List.Pairwise.nil⟩
 |o::os,i,cq,T,T',m,m',done,h,hr,hd,R9=>by
  have finish:∀(s:oC) (DF:List jN) (T1:Tr) (m1:Mem),mJ call au bC (i+1) os DF T1 m1=some (T',m')->BM DF m1.ah.length->(∀d∈done,DD DF d)->DD DF s->s.mE=i->Info call au bC o s->s.ok (sig T m.ah)->s.tN (sig T m.ah)=sig T1 m1.ah->
   (∀d∈done,d.mE∉s.after->np d s)->
   ∃ss:List oC,ss.length=(o::os).length/\DC ss (sig T m.ah)/\kj ss (sig T m.ah)=sig T' m'.ah/\(∀j s,ss[j]?=some s->s.mE=i+j/\∃o',(o::os)[j]?=some o'/\Info call au bC o' s)/\
    (∀s∈ss,∀d∈done,d.mE∉s.after->np d s)/\ss.Pairwise (λs t=>s.mE∉t.after->np s t):=by
   intro s DF T1 m1 h1 h2 h3 h4 h5 h6 h7 h8 h9;obtain⟨ss,e1,e2,e3,e4,e5,e6⟩:=Am Q0 os (i+1) DF T1 T' m1 m' (s::done) h1 h2 (λd hd=>by
    rcases mem_cons.1 hd with rfl|hd
    .exact h4
    .exact h3 d hd) (λp hp=>R9 p (by simp[hp]))
   refine⟨s::ss,by simp[e1],⟨h7,by rw[h8];exact e2⟩,by rw[kj,h8];exact e3,λj t ht=>?_,λt ht d hd hn=>?_,pairwise_cons.2 ⟨λt ht hn=>e5 t ht s (by simp) hn,e6⟩⟩
   .cases j with
    |zero=>simp only[getElem?_cons_zero,Option.some.injEq]at ht;subst ht;exact⟨h5,o,rfl,h6⟩
    |succ j=>
     simp only[getElem?_cons_succ]at ht;obtain⟨g1,o',g2,g3⟩:=e4 j t ht;exact⟨Z,o',by simpa using g2,g3⟩
   .rcases mem_cons.1 ht with rfl|ht
    .exact h9 d hd hn
    .exact e5 t ht d (by simp[hd]) hn
  have free:∀{d:oC} {wr:List Nat} {mk:Bool},d∈done->d.mE∉o.after->mI wr mk (cq.filter λr=>!ins o.after r.mE)=false->(d.wr=[]/\(∀b,d.xH b=false)/\d.mj=false)\/
   (∃r∈cq.filter λr=>!ins o.after r.mE,r.wr=d.wr/\(∀b,r.mH b=d.xH b)/\r.mj=d.mj):=by
   intro d wr mk HK hn hc;rcases hd d HK with h|⟨r,hr,e1,e2,e3,e4⟩
   .exact .inl h
   .refine .inr ⟨r,mem_filter.2 ⟨hr,?_⟩,e2,e3,e4⟩;rw[e1];cases hi:ins o.after d.mE
    .rfl
    .exact absurd (yc.1 hi) hn
  simp only[mJ]at h;split at h
  .rename_i hw;cases wg:o.op.dZ<;>rw[wg]at h<;>simp only[cond_true,cond_false]at h
   .split at h
    .rename_i v cs hp;obtain⟨hz,h⟩:=vH h;simp only[Bool.or_eq_false_iff,Bool.not_eq_false']at hz;obtain⟨Lx,tS⟩:=hz;have hs:=JF Lx;generalize mB:(λb=>cond (ins (o.op.kL T) b&&!ins ((cq.filter λr=>!ins o.after r.mE).flatMap (·.wr)) b) (aj m.ah b) none)=get at hp;have hg:∀b x,get b=some x->aj m.ah b=some x:=λb x hb=>by rw[<-mB]at hb;exact(zt hb).2
     have hgm:∀b,(get b).isSome=true->b∉(cq.filter λr=>!ins o.after r.mE).flatMap (·.wr):=λb hb hm=>by
      obtain⟨x,hx⟩:=isSome_iff_exists.1 hb;rw[<-mB]at hx;have:=(zt hx).1;rw[yc.2 hm]at this;simp at this
     have HS:=BK hg (JG Lx) hp;have tk:nY m (m.dX cs):=nY.dX _ _ HS;refine finish _ _ _ _ h (λr xX b hb=>?_) (λd HK=>(hd d HK).om _) (.inr ⟨_,mem_cons_self ..,rfl,rfl,λb=>(by rw[<-mB]),rfl⟩) rfl (Info.HX T i get v cs m.ah hw wg hp hg hs) ⟨λb hb=>rfl,λp hp=>rfl,λ_=>rfl⟩
      (rX rfl rfl (λb=>?_) ?_) (λd HK hn=>?_)
     .rcases mem_cons.1 xX with rfl|xX
      .obtain⟨c,hc,rfl⟩:=mem_map.1 hb;exact(n6 cs m).2 c hc
      .exact gA (hr r xX b hb) tk.len
     .rw[lC];simp only;split
      .rfl
      .exact rW cs (λc hc=>(HS c hc).1) b (by assumption)
     .rw[lC];simp only;cases hm:o.op.iG
      .rw[(oD cs).2 (DE (R9 o (by simp)) hm hg hs hp)];simp
      .have:=tY cs m.ah;simp only[if_true];omega
     .rcases free HK hn tS with⟨g1,g2,g3⟩|⟨r,xX,g1,g2,g3⟩
      .exact⟨λb hb=>(by rw[g1]at hb;cases hb),λb _=>g2 b,λb hb=>(by rw[g1]at hb;cases hb),by rw[g3];rfl⟩
      .obtain⟨c1,c2,c3⟩:=qu tS r xX;refine⟨λb hb=>?_,λb hb=>(by rw[<-g2 b];exact c2 b hb),λb hb kJ=>c3 b kJ (by rw[g1];exact hb),by rw[<-g3,Bool.and_comm];exact c1⟩;cases hq:(get b).isSome
       .exact hq
       .exact absurd (mem_flatMap.2 ⟨r,xX,by rw[g1];exact hb⟩) (hgm b hq)
    .cases h
   .split at h
    .rename_i c vs Z1;split at h
     .rename_i v m2 fJ;obtain⟨hz,h⟩:=vH h;have hm:=hr.gu (λr=>!ins o.after r.mE);generalize hmk:(cq.filter λr=>!ins o.after r.mE).flatMap (·.wr)=gu at h Z1 fJ hm;have t:=yf Q0 hm fJ;have t2:=Q0 _ _ _ _ _ fJ;obtain⟨l,e1,e2,e3⟩:=t2.hU;simp only[append_nil]at e1;subst e1;have eV:(mA m.ah gu).length=m.ah.length:=qq _ _ hm;have hmg:=yd _ _ hm;obtain⟨u1,u2⟩:=nS gu m.ah m2 (λb hb=>gA (hm b hb) (by have:=t2.len;rw[<-eV];exact this));have hlm:∀b∈m2.hU,b∉gu:=λb hb hx=>by
       rw[<-hmk]at hx;obtain⟨r,xX,kJ⟩:=mem_flatMap.1 hx;exact(qu hz r xX).2.2 b hb kJ
      refine finish _ _ _ _ h (λr xX b hb=>?_) (λd HK=>(hd d HK).om _) (.inr ⟨_,mem_cons_self ..,rfl,rfl,λb=>rfl,rfl⟩) rfl (Info.call T i (mA m.ah gu) c vs v m2 hw wg Z1 fJ) ⟨λb hb=>?_,λp hp=>rfl,λ_=>eV.symm⟩
       (rX rfl rfl (λb=>?_) ?_) (λd HK hn=>?_)
      .rcases mem_cons.1 xX with rfl|xX
       .show b<(kM m2 m.ah gu).ah.length;rw[u1];exact e3 b hb
       .exact gA (hr r xX b hb) t.len
      .show aj m.ah b=aj (mA m.ah gu) b;rw[hmg,aq];intro hx;rcases hb with hb|hb
       .simp only at hb;rw[hmg,aG hx]at hb;cases hb
       .exact hlm b hb hx
      .simp only;rw[u2];by_cases h1:b∈m2.hU
       .rw[aG h1,aq (hlm b h1)]
       .rw[aq h1];split
        .rfl
        .rw[e2 b h1];simp only;rw[hmg,aq (by assumption)]
      .simp only;rw[u1];have:=t2.len;simp only[eV]at this;omega
      .rcases free HK hn hz with⟨g1,g2,g3⟩|⟨r,xX,g1,g2,g3⟩
       .exact⟨λb hb=>(by rw[g1]at hb;cases hb),λb _=>g2 b,λb hb=>(by rw[g1]at hb;cases hb),by rw[g3];rfl⟩
       .obtain⟨c1,c2,c3⟩:=qu hz r xX;refine⟨λb hb=>?_,λb hb=>(by rw[<-g2 b];exact c2 b hb),λb hb kJ=>c3 b kJ (by rw[g1];exact hb),by rw[<-g3,Bool.and_comm];exact c1⟩;show(aj (mA m.ah gu) b).isSome=false;rw[hmg,aG]
        .rfl
        .rw[<-hmk];exact mem_flatMap.2 ⟨r,xX,by rw[g1];exact hb⟩
     .cases h
    .cases h
  .rename_i hw;refine finish _ _ _ _ h hr hd (.inl ⟨rfl,λ_=>rfl,rfl⟩) rfl (Info.skip T i hw) ⟨λb hb=>?_,λp hp=>rfl,λh=>by cases h⟩ (rX rfl rfl (λb=>by simp) (by simp)) (λd HK hn=>⟨λb hb=>rfl,λb hb=>(by cases hb),λb hb hx=>(by cases hx),Bool.and_false _⟩);rcases hb with hb|hb
   .cases hb
   .cases hb
  .cases h
end
def BO(K:Kp)(ρ:dR)(h h1:aN):Kp:={jW:=λk=>K k\/∃b x p,aj h b=some x/\aj h1 b=none/\ρ b=some p/\k=p.cb,loop:=K.loop}
section
variable{K:Kp}{w0 w w':World}{ρ gO:dR}{h h1 h2 h':aN}
theorem Rel.frame(R:Rel K w0 ρ h w)(eV:h1.length=h.length)(C1:∀b x,aj h1 b=some x->aj h b=some x):Rel (BO K ρ h h1) w ρ h1 w where
 below:=⟨rfl,rfl,rfl,cB,λk hk=>by
  rcases hk with hk|⟨b,x,p,hb,_,hp,rfl⟩
  .exact gA (R.below.lt k hk) R.below.size
  .obtain⟨q,hq,hB⟩:=R.mV b x hb;have e:q=p:=Option.some.inj (hq.symm.trans hp);subst e;exact hB.lt,λ_ _=>rfl⟩
 xH:=λb hb=>R.xH b Z
 mV:=λb x hx=>by
  obtain⟨p,hp,hB⟩:=R.mV b x (C1 b x hx);refine⟨p,hp,?_⟩;have hK:x.bS=true->¬BO K ρ h h1 p.cb:=λho hk=>by
   rcases hk with hk|⟨c,y,q,hc,NN,hq,e⟩
   .exact hB.Ep ho hk
   .have jV:b≠c:=λe=>by rw[e,NN]at hx;cases hx
    exact R.sep b c x y p q (C1 b x hx) hc hp hq ho jV e
  cases x with
  |row bS bZ es=>
   obtain⟨h1,h2,h3,h4,gP,el,fr,hg,h5,h6,h7,h8⟩:=hB;exact⟨h1,h2,h3,h4,gP,el,fr,hg,h5,h6,λho=>⟨hK ho,(h7 ho).2⟩,h8⟩
  |map fF=>exact⟨hK rfl,hB.2⟩
  |loop l=>exact⟨hK rfl,hB.2⟩
  |nZ=>exact⟨hK rfl,hB.2⟩
 sep:=λb c x y p q hx hy hp hq ho jV=>R.sep b c x y p q (C1 b x hx) (C1 c y hy) hp hq ho jV
theorem sT.EJ{p:Pl}{x:bp}(hB:sT (BO K ρ h h1) gO w p x):sT K gO w p x:=by
 cases x with
 |row bS bZ es=>
  obtain⟨h1,h2,h3,h4,gP,el,fr,hg,h5,h6,h7,h8⟩:=hB;exact⟨h1,h2,h3,h4,gP,el,fr,hg,h5,h6,λho=>⟨λhk=>(h7 ho).1 (.inl hk),(h7 ho).2⟩,h8⟩
 |map fF=>exact⟨λhk=>hB.1 (.inl hk),hB.2⟩
 |loop l=>exact⟨λhk=>hB.1 (.inl hk),hB.2⟩
 |nZ=>exact⟨λhk=>hB.1 (.inl hk),hB.2⟩
theorem Rel.EJ{hU:List Nat}(R:Rel K w0 ρ h w)(R':Rel (BO K ρ h h1) w gO h2 w')(C1:∀b x,aj h1 b=some x->aj h b=some x)(oT:ρ.le gO)(Ahu:∀b,b∉hU->aj h2 b=aj h1 b)(um:∀b x,aj h2 b=some x->x.bS=false->aj h1 b=some x)
 (mB:∀b,aj h' b=if b∈hU then aj h2 b else aj h b) (eV:h'.length=h2.length):Rel K w0 gO h' w':=by
 have EK:∀b x,aj h' b=some x->aj h2 b=some x\/(aj h b=some x/\aj h1 b=none/\b∉hU):=λb x hx=>by
  rw[mB]at hx;split at hx
  .exact .inl hx
  .rename_i hn;cases h1b:aj h1 b with
   |none=>exact .inr ⟨hx,rfl,hn⟩
   |some y=>
    have:=C1 b y h1b;rw[hx]at this;cases this;exact .inl ((Ahu b hn).trans h1b)
 have py:∀b x,aj h b=some x->∃p,ρ b=some p/\gO b=some p/\sT K ρ w p x:=λb x hx=>let⟨p,hp,hB⟩:=R.mV b x hx;⟨p,hp,oT _ _ hp,hB⟩
 refine⟨⟨R'.below.os.trans R.below.os,R'.below.tape.trans R.below.tape,R'.below.output.trans R.below.output,bK R.below.size R'.below.size,R.below.lt,λk hk=>(R'.below.block k (.inl hk)).trans (R.below.block k hk)⟩,
  λb hb=>R'.xH b Z,λb x hx=>?_,λb c x y p q hx hy hp hq ho jV=>?_⟩
 .rcases EK b x hx with h3|⟨h3,h4,_⟩
  .obtain⟨p,hp,hB⟩:=R'.mV b x h3;exact⟨p,hp,hB.EJ⟩
  .obtain⟨p,hp,Aa,hB⟩:=py b x h3;exact⟨p,Aa,hB.bw oT (R'.below.block p.cb (.inr ⟨b,x,p,h3,h4,hp,rfl⟩))⟩
 .rcases EK b x hx with h3|⟨h3,h4,_⟩
  .rcases EK c y hy with h5|⟨h5,h6,_⟩
   .exact R'.sep b c x y p q h3 h5 hp hq ho jV
   .obtain⟨q0,Q3,Oz,_⟩:=py c y h5;have e:q0=q:=Option.some.inj (Oz.symm.trans hq);subst e;obtain⟨p0,YL,hB⟩:=R'.mV b x h3;have e:p0=p:=Option.some.inj (YL.symm.trans hp);subst e;exactλe=>hB.Ep ho (.inr ⟨c,y,q0,h5,h6,Q3,e⟩)
  .obtain⟨p0,YL,Ahv,_⟩:=py b x h3;have e:p0=p:=Option.some.inj (Ahv.symm.trans hp);subst e;rcases EK c y hy with h5|⟨h5,h6,_⟩
   .cases hyo:y.bS
    .have h7:=C1 c y (um c y h5 hyo);obtain⟨q0,Q3,Oz,_⟩:=py c y h7;have e:q0=q:=Option.some.inj (Oz.symm.trans hq);subst e;exact R.sep b c x y p0 q0 h3 h7 YL Q3 ho jV
    .obtain⟨q0,Q3,hB⟩:=R'.mV c y h5;have e:q0=q:=Option.some.inj (Q3.symm.trans hq);subst e;exactλe=>hB.Ep hyo (.inr ⟨b,x,p0,h3,h4,YL,e.symm⟩)
   .obtain⟨q0,Q3,Oz,_⟩:=py c y h5;have e:q0=q:=Option.some.inj (Oz.symm.trans hq);subst e;exact R.sep b c x y p0 q0 h3 h5 YL Q3 ho jV
end
theorem DG:∀(cs:List j9) {h h0:aN},(∀c∈cs,c.id<=h.length)->(∀c∈cs,c.id<=h0.length)->∀b∈cs.map (·.id),aj (gS h cs) b=aj (gS h0 cs) b
 |[],_,_,_,_,_,hb=>by cases hb
 |c::cs,h,h0,h1,h2,b,hb=>by
  have g1:=h1 c (by simp);have g2:=h2 c (by simp);have k1:∀d∈cs,d.id<=(aQ h c.id c.mV).length:=λd hd=>by have:=h1 d (by simp[hd]);rw[cw];omega
  have k2:∀d∈cs,d.id<=(aQ h0 c.id c.mV).length:=λd hd=>by have:=h2 d (by simp[hd]);rw[cw];omega
  rw[gS,gS];by_cases hm:b∈cs.map (·.id)
  .exact DG cs k1 k2 b hm
  .simp only[map_cons,mem_cons]at hb;have e:b=c.id:=hb.resolve_right hm;rw[rW cs k1 b hm,rW cs k2 b hm,dw g1,dw g2,aG e,aG e]
theorem tZ:∀(cs:List j9) {h h0:aN},h.length=h0.length->(gS h cs).length=(gS h0 cs).length
 |[],_,_,e=>e
 |c::cs,h,h0,e=>tZ cs (by rw[cw,cw,e])
section
variable{P:Program}{aM:Nat->Option AV}{cW:Bool}{OK:Goroutine->World->Prop}{L:oe->Loop->Prop}{call:eX}{K:Kp}{w0:World}{nt:Nat}{bC:Nat}
def Ahw(K:Kp)(w0:World)(nt:Nat)(bC:Nat)(ρ:dR)(T:Tr)(h:aN)(s:oC)(ao:cS)(a:Act)(b:Frame)(todo:List Item)(cs:List Frame)(g:Goroutine)(w:World):Prop:=
 ∃a' gO T1 h1,g=running (b.atR a' todo) cs/\sig T1 h1=s.tN (sig T h)/\St K w0 nt gO T1 h1 a' w/\a'.defers=a.defers/\ρ.le gO/\(∀x,x<h.length->(∀k,ao.iN=some k->x≠bC+k)->gO x=ρ x)/\mC h h1
theorem zw{T T':Tr}{g:Option (cO×Bool)}{op:j6}(h:∀p∈Fm op g,dL p T=dL p T'):jM T g=jM T' g:=by
 cases g with
 |none=>rfl
 |some x=>simp only[jM,h x.1 (by simp[Fm])]
theorem JH{T T':Tr}{g:Option (cO×Bool)}{op:j6}(h:∀p∈Fm op g,dL p T=dL p T'):∀x∈op.z9,cP T x=cP T' x:=by
 intro x hx;cases x with
 |c v=>rfl
 |t p=>exact h p (by simp only[Fm,mem_append,mem_filterMap];exact .inl ⟨.t p,hx,rfl⟩)
theorem HY{o:Oper}{dst:Option cO}(h:Bi nt o=some dst):(∀d,o.dst=some d->d<nt)/\dst=o.dst.map cO.ofNat:=by
 unfold Bi at h;cases hd:o.dst with
 |none=>rw[hd]at h;cases h;exact⟨λd e=>(by cases e),rfl⟩
 |some d=>
  rw[hd]at h;simp only at h;split at h
  .rename_i jU;cases h;exact⟨λx e=>(by cases e;exact jU),rfl⟩
  .cases h
theorem HZ(kC:∀g w,OK g w)(hL:K.loop=L)(fJ:lX P aM cW OK L call)(Q0:tW call){dC:Array Oper}{s:oC}{o:Oper}{ao:cS}(FX:dC[s.mE]?=some o) (EC:Ax P aM o=ao.op) (JB:sS dC o=some ao.guard) (tf:Bi nt o=some ao.dst)
 (OA:Info call (fI P) bC ao s) (R9:uP ao) {T:Tr} {h:aN} {a:Act} {w:World} {ρ:dR} (st:St K w0 nt ρ T h a w) (hg:GR aM ρ) (YM:s.ok (sig T h)) (F9:∀k,ao.iN=some k->ρ (bC+k)=none/\bC+k<h.length)
 {b:Frame} {k:List Item} {cs:List Frame} {fX:List Nat}:
 di P cW OK (Ahw K w0 nt bC ρ T h s ao a b (.inRegion dC fX::k) cs) (running (b.atR a (.inRegion dC (s.mE::fX)::k)) cs) w:=by
 obtain⟨VO,YJ⟩:=HY tf;have CV:∀v,(b.atR a (.inRegion dC (s.mE::fX)::k)).finish v=b.atR (a.put o.dst v) (.inRegion dC fX::k):=by
  intro v;rw[Frame.finish_atR,FX];rfl
 have LJ:∀v,(a.put o.dst v).defers=a.defers:=λv=>by cases o.dst<;>rfl
 have Dx:∀x,o.dst=some x->x<a.tmps.size:=λx hx=>by rw[st.size];exact VO x hx
 obtain⟨VY,VZ,YN⟩:=YM;cases OA with
 |skip T0 i hw=>
  have hT:∀p∈Fm ao.op ao.guard,dL p T=dL p T0:=VZ;rw[<-zw hT]at hw;have Uf:=oz st.tr dC o JB hw;have hsk:((dC[i]?).map (Region.wanted · (yielded dC a.tmps))).getD false=false:=by
   simp only at FX;rw[FX];exact Uf
  refine di.one kC (λd=>BD hsk) λd=>.eP ⟨a.put o.dst undef,ρ,eU T ao.dst .undef,h,?_,(rX (d:=ao.dst) (v:=.undef) rfl rfl (λb=>(by simp)) (by simp)).symm,⟨(st.bW d).rel,?_,by rw[rU];exact st.size⟩,LJ _,dR.le_refl _,λ_ _ _=>rfl,mC.refl _⟩
  .simp only at FX;rw[FX];rfl
  .rw[YJ];exact TR.put st.tr Dx FU
 |HX T0 i get v ko h0 hw hc hp mB hs=>
  simp only at FX CV VY VZ YN;have hT:∀p∈Fm ao.op ao.guard,dL p T=dL p T0:=VZ;rw[<-zw hT]at hw;have Uf:=oz st.tr dC o JB hw;have EC:=BG EC (λe=>by rw[e]at hp;simp[bG]at hp);have FY:=td EC;rw[<-R7 (JH hT)]at hp;have Aag:∀b x,get b=some x->aj h b=some x:=λb x hb=>(VY b (.inl (by rw[hb];rfl))).trans (mB b x hb)
  have OB:=λ(c:j9) (hc:c∈ko)=>(iZ hp c hc).1
  have JE:bG (aj h) (m9 bC h.length ao.iN) T ao.op=some (v,ko):=by
   refine HW Aag ?_;cases hk:ao.iN with
   |some k=>rw[hk]at hp;exact hp
   |none=>
    rw[hk]at hp;cases hm:ao.op.iG
    .have hq:ao.op.quiet=true:=by
      unfold uP at R9;rw[hk]at R9;simp[j6.quiet,hm,<-R9]
     rw[<-hp];exact Dz hq
    .have:h.length=h0.length:=YN hm;rw[<-hp];show bG get h.length T ao.op=bG get h0.length T ao.op;rw[this]
  have OC:m9 bC h.length ao.iN<=h.length/\ρ (m9 bC h.length ao.iN)=none:=by
   cases hk:ao.iN with
   |some k=>exact⟨Nat.le_of_lt (F9 k hk).2,(F9 k hk).1⟩
   |none=>exact⟨cB,st.rel.xH _ cB⟩
  have HS:∀c∈ko,c.id<=h.length:=λc hc=>by
   rcases(iZ JE c hc).1 with e|⟨x,hx,_⟩
   .rw[e];exact OC.1
   .exact Nat.le_of_lt (ag hx)
  have OB:∀c∈ko,c.id<=h0.length:=λc hc=>by
   rcases OB c hc with e|⟨x,hx,_⟩
   .rw[e];cases hk:ao.iN with
    |some k=>exact Nat.le_of_lt (hs k hk)
    |none=>exact cB
   .exact Nat.le_of_lt (ag (mB _ _ hx))
  refine di.any kC λd=>?_
  have st:=st.bW d;obtain⟨nx,v',w',gO,h1,h2,h3,h4,h5,h6⟩:=BB st.rel hg st.tr OC.1 OC.2 EC JE;refine⟨_,w',Aj FX Uf FY h1 h2,.eP ⟨_,gO,eU T ao.dst v,gS h ko,rfl,(rX (d:=ao.dst) (v:=v) rfl rfl (λb=>?_) ?_).symm,⟨h4,?_,by rw[rU];exact st.size⟩,LJ _,h5,λx hx hn=>h6 x ?_,?_⟩⟩
  .simp only;split
   .exact DG ko HS OB b (by assumption)
   .exact rW ko HS b (by assumption)
  .simp only;cases hm:ao.op.iG
   .have:=(oD ko (h:=h)).2 (DE R9 hm (λ_ _ h=>h) (λk hk=>(F9 k hk).2) JE);rw[this];simp
   .rw[tZ ko (show h.length=h0.length from YN hm)];have:=tY ko h0;have e:h.length=h0.length:=YN hm;simp only[if_true];omega
  .rw[YJ];exact TR.put (λp=>(st.tr p).mono h5) Dx h3
  .intro e;cases hk:ao.iN with
   |some k=>rw[hk]at e;exact hn k hk e
   |none=>rw[hk]at e;simp only[m9]at e;omega
  .refine Dw OC.1 (λe=>?_) JE;obtain⟨q,hq,_⟩:=st.rel.mV _ _ e;rw[OC.2]at hq;cases hq
 |call T0 i h1 c vs v m2 hw wg hc hv=>
  simp only at FX CV VY VZ YN;have hT:∀p∈Fm ao.op ao.guard,dL p T=dL p T0:=VZ;rw[<-zw hT]at hw;have Uf:=oz st.tr dC o JB hw;have EC:=BG EC (λe=>by rw[e]at wg;cases wg);have FY:=td EC;rw[<-LO (JH hT)]at hc;have eV:h1.length=h.length:=(YN trivial).symm;have C1:∀b x,aj h1 b=some x->aj h b=some x:=λb x hb=>(VY b (.inl (by rw[hb];rfl))).trans hb
  have t2:=Q0 _ _ _ _ _ hv;obtain⟨l,e1,e2,e3⟩:=t2.hU;simp only[append_nil]at e1;subst e1;refine di.any kC λd=>?_
  have st:=st.bW d;have R:=st.rel;have RF:=R.frame eV C1;obtain⟨iA,g1,g2,g3⟩:=BE RF hg st.tr EC hc;obtain⟨nx,CW,q1,q2,q3⟩:=fJ (BO K ρ h h1) _ _ ρ {ah:=h1,hU:=[]} m2 c vs iA v hL hv RF hg g1 g3;have Om:(stepG P cW (running (b.atR a (.inRegion dC (i::fX)::k)) cs) (World.bW w d)).bare=.go (running CW (b.atR a (.inRegion dC (i::fX)::k)::cs)) (World.bW w d):=by
   rw[Ok FX Uf FY];have hr:=g2.trans q1;cases nx<;>simp only[xi]at q2
   .subst q2;simp[stepG.apply,hr,running,Frame.atR]
   .subst q2;simp[stepG.apply,hr,running,Frame.atR]
  refine⟨_,_,Om,(q3 _ cs).mono λg w' e=>?_⟩;obtain⟨v',gO,e5,e6,e7,e8,e9,e10,e11⟩:=e;have xU:h.length<=m2.ah.length:=by rw[<-eV];exact e10
  have hll:∀x∈(List.range h.length).filter λb=>!ins m2.hU b,x<m2.ah.length:=λx hx=>by
   have:=mem_range.1 (mem_filter.1 hx).1;omega
  obtain⟨u1,u2⟩:=nS ((List.range h.length).filter λb=>!ins m2.hU b) h m2 hll;generalize (kM m2 h ((List.range h.length).filter λb=>!ins m2.hU b)).ah=h' at u1 u2;have mB:∀b,aj h' b=if b∈m2.hU then aj m2.ah b else aj h b:=λb=>by
   rw[u2];by_cases hm:b∈m2.hU
   .rw[aG hm,aq];intro hx;have:=(mem_filter.1 hx).2;rw[yc.2 hm]at this;cases this
   .rw[aq hm];by_cases hb:b<h.length
    .rw[aG];refine mem_filter.2 ⟨mem_range.2 hb,?_⟩;cases hi:ins m2.hU b
     .rfl
     .exact absurd (yc.1 hi) hm
    .rw[aq (λhx=>hb (mem_range.1 (mem_filter.1 hx).1)),e2 b hm];simp only;rw[mL Z,mL Z]
  refine⟨a.put o.dst v',gO,eU T ao.dst v,h',by rw[e5,CV],(rX (d:=ao.dst) (v:=v) rfl rfl mB ?_).symm,⟨R.EJ e7 C1 e8 e2 t2.bS mB u1,?_,by rw[rU];exact st.size⟩,LJ _,e8,λx hx _=>e9 x (by simp only;omega),⟨Z,λx hx=>?_⟩⟩
  .rw[u1];simp only;omega
  .rw[YJ];exact TR.put (λp=>(st.tr p).mono e8) Dx e6
  .rw[mB];split
   .rename_i hm;have:=VY x (.inr hm);simp only[sig]at this;rw[hx]at this;exact e11 x this.symm
   .exact hx
end
section
variable{P:Program}{aM:Nat->Option AV}{nt:Nat}{dC:Array Oper}
structure Aah(P:Program)(aM:Nat->Option AV)(nt:Nat)(dC:Array Oper)(k n i:Nat)(V0:List (List Nat))(prev:List (Option cO×List cO))(o:Oper)(ao:cS):Prop where
 Lq:Ax P aM o=ao.op
 guard:sS dC o=some ao.guard
 dst:Bi nt o=some ao.dst
 iN:uP ao
 range:∀q,ao.iN=some q->k<=q/\q<n
 V1:∀e∈o.after.toList,Region.binds .any e=true->e.on<i
 after:∀x∈ao.after,∃e∈o.after.toList,Region.binds .any e=true/\(e.on=x\/x∈V0.getD e.on [])
 apart:∀x,x<i->x∉ao.after->∃y,prev[x]?=some y/\Eo y (ao.dst,Fm ao.op ao.guard)=true
theorem An:∀(os:List Oper) (i k:Nat) (cl:List (List Nat)) (pv:List (Option cO×List cO)) (uo:List cS) (n:Nat),nh P aM nt true dC i k cl pv os=some (uo,n)->cl.length=i->pv.length=i->
 uo.length=os.length/\k<=n/\(∀(j:Nat) (ao:cS),uo[j]?=some ao->∃o,os[j]?=some o/\Aah P aM nt dC k n (i+j) (cl++uo.map (·.after)) (pv++uo.map λa=>(a.dst,Fm a.op a.guard)) o ao)/\
  ∀(j j':Nat) (ao LQ:cS),j'<j->uo[j]?=some ao->uo[j']?=some LQ->∀q,ao.iN=some q->LQ.iN≠some q
 |[],i,k,cl,pv,uo,n,h,_,_=>by
  simp only[nh]at h;cases h;exact⟨rfl,cB,λj ao hj=>by simp at hj,λj j' ao LQ _ hj=>by simp at hj⟩
 |o::os,i,k,cl,pv,uo,n,h,wg,hpv=>by
  unfold nh at h;simp only[bind_eq_bind,bind_eq_some_iff]at h;obtain⟨g,JB,dst,tf,h⟩:=h;generalize Ni:Ax P aM o=op at h;simp only[if_true]at h;split at h
  .rename_i dO;simp only[Bool.and_eq_true]at dO;obtain⟨NN,hc2⟩:=dO;simp only[pure_def,bind_eq_some_iff]at h;obtain⟨⟨fX,n'⟩,mw,e⟩:=h;cases e;obtain⟨g1,g2,g3,g4⟩:=An os (i+1) _ _ _ fX n' mw (by simp[wg]) (by simp[hpv]);have hkn:k<=n'/\(op.pA=true->k<n'):=by
    cases hm:op.pA<;>rw[hm]at g2<;>simp at g2|-<;>omega
   have lZ:∀(j:Nat) (ao:cS),fX[j]?=some ao->∀q,ao.iN=some q->k<=q/\q<n'/\(op.pA=true->k<q):=λj ao hj q hq=>by
    obtain⟨_,_,ok⟩:=g3 j ao hj;have:=ok.range q hq;cases hm:op.pA<;>rw[hm]at this<;>simp at this|-<;>omega
   refine⟨by simp[g1],hkn.1,λj ao hj=>?_,λj j' ao LQ jU hj DH q hq=>?_⟩
   .cases j with
    |zero=>
     simp only[getElem?_cons_zero,Option.some.injEq]at hj;subst hj;have hed:∀e∈o.after.toList,Region.binds .any e=true->e.on<i:=λe he hb=>by
      have:=List.all_eq_true.1 NN e he;simp only[hb,Bool.not_true,Bool.false_or,decide_eq_true_eq]at this;exact this
     refine⟨o,rfl,Ni,JB,tf,?_,λq hq=>?_,hed,λx hx=>?_,λx hx hn=>?_⟩
     .unfold uP;simp only;cases op.pA<;>rfl
     .simp only at hq;split at hq
      .rename_i hm;cases hq;exact⟨cB,hkn.2 hm⟩
      .cases hq
     .simp only[pB,mem_filter,Bool.or_eq_true,List.any_eq_true,Bool.and_eq_true]at hx;obtain⟨JI,hx2⟩:=hx;rcases hx2 with⟨e,he,hb,RZ⟩|⟨e,he,hb,RZ⟩
      .exact⟨e,he,hb,.inl (by simpa using RZ)⟩
      .refine⟨e,he,hb,.inr ?_⟩;have jU:=hed e he hb;rw[getD_eq_getElem?_getD,getElem?_append_left Z,<-getD_eq_getElem?_getD];exact contains_iff_mem.1 RZ
     .have:=List.all_eq_true.1 hc2 x (mem_range.2 hx);simp only[Bool.or_eq_true]at this;rcases this with h|h
      .exact absurd (contains_iff_mem.1 h) hn
      .split at h
       .rename_i y hy;exact⟨y,by rw[getElem?_append_left (by simp only[Nat.add_zero]at hx;omega)];exact hy,h⟩
       .cases h
    |succ j=>
     simp only[getElem?_cons_succ]at hj;obtain⟨o',h1,ok⟩:=g3 j ao hj;refine⟨o',by simpa using h1,ok.Lq,ok.guard,ok.dst,ok.iN,λq hq=>⟨(lZ j ao hj q hq).1,(lZ j ao hj q hq).2.1⟩,λe he hb=>by have:=ok.V1 e he hb;omega,?_,λx hx hn=>?_⟩
     .have:=ok.after;simpa[append_assoc]using this
     .have:=ok.apart x Z hn;simpa[append_assoc]using this
   .cases j with
    |zero=>omega
    |succ j=>
     simp only[getElem?_cons_succ]at hj;cases j' with
     |zero=>
      simp only[getElem?_cons_zero,Option.some.injEq]at DH;subst DH;intro e;simp only at e;split at e
      .rename_i hm;cases e;have:=(lZ j ao hj _ hq).2.2 hm;omega
      .cases e
     |succ j'=>
      simp only[getElem?_cons_succ]at DH;exact g4 j j' ao LQ Z hj DH q hq
  .cases h
theorem OD{x y:oC}(h:Eo (x.dst,x.looks) (y.dst,y.looks)=true):uO x y:=by
 simp only[Eo,Bool.and_eq_true]at h;obtain⟨h1,h2⟩:=h;refine⟨λd hd=>?_,λd hd=>?_,λd hd=>?_⟩
 .rw[hd]at h1;simp only[Bool.and_eq_true,bne_iff_ne]at h1;exact h1.2
 .rw[hd]at h1;simp only[Bool.and_eq_true]at h1;simpa using h1.1
 .rw[hd]at h2;simpa using h2
theorem St.congr{K:Kp}{w0 w:World}{ρ:dR}{T T':Tr}{h h':aN}{a:Act}(s:St K w0 nt ρ T h a w)(e:sig T h=sig T' h'):St K w0 nt ρ T' h' a w:=by
 have e1:∀p,dL p T'=dL p T:=λp=>(congrFun (congrArg Sg.tv e) p).symm
 have e2:∀b,aj h' b=aj h b:=λb=>(congrFun (congrArg Sg.get e) b).symm
 have e3:h'.length=h.length:=(congrArg Sg.len e).symm;refine⟨⟨s.rel.below,λb hb=>s.rel.xH b Z,λb x hx=>s.rel.mV b x (by rw[<-e2];exact hx),λb c x y p q hx hy=>s.rel.sep b c x y p q (by rw[<-e2];exact hx) (by rw[<-e2];exact hy)⟩,λp=>by rw[e1];exact s.tr p,s.size⟩
theorem mC.congr{h h':aN}{T T':Tr}{g:aN}(s:mC g h)(e:sig T h=sig T' h'):mC g h':=by
 have e2:∀b,aj h' b=aj h b:=λb=>(congrFun (congrArg Sg.get e) b).symm
 have e3:h'.length=h.length:=(congrArg Sg.len e).symm;exact⟨by rw[e3];exact s.1,λx hx=>by rw[e2];exact s.2 x hx⟩
end
def left(cQ:Array Bool)(ss:List oC):List oC:=ss.filter λs=>!cQ.getD s.mE true
structure Reg(P:Program)(aM:Nat->Option AV)(call:eX)(bC n nt:Nat)(dC:Array Oper)(uo:List cS)(ss:List oC):Prop where
 size:uo.length=dC.size
 len:ss.length=dC.size
 info:∀j s,ss[j]?=some s->s.mE=j/\∃ao,uo[j]?=some ao/\Info call (fI P) bC ao s
 op:∀(j:Nat) (ao:cS),uo[j]?=some ao->∃o,dC[j]?=some o/\Aah P aM nt dC 0 n j (uo.map (·.after)) (uo.map λa=>(a.dst,Fm a.op a.guard)) o ao
 bN:∀(j j':Nat) (ao LQ:cS),j'<j->uo[j]?=some ao->uo[j']?=some LQ->∀q,ao.iN=some q->LQ.iN≠some q
 apart:ss.Pairwise (λs t=>s.mE∉t.after->np s t)
section
variable{P:Program}{aM:Nat->Option AV}{cW:Bool}{OK:Goroutine->World->Prop}{L:oe->Loop->Prop}{call:eX}{K:Kp}{w0:World}{nt bC n:Nat}{dC:Array Oper}{uo:List cS}{ss:List oC}
theorem Reg.pair(G:Reg P aM call bC n nt dC uo ss){j i:Nat}{y x:oC}(hj:ss[j]?=some y) (hi:ss[i]?=some x) (jU:j<i) (hn:j∉x.after):np y x/\uO y x/\y.wf:=by
 obtain⟨ij,ay,hay,iy⟩:=G.info j y hj;obtain⟨ii,ax,Nh,ix⟩:=G.info i x hi;obtain⟨o,ho,ok⟩:=G.op i ax Nh;refine⟨?_,?_,iy.wf⟩
 .have DH:=List.getElem?_eq_some_iff.1 hj;have lV:=List.getElem?_eq_some_iff.1 hi;have:=pairwise_iff_getElem.1 G.apart j i DH.1 lV.1 jU;rw[DH.2,lV.2,ij]at this;exact this hn
 .obtain⟨p1,p2,p3⟩:=iy.cM;obtain⟨q1,q2,q3⟩:=ix.cM;obtain⟨z,hz,hap⟩:=ok.apart j jU (by rw[<-q3];exact hn);rw[getElem?_map,hay]at hz;cases hz;refine OD ?_;rw[p1,p2,q1,q2];exact hap
def Aai(K:Kp)(w0:World)(nt bC:Nat)(ρ:dR)(h:aN)(σ:Sg)(a:Act)(b:Frame)(k:List Item)(cs:List Frame)(g:Goroutine)(w:World):Prop:=
 ∃a' gO T1 h1,g=running (b.atR a' k) cs/\sig T1 h1=σ/\St K w0 nt gO T1 h1 a' w/\a'.defers=a.defers/\ρ.le gO/\(∀x,x<bC->gO x=ρ x)/\mC h h1
theorem OE{cQ:Array Bool}{i:Nat}{x:oC}(eV:∀(j:Nat) (s:oC),ss[j]?=some s->s.mE=j) (hx:ss[i]?=some x) (hl:cQ.getD i true=false):
 left cQ ss=left cQ (ss.take i)++x::left cQ (ss.drop (i+1))/\left (cQ.setIfInBounds i true) ss=left cQ (ss.take i)++left cQ (ss.drop (i+1)):=by
 have hs:ss=ss.take i++x::ss.drop (i+1):=by
  have hi:=List.getElem?_eq_some_iff.1 hx;rw[<-hi.2,getElem_cons_drop,take_append_drop]
 have YO:=eV i x hx;have key:∀s,s∈ss.take i\/s∈ss.drop (i+1)->(!(cQ.setIfInBounds i true).getD s.mE true)=!cQ.getD s.mE true:=λs h=>by
  have jV:i≠s.mE:=by
   rcases h with h|h
   .obtain⟨j,hj⟩:=getElem?_of_mem h;rw[getElem?_take]at hj;split at hj
    .have:=eV j s hj;omega
    .cases hj
   .obtain⟨j,hj⟩:=getElem?_of_mem h;rw[getElem?_drop]at hj;have:=eV _ s hj;omega
  rw[Array.getD_eq_getD_getElem?,Array.getD_eq_getD_getElem?,Array.getElem?_setIfInBounds_ne jV]
 constructor
 .unfold left;conv=>lhs;rw[hs]
  rw[filter_append,filter_cons_of_pos];rw[YO,hl];rfl
 .unfold left;conv=>lhs;rw[hs]
  rw[filter_append,filter_cons_of_neg]
  .congr 1
   .exact filter_congr λs hs=>key s (.inl hs)
   .exact filter_congr λs hs=>key s (.inr hs)
  .rw[YO];have rG:i<cQ.size:=by
    rcases Nat.lt_or_ge i cQ.size with h|h
    .exact h
    .rw[Array.getD_eq_getD_getElem?,Array.getElem?_eq_none h]at hl;cases hl
   simp[Array.getD_eq_getD_getElem?,rG]
theorem mem_left{cQ:Array Bool}{s:oC}:s∈left cQ ss↔s∈ss/\cQ.getD s.mE true=false:=by
 unfold left;rw[mem_filter];cases cQ.getD s.mE true<;>simp
theorem Ga(kC:∀g w,OK g w)(hL:K.loop=L)(fJ:lX P aM cW OK L call)(Q0:tW call)(G:Reg P aM call bC n nt dC uo ss){b:Frame}{k:List Item}{cs:List Frame}:
 ∀(fuel t:Nat) (cQ:Array Bool) (T:Tr) (h:aN) (a:Act) (w:World) (ρ:dR),cQ.size=dC.size->(left cQ ss).length<=fuel->DC (left cQ ss) (sig T h)->St K w0 nt ρ T h a w->GR aM ρ->bC+n<=h.length->
  (∀s∈left cQ ss,∀ao,uo[s.mE]?=some ao->∀q,ao.iN=some q->ρ (bC+q)=none)->(∀i s,ss[i]?=some s->cQ.getD i true=true->∀j∈s.after,cQ.getD j false=true)->
  di P cW OK (Aai K w0 nt bC ρ h (kj (left cQ ss) (sig T h)) a b k cs) (running (b.atR a (.inRegion dC (Region.linearise.go .any dC fuel t cQ [])::k)) cs) w:=by
 have Sa:∀(j:Nat) (s:oC),ss[j]?=some s->s.mE=j:=λj s hs=>(G.info j s hs).1
 have xa:∀(cQ:Array Bool) (T:Tr) (h:aN) (a:Act) (w:World) (ρ:dR),left cQ ss=[]->St K w0 nt ρ T h a w->di P cW OK (Aai K w0 nt bC ρ h (kj (left cQ ss) (sig T h)) a b k cs) (running (b.atR a (.inRegion dC []::k)) cs) w:=by
  intro cQ T h a w ρ V2 st;rw[V2];exact di.one kC (λd=>wG) λd=>.eP ⟨a,ρ,T,h,rfl,rfl,st.bW d,rfl,dR.le_refl _,λ_ _=>rfl,mC.refl _⟩
 intro fuel;induction fuel with
 |zero=>
  intro t cQ T h a w ρ _ oT _ st _ _ _ _;simp only[Region.linearise.go,reverse_nil];exact xa cQ T h a w ρ (eq_nil_of_length_eq_zero (Nat.le_zero.1 oT)) st
 |succ fuel ih=>
  intro t cQ T h a w ρ rG oT YM st hg eV hsl wg;simp only[Region.linearise.go];generalize OF:((List.range dC.size).filter λi=>!cQ.getD i true&&((dC[i]?).map (·.after.all λe=>!Region.binds .any e||cQ.getD e.on false)).getD false)=ready;cases hi:ready[t%ready.length]? with
  |none=>
   have V2:ready=[]:=by
    cases hr:ready with
    |nil=>rfl
    |cons x xs=>
     rw[hr]at hi;have jU:t%(x::xs).length<(x::xs).length:=Nat.mod_lt _ (by simp);simp at hi;simp at jU;omega
   simp only[reverse_nil];refine xa cQ T h a w ρ ?_ st;refine Classical.byContradiction λjV=>?_
   have hex:∃i s,ss[i]?=some s/\cQ.getD i true=false:=by
    cases hl:left cQ ss with
    |nil=>exact absurd hl jV
    |cons s l=>
     have hm:s∈left cQ ss:=by rw[hl];simp
     obtain⟨h1,h2⟩:=mem_left.1 hm;obtain⟨i,hi⟩:=getElem?_of_mem h1;exact⟨i,s,hi,by rw[Sa i s hi]at h2;exact h2⟩
   have Sb:∀m i s,i<=m->ss[i]?=some s->cQ.getD i true=false->∃i s,ss[i]?=some s/\cQ.getD i true=false/\∀j,j<i->cQ.getD j false=true:=by
    intro m;induction m with
    |zero=>intro i s h0 h1 h2;exact⟨i,s,h1,h2,λj hj=>Z⟩
    |succ m ihm=>
     intro i s h0 h1 h2;by_cases hj:∃j,j<i/\cQ.getD j false=false
     .obtain⟨j,hj1,hj2⟩:=hj;have hjl:j<ss.length:=Nat.lt_trans hj1 (List.getElem?_eq_some_iff.1 h1).1;have hjs:j<cQ.size:=by rw[rG,<-G.len];exact hjl
      exact ihm j ss[j] Z (getElem?_eq_getElem hjl) (by rw[Array.getD_eq_getD_getElem?,Array.getElem?_eq_getElem hjs]at hj2|-;exact hj2)
     .exact⟨i,s,h1,h2,λj DH=>by
       cases hq:cQ.getD j false with
       |true=>rfl
       |false=>exact absurd ⟨j,DH,hq⟩ hj⟩
   obtain⟨i,s,h1,h2⟩:=hex;obtain⟨i,s,h1,h2,h3⟩:=Sb i i s cB h1 h2;obtain⟨_,ao,YP,_⟩:=G.info i s h1;obtain⟨o,ho,ok⟩:=G.op i ao YP;have:i∈ready:=by
    rw[<-OF];refine mem_filter.2 ⟨mem_range.2 (Array.getElem?_eq_some_iff.1 ho).1,?_⟩;rw[h2,ho];simp only[Bool.not_false,Bool.true_and,map_some,getD_some];rw[<-Array.all_toList];refine List.all_eq_true.2 λe he=>?_
    cases hb:Region.binds .any e
    .rfl
    .have:=h3 e.on (ok.V1 e he hb);rw[this];rfl
   rw[V2]at this;cases this
  |some i=>
   simp only;rw[linearise_go_acc,reverse_singleton,singleton_append];have him:i∈ready:=mem_of_getElem? hi;rw[<-OF]at him;obtain⟨hir,hil⟩:=mem_filter.1 him;have hir:=mem_range.1 hir;simp only[Bool.and_eq_true,Bool.not_eq_true']at hil;obtain⟨sZ,xU⟩:=hil;have hil:i<ss.length:=by rw[G.len];exact hir
   have hx:ss[i]?=some ss[i]:=getElem?_eq_getElem hil;generalize ss[i]=x at hx;obtain⟨YO,ao,YP,OA⟩:=G.info i x hx;obtain⟨o,ho,ok⟩:=G.op i ao YP;rw[ho]at xU;simp only[map_some,getD_some]at xU;rw[<-Array.all_toList]at xU;have Uk:∀e∈o.after.toList,Region.binds .any e=true->cQ.getD e.on false=true:=λe he hb=>by
    have:=List.all_eq_true.1 xU e he;rw[hb]at this;simpa using this
   obtain⟨_,_,p3⟩:=OA.cM;have OG:∀j∈x.after,cQ.getD j false=true:=λj hj=>by
    rw[p3]at hj;obtain⟨e,he,hb,h1|h1⟩:=ok.after j hj
    .rw[<-h1];exact Uk e he hb
    .have jU:=ok.V1 e he hb;have OH:e.on<ss.length:=Nat.lt_trans jU hil;have hxe:ss[e.on]?=some ss[e.on]:=getElem?_eq_getElem OH;obtain⟨_,ae,hae,ie⟩:=G.info e.on _ hxe;rw[getD_eq_getElem?_getD,getElem?_map,hae]at h1;refine wg e.on _ hxe ?_ j (by rw[ie.cM.2.2];exact h1);have:=Uk e he hb;have hls:e.on<cQ.size:=by rw[rG,<-G.len];exact OH
     rw[Array.getD_eq_getD_getElem?,Array.getElem?_eq_getElem hls]at this|-;exact this
   obtain⟨s1,s2⟩:=OE (ss:=ss) Sa hx sZ;rw[s1]at YM;have hmv:=BN (left cQ (ss.take i)) (left cQ (ss.drop (i+1))) (sig T h) YM (λy hy=>by
    obtain⟨h1,h2⟩:=mem_left.1 hy;obtain⟨j,hj⟩:=getElem?_of_mem h1;rw[getElem?_take]at hj;split at hj
    .rename_i V4;refine G.pair hj hx V4 (λhm=>?_);have:=OG j hm;rw[Sa j y hj]at h2;have hjs:j<cQ.size:=by rw[rG,<-G.len];omega
     rw[Array.getD_eq_getD_getElem?,Array.getElem?_eq_getElem hjs]at this h2;simp at this h2;rw[this]at h2;cases h2
    .cases hj) OA.wf
   obtain⟨Ahx,V5,CV⟩:=hmv;rw[<-s2]at V5 CV;rw[s1,CV];have hxm:x∈left cQ ss:=by rw[s1];simp
   have F9:∀q,ao.iN=some q->ρ (bC+q)=none/\bC+q<h.length:=λq hq=>⟨hsl x hxm ao (by rw[YO];exact YP) q hq,by have:=(ok.range q hq).2;omega⟩
   have ho':dC[x.mE]?=some o:=by rw[YO];exact ho
   have v9:=HZ (b:=b) (k:=k) (cs:=cs) (fX:=Region.linearise.go .any dC fuel (t/ready.length) (cQ.setIfInBounds i true) []) kC hL fJ Q0 ho' ok.Lq ok.guard ok.dst OA ok.iN st hg Ahx F9;rw[YO]at v9;refine v9.bind λg w' q=>?_
   obtain⟨a1,pI,T1,h1,rfl,e1,qv,e2,e3,e4,e5⟩:=q;rw[<-e1]at V5|-;have AlX:=e5.1;have V6:(left (cQ.setIfInBounds i true) ss).length<=fuel:=by
    rw[s1]at oT;rw[s2];simp only[length_append,length_cons]at oT|-;omega
   refine(ih (t/ready.length) (cQ.setIfInBounds i true) T1 h1 a1 w' pI (by simp[rG]) V6 V5 qv (hg.mono e3) Z (λs hs LQ OI q hq=>?_) (λj s hj hlj y hy=>?_)).mono λg w f=>?_
   .rw[s2]at hs;have tR:s∈left cQ ss:=by
     rw[s1];rcases mem_append.1 hs with h|h
     .exact mem_append.2 (.inl h)
     .exact mem_append.2 (.inr (mem_cons.2 (.inr h)))
    have Ug:=(mem_left.1 tR).1;obtain⟨j,hj⟩:=getElem?_of_mem Ug;have V4:=Sa j s hj;obtain⟨_,hoj⟩:=G.info j s hj;have jV:j≠i:=by
     intro e;subst e;rw[<-s2]at hs;have:=(mem_left.1 hs).2;rw[V4]at this;have hjs:j<cQ.size:=Z;simp[Array.getD_eq_getD_getElem?,hjs]at this
    rw[V4]at OI;obtain⟨_,_,okj⟩:=G.op j LQ OI;have hr:=okj.range q hq;refine(e4 (bC+q) Z (λq' Jo e=>?_)).trans (hsl s tR LQ (by rw[V4];exact OI) q hq);have e:q'=q:=Z;subst e;rcases Nat.lt_or_gt_of_ne jV with jU|jU
    .exact G.bN i j ao LQ jU YP OI q' Jo hq
    .exact G.bN j i LQ ao jU OI YP q' hq Jo
   .have JJ:∀z,cQ.getD z false=true->(cQ.setIfInBounds i true).getD z false=true:=λz hz=>by
     by_cases e:i=z
     .subst e;have:i<cQ.size:=Z;simp[Array.getD_eq_getD_getElem?,this]
     .rw[Array.getD_eq_getD_getElem?,Array.getElem?_setIfInBounds_ne e,<-Array.getD_eq_getD_getElem?];exact hz
    by_cases e:j=i
    .subst e;rw[hx]at hj;cases hj;exact JJ y (OG y hy)
    .rw[Array.getD_eq_getD_getElem?,Array.getElem?_setIfInBounds_ne (λh=>e h.symm),<-Array.getD_eq_getD_getElem?]at hlj;exact JJ y (wg j s hj hlj y hy)
   .obtain⟨a2,Hr,T2,h2,f1,f2,f3,f4,f5,f6,f7⟩:=f;refine⟨a2,Hr,T2,h2,f1,f2,f3,f4.trans e2,dR.le_trans e3 f5,λz hz=>(f6 z hz).trans (e4 z Z (λq _ e=>Z)),e5.trans f7⟩
theorem BP(kC:∀g w,OK g w)(hL:K.loop=L)(fJ:lX P aM cW OK L call)(Q0:tW call)(BQ:P.follows .mixedOrders=true):zs P aM cW OK call K w0 nt:=by
 intro dC uo n id T T' m m' a w ρ b k cs EC hd st hg;obtain⟨c1,_,c2,c3⟩:=An dC.toList 0 0 [] [] uo n EC rfl rfl;have R9:∀o∈uo,uP o:=λo ho=>by
  obtain⟨j,hj⟩:=getElem?_of_mem ho;obtain⟨_,_,ok⟩:=c2 j o hj;exact ok.iN
 obtain⟨ss,e1,e2,e3,e4,_,e6⟩:=Am Q0 uo 0 [] T T' (m.om n) m' [] hd (λ_ h=>by cases h) (λ_ h=>by cases h) R9;have G:Reg P aM call m.ah.length n nt dC uo ss:={
  size:=by rw[c1];simp
  len:=by rw[e1,c1];simp
  info:=λj s hs=>by have:=e4 j s hs;simpa using this
  op:=λj ao hj=>by
   obtain⟨o,ho,ok⟩:=c2 j ao hj;refine⟨o,by simpa using ho,?_⟩;simpa using ok
  bN:=c3
  apart:=e6}
 have hml:(m.om n).ah.length=m.ah.length+n:=tu n m.ah;have R0:Rel K w0 ρ (m.om n).ah w:=by
  have mB:∀b,aj (m.om n).ah b=aj m.ah b:=rV n m.ah;exact⟨st.rel.below,λb hb=>st.rel.xH b Z,λb x hx=>st.rel.mV b x (by rw[<-mB];exact hx),λb c x y p q hx hy=>st.rel.sep b c x y p q (by rw[<-mB];exact hx) (by rw[<-mB];exact hy)⟩
 have hG:left (Array.replicate dC.size false) ss=ss:=by
  unfold left;refine filter_eq_self.2 λs hs=>?_
  obtain⟨j,hj⟩:=getElem?_of_mem hs;have h1:=(G.info j s hj).1;have h2:j<dC.size:=by rw[<-G.len];exact(List.getElem?_eq_some_iff.1 hj).1
  rw[h1];simp[Array.getD_eq_getD_getElem?,h2]
 refine di.any kC λd=>⟨_,_,BC,?_⟩
 have qv:St K w0 nt ρ T (m.om n).ah a {World.bW w d with drawn:=d+1}:=⟨R0.bW (d+1),st.tr,st.size⟩;have OJ:=Ga (b:=b) (k:=k) (cs:=cs) kC hL fJ Q0 G dC.size ((World.bW w d).tape d (.order b.fn id)) (Array.replicate dC.size false) T (m.om n).ah a _ ρ (by simp) (by rw[hG,G.len];exact cB) (by rw[hG];exact e2) qv hg Z
  (λs _ ao _ q _=>st.rel.xH _ Z) (λi s hi hl=>by
   have h2:i<dC.size:=by rw[<-G.len];exact(List.getElem?_eq_some_iff.1 hi).1
   simp[Array.getD_eq_getD_getElem?,h2]at hl)
 rw[hG,e3]at OJ;have hs:Region.schedule (P.follows .mixedOrders) dC ((World.bW w d).tape (World.bW w d).drawn (.order b.fn id))=Region.linearise.go .any dC dC.size ((World.bW w d).tape d (.order b.fn id)) (Array.replicate dC.size false) []:=by
  rw[BQ];rfl
 rw[hs];refine OJ.mono λg w' f=>?_
 obtain⟨a2,Hr,T2,h2,f1,f2,f3,f4,f5,f6,f7⟩:=f;have hp:mC m.ah (m.om n).ah:=⟨Z,λx hx=>by rw[show aj (m.om n).ah x=aj m.ah x from rV n m.ah x];exact hx⟩;exact⟨a2,Hr,f1,f3.congr f2,f4,f5,f6,hp.trans (f7.congr f2)⟩
end
theorem qw{P:Program}{aM:Nat->Option AV}{cW:Bool}{OK:Goroutine->World->Prop}{F:FuncId->Option bD}{sm:ct}(HQ:qn (Hm sm))(wZ:tW (Hm sm))(Ug:lX P aM cW OK (tU P aM) (Hm sm))(kC:∀g w,OK g w)(hF:Uh P aM F)(BQ:P.follows .mixedOrders=true):
 ∀n,lX P aM cW OK (tU P aM) (dJ F (fI P) sm n)
 |0=>λK w0 w ρ m m' c vs iA v hL hc=>by simp[dJ]at hc
 |n+1=>λK w0 w ρ m m' c vs iA v hL hc R hg wA hy=>by
  have ih:=qw (cW:=cW) HQ wZ Ug kC hF BQ n;have uN:∀nt,zs P aM cW OK (dJ F (fI P) sm n) K w0 nt:=λnt=>BP kC hL ih (zv F (fI P) HQ wZ n) BQ
  have lZ:∀nt fuel rd,vG P aM cW OK (dJ F (fI P) sm n) K w0 nt fuel rd:=λnt fuel rd=>Al kC ih (lY F (fI P) HQ n) hL
  cases c with
  |fn f=>exact Oo HQ Ug kC hF ih uN (λnt=>lZ nt n false) hL hc R hg wA
  |yield l=>
   obtain⟨p,hp⟩:=hy l rfl;exact F3 HQ kC ih uN (λnt=>lZ nt n true) hL hc R hg wA hp
open Go.RowKit (Below)
theorem EL(w:World):World.bW w w.drawn=w:=rfl
theorem di.steps{P:Program}{OK:Goroutine->World->Prop}{Q:Goroutine->World->Prop}{g:Goroutine}{w:World}(h:di P true OK Q g w):
 ∀fr cs,g=running fr cs->(∀g w,Q g w->∃fr cs,g=running fr cs)->∃fr' AA w',Q (running fr' AA) w'/\Steps P (lone fr cs w) (lone fr' AA w'):=by
 induction h with
 |eP h=>
  intro fr cs e _;subst e;exact⟨_,_,_,h,Steps.refl _ _⟩
 |@step g w g' w' h0 h1 h2 h3 ih=>
  intro fr cs e hq;subst e;have hs:=h1 w.drawn;rw[EL]at hs;have v9:∃fr1 Q4,g' w.drawn=running fr1 Q4:=by
   cases h3 w.drawn with
   |eP h=>exact hq _ _ h
   |step _ _ h0 _ _ _=>exact h0
  obtain⟨fr1,Q4,e1⟩:=v9;rw[e1]at hs;obtain⟨fr2,YI,w2,q,s⟩:=ih w.drawn fr1 Q4 e1 hq;exact⟨fr2,YI,w2,q,Steps.head (step_lone_go hs) s⟩
section
variable{P:Program}{aM:Nat->Option AV}{cW:Bool}{OK:Goroutine->World->Prop}{K:Kp}{w0:World}{ρ:dR}
theorem LR{L:oe->Loop->Prop}{F:FuncId->Option bD}{sm:ct}(HQ:qn (Hm sm))(kC:∀g w,OK g w)(hF:Uh P aM F){n:Nat}(fJ:lX P aM cW OK L (dJ F (fI P) sm n))(uN:∀nt,zs P aM cW OK (dJ F (fI P) sm n) K w0 nt)
 (lZ:∀nt,vG P aM cW OK (dJ F (fI P) sm n) K w0 nt n false) (hL:K.loop=L) {w:World} {m m':Mem} {f:FuncId} {vs:List AV} {iA:Array Value} {v:AV} (hc:dJ F (fI P) sm (n+1) (.fn f) vs m=some (v,m')) (R:Rel K w0 ρ m.ah w) (hg:GR aM ρ) (wA:fz ρ vs iA.toList) (hs:sm f vs m=none):
 (callFunc f iA).run P w=.ok (.enter f iA) w/\∀cs,di P cW OK (λg w'=>∃fr v' gO,g=running fr cs/\fr.fn=f/\fr.leaving P w' (.returned v')/\VR gO v v'/\Rel K w0 gO m'.ah w'/\ρ.le gO) (running (Frame.enter P f iA .normal) cs) w:=by
 simp only[dJ,hs]at hc;split at hc
 .cases hc
 .rename_i af haf;obtain⟨pE,fn,rI,HR⟩:=hF f af haf;simp only[Bk,bind_eq_bind,bind_eq_some_iff]at HR;obtain⟨body,BJ,HR⟩:=HR;split at HR
  .cases HR
  .rename_i Az;simp only[pure_def,bind_eq_some_iff]at HR;obtain⟨F2,Oq,e⟩:=HR;cases e;simp only at hc;cases oT:Nat.ble vs.length fn.ntmps<;>rw[oT]at hc<;>simp only[cond]at hc
   .cases hc
   .have Ahn:vs.length<=fn.ntmps:=Nat.le_of_ble_eq_true oT;have hl:=wA.length;simp at hl;have Ot:fn.body.isSome=true:=by rw[BJ];rfl
    refine⟨?_,λcs=>?_⟩
    .have ZY:(fn.name== "runtime.NumGoroutine")=false:=by
      unfold ph at pE;rw[rI]at pE;simpa using(Bool.and_eq_true_iff.1 pE).2
     simp only[callFunc,Sem.run_bind,run_program,Result.andThen_ok,rI,ZY,Bool.false_eq_true,if_false,BJ,isNone_some,Sem.run_pure]
    .have hen:Frame.enter P f iA .normal=(Frame.enter P f iA .normal).atR ⟨iA++Array.replicate (fn.ntmps-iA.size) undef,[]⟩ [.code body]:=by
      simp[Frame.enter,Frame.atR,rI,BJ]
     have wZ:St K w0 fn.ntmps ρ (lz vs .z .e) m.ah ⟨iA++Array.replicate (fn.ntmps-iA.size) undef,[]⟩ w:=⟨R,FV wA,by simp;omega⟩;have hD:tb m.ah.length ρ m.ah [] []:=⟨⟨cB,by simp⟩,nodup_nil,rfl,λi b d hb=>by simp at hb⟩;have kj:∀(e:cT) (T':Tr) (m1:Mem),dY (dJ F (fI P) sm n) (fI P) n false F2 (lz vs .z .e) {m with aV:=[]}=some (e,T',m1)->(e=.normal\/e=.ret)->∀v1,zh (aj (m1.gC m1.aV).ah) T' (fn.results.toList.map (Bj P))=some v1->
      di P cW OK (λg w'=>∃fr v' gO,g=running fr cs/\fr.fn=f/\fr.leaving P w' (.returned v')/\VR gO v1 v'/\Rel K w0 gO (m1.gC m1.aV).ah w'/\ρ.le gO) (running (Frame.enter P f iA .normal) cs) w:=by
      intro e T' m1 he xa v1 Fp;rw[hen];refine(tg kC (lY F (fI P) HQ n) hL fJ (uN _) (lZ _) body F2 _ T' {m with aV:=[]} m1 e _ w ρ _ [] cs Oq he wZ hg hD rfl (Array.getElem?_eq_some_iff.1 rI).1).bind λg w1 q=>?_
      obtain⟨a1,pI,todo,rfl,RY,s1,d1,x1⟩:=q;have step:∀d,(stepG P cW (running ((Frame.enter P f iA .normal).atR a1 todo) cs) (World.bW w1 d)).bare=.go (running {(Frame.enter P f iA .normal).atR a1 todo with mode:=.returning} cs) (World.bW w1 d):=by
       intro d;rcases xa with rfl|rfl
       .have:todo=[]:=RY;subst this;exact Oj rfl
       .obtain⟨k',rfl⟩:=RY;exact Oi rfl
      refine di.one kC step λd=>?_
      refine ti kC m1.aV a1.defers m1.ah _ (s1.rel.bW d) d1 λw2 R2=>?_
      rw[th]at Fp|-;obtain⟨v',g1,g2⟩:=qS (P:=P) (a:=⟨a1.tmps,[]⟩) R2 s1.tr (fn:=fn) (by simpa using Az) Fp;exact .eP ⟨_,v',pI,rfl,rfl,⟨rfl,rfl,rfl,fn,rI,g1⟩,g2,R2,x1.1⟩
     split at hc
     .rename_i T' m1 he;split at hc
      .rename_i v1 Fp;cases hc;exact kj .normal T' m1 he (.inl rfl) _ Fp
      .cases hc
     .rename_i T' m1 he;split at hc
      .rename_i v1 Fp;cases hc;exact kj .ret T' m1 he (.inr rfl) _ Fp
      .cases hc
     .cases hc
end
structure qx(P:Program)(aM:Nat->Option AV)(sm:ct):Prop where
 aV:qn (Hm sm)
 trk:tW (Hm sm)
 ok:lX P aM true (λ_ _=>True) (tU P aM) (Hm sm)
theorem qx.none{P:Program}{aM:Nat->Option AV}:qx P aM Bf:=
 ⟨λc vs m v m' h=>by cases c<;>simp[Hm,Bf]at h,λc vs m v m' h=>by cases c<;>simp[Hm,Bf]at h,λK w0 w ρ m m' c vs iA v hL h=>by cases c<;>simp[Hm,Bf]at h⟩
theorem OL{P:Program}{aM:Nat->Option AV}{F:FuncId->Option bD}{sm:ct}(hs:qx P aM sm)(hF:Uh P aM F)(BQ:P.follows .mixedOrders=true){n:Nat}{K:Kp}{w0 w:World}{ρ:dR}{m m':Mem}{f:FuncId}{vs:List AV}{iA:Array Value}{v:AV}
 (hL:K.loop=tU P aM) (hc:dJ F (fI P) sm n (.fn f) vs m=some (v,m')) (R:Rel K w0 ρ m.ah w) (hg:GR aM ρ) (wA:fz ρ vs iA.toList) (Dl:sm f vs m=none):
 Calls P f iA w λe w'=>∃v' gO,e=.returned v'/\VR gO v v'/\Rel K w0 gO m'.ah w'/\ρ.le gO:=by
 cases n with
 |zero=>simp[dJ]at hc
 |succ n=>
  have kC:∀(g:Goroutine) (w:World),(λ_ _=>True:Goroutine->World->Prop) g w:=λ_ _=>trivial
  have ih:=qw (cW:=true) hs.aV hs.trk hs.ok kC hF BQ n;have h:=LR (cW:=true) hs.aV kC hF ih (λnt=>BP kC hL ih (zv F (fI P) hs.aV hs.trk n) BQ) (λnt=>Al kC ih (lY F (fI P) hs.aV n) hL) hL hc R hg wA Dl;intro cs;obtain⟨fr',AA,w',⟨fr,v',gO,e,e1,e2,e3,e4,e5⟩,s⟩:=(h.2 cs).steps _ _ rfl (λg w ⟨_,_,_,e,_⟩=>⟨_,_,e⟩);cases e;exact⟨.returned v',w',_,⟨v',gO,rfl,e3,e4,e5⟩,s,e1,e2⟩
open Go.RowKit (Below)
def V7(P:Program)(aM:Nat->Option AV)(i:Nat)(af:bD):Prop:=ph P i=true/\∃fn,P.funcs[i]?=some fn/\Bk P aM fn=some af
def uQ(P:Program)(aM:Nat->Option AV):Nat->List (Option bD)->Prop
 |_,[]=>True
 |i,none::l=>uQ P aM (i+1) l
 |i,some af::l=>V7 P aM i af/\uQ P aM (i+1) l
theorem uQ.get{P:Program}{aM:Nat->Option AV}:∀(l:List (Option bD)) (i:Nat),uQ P aM i l->∀j af,(l[j]?).join=some af->V7 P aM (i+j) af
 |[],_,_,j,af,hj=>by simp at hj
 |none::l,i,h,j,af,hj=>by
  cases j with
  |zero=>simp at hj
  |succ j=>have:=uQ.get l (i+1) h j af (by simpa using hj);rwa[Nat.add_assoc,Nat.add_comm 1 j]at this
 |some x::l,i,h,j,af,hj=>by
  cases j with
  |zero=>simp at hj;subst hj;exact h.1
  |succ j=>have:=uQ.get l (i+1) h.2 j af (by simpa using hj);rwa[Nat.add_assoc,Nat.add_comm 1 j]at this
theorem uQ.fok{P:Program}{aM:Nat->Option AV}{l:List (Option bD)}(h:uQ P aM 0 l):Uh P aM λf=>(l[f]?).join:=λf af hf=>by
 have:=uQ.get l 0 h f af hf;rw[Nat.zero_add]at this;exact this
def my(rec:TypeId->DataW Unit->Option (List AV)):Nat->List (Nat×Nat×TypeId)->List (DataW Unit)->Option (List AV)
 |_,[],[]=>some []
 |o,(off,sz,t)::fs,d::ds=>
  match rec t d with
  |some as=>if off=o/\as.length=sz then(my rec (o+sz) fs ds).map (as++·)else none
  |none=>none
 |_,_,_=>none
def AG(P:Program):Nat->TypeId->DataW Unit->Option (List AV)
 |0,_,_=>none
 |n+1,t,d=>
  match P.underlying t,d with
  |some .bool,.lit (.bool b)=>some [.bool b]
  |some (.int _),.lit (.int k m)=>some [.int k m]
  |some .string,.lit (.string s)=>some [.fN s]
  |some (.array k e),.agg ds=>
   match my (AG P n) 0 ((List.range k).map λi=>(i*P.cellsOf e,P.cellsOf e,e)) ds with
   |some as=>if as.length=P.cellsOf t then some as else none
   |none=>none
  |some (.struct fs),.agg ds=>
   match my (AG P n) 0 (fs.toList.map λf=>(f.offset,P.cellsOf f.type,f.type)) ds with
   |some as=>if as.length=P.cellsOf t then some as else none
   |none=>none
  |_,_=>none
section
variable{P:Program}{w:World}{bC:Nat}{spare:Nat->Bool}{held:Bool}{enc:TypeId×Value->Unit}{ρ:dR}
theorem n7{n fuel:Nat}{cs:List Value}(ih:∀(t:TypeId) (c:List Value) (x:DataW Unit×List MemPlace) (as:List AV),DataW.trod enc P w bC spare held fuel t c=some x->AG P n t x.1=some as->fz ρ as c):
 ∀(fl:List (Nat×Nat×TypeId)) (xs:List (DataW Unit×List MemPlace)) (o:Nat) (as:List AV),my (AG P n) o fl (xs.map (·.1))=some as->
  (∀(i:Nat) (f:Nat×Nat×TypeId),fl[i]?=some f->DataW.trod enc P w bC spare held fuel f.2.2 ((cs.drop f.1).take f.2.1)=xs[i]?)->fz ρ as ((cs.drop o).take as.length)
 |[],[],o,as,h,_=>by simp only[map_nil,my]at h;cases h;simp[fz]
 |[],_::_,o,as,h,_=>by simp[my]at h
 |_::_,[],o,as,h,_=>by simp[my]at h
 |(off,sz,t)::fl,x::xs,o,as,h,hi=>by
  simp only[map_cons,my]at h;split at h
  .rename_i a1 h1;split at h
   .rename_i hc;obtain⟨rfl,rG⟩:=hc;simp only[map_eq_some_iff]at h;obtain⟨a2,h2,rfl⟩:=h;have g1:=ih t _ x a1 (hi 0 _ rfl) h1;have g2:=n7 ih fl xs (off+sz) a2 h2 (λi f hf=>by have:=hi (i+1) f (by simpa using hf);simpa using this);simp only at g1;have e:(cs.drop off).take (a1++a2).length=(cs.drop off).take sz++(cs.drop (off+sz)).take a2.length:=by
     rw[length_append,rG,take_add,drop_drop]
    rw[e];exact g1.append g2
   .cases h
  .cases h
theorem xj:∀(n fuel:Nat) (t:TypeId) (cs:List Value) (x:DataW Unit×List MemPlace) (as:List AV),DataW.trod enc P w bC spare held fuel t cs=some x->AG P n t x.1=some as->fz ρ as cs
 |0,_,_,_,_,_,_,h=>by simp[AG]at h
 |n+1,fuel,t,cs,x,as,ht,h=>by
  simp only[AG]at h;split at h
  .rename_i b hu hx;obtain⟨c,rfl,rfl⟩:=DataW.trod_bool hu ht;cases hx;cases h;exact⟨_,_,rfl,rfl,rfl⟩
  .rename_i k' k m hu hx;obtain⟨c,rfl,rfl,_⟩:=DataW.trod_int hu ht;cases hx;cases h;exact⟨_,_,rfl,rfl,rfl⟩
  .rename_i s hu hx;obtain⟨c,rfl,rfl,_⟩:=DataW.trod_string hu ht;cases hx;cases h;exact⟨_,_,rfl,⟨c,rfl,rfl⟩,rfl⟩
  .rename_i k e ds hu hx;obtain⟨xs,m,rfl,rfl,hl,hn,OH⟩:=DataW.trod_array hu ht;simp only[DataW.agg.injEq]at hx;subst hx;split at h
   .rename_i as' hf;split at h
    .rename_i eV;cases h;have:=n7 (ρ:=ρ) (cs:=cs) (λt c x as h1 h2=>xj n m t c x as h1 h2) _ xs 0 as hf (λi f hi=>by
      rw[getElem?_map]at hi;obtain⟨j,hj,rfl⟩:=map_eq_some_iff.1 hi;have DH:=List.getElem?_eq_some_iff.1 hj;simp only[length_range]at DH;obtain⟨jU,OM⟩:=DH;simp only[getElem_range]at OM;subst OM;exact OH i jU)
     rw[drop_zero,eV,<-hl,take_length]at this;exact this
    .cases h
   .cases h
  .rename_i fs ds hu hx;obtain⟨xs,m,rfl,rfl,hl,hn,OH⟩:=DataW.trod_struct hu ht;simp only[DataW.agg.injEq]at hx;subst hx;split at h
   .rename_i as' hf;split at h
    .rename_i eV;cases h;have:=n7 (ρ:=ρ) (cs:=cs) (λt c x as h1 h2=>xj n m t c x as h1 h2) _ xs 0 as hf (λi f hi=>by
      rw[getElem?_map]at hi;obtain⟨g,hg,rfl⟩:=map_eq_some_iff.1 hi;exact OH i g (by simpa using hg))
     rw[drop_zero,eV,<-hl,take_length]at this;exact this
    .cases h
   .cases h
  .cases h
theorem BR{l:List (String×DataW Unit)}{ps:List MemPlace}(h:DataW.LaidVars P w l ps){nm:String}{d:DataW Unit}(hm:(nm,d)∈l){g t:Nat}(hg:P.globalNamed nm=some g)(ht:(P.globals[g]?).map (·.type)=some t) {n:Nat} {as:List AV} (hl:AG P n t d=some as):
 ∀(k:Nat) (a:AV),as[k]?=some a->∃v,w.cell? ⟨g,k,none⟩=some v/\VR ρ a v:=by
 induction l generalizing ps with
 |nil=>cases hm
 |cons y r ih=>
  obtain⟨nm',d'⟩:=y;obtain⟨g',t',cs,fuel,p,q,e1,e2,e3,e4,e5,e6⟩:=h;rcases mem_cons.1 hm with e|hm
  .cases e;have eg:g'=g:=Option.some.inj (e1.symm.trans hg);subst eg;have et:t'=t:=Option.some.inj (e2.symm.trans ht);subst et;have hv:=xj (ρ:=ρ) n fuel t' cs.toList _ as e4 hl;intro k a hk;obtain⟨v,h1,h2⟩:=hv.get hk;exact⟨v,by rw[World.var?_cell e1 e3 k];simpa using h1,h2⟩
  .exact ih e5 hm
end
abbrev uq:=List (Nat×Nat×List (List AV))
def qT:uq->aN->aN
 |[],h=>h
 |(_,e,es)::l,h=>qT l (aQ h h.length (some (.row false e es)))
def jr:uq->Nat->Nat->Option AV
 |[],_,_=>none
 |(g,_,_)::l,b,k=>if k=g then some (.ptr b 0 0)else jr l (b+1) k
def wH:uq->Nat->dR
 |[],_,_=>none
 |(g,e,es)::l,b,k=>if k=b then some ⟨g,0,e,es.length⟩else wH l (b+1) k
structure BS(w:World)(x:Nat×Nat×List (List AV)):Prop where
 pos:0<x.2.1
 ne:x.2.2.flatten≠[]
 all:∀e∈x.2.2,e.length=x.2.1
 sc:∀a∈x.2.2.flatten,a.cU=true
 cell:∀(ρ:dR) (k:Nat) (a:AV),x.2.2.flatten[k]?=some a->∃v,w.cell? ⟨x.1,k,none⟩=some v/\VR ρ a v
def Gb(P:Program)(aM:Nat->Option AV)(w:World):Kp:={jW:=λk=>k<w.heap.size,loop:=tU P aM}
theorem Ao:∀(l:uq) (h:aN),(qT l h).length=h.length+l.length/\∀b,aj (qT l h) b=if b<h.length then aj h b else(l[b-h.length]?).map λx=>.row false x.2.1 x.2.2
 |[],h=>⟨rfl,λb=>by
  simp only[qT];split
  .rfl
  .rw[mL Z];simp⟩
 |(g,e,es)::l,h=>by
  have hl:(aQ h h.length (some (.row false e es))).length=h.length+1:=by rw[cw];omega
  obtain⟨h1,h2⟩:=Ao l (aQ h h.length (some (.row false e es)));refine⟨by rw[qT,h1,hl];simp;omega,λb=>?_⟩;rw[qT,h2,hl,dw cB];by_cases hb:b<h.length
  .rw[aG Z,aq Z,aG hb]
  .rw[aq hb];by_cases rF:b=h.length
   .subst rF;simp
   .rw[aq Z];have:b-h.length=(b-(h.length+1))+1:=Z;rw[this];simp
theorem tw:∀(l:uq) (b k:Nat),wH l b k=if b<=k then(l[k-b]?).map λx=>⟨x.1,0,x.2.1,x.2.2.length⟩else none
 |[],b,k=>by simp[wH]
 |(g,e,es)::l,b,k=>by
  rw[wH,tw l (b+1) k];by_cases h:k=b
  .subst h;simp
  .rw[aq h];by_cases h2:b<=k
   .rw[aG Z,aG h2];have:k-b=(k-(b+1))+1:=Z;rw[this];simp
   .rw[aq Z,aq h2]
theorem H0:∀(l:uq) (b g:Nat) (v:AV),jr l b g=some v->VR (wH l b) v (.pointer (some ⟨g,0,none⟩)):=by
 intro l b g v h;have key:∀(l':uq) (b':Nat),jr l' b' g=some v->(∀k,b'<=k->wH l b k=(l'[k-b']?).map λx=>⟨x.1,0,x.2.1,x.2.2.length⟩)->VR (wH l b) v (.pointer (some ⟨g,0,none⟩)):=by
  intro l';induction l' with
  |nil=>intro b' h;simp[jr]at h
  |cons x l' ih=>
   obtain⟨g',e,es⟩:=x;intro b' h hr;simp only[jr]at h;split at h
   .rename_i hg;subst hg;cases h;refine⟨⟨g,0,e,es.length⟩,(hr b' cB).trans (by simp),?_⟩;simp[Pl.lA]
   .refine ih (b'+1) h λk hk=>?_
    rw[hr k Z];have:k-b'=(k-(b'+1))+1:=Z;rw[this];simp
 exact key l b h λk hk=>by rw[tw,aG hk]
theorem Ap{es:List (List AV)}{n:Nat}(h:∀e∈es,e.length=n):es.flatten.length=es.length*n:=by
 induction es with
 |nil=>simp
 |cons e es ih=>
  rw[flatten_cons,length_append,ih (λx hx=>h x (by simp[hx])),h e (by simp),length_cons,Nat.succ_mul,Nat.add_comm]
theorem LS{P:Program}{aM:Nat->Option AV}{w:World}(l:uq)(hl:∀x∈l,BS w x):Rel (Gb P aM w) w (wH l 0) (qT l ⟨0,.e⟩) w:=by
 obtain⟨h1,h2⟩:=Ao l ⟨0,.e⟩;simp only[Nat.zero_add,Nat.not_lt_zero,if_false,Nat.sub_zero]at h1 h2;refine⟨⟨rfl,rfl,rfl,cB,λk hk=>hk,λ_ _=>rfl⟩,λb hb=>?_,λb x hx=>?_,λb c x y p q hx hy hp hq ho=>?_⟩
 .rw[tw,aG (Nat.zero_le _),Nat.sub_zero,getElem?_eq_none Z];rfl
 .rw[h2]at hx;obtain⟨y,hy,rfl⟩:=map_eq_some_iff.1 hx;obtain⟨g,e,es⟩:=y;have T:=hl _ (mem_of_getElem? hy);refine⟨⟨g,0,e,es.length⟩,by rw[tw,aG (Nat.zero_le _),Nat.sub_zero,hy];rfl,?_⟩;have sY:=T.pos;have hG:=T.all;simp only at sY hG;have jV:es.flatten≠[]:=T.ne;have eV:=Ap hG;have uR:∃gP el fr,w.heap[g]?=some (.cells gP el fr)/\∀k v,w.cell? ⟨g,k,none⟩=some v->gP[k]?=some v:=by
   cases hf:es.flatten with
   |nil=>exact absurd hf jV
   |cons a0 r=>
    obtain⟨v,hv,_⟩:=T.cell (λ_=>none) 0 a0 (by simp only;rw[hf];rfl);simp only[World.cell?]at hv;split at hv
    .rename_i c el fr hh;refine⟨c,el,fr,hh,λk v hv=>?_⟩;simp only[World.cell?,hh]at hv;simpa using hv
    .cases hv
  obtain⟨gP,el,fr,hh,hc⟩:=uR;refine⟨rfl,sY,hG,cB,gP,el,fr,hh,?_,λk a ha=>?_,λh=>(by cases h),T.sc⟩
  .simp only[Nat.zero_add];rw[<-eV];rcases Nat.eq_zero_or_pos es.flatten.length with h0|h0
   .omega
   .have hk:es.flatten[es.flatten.length-1]?=some (es.flatten[es.flatten.length-1]'Z):=getElem?_eq_getElem Z;obtain⟨v,hv,_⟩:=T.cell (λ_=>none) _ _ hk;have:=(Array.getElem?_eq_some_iff.1 (hc _ _ hv)).1;omega
  .obtain⟨v,hv,hr⟩:=T.cell (wH l 0) k a ha;exact⟨v,by rw[Nat.zero_add];exact hc k v hv,hr⟩
 .rw[h2]at hx;obtain⟨z,hz,rfl⟩:=map_eq_some_iff.1 hx;cases ho
theorem Kept.below{P:Program}{aM:Nat->Option AV}{w w':World}(h:Kept (Gb P aM w) w w'):Below w.heap.size w w':=⟨h.os,h.tape,h.output,h.size,λk hk=>h.block k hk⟩
open Go.RowKit (Below)
structure ON(w:World)(p:Pl)(es:List (List AV)):Prop where
 pos:0<p.bZ
 all:∀e∈es,e.length=p.bZ
 xG:es.length<=p.xG
 sc:∀a∈es.flatten,a.cU=true
 cell:∃gP el fr,w.heap[p.cb]?=some (.cells gP el fr)/\p.bC+p.xG*p.bZ<=gP.size/\∀(ρ:dR) (k:Nat) (a:AV),es.flatten[k]?=some a->∃v,gP[p.bC+k]?=some v/\VR ρ a v
abbrev jI:=List (Pl×List (List AV))
def fT:jI->aN->aN
 |[],h=>h
 |(p,es)::l,h=>fT l (aQ h h.length (some (.row false p.bZ es)))
def nT(l:jI):dR:=λk=>(l[k]?).map (·.1)
theorem pK:∀(l:jI) (h:aN),(fT l h).length=h.length+l.length/\∀b,aj (fT l h) b=if b<h.length then aj h b else(l[b-h.length]?).map λx=>.row false x.1.bZ x.2
 |[],h=>⟨rfl,λb=>by
  simp only[fT];split
  .rfl
  .rw[mL Z];simp⟩
 |(p,es)::l,h=>by
  have hl:(aQ h h.length (some (.row false p.bZ es))).length=h.length+1:=by rw[cw];omega
  obtain⟨h1,h2⟩:=pK l (aQ h h.length (some (.row false p.bZ es)));refine⟨by rw[fT,h1,hl];simp;omega,λb=>?_⟩;rw[fT,h2,hl,dw cB];by_cases hb:b<h.length
  .rw[aG Z,aq Z,aG hb]
  .rw[aq hb];by_cases rF:b=h.length
   .subst rF;simp
   .rw[aq Z];have:b-h.length=(b-(h.length+1))+1:=Z;rw[this];simp
theorem pM(l:jI)(b:Nat):aj (fT l ⟨0,.e⟩) b=(l[b]?).map λx=>.row false x.1.bZ x.2:=by
 have:=(pK l ⟨0,.e⟩).2 b;simpa using this
theorem BS.block{w:World}{g e:Nat}{es:List (List AV)}(T:BS w (g,e,es)):∃gP el fr,w.heap[g]?=some (.cells gP el fr)/\es.length*e<=gP.size/\∀(ρ:dR) (k:Nat) (a:AV),es.flatten[k]?=some a->∃v,gP[k]?=some v/\VR ρ a v:=by
 have hG:=T.all;have jV:=T.ne;simp only at hG jV;have eV:=Ap hG;have uR:∃gP el fr,w.heap[g]?=some (.cells gP el fr)/\∀k v,w.cell? ⟨g,k,none⟩=some v->gP[k]?=some v:=by
  cases hf:es.flatten with
  |nil=>exact absurd hf jV
  |cons a0 r=>
   obtain⟨v,hv,_⟩:=T.cell (λ_=>none) 0 a0 (by simp only;rw[hf];rfl);simp only[World.cell?]at hv;split at hv
   .rename_i c el fr hh;refine⟨c,el,fr,hh,λk v hv=>?_⟩;simp only[World.cell?,hh]at hv;simpa using hv
   .cases hv
 obtain⟨gP,el,fr,hh,hc⟩:=uR;refine⟨gP,el,fr,hh,?_,λρ k a ha=>?_⟩
 .rw[<-eV];rcases Nat.eq_zero_or_pos es.flatten.length with h0|h0
  .omega
  .have hk:es.flatten[es.flatten.length-1]?=some (es.flatten[es.flatten.length-1]'Z):=getElem?_eq_getElem Z;obtain⟨v,hv,_⟩:=T.cell (λ_=>none) _ _ hk;have:=(Array.getElem?_eq_some_iff.1 (hc _ _ hv)).1;omega
 .obtain⟨v,hv,hr⟩:=T.cell ρ k a ha;exact⟨v,hc k v hv,hr⟩
theorem BS.row{w:World}{g e:Nat}{es:List (List AV)}(T:BS w (g,e,es)):ON w ⟨g,0,e,es.length⟩ es:=by
 obtain⟨gP,el,fr,hh,rG,hc⟩:=T.block;exact⟨T.pos,T.all,cB,T.sc,gP,el,fr,hh,by simpa using rG,λρ k a ha=>by rw[Nat.zero_add];exact hc ρ k a ha⟩
def nM(l:uq):jI:=l.map λx=>(⟨x.1,0,x.2.1,x.2.2.length⟩,x.2.2)
theorem LU(l:uq)(r:jI):GR (jr l 0) (nT (nM l++r)):=by
 intro g v h;have key:∀(l':uq) (b:Nat),jr l' b g=some v->(∀k,k<l'.length->nT (nM l++r) (b+k)=(l'[k]?).map λx=>⟨x.1,0,x.2.1,x.2.2.length⟩)->VR (nT (nM l++r)) v (.pointer (some ⟨g,0,none⟩)):=by
  intro l';induction l' with
  |nil=>intro b h;simp[jr]at h
  |cons x l' ih=>
   obtain⟨g',e,es⟩:=x;intro b h hr;simp only[jr]at h;split at h
   .rename_i hg;subst hg;cases h;refine⟨⟨g,0,e,es.length⟩,(hr 0 (by simp)).trans (by simp),?_⟩;simp[Pl.lA]
   .refine ih (b+1) h λk hk=>?_
    have:=hr (k+1) (by simp;omega);rw[Nat.add_assoc,Nat.add_comm 1 k];simpa using this
 refine key l 0 h λk hk=>?_
 rw[Nat.zero_add];show((nM l++r)[k]?).map (·.1)=_;rw[getElem?_append_left (by simp[nM];exact hk)];simp[nM,getElem?_map];cases l[k]?<;>rfl
def AV.plain:AV->Bool
 |.bool _|.int _ _|.fN _|.Vo|.Hl _=>true
 |_=>false
theorem VR.plain{ρ gO:dR}{a:AV}{v:Value}(h:VR ρ a v)(hp:a.plain=true):VR gO a v:=by
 cases a<;>simp only[AV.plain]at hp<;>first|(cases hp;done)|exact h
def H7(l:uq)(m:Mem):Prop:=∀b x,l[b]?=some x->aj m.ah b=some (.row false x.2.1 x.2.2)
open Classical in
def JK (l:uq) (f0:FuncId) (v:AV):ct:=λf vs m=>if f=f0/\vs=[]/\H7 l m then some (v,m)else none
theorem xk{l:uq}{f0 f:FuncId}{v:AV}{vs:List AV}{m:Mem}{r:AV×Mem}(h:JK l f0 v f vs m=some r):f=f0/\vs=[]/\H7 l m/\r=(v,m):=by
 unfold JK at h;split at h
 .rename_i hc;cases h;exact⟨hc.1,hc.2.1,hc.2.2,rfl⟩
 .cases h
theorem Sc{P:Program}{l:uq}{K:Kp}{w0 w:World}{ρ:dR}{m:Mem}(T7:∀x∈l,0<x.2.1/\x.2.2.flatten≠[]/\∀a∈x.2.2.flatten,a.plain=true)(FY:(l.map (·.1)).Nodup)(R:Rel K w0 ρ m.ah w)(hg:GR (jr l 0) ρ)(hT:H7 l m):∀x∈l,BS w x:=by
 intro x hx;obtain⟨b,hb⟩:=getElem?_of_mem hx;obtain⟨g,e,es⟩:=x;obtain⟨h1,h2,h3⟩:=T7 _ hx;have Aaj:∀(l':uq) (b0 b:Nat),l'[b]?=some (g,e,es)->(l'.map (·.1)).Nodup->jr l' b0 g=some (.ptr (b0+b) 0 0):=by
  intro l';induction l' with
  |nil=>intro b0 b hb;simp at hb
  |cons y l' ih=>
   obtain⟨g',e',pd⟩:=y;intro b0 b hb hn;simp only[map_cons,nodup_cons]at hn;cases b with
   |zero=>
    simp only[getElem?_cons_zero,Option.some.injEq,Prod.mk.injEq]at hb;obtain⟨rfl,_⟩:=hb;simp[jr]
   |succ b=>
    simp only[getElem?_cons_succ]at hb;have jV:g≠g':=λe1=>hn.1 (by rw[<-e1];exact mem_map.2 ⟨_,mem_of_getElem? hb,rfl⟩)
    simp only[jr,aq jV];rw[ih (b0+1) b hb hn.2];congr 2;omega
 have hv:=hg g _ (Aaj l 0 b hb FY);rw[Nat.zero_add]at hv;obtain⟨p,hp,e1⟩:=hv;have HN:=hT b _ hb;obtain⟨q,hq,hB⟩:=R.mV b _ HN;have RO:q=p:=Option.some.inj (hq.symm.trans hp);subst RO;obtain⟨b1,b2,b3,b4,gP,el,fr,hh,rG,hc,_,NT⟩:=hB;simp only[Value.pointer.injEq,Option.some.injEq,Pl.lA,Nat.zero_mul,Nat.add_zero,Addr.mk.injEq]at e1;obtain⟨e1,e2,_⟩:=e1;refine⟨h1,h2,b3,NT,λgO k a ha=>?_⟩;obtain⟨v,hv,hr⟩:=hc k a ha;refine⟨v,?_,hr.plain (h3 a (mem_of_getElem? ha))⟩;simp only[World.cell?];rw[e1,hh];rw[<-e2,Nat.zero_add]at hv;simpa using hv
theorem V8{P:Program}{l:uq}{F:FuncId->Option bD}(hF:Uh P (jr l 0) F)(BQ:P.follows .mixedOrders=true)(T7:∀x∈l,0<x.2.1/\x.2.2.flatten≠[]/\∀a∈x.2.2.flatten,a.plain=true)(FY:(l.map (·.1)).Nodup){n:Nat}{f0:FuncId}{m1:Mem}{b:Bool}
 (hc:dJ F (fI P) Bf n (.fn f0) [] {ah:=qT l ⟨0,.e⟩}=some (.bool b,m1)):qx P (jr l 0) (JK l f0 (.bool b)):=by
 refine⟨λc vs m v m' h=>?_,λc vs m v m' h=>?_,λK w0 w ρ m m' c vs iA v hL h R hg wA _=>?_⟩
 .cases c with
  |fn f=>obtain⟨_,_,_,e⟩:=xk h;cases e;rfl
  |yield l=>cases h
 .cases c with
  |fn f=>obtain⟨_,_,_,e⟩:=xk h;cases e;exact nY.refl _
  |yield l=>cases h
 .cases c with
  |yield l=>cases h
  |fn f=>
   obtain⟨rfl,rfl,hT,e⟩:=xk h;cases e;have Ahy:iA.toList=[]:=wA;have hT2:=Sc (P:=P) T7 FY R hg hT;have kC:∀(g:Goroutine) (w:World),(λ_ _=>True:Goroutine->World->Prop) g w:=λ_ _=>trivial
   have ih:=qw (sm:=Bf) (cW:=true) (qx.none (P:=P) (aM:=jr l 0)).aV (qx.none (P:=P) (aM:=jr l 0)).trk (qx.none (P:=P) (aM:=jr l 0)).ok kC hF BQ n;obtain⟨nx,CW,q1,q2,q3⟩:=ih (Gb P (jr l 0) w) w w (wH l 0) {ah:=qT l ⟨0,.e⟩} m1 (.fn f) [] iA (.bool b) rfl hc (LS l hT2) (H0 l 0) (by rw[Ahy];rfl) (λl e=>by cases e);refine⟨nx,CW,q1,q2,λfr cs=>(q3 fr cs).mono λg w' he=>?_⟩;obtain⟨v',gO,e1,e2,e3,_⟩:=he;exact⟨v',ρ,e1,e2,R.xN e3.below.below,dR.le_refl _,λ_ _=>rfl,cB,λ_ h=>h⟩
section
variable{H:Type}{P:Program}{w:World}{bC:Nat}{spare:Nat->Bool}{held:Bool}{enc:TypeId×Value->H}
end
theorem Gc{α β:Type}{f:α->Option β}:∀{l:List α} {r:List β},l.mapM f=some r->l.length=r.length/\∀(i:Nat) (x:α),l[i]?=some x->f x=r[i]?
 |[],r,h=>by
  simp only[mapM_nil,pure_def,Option.some.injEq]at h;subst h;exact⟨rfl,λi x hx=>by simp at hx⟩
 |a::l,r,h=>by
  rw[mapM_cons]at h;simp only[pure_def,bind_eq_bind,bind_eq_some_iff]at h;obtain⟨b,hb,bs,Ot,e⟩:=h;cases e;obtain⟨h1,h2⟩:=Gc Ot;refine⟨by simp[h1],λi x hx=>?_⟩;cases i with
  |zero=>simp at hx;subst hx;simpa using hb
  |succ i=>simp at hx;simpa using h2 i x hx
theorem zx{w:World}{bC n:Nat}{a:Addr}{cs:List Value}(h:w.cells? bC a n=some cs):cs.length=n/\∀i,i<n->w.cell? (a.add i)=cs[i]?:=by
 unfold World.cells? at h;split at h
 .obtain⟨h1,h2⟩:=Gc h;simp only[length_range]at h1;exact⟨h1.symm,λi hi=>h2 i i (by simp[hi])⟩
 .cases h
theorem Gd(b o k:Nat):(⟨b,o,none⟩:Addr).add k=⟨b,o+k,none⟩:=by
 unfold Addr.add;split
 .rename_i h;subst h;rfl
 .rfl
section
variable{H:Type}{P:Program}{w:World}{held:Bool}{enc:TypeId×Value->H}
end
structure aY(m m':Mem):Prop where
 len:m.ah.length<=m'.ah.length
 get:∀b,b<m.ah.length->aj m'.ah b=aj m.ah b
 aV:m'.aV=m.aV
 hU:∃l,m'.hU=l++m.hU/\∀b∈l,m.ah.length<=b
theorem aY.refl(m:Mem):aY m m:=⟨cB,λ_ _=>rfl,rfl,[],rfl,λ_ h=>by cases h⟩
theorem aY.trans{a b c:Mem}(h:aY a b)(k:aY b c):aY a c where
 len:=bK h.len k.len
 get:=λx hx=>(k.get x (gA hx h.len)).trans (h.get x hx)
 aV:=k.aV.trans h.aV
 hU:=by
  obtain⟨l,e,hl⟩:=h.hU;obtain⟨l',e',Hq⟩:=k.hU;refine⟨l'++l,by rw[e',e,append_assoc],λb hb=>?_⟩;rcases mem_append.1 hb with hb|hb
  .exact bK h.len (Hq b hb)
  .exact hl b hb
theorem aY.sub{m m':Mem}(h:aY m m'){d:List Nat}:aY {m with aV:=d} {m' with aV:=d}:=⟨h.len,h.get,rfl,h.hU⟩
theorem OO(h:aN)(x:Option bp):aj (aQ h h.length x) h.length=x:=by rw[dw cB,aG rfl]
theorem tz(h:aN)(x:Option bp):(aQ h h.length x).length=h.length+1:=by rw[cw];omega
theorem OP{h:aN}{x:Option bp}{b:Nat}(hb:b<h.length):aj (aQ h h.length x) b=aj h b:=by rw[dw cB,aq Z]
end Go.Abs
end
