/- Functions of the program on symbolic values
   Conditions: none. -/
import Derived.Test.YteeknodhjojhhaaGreatDoorPe
set_option linter.unusedSimpArgs false
set_option linter.unusedVariables false
set_option maxRecDepth 100000
set_option maxHeartbeats 16000000
noncomputable section
namespace Go.Abs
open List Option IntKind
variable(j n:Nat)(h:aN)
theorem KS{l:List bF}(hc:∀c∈l,cF c){z a:Int}{s to:Nat}(hz:1<=z)(hs:s<17)(ha:0<=a)(ht:to<17){r:qX}(h:nW l z a s to=some r):r.1.length<=16/\∀i∈r.1,i<l.length:=by
 unfold nW at h;split at h
 .cases h
 obtain⟨K,k1,k2,k3,k4,k5,m1,m2,m3,m4⟩:=EX (l:=l) (z:=z) (a:=a) hc hz hs ha ht rfl Z;have fw:Iq l z a s to=some K:=Ce k1 k4 k5;rw[fw,getD_some,<-m1]at h;cases h;exact⟨Z,m4⟩
structure Yj(h:aN)(lg:List Nat)(l:List bF)(z a:Int)(f to n:Nat)(va vb:AV)(c1:Nat)(i:Nat)(x:kT)(m:Mem):Prop where
 k:aY ⟨h,lg,[]⟩ m
 z0:aj m.ah (nb h 0)=(aO 2 [[.aF,Ei 0]])
 b1:aj m.ah c1=(aO 2 [dW x])
 sa:aT m.ah 6 va ((gH l f).map bY)
 sb:aT m.ah 1 vb ((de l f l.length).map fy)
 sc:x.v.cU=true
 rt:∀r,iI l z a f to n i=some r->x.r=r/\ig m.ah x
theorem Yj.nQ{h:aN}{lg:List Nat}{l:List bF}{z a:Int}{f to n:Nat}{va vb:AV}{c1 i:Nat}{x:kT}{m m':Mem}(H:Yj h lg l z a f to n va vb c1 i x m)(hv:iI l z a f to n (i+1)=iI l z a f to n i)(q:aY m m'):Yj h lg l z a f to n va vb c1 (i+1) x m' where
 k:=H.k.trans q
 z0:=(q.get _ (ag H.z0)).trans H.z0
 b1:=(q.get _ (ag H.b1)).trans H.b1
 sa:=H.sa.bw q
 sb:=H.sb.bw q
 sc:=H.sc
 rt:=λr e=>⟨(H.rt r (hv▸e)).1,(H.rt r (hv▸e)).2.s.bw q,(H.rt r (hv▸e)).2.l⟩
theorem fQ{l:List bF}{z a f to n:Int}{i:Nat}(h:nw l z a f to n i=none):iI l z a f to n (i+1)=iI l z a f to n i:=by rw[iI,h];rfl
theorem KT{l:List bF}{z a f to n:Int}{i:Nat}(h:(gt l i).f=f/\(gt l i).t=n/\f≠to):(gE (gt l i) z a=none->nw l z a f to n i=none)/\∀t,gE (gt l i) z a=some t->(n=to->nw l z a f to n i=some ([i],t))/\(n≠to->(1099511627776<t->nw l z a f to n i=none)/\(¬1099511627776<t->(nW (gH l f) z t n.toNat to.toNat=none->nw l z a f to n i=none)/\∀r,nW (gH l f) z t n.toNat to.toNat=some r->nw l z a f to n i=some (i::r.1.map (gt (de l f l.length)),r.2))):=by
 unfold nw;rw[aG h];refine⟨λe=>by rw[e],λt e=>?_⟩;simp only[e];refine⟨λq=>aG q,λq=>?_⟩;rw[aq q];refine⟨λq=>aG q,λq=>?_⟩;rw[aq q];exact⟨λe=>by rw[e],λr e=>by rw[e]⟩
def BgI(h3:aN)(dH:List Nat)(v4:AV)(p4:List Nat)(y4:Int)(A:List Nat)(i n4:Nat)(k:Nat)(x:Nat×Option Nat)(m:Mem):Prop:=
 aY ⟨h3,dH,[]⟩ m/\aT m.ah 1 v4 (p4.map fy)/\aj m.ah (nb h3 2)=(aO 2 [[.slice x.1 0 (k+1) x.2,Ei y4]])/\aj m.ah x.1=(aO 1 ((i::(p4.take k).map (gt A)).map fy))/\h3.length<=x.1/\(x=(nb h3 1,some 1)/\k=0\/x.2=none/\n4<=x.1)/\n4<=m.ah.length
theorem Alq(j n':Nat)(h:aN)(lg d:List Nat){l:List bF}{v:AV}{f to n:Nat}{a z:Int}(hv:aT h 6 v (l.map bY))(hw:l.length<=40)(hp:(eA l).1=0)(Ft:(eA (gH l f)).1=0)(hc:∀c∈l,cF c)(ht:1<=to/\to<=16)(ha:0<=a/\a<=kv)(hz:1<=z/\z<=1200)(q_:219<=j/\207<=j/\190<=j:=by omega):
 Wa FT MT (SM j) (n'+5000) (.fn 308) [v,Ei f,Ei to,Ei a,Ei z,Ei n] ⟨aR h [],lg,d⟩ (Qk ⟨h,lg,d⟩ (Zi (Is l z a f to n))):=by
 refine aI ?_;refine aS ?_;rw[<-fZ];refine fK (Alk j _ (aR h [(aO 2 [[.aF,Ei 0]]),(aO 2 [[.aF,Ei 0]])]) _ _ (hv.bx _) Z) (λw h2 dx k2 og=>?_);obtain⟨va,vb,rfl,sa,sb⟩:=og;have z0:aj h2 (nb h 0)=(aO 2 [[.aF,Ei 0]]):=k2.at [] 0 (by simp only[fY];omega);have b1:aj h2 (nb h 1)=(aO 2 [[.aF,Ei 0]]):=k2.at [] 1 (by simp only[fY];omega);have kk:=(aH (h:=h) (lg:=lg) (d:=d) aL).trans k2.sub;have kl2:aT h2 6 v (l.map bY):=aT.bw (m:=⟨h,lg,d⟩) (m':=⟨h2,dx,d⟩) hv kk;have lv:=kl2.len;refine aW lv ?_;have kd:=(aH (h:=h) (lg:=lg) (d:=[]) aL).trans k2;refine dz (α:=kT) l.length [X35,Q7] (λi x=>[Ei i,.bool (iI l z a f to n i).isSome]) (Yj h lg l z a f to n va vb (nb h 1)) Z aX ⟨⟨.aF,([],0)⟩,rfl,kd.trans (aH aL),z0,b1,sa,sb,rfl,λr q=>by cases q⟩ (λi x m' g hi hP=>?_) (λx m' g hP=>?_)
 .obtain⟨h3,dH,d3⟩:=m';obtain rfl:d3=[]:=hP.k.aV;have k:=hP.k;have z0:=hP.z0;have b1:=hP.b1;simp only at z0 b1;have C6:aT h3 6 v (l.map bY):=aT.bw (m:=⟨h,lg,[]⟩) (m':=⟨h3,dH,[]⟩) hv k;have e:=C6.el hi;have r:=fh hi Z;have ck:=hc _ (bA hi);obtain⟨tn,A5⟩:∃tn:Nat,(gt l i).t=tn:=⟨(gt l i).t.toNat,by have:=ck.2.1;omega⟩;obtain⟨fn,rI⟩:∃fn:Nat,(gt l i).f=fn:=⟨(gt l i).f.toNat,by have:=ck.1;omega⟩;unfold bY at e;rw[A5,rI]at e;refine bH ?_;by_cases c1:(fn:Int)=(f:Int);rotate_left
  .have vn:nw l z a f to n i=none:=by rw[nw,aq (by rw[rI];exactλq=>c1 q.1)]
   refine aW (Z4 e r (eq_false c1) (fQ vn)) ?_;exact⟨x,hP.nQ (fQ vn) (aH aL)⟩
  by_cases c2:(tn:Int)=(n:Int);rotate_left
  .have vn:nw l z a f to n i=none:=by rw[nw,aq (by rw[A5];exactλq=>c2 q.2.1)]
   refine aW (Z5 e r (eq_true c1) (eq_false c2) (fQ vn)) ?_;exact⟨x,hP.nQ (fQ vn) (aH aL)⟩
  by_cases c3:(f:Int)=(to:Int)
  .have vn:nw l z a f to n i=none:=by rw[nw,aq (λq=>q.2.2 c3)]
   refine aW (Z6 e r (eq_true c1) (eq_true c2) (eq_true c3) (fQ vn)) ?_;exact⟨x,hP.nQ (fQ vn) (aH aL)⟩
  have g1:=λq lg d=>Alf (l:=l) (v:=v) (j:=j) (z:=z) (a:=a) i ⟨aR h3 q,lg,d⟩ (C6.bx q) Z hp ck hz ha.1 hi
  obtain⟨vv0,vv1⟩:=KT (l:=l) (z:=z) (a:=a) (f:=f) (to:=to) (n:=n) (i:=i) (by rw[rI,A5];exact⟨c1,c2,c3⟩);rcases eh:gE (gt l i) z a with _|t
  .have vn:=vv0 eh;rw[eh]at g1;by_cases ca:1099511627776<a
   .rw[aG ca,aG ca]at g1;refine aW (Z7 e r (eq_true c1) (eq_true c2) (eq_false c3) g1 (fQ vn)) ?_;exact⟨x,hP.nQ (fQ vn) (aH aL)⟩
   .rw[aq ca,aq ca]at g1;refine aW (Z7 e r (eq_true c1) (eq_true c2) (eq_false c3) g1 (fQ vn)) ?_;exact⟨x,hP.nQ (fQ vn) (aH aL)⟩
  have am:¬1099511627776<a:=λq=>by
   unfold gE at eh;rw[aG (.inr (.inl q))]at eh;cases eh
  rw[aq am,aq am,eh]at g1;have hl:=qU ck hz.1 eh;have nz:nb h 0≠nb h 1:=by rw[ne_eq,gG];omega
  have o1:=bg (ag b1);have MS:=λq=>(an q h3 _ (ag b1)).trans b1
  simp only[dW]at MS b1;have nz':=Ne.symm nz;by_cases c4:(n:Int)=(to:Int)
  .have vs:=(vv1 t eh).1 c4;have bs:iI l z a f to n (i+1)=mg (iI l z a f to n i) (some ([i],t)):=by rw[iI,vs]
   rcases hb:iI l z a f to n i with _|rb
   .rw[hb]at bs;by_cases tm:1099511627776<t;all_goals
     refine aW (yA e r (eq_true c1) (eq_true c2) (eq_false c3) (eq_true c4) tm g1 MS o1) ?_;exact⟨⟨.slice (nb h3 1) 0 1 (some 1),([i],t)⟩,by rw[bs];rfl,⟨k.bS aB (ag b1) _ _ (dD.ok (by repeat first|exact dD.nil|refine dD.cons (by first|exact aB|exact bK (k.len) aB|assumption) ?_)),(bP (ag b1) (ag z0) nz _ _).trans z0,o1.2.2.2.2.1 _ _,hP.sa.bS (ag b1) (hP.sa.gz b1 aZ) _ _,hP.sb.bS (ag b1) (hP.sb.gz b1 aZ) _ _,rfl,λr q=>by rw[bs]at q;cases q;exact⟨rfl,.some _ _ _ true _ rfl (o1.2.1 _ _ 1) rfl (λ_ h=>by cases h;simp),by simp⟩⟩⟩
   .obtain⟨xr,rx⟩:=hP.rt rb hb;rw[hb]at bs;have g2:=λq lg d (hq:fj q 1=(aO 1 [[Ei i]]))=>C9 j ⟨.slice (nb h3 1) 0 1 (some 1),([i],t)⟩ x ⟨aR h3 q,lg,d⟩ ⟨.some (nb h3 1) 0 (some 1) true _ rfl (by rw[bj,hq]) rfl (λ_ h=>by cases h;simp),by simp⟩ (rx.bx q)
    obtain⟨xv,Tn⟩:=x;simp only at xr;subst xr;unfold dW at g2;simp only at g2 MS b1;have cx:=hP.sc;simp only at cx;by_cases cm:eF ([i],t) Tn<0
    .have bs:iI l z a f to n (i+1)=some ([i],t):=by rw[bs,mg,aG cm]
     by_cases tm:1099511627776<t;all_goals
      refine aW (gX e r (eq_true c1) (eq_true c2) (eq_false c3) (eq_true c4) tm g1 g2 cm MS o1) ?_;exact⟨⟨.slice (nb h3 1) 0 1 (some 1),([i],t)⟩,by rw[bs];rfl,⟨k.bS aB (ag b1) _ _ (dD.ok (by repeat first|exact dD.nil|refine dD.cons (by first|exact aB|exact bK (k.len) aB|assumption) ?_)),(bP (ag b1) (ag z0) nz _ _).trans z0,o1.2.2.2.2.1 _ _,hP.sa.bS (ag b1) (hP.sa.gz b1 aZ) _ _,hP.sb.bS (ag b1) (hP.sb.gz b1 aZ) _ _,rfl,λr q=>by rw[bs]at q;cases q;exact⟨rfl,.some _ _ _ true _ rfl (o1.2.1 _ _ 1) rfl (λ_ h=>by cases h;simp),by simp⟩⟩⟩
    .have bs:iI l z a f to n (i+1)=iI l z a f to n i:=by rw[bs,hb,mg,aq cm]
     by_cases tm:1099511627776<t;all_goals
      refine aW (xq e r (eq_true c1) (eq_true c2) (eq_false c3) (eq_true c4) tm g1 g2 cm MS) ?_;exact⟨_,by rw[bs,hb];rfl,hP.nQ bs (aH aL)⟩
  .obtain⟨vv2,vv3⟩:=(vv1 t eh).2 c4;by_cases tm:1099511627776<t
   .have vn:=vv2 tm;refine aW (Z9 e r (eq_true c1) (eq_true c2) (eq_false c3) (eq_false c4) tm g1 (fQ vn)) ?_;exact⟨x,hP.nQ (fQ vn) (aH aL)⟩
   obtain⟨vv4,vv5⟩:=vv3 tm;refine aW (Z8 e r (eq_true c1) (eq_true c2) (eq_false c3) (eq_false c4) tm g1) ?_;rw[<-fZ];have Fq:∀c∈gH l f,cF c:=λc hm=>by
    obtain⟨q,hq,rfl⟩:=mem_map.1 hm;exact hc _ (bA (sB l f l.length q hq))
   have hla:(gH l f).length<=l.length:=by rw[gH,length_map];exact o0 l f l.length
   have hn:1<=n/\n<=16:=by have:=ck.2.1;omega
   refine fK (Alp j _ (aR h3 [(aO 6 [[Ei fn,Ei tn,Ei (gt l i).s,Ei (gt l i).e,Ei (gt l i).r,Ei (gt l i).d]]),(aO 1 [[Ei i]]),(aO 2 [[.slice (nb h3 1) 0 1 (some 1),Ei t]])]) _ _ (l:=gH l f) (s:=n) (to:=to) (a:=t) (z:=z) (hP.sa.bx _) Z Ft Fq hn ht hl hz) (λw h4 fi k4 Da=>?_);obtain⟨x4,e4,rfl,KU,he,U6⟩:=Da;rw[vx,aq tm]at he U6;have wz:=(aH (h:=h3) (lg:=dH) (d:=[]) aL).trans k4;have b4:aj h4 (nb h 1)=(aO 2 [[x.v,Ei x.r.2]]):=(wz.get _ (ag b1)).trans b1;have t1:aj h4 (nb h3 1)=(aO 1 [[Ei i]]):=k4.at [] 1 (by simp only[fY];omega);have t2:aj h4 (nb h3 2)=(aO 2 [[.slice (nb h3 1) 0 1 (some 1),Ei t]]):=k4.at [] 2 (by simp only[fY];omega);rcases bb:nW (gH l f) z t n to with _|rb
   .have vn:=vv4 (by rw[Int.toNat_natCast,Int.toNat_natCast];exact bb);have e4n:(e4=0)=False:=eq_false (λq=>by have:=he.1 q;rw[bb]at this;cases this);refine aW (Z5 r @dW.eq_1 KU e4n (fQ vn)) ?_;exact⟨x,hP.nQ (fQ vn) (wz.trans (aH aL))⟩
   have vs:=vv5 rb (by rw[Int.toNat_natCast,Int.toNat_natCast];exact bb);have bs:iI l z a f to n (i+1)=mg (iI l z a f to n i) (some (i::rb.1.map (gt (de l f l.length)),rb.2)):=by rw[iI,vs]
   obtain⟨rfl,To⟩:=U6 rb bb;have e40:e4=0:=he.2 (by rw[bb];rfl);subst e40;obtain⟨bl1,bl2⟩:=KS Fq hz.1 (show n<17 by omega) hl.1 (show to<17 by omega) bb;obtain⟨v4,p4,y4⟩:=x4;simp only at bl1 bl2 vs bs KU;have s4:=To.s;simp only at s4;have l4:=s4.len;have t2':=λq=>(an q h4 _ (ag t2)).trans t2
   have o2:=bg (ag t2);refine aW (Z5 @dW.eq_1 KU l4 t2' o2) ?_;have aw:(gH l f).length=(de l f l.length).length:=by rw[gH,length_map]
   refine dz (α:=Nat×Option Nat) p4.length [Ai0] (λk x=>[Ei k]) (BgI h3 dH v4 p4 y4 (de l f l.length) i h4.length) Z aX ⟨(nb h3 1,some 1),rfl,wz.bS aB (ag t2) _ _ (dD.ok (by repeat first|exact dD.nil|refine dD.cons (by first|exact aB|exact bK (wz.len) aB|assumption) ?_)),s4.bS (ag t2) (s4.gz t2 aZ) _ _,o2.2.2.2.2.1 _ _,(bP (ag t2) (ag t1) (by rw[ne_eq,gG];omega) _ _).trans t1,aB,.inl ⟨rfl,rfl⟩,by rw[o2.2.2.2.1];exact aB⟩ (λk x m' g hk hQ=>?_) (λx_1 m' g hQ=>?_)
   .obtain⟨h5,jg,d5⟩:=m';obtain⟨bb,cap⟩:=x;obtain⟨k5,s5,u2,u1,ub,uc,u4⟩:=hQ;obtain rfl:d5=[]:=k5.aV;simp only at u2 u1 ub uc s5 u4;have e6:=s5.el hk;have lk:gt p4 k<(de l f l.length).length:=by rw[<-aw];exact bl2 _ (bA hk)
    have GS:aT h5 1 vb ((de l f l.length).map fy):=aT.bw (m:=⟨h3,dH,[]⟩) (m':=⟨h5,jg,[]⟩) hP.sb k5;have e7:=GS.el lk;unfold fy at e6 e7;have r7:=fh hk Z;have kl:=eq_true hk;have ra:(p4.take (k+1)).map (gt (de l f l.length))=(p4.take k).map (gt (de l f l.length))++[gt (de l f l.length) (gt p4 k)]:=by rw[take_succ_eq_append_getElem hk,map_append,bB hk];rfl
    have MU:=λq=>(an q h5 _ (ag u2)).trans u2
    have Yk:=λq=>(an q h5 _ (ag u1)).trans u1
    have Tp:bb≠nb h3 2:=λq=>by rw[q,u2]at u1;cases u1
    have G7:=ag u2;have nx:∀b k,b<h5.length->(nb h5 k).beq b=false/\b.beq (nb h5 k)=false:=λb k hb=>⟨Bool.eq_false_iff.2 (λq=>by have:=Nat.eq_of_beq_eq_true q;rw[show nb h5 k=h5.length+k from rfl]at this;omega),Bool.eq_false_iff.2 (λq=>by have:=Nat.eq_of_beq_eq_true q;rw[show nb h5 k=h5.length+k from rfl]at this;omega)⟩
    have nq5:=λk=>nx _ k G7
    have nq6:=λk=>nx _ k (ag u1)
    have o3:=bg (ag u2);have U5:h3.length<=nb h3 2:=aB;refine bH ?_;rcases uc with⟨uc,rfl⟩|⟨rfl,uc⟩
    .cases uc;simp only[show((0:Nat):Int)=0 from rfl,Nat.add_zero]at e6 r7;refine aW (Z8 e6 e7 r7 MU Yk nq5 nq6 o3) ?_;exact⟨(nb h5 1,none),k5.bS U5 G7 _ _ (dD.ok (by repeat first|exact dD.nil|refine dD.cons (by first|exact aB|exact bK (k5.len) aB|assumption) ?_)),s5.bS G7 (s5.gz u2 aZ) _ _,o3.2.2.2.2.1 _ _,by rw[ra];exact o3.2.1 _ _ 1,bK k5.len aB,.inr ⟨rfl,bK u4 aB⟩,by rw[o3.2.2.2.1];exact bK u4 aB⟩
    .have o4:=jY (ag u1) (ag u2) (Ne.symm Tp);have o5:=bg (ag u1);have fA:(1000000000000<(k+1+1)*8)=False:=cR;have fD:(((i::(p4.take k).map (gt (de l f l.length))).map fy).length<k+1)=False:=eq_false (by simp;omega);have fE:(k+1+1<=((i::(p4.take k).map (gt (de l f l.length))).map fy).length)=False:=eq_false (by simp;omega);have fC:List.take (k+1) ((i::(p4.take k).map (gt (de l f l.length))).map fy)=(i::(p4.take k).map (gt (de l f l.length))).map fy:=take_of_length_le (by simp;omega);obtain⟨bI,hr⟩:∃bI,bI=(i::(p4.take k).map (gt (de l f l.length))).map fy:=⟨_,rfl⟩;rw[<-hr]at fD fE fC u1 Yk;refine aW (gX e6 e7 r7 MU u2 Yk nq5 nq6 o4 o5 fA (Z3 fD fE fC)) ?_;exact⟨(nb h5 1,none),k5.uW ub (ag u1) U5 G7 _ _ _ (dD.ok (by repeat first|exact dD.nil|refine dD.cons (by first|exact aB|exact bK (k5.len) aB|assumption) ?_)),s5.uW (ag u1) G7 (λq hq=>by have:=s4.cj q hq;omega) (s5.gz u2 aZ) _ _ _,o4.2.2.2.2.1 _ _ _,by rw[ra,<-cons_append,map_append,<-hr];exact o4.2.1 _ _ _ 1,bK k5.len aB,.inr ⟨rfl,bK u4 aB⟩,by rw[o4.2.2.2.1];exact bK u4 aB⟩
   .obtain⟨h5,jg,d5⟩:=m';obtain⟨bb,cap⟩:=x_1;obtain⟨k5,s5,u2,u1,ub,uc,u4⟩:=hQ;obtain rfl:d5=[]:=k5.aV;simp only at u2 u1 ub uc s5 u4;rw[take_length]at u1;obtain⟨R,hR⟩:∃R:qX,R=(i::p4.map (gt (de l f l.length)),y4):=⟨_,rfl⟩;have Tq:ig h5 ⟨.slice bb 0 (p4.length+1) cap,R⟩:=⟨.some bb 0 cap true _ (by rw[hR];simp) u1 (by rw[hR];simp;exact take_of_length_le (by simp)) (by
     rcases uc with⟨uc,q⟩|⟨rfl,_⟩
     .cases uc;intro _ h;cases h;simp[hR,q]
     .intro _ h;cases h),by rw[hR];simp;omega⟩
    have b5:aj h5 (nb h 1)=(aO 2 [[x.v,Ei x.r.2]]):=(k5.get _ (ag b1)).trans b1;have z5:aj h5 (nb h 0)=(aO 2 [[.aF,Ei 0]]):=(k5.get _ (ag z0)).trans z0;have sa5:aT h5 6 va ((gH l f).map bY):=aT.bw (m:=⟨h3,dH,[]⟩) (m':=⟨h5,jg,[]⟩) hP.sa k5;have GS:aT h5 1 vb ((de l f l.length).map fy):=aT.bw (m:=⟨h3,dH,[]⟩) (m':=⟨h5,jg,[]⟩) hP.sb k5;have wQ:=k.trans k5;have MU:=λq=>(an q h5 _ (ag u2)).trans u2
    have GV:=λq=>(an q h5 _ (ag b5)).trans b5
    have MV:=ag b5;have o6:=bg MV;have kl:=eq_false (show¬p4.length<p4.length by omega);have yR:R.2=y4:=by rw[hR]
    have post:∀q ux,(∃r,ux=r++jg/\∀y∈r,h.length<=y)->iI l z a f to n (i+1)=some R->Yj h lg l z a f to n va vb (nb h 1) (i+1) ⟨.slice bb 0 (p4.length+1) cap,R⟩ ⟨aR (aQ h5 (nb h 1) ((aO 2 [[.slice bb 0 (p4.length+1) cap,Ei y4]]))) q,ux,[]⟩:=λq ux hq bs=>⟨wQ.bS aB MV _ _ hq,(bP MV (ag z5) nz _ _).trans z5,by rw[dW,yR];exact o6.2.2.2.2.1 _ _,sa5.bS MV (sa5.gz b5 aZ) _ _,GS.bS MV (GS.gz b5 aZ) _ _,rfl,λr q=>by rw[bs]at q;cases q;exact⟨rfl,Tq.s.bS MV (Tq.s.gz b5 aZ) _ _,Tq.l⟩⟩
    refine bH ?_;rw[<-hR]at bs;rcases hb:iI l z a f to n i with _|rb
    .rw[hb]at bs;refine aW (Z4 r MU GV o6) ?_;exact⟨_,by rw[bs];rfl,post _ _ (dD.ok (by repeat first|exact dD.nil|refine dD.cons (by first|exact aB|exact bK (wQ.len) aB|assumption) ?_)) bs⟩
    .obtain⟨xr,rx⟩:=hP.rt rb hb;rw[hb]at bs;obtain⟨xv,Tn⟩:=x;simp only at xr;subst xr;have g2:=λq lg d=>C9 j ⟨.slice bb 0 (p4.length+1) cap,R⟩ ⟨xv,Tn⟩ ⟨aR h5 q,lg,d⟩ (Tq.bx q) (ig.bx ⟨aT.bw (m:=⟨h3,dH,[]⟩) (m':=⟨h5,jg,[]⟩) rx.s k5,rx.l⟩ q)
     unfold dW at g2;simp only[yR]at g2 b5 GV;have cx:=hP.sc;simp only at cx;by_cases cm:eF R Tn<0
     .have bs:iI l z a f to n (i+1)=some R:=by rw[bs,mg,aG cm]
      refine aW (Z6 r MU GV o6 g2 cm) ?_;exact⟨_,by rw[bs];rfl,post _ _ (dD.ok (by repeat first|exact dD.nil|refine dD.cons (by first|exact aB|exact bK (wQ.len) aB|assumption) ?_)) bs⟩
     .have bs:iI l z a f to n (i+1)=iI l z a f to n i:=by rw[bs,hb,mg,aq cm]
      refine aW (Z5 r MU GV g2 cm) ?_;exact⟨_,by rw[bs,hb];rfl,hP.nQ bs (k5.trans (aH aL))⟩
 .obtain⟨h3,dH,d3⟩:=m';obtain rfl:d3=[]:=hP.k.aV;have k:=hP.k;have z0:=hP.z0;have b1:=hP.b1;have cx:=hP.sc;simp only[dW]at z0 b1;have z0':=λq=>(an q h3 _ (ag z0)).trans z0
  have Kn:=λq=>(an q h3 _ (ag b1)).trans b1
  have o1:=bg (ag z0);refine bH ?_;refine aW (Z4 z0' Kn o1 cx) ?_;refine⟨k.sub.bS aB (ag z0) _ _ (dD.ok (by repeat first|exact dD.nil|refine dD.cons (by first|exact aB|exact bK (k.len) aB|assumption) ?_)),x,rfl,cx,λr q=>?_⟩;obtain⟨e1,e2⟩:=hP.rt r q;exact⟨e1,e2.s.bS (ag z0) (e2.s.gz z0 aZ) _ _,e2.l⟩
def BhI(h3:aN)(dH:List Nat)(v4:AV)(p4:List Nat)(y4:Int)(A:List Nat)(i n4 c:Nat)(k:Nat)(x:Nat×Option Nat)(m:Mem):Prop:=
 aY ⟨h3,dH,[]⟩ m/\aT m.ah 1 v4 (p4.map fy)/\aj m.ah (nb h3 0)=(aO 2 [[v4,Ei y4]])/\aj m.ah c=(aO 2 [[.slice x.1 0 (k+1) x.2,Ei y4]])/\aj m.ah x.1=(aO 1 ((i::(p4.take k).map (gt A)).map fy))/\h3.length<=x.1/\(x=(n4,some 1)/\k=0\/x.2=none/\n4<x.1)
theorem Alr(j n':Nat)(h:aN)(lg d:List Nat){l:List bF}{v:AV}{f to n:Nat}{a z:Int}(hv:aT h 6 v (l.map bY))(hw:l.length<=40)(Ft:(eA (gH l f)).1=0)(hc:∀c∈l,cF c)(ht:1<=to/\to<=16)(ha:0<=a/\a<=kv)(hz:1<=z/\z<=1200)(q_:306<=j/\299<=j/\307<=j:=by omega):
 Wa FT MT (SM j) (n'+7000) (.fn 284) [v,Ei f,Ei to,Ei a,Ei z,Ei n] ⟨aR h [],lg,d⟩ (Qk ⟨h,lg,d⟩ (Zi (Is l z a f to n))):=by
 refine aI ?_;refine aS ?_;rw[<-fZ];refine fK (All j _ (aR h [(aO 2 [[.aF,Ei 0]])]) _ _ (hv.bx _) Z) (λw h2 dx k2 og=>?_);obtain⟨va,vb,rfl,sa,sb⟩:=og;have z0:aj h2 (nb h 0)=(aO 2 [[.aF,Ei 0]]):=k2.at [] 0 (by simp only[fY];omega);have kd:=(aH (h:=h) (lg:=lg) (d:=[]) aL).trans k2;have NN:h.length<=nb h2 0:=bK kd.len aB;have nz:nb h 0≠nb h2 0:=λq=>by have:=ag z0;rw[q,nb]at this;omega
 refine aS ?_;refine dz (α:=kT) l.length [X18,Ux] (λi x=>[Ei i,.bool (iI l z a f to n i).isSome]) (Yj h lg l z a f to n va vb (nb h2 0)) Z aX ⟨⟨.aF,([],0)⟩,rfl,kd.trans (aH aL),(an _ h2 _ (ag z0)).trans z0,bj,sa.bx _,sb.bx _,rfl,λr q=>by cases q⟩ (λi x m' g hi hP=>?_) (λx m' g hP=>?_)
 .obtain⟨h3,dH,d3⟩:=m';obtain rfl:d3=[]:=hP.k.aV;have k:=hP.k;have z0:=hP.z0;have b1:=hP.b1;simp only at z0 b1;have C6:aT h3 6 v (l.map bY):=aT.bw (m:=⟨h,lg,[]⟩) (m':=⟨h3,dH,[]⟩) hv k;have e:=C6.el hi;have lv:=C6.len;have r:=fh hi Z;have ck:=hc _ (bA hi);have g1:=λm=>Th j (gt l i) z a m ck hz ha
  obtain⟨tn,A5⟩:∃tn:Nat,(gt l i).t=tn:=⟨(gt l i).t.toNat,by have:=ck.2.1;omega⟩;obtain⟨fn,rI⟩:∃fn:Nat,(gt l i).f=fn:=⟨(gt l i).f.toNat,by have:=ck.1;omega⟩;unfold bY at e g1;rw[A5,rI]at e g1;refine bH ?_;by_cases c3:(f:Int)=(to:Int)
  .have vn:nw l z a f to n i=none:=by rw[nw,aq (λq=>q.2.2 c3)]
   refine aW (Z4 lv r (eq_true c3) (fQ vn)) ?_;exact⟨x,hP.nQ (fQ vn) (aH aL)⟩
  by_cases c1:(fn:Int)=(f:Int);rotate_left
  .have vn:nw l z a f to n i=none:=by rw[nw,aq (by rw[rI];exactλq=>c1 q.1)]
   refine aW (Z6 e lv r (eq_false c3) (eq_false c1) (fQ vn)) ?_;exact⟨x,hP.nQ (fQ vn) (aH aL)⟩
  by_cases c2:(tn:Int)=(n:Int);rotate_left
  .have vn:nw l z a f to n i=none:=by rw[nw,aq (by rw[A5];exactλq=>c2 q.2.1)]
   refine aW (Z7 e lv r (eq_false c3) (eq_true c1) (eq_false c2) (fQ vn)) ?_;exact⟨x,hP.nQ (fQ vn) (aH aL)⟩
  obtain⟨vv0,vv1⟩:=KT (l:=l) (z:=z) (a:=a) (f:=f) (to:=to) (n:=n) (i:=i) (by rw[rI,A5];exact⟨c1,c2,c3⟩);rcases eh:gE (gt l i) z a with _|t
  .have vn:=vv0 eh;rw[eh]at g1;refine aW (Z8 e lv r (eq_true c1) (eq_true c2) (eq_false c3) g1 (fQ vn)) ?_;exact⟨x,hP.nQ (fQ vn) (aH aL)⟩
  rw[D7,eh]at g1;have hl:=qU ck hz.1 eh;have o1:=bg (ag b1);have MS:=λq=>(an q h3 _ (ag b1)).trans b1
  simp only[dW]at MS b1;by_cases c4:(n:Int)=(to:Int)
  .have vs:=(vv1 t eh).1 c4;have bs:iI l z a f to n (i+1)=mg (iI l z a f to n i) (some ([i],t)):=by rw[iI,vs]
   refine aW (Z8 e lv r (eq_true c1) (eq_true c2) (eq_false c3) (eq_true c4) g1) ?_;refine dV 0 [X24] (λk=>[Ei k]) (λk m=>∃bq,m=⟨aR h3 [(aO 2 [[.aF,Ei t]]),(aO 1 [[Ei i]]),(aO 2 [[.slice (nb h3 1) 0 1 (some 1),Ei t]])],bq,[]⟩/\dm h3 dH bq) Z aX ⟨rfl,_,rfl,aL⟩ (λi m g hi=>absurd hi Z) (λm g hM=>?_);obtain⟨fi,rfl,MW⟩:=hM;have LK:∀q,aY ⟨h,lg,[]⟩ ⟨aR (aQ h3 (nb h2 0) q) [(aO 2 [[.aF,Ei t]]),(aO 1 [[Ei i]]),(aO 2 [[.slice (nb h3 1) 0 1 (some 1),Ei t]])],nb h2 0::fi,[]⟩:=λq=>aY.bS (k.trans (aH (l:=[]) MW)) NN (ag b1) _ _ ⟨[nb h2 0],rfl,λy hy=>by simp at hy;rw[hy];exact NN⟩
   have i0:((i:Int)=(i:Int))=True:=eq_self _;have z00:((0:Nat):Int)=0:=rfl;rcases hb:iI l z a f to n i with _|rb
   .rw[hb]at bs;refine aW (Z4 z00 r MS o1) ?_;exact⟨⟨.slice (nb h3 1) 0 1 (some 1),([i],t)⟩,by rw[bs];rfl,⟨LK _,(bP (ag b1) (ag z0) nz _ _).trans z0,o1.2.2.2.2.1 _ _,hP.sa.bS (ag b1) (hP.sa.gz b1 aZ) _ _,hP.sb.bS (ag b1) (hP.sb.gz b1 aZ) _ _,rfl,λr q=>by rw[bs]at q;cases q;exact⟨rfl,.some _ _ _ true _ rfl (o1.2.1 _ _ 1) rfl (λ_ h=>by cases h;simp),by simp⟩⟩⟩
   .obtain⟨xr,rx⟩:=hP.rt rb hb;rw[hb]at bs;have g2:=λq lg d (hq:fj q 1=(aO 1 [[Ei i]]))=>Tl j ⟨.slice (nb h3 1) 0 1 (some 1),([i],t)⟩ x ⟨aR h3 q,lg,d⟩ ⟨.some (nb h3 1) 0 (some 1) true _ rfl (by rw[bj,hq]) rfl (λ_ h=>by cases h;simp),by simp⟩ (rx.bx q)
    obtain⟨xv,Tn⟩:=x;simp only at xr;subst xr;unfold dW at g2;simp only at g2 MS b1;have cx:=hP.sc;simp only at cx;by_cases cm:eF ([i],t) Tn<0
    .have bs:iI l z a f to n (i+1)=some ([i],t):=by rw[bs,mg,aG cm]
     refine aW (Z6 z00 r g2 cm MS o1) ?_;exact⟨⟨.slice (nb h3 1) 0 1 (some 1),([i],t)⟩,by rw[bs];rfl,⟨LK _,(bP (ag b1) (ag z0) nz _ _).trans z0,o1.2.2.2.2.1 _ _,hP.sa.bS (ag b1) (hP.sa.gz b1 aZ) _ _,hP.sb.bS (ag b1) (hP.sb.gz b1 aZ) _ _,rfl,λr q=>by rw[bs]at q;cases q;exact⟨rfl,.some _ _ _ true _ rfl (o1.2.1 _ _ 1) rfl (λ_ h=>by cases h;simp),by simp⟩⟩⟩
    .have bs:iI l z a f to n (i+1)=iI l z a f to n i:=by rw[bs,hb,mg,aq cm]
     refine aW (Z5 z00 r g2 cm MS) ?_;exact⟨_,by rw[bs,hb];rfl,hP.nQ bs (aH MW)⟩
  .obtain⟨vv2,vv3⟩:=(vv1 t eh).2 c4;refine aW (Z8 e lv r (eq_true c1) (eq_true c2) (eq_false c3) (eq_false c4) g1) ?_;rw[<-fZ];have Fq:∀c∈gH l f,cF c:=λc hm=>by
    obtain⟨q,hq,rfl⟩:=mem_map.1 hm;exact hc _ (bA (sB l f l.length q hq))
   have hla:(gH l f).length<=l.length:=by rw[gH,length_map];exact o0 l f l.length
   have hn:1<=n/\n<=16:=by have:=ck.2.1;omega
   refine fK (Alo j _ (aR h3 [(aO 2 [[.aF,Ei t]])]) _ _ (l:=gH l f) (s:=n) (to:=to) (a:=t) (z:=z) (hP.sa.bx _) Z Ft Fq hn ht hl hz) (λw h4 fi k4 Da=>?_);obtain⟨x4,e4,rfl,KU,he,U6⟩:=Da;have wz:=(aH (h:=h3) (lg:=dH) (d:=[]) aL).trans k4;have t1:aj h4 (nb h3 0)=(aO 2 [[.aF,Ei t]]):=k4.at [] 0 (by simp only[fY];omega);have t1':=λq=>(an q h4 _ (ag t1)).trans t1
   have lt1:=ag t1;have o2:=bg lt1;have U5:h3.length<=nb h3 0:=aB;rcases bb:vx (gH l f) z t n to with _|rb
   .have vn:nw l z a f to n i=none:=by
     by_cases tm:1099511627776<t
     .exact vv2 tm
     .rw[vx,aq tm]at bb;exact(vv3 tm).1 (by rw[Int.toNat_natCast,Int.toNat_natCast];exact bb)
    have e4n:(e4=0)=False:=eq_false (λq=>by have:=he.1 q;rw[bb]at this;cases this);refine aW (Z7 r @dW.eq_1 KU e4n t1' o2 (fQ vn)) ?_;exact⟨x,hP.nQ (fQ vn) (wz.bS U5 lt1 _ _ (dD.ok (by repeat first|exact dD.nil|refine dD.cons (by first|exact aB|exact bK (wz.len) aB|assumption) ?_)))⟩
   have tm:¬1099511627776<t:=λq=>by rw[vx,aG q]at bb;cases bb
   obtain⟨rfl,To⟩:=U6 rb bb;have e40:e4=0:=he.2 (by rw[bb];rfl);subst e40;rw[vx,aq tm]at bb;have vs:=(vv3 tm).2 x4.r (by rw[Int.toNat_natCast,Int.toNat_natCast];exact bb);have bs:iI l z a f to n (i+1)=mg (iI l z a f to n i) (some (i::x4.r.1.map (gt (de l f l.length)),x4.r.2)):=by rw[iI,vs]
   obtain⟨bl1,bl2⟩:=KS Fq hz.1 (show n<17 by omega) hl.1 (show to<17 by omega) bb;obtain⟨v4,p4,y4⟩:=x4;simp only at bl1 bl2 vs bs KU;have s4:=To.s;simp only at s4;refine aW (Z4 @dW.eq_1 KU t1' o2) ?_;have aw:(gH l f).length=(de l f l.length).length:=by rw[gH,length_map]
   refine dz (α:=Nat×Option Nat) p4.length [X24] (λk x=>[Ei k]) (BhI h3 dH v4 p4 y4 (de l f l.length) i (nb h4 0) (nb h4 1)) Z aX ⟨(nb h4 0,some 1),rfl,wz.bS U5 lt1 _ _ (dD.ok (by repeat first|exact dD.nil|refine dD.cons (by first|exact aB|exact bK (wz.len) aB|assumption) ?_)),s4.bS lt1 (s4.gz t1 aZ) _ _,o2.2.2.2.2.1 _ _,o2.2.1 _ _ 1,o2.2.1 _ _ 0,bK wz.len aB,.inl ⟨rfl,rfl⟩⟩ (λk x_1 m' g hk hQ=>?_) (λx_1 m' g hQ=>?_)
   .obtain⟨h5,jg,d5⟩:=m';obtain⟨bb,cap⟩:=x_1;obtain⟨k5,s5,u3,u2,u1,ub,uc⟩:=hQ;obtain rfl:d5=[]:=k5.aV;simp only at u3 u2 u1 ub uc s5;have e6:=s5.el hk;have l6:=s5.len;have lk:gt p4 k<(de l f l.length).length:=by rw[<-aw];exact bl2 _ (bA hk)
    have GS:aT h5 1 vb ((de l f l.length).map fy):=aT.bw (m:=⟨h3,dH,[]⟩) (m':=⟨h5,jg,[]⟩) hP.sb k5;have e7:=GS.el lk;unfold fy at e6 e7;have r7:=fh hk Z;have kl:=eq_true hk;have ra:(p4.take (k+1)).map (gt (de l f l.length))=(p4.take k).map (gt (de l f l.length))++[gt (de l f l.length) (gt p4 k)]:=by rw[take_succ_eq_append_getElem hk,map_append,bB hk];rfl
    have Zj:=λq=>(an q h5 _ (ag u3)).trans u3
    have MU:=λq=>(an q h5 _ (ag u2)).trans u2
    have Yk:=λq=>(an q h5 _ (ag u1)).trans u1
    have Tp:bb≠nb h4 1:=λq=>by rw[q,u2]at u1;cases u1
    have Als:nb h3 0≠bb:=λq=>by rw[<-q,u3]at u1;cases u1
    have AgA:nb h3 0≠nb h4 1:=λq=>by rw[show nb h4 1=h4.length+1 from rfl]at q;omega
    have G7:=ag u2;have lu3:=ag u3;have Yl:=ag u1;have nx:∀b k,b<h5.length->(nb h5 k).beq b=false/\b.beq (nb h5 k)=false:=λb k hb=>⟨Bool.eq_false_iff.2 (λq=>by have:=Nat.eq_of_beq_eq_true q;rw[show nb h5 k=h5.length+k from rfl]at this;omega),Bool.eq_false_iff.2 (λq=>by have:=Nat.eq_of_beq_eq_true q;rw[show nb h5 k=h5.length+k from rfl]at this;omega)⟩
    have nq5:=λk=>nx _ k G7
    have nq6:=λk=>nx _ k Yl
    have nq7:=λk=>nx _ k lu3
    have o3:=bg G7;have h3d:h3.length<=nb h4 1:=bK wz.len aB;have n45:nb h4 0<nb h5 1:=by rw[show nb h4 1=h4.length+1 from rfl]at G7;rw[show nb h4 0=h4.length from rfl,show nb h5 1=h5.length+1 from rfl];omega
    refine bH ?_;rcases uc with⟨uc,rfl⟩|⟨rfl,uc⟩
    .cases uc;simp only[show((0:Nat):Int)=0 from rfl,Nat.add_zero]at e6 r7;refine aW (yA e6 e7 l6 r7 Zj MU Yk nq5 nq6 o3) ?_;exact⟨(nb h5 1,none),k5.bS h3d G7 _ _ (dD.ok (by repeat first|exact dD.nil|refine dD.cons (by first|exact aB|exact bK (k5.len) aB|assumption) ?_)),s5.bS G7 (s5.gz u2 aZ) _ _,(bP G7 lu3 AgA _ _).trans u3,o3.2.2.2.2.1 _ _,by rw[ra];exact o3.2.1 _ _ 1,bK k5.len aB,.inr ⟨rfl,n45⟩⟩
    .have o4:=jY Yl G7 (Ne.symm Tp);have o5:=bg Yl;have g6:=λq x=>(bP Yl G7 (Ne.symm Tp) q x).trans u2
     have fA:(1000000000000<(k+1+1)*8)=False:=cR;have fD:(((i::(p4.take k).map (gt (de l f l.length))).map fy).length<k+1)=False:=eq_false (by simp;omega);have fE:(k+1+1<=((i::(p4.take k).map (gt (de l f l.length))).map fy).length)=False:=eq_false (by simp;omega);have fC:List.take (k+1) ((i::(p4.take k).map (gt (de l f l.length))).map fy)=(i::(p4.take k).map (gt (de l f l.length))).map fy:=take_of_length_le (by simp;omega);obtain⟨bI,hr⟩:∃bI,bI=(i::(p4.take k).map (gt (de l f l.length))).map fy:=⟨_,rfl⟩;rw[<-hr]at fD fE fC u1 Yk;refine aW (gX e6 e7 l6 r7 Zj MU u2 Yk nq5 nq6 o4 (Z5 o5 fA fD fE fC)) ?_;exact⟨(nb h5 1,none),k5.uW ub Yl h3d G7 _ _ _ (dD.ok (by repeat first|exact dD.nil|refine dD.cons (by first|exact aB|exact bK (k5.len) aB|assumption) ?_)),s5.uW Yl G7 (λq hq=>by have:=s4.cj q hq;rw[show nb h4 0=h4.length from rfl]at uc;omega) (s5.gz u2 aZ) _ _ _,(kP Yl G7 lu3 Als AgA _ _ _).trans u3,o4.2.2.2.2.1 _ _ _,by rw[ra,<-cons_append,map_append,<-hr];exact o4.2.1 _ _ _ 1,bK k5.len aB,.inr ⟨rfl,n45⟩⟩
   .obtain⟨h5,jg,d5⟩:=m';obtain⟨bb,cap⟩:=x_1;obtain⟨k5,s5,u3,u2,u1,ub,uc⟩:=hQ;obtain rfl:d5=[]:=k5.aV;simp only at u3 u2 u1 ub uc s5;rw[take_length]at u1;have l6:=s5.len;obtain⟨R,hR⟩:∃R:qX,R=(i::p4.map (gt (de l f l.length)),y4):=⟨_,rfl⟩;have Tq:ig h5 ⟨.slice bb 0 (p4.length+1) cap,R⟩:=⟨.some bb 0 cap true _ (by rw[hR];simp) u1 (by rw[hR];simp;exact take_of_length_le (by simp)) (by
     rcases uc with⟨uc,q⟩|⟨rfl,_⟩
     .cases uc;intro _ h;cases h;simp[hR,q]
     .intro _ h;cases h),by rw[hR];simp;omega⟩
    have b5:aj h5 (nb h2 0)=(aO 2 [[x.v,Ei x.r.2]]):=(k5.get _ (ag b1)).trans b1;have z5:aj h5 (nb h 0)=(aO 2 [[.aF,Ei 0]]):=(k5.get _ (ag z0)).trans z0;have sa5:aT h5 6 va ((gH l f).map bY):=aT.bw (m:=⟨h3,dH,[]⟩) (m':=⟨h5,jg,[]⟩) hP.sa k5;have GS:aT h5 1 vb ((de l f l.length).map fy):=aT.bw (m:=⟨h3,dH,[]⟩) (m':=⟨h5,jg,[]⟩) hP.sb k5;have wQ:=k.trans k5;have Zj:=λq=>(an q h5 _ (ag u3)).trans u3
    have MU:=λq=>(an q h5 _ (ag u2)).trans u2
    have GV:=λq=>(an q h5 _ (ag b5)).trans b5
    have MV:=ag b5;have o6:=bg MV;have kl:=eq_false (show¬p4.length<p4.length by omega);have yR:R.2=y4:=by rw[hR]
    have post:∀q ux,(∃r,ux=r++jg/\∀y∈r,h.length<=y)->iI l z a f to n (i+1)=some R->Yj h lg l z a f to n va vb (nb h2 0) (i+1) ⟨.slice bb 0 (p4.length+1) cap,R⟩ ⟨aR (aQ h5 (nb h2 0) ((aO 2 [[.slice bb 0 (p4.length+1) cap,Ei y4]]))) q,ux,[]⟩:=λq ux hq bs=>⟨wQ.bS NN MV _ _ hq,(bP MV (ag z5) nz _ _).trans z5,by rw[dW,yR];exact o6.2.2.2.2.1 _ _,sa5.bS MV (sa5.gz b5 aZ) _ _,GS.bS MV (GS.gz b5 aZ) _ _,rfl,λr q=>by rw[bs]at q;cases q;exact⟨rfl,Tq.s.bS MV (Tq.s.gz b5 aZ) _ _,Tq.l⟩⟩
    refine bH ?_;rw[<-hR]at bs;rcases hb:iI l z a f to n i with _|rb
    .rw[hb]at bs;refine aW (Z6 l6 r Zj MU GV o6) ?_;exact⟨_,by rw[bs];rfl,post _ _ (dD.ok (by repeat first|exact dD.nil|refine dD.cons (by first|exact aB|exact bK (wQ.len) aB|assumption) ?_)) bs⟩
    .obtain⟨xr,rx⟩:=hP.rt rb hb;rw[hb]at bs;obtain⟨xv,Tn⟩:=x;simp only at xr;subst xr;have g2:=λq lg d=>Tl j ⟨.slice bb 0 (p4.length+1) cap,R⟩ ⟨xv,Tn⟩ ⟨aR h5 q,lg,d⟩ (Tq.bx q) (ig.bx ⟨aT.bw (m:=⟨h3,dH,[]⟩) (m':=⟨h5,jg,[]⟩) rx.s k5,rx.l⟩ q)
     unfold dW at g2;simp only[yR]at g2 b5 GV;have cx:=hP.sc;simp only at cx;by_cases cm:eF R Tn<0
     .have bs:iI l z a f to n (i+1)=some R:=by rw[bs,mg,aG cm]
      refine aW (Z8 l6 r Zj MU GV o6 g2 cm) ?_;exact⟨_,by rw[bs];rfl,post _ _ (dD.ok (by repeat first|exact dD.nil|refine dD.cons (by first|exact aB|exact bK (wQ.len) aB|assumption) ?_)) bs⟩
     .have bs:iI l z a f to n (i+1)=iI l z a f to n i:=by rw[bs,hb,mg,aq cm]
      refine aW (Z7 l6 r Zj MU GV g2 cm) ?_;exact⟨_,by rw[bs,hb];rfl,hP.nQ bs (k5.trans (aH aL))⟩
 .obtain⟨h3,dH,d3⟩:=m';obtain rfl:d3=[]:=hP.k.aV;have k:=hP.k;have z0:=hP.z0;have b1:=hP.b1;have cx:=hP.sc;simp only[dW]at z0 b1;have C6:aT h3 6 v (l.map bY):=aT.bw (m:=⟨h,lg,[]⟩) (m':=⟨h3,dH,[]⟩) hv k;have lv:=C6.len;have z0':=λq=>(an q h3 _ (ag z0)).trans z0
  have Kn:=λq=>(an q h3 _ (ag b1)).trans b1
  have o1:=bg (ag z0);refine bH ?_;refine aW (Z5 lv z0' Kn o1 cx) ?_;refine⟨k.sub.bS aB (ag z0) _ _ (dD.ok (by repeat first|exact dD.nil|refine dD.cons (by first|exact aB|exact bK (k.len) aB|assumption) ?_)),x,rfl,cx,λr q=>?_⟩;obtain⟨e1,e2⟩:=hP.rt r q;exact⟨e1,e2.s.bS (ag z0) (e2.s.gz z0 aZ) _ _,e2.l⟩
theorem E45(l:List Int)(v:AV)(x:Int)(m:Mem)(hv:aT m.ah 1 v (l.map iC))(hw:l.length<=1000)(q_:22<=j:=by omega):SM j 45 [v,Ei x] m=some (Ei (iP (λy=>decide (x=y)) 0 l),m):=by
 obtain⟨h,lg,d⟩:=m;obtain⟨R,hR⟩:∃R,R=iP (λy=>decide (x=y)) 0 l:=⟨_,rfl⟩;rw[<-hR];refine aP 1999 q_ λn=>?_
 have lv:=hv.len;refine aW lv ?_;refine bL l.length [X8] (λi=>[Ei i]) (λi=>R=iP (λy=>decide (x=y)) i (l.drop i)) Z aX ⟨rfl,hR⟩ (λi h' bq g hi hP hK=>?_) (λh' bq g hP hK=>?_)
 .have a:=hK.aA lg d;have e:=(hK.sl hv).el hi;have r:=fh hi Z;unfold iC at e;rw[drop_eq_getElem_cons hi,iP,<-bB hi]at hP;refine aW (Z3 a e r) ?_;exact⟨λc=>by rw[hP,aG (decide_eq_true c)],λc=>by rw[hP,aq (λq=>c (of_decide_eq_true q))]⟩
 .have a:=hK.aA lg d;have r:=cY l.length;refine aW (Z2 a r) ?_;rw[hP,drop_length];rfl
theorem G8(x:Int):∀(l:List Int) (i:Nat),0<=iP (λy=>decide (x=y)) i l↔x∈l
 |[],i=>by simp[iP]
 |y::l,i=>by
  rw[iP,mem_cons];by_cases c:x=y
  .rw[aG (decide_eq_true c)];exact⟨λ_=>.inl c,λ_=>Z⟩
  .rw[aq (λq=>c (of_decide_eq_true q)),G8 x l (i+1)];exact⟨.inr,λq=>q.resolve_left c⟩
theorem E44(l:List Int)(v:AV)(x:Int)(m:Mem)(hv:aT m.ah 1 v (l.map iC))(hw:l.length<=1000)(q_:23<=j:=by omega):SM j 44 [v,Ei x] m=some (.bool (decide (x∈l)),m):=by
 obtain⟨h,lg,d⟩:=m;refine aP 1999 q_ λn=>?_
 have g1:=λl' lg d=>E45 (23-1) l v x ⟨aR h l',lg,d⟩ (hv.bx l') hw
 refine aW g1 ?_;exact decide_eq_decide.2 (G8 _ _ _)
theorem Alu(l:List Int)(v:AV)(x:Int)(m:Mem)(hv:aT m.ah 1 v (l.map iC))(hw:l.length<=1000)(q_:309<=j:=by omega):SM j 285 [v,Ei x] m=some (.bool (decide (x∈l)),m):=by
 obtain⟨h,lg,d⟩:=m;refine aP 1999 q_ λn=>?_
 refine aS ?_;refine bL l.length [X5] (λi=>[Ei i]) (λi=>x∈l↔x∈l.drop i) Z aX ⟨rfl,by simp⟩ (λi h' bq g hi hP hK=>?_) (λh' bq g hP hK=>?_)
 .have a:=hK.aA lg d;have e:=(hK.sl hv).el hi;have XB:=(hK.sl hv).len;have r:=fh hi Z;unfold iC at e;rw[drop_eq_getElem_cons hi,<-bB hi,mem_cons]at hP;refine aW (Z4 a e XB r) ?_;exact⟨λc=>(decide_eq_true (hP.2 (.inl c.symm))).symm,λc=>hP.trans ⟨λq=>q.resolve_left (Ne.symm c),.inr⟩⟩
 .have a:=hK.aA lg d;have XB:=(hK.sl hv).len;have r:=cY l.length;refine aW (Z3 a XB r) ?_;rw[drop_length]at hP;exact(decide_eq_false (λq=>by cases hP.1 q)).symm
theorem Alv(m:Mem)(q_:188<=j:=by omega):SM j 273 [.aF] m=some (.tuple [Ei 0,Ei 0],m):=by
 obtain⟨h,lg,d⟩:=m;refine aP 1999 q_ λn=>?_
 refine aS ?_;refine bL 0 [X9] (λi=>[Ei i]) (λ_=>True) Z aX ⟨rfl,trivial⟩ (λi h' bq g hi hP hK=>absurd hi Z) (λh' bq g hP hK=>?_);have a:=hK.aA lg d;exact aC (Z2 a (show((0:Nat):Int)=0 from rfl))
theorem AgB(m:Mem)(q_:290<=j:=by omega):SM j 220 [.aF] m=some (.tuple [Ei 0,Ei 0],m):=by
 obtain⟨h,lg,d⟩:=m;refine aP 1999 q_ λn=>?_
 refine aS ?_;refine bL 0 [X4] (λi=>[Ei i]) (λ_=>True) Z aX ⟨rfl,trivial⟩ (λi h' bq g hi hP hK=>absurd hi Z) (λh' bq g hP hK=>?_);have a:=hK.aA lg d;exact aC (Z2 a (show((0:Nat):Int)=0 from rfl))
theorem Alw(x:iF)(t:Int)(m:Mem)(q_:236<=j:=by omega):SM j 275 [.aF,.agg (gQ x),Ei t] m=some (.aF,m):=by
 obtain⟨h,lg,d⟩:=m;refine aP 1999 q_ λn=>?_
 refine aW @gQ.eq_1 ?_;refine bL 0 [Il,X7] (λi=>[Ei i,.aF]) (λ_=>True) Z aX ⟨rfl,trivial⟩ (λi h' bq g hi hP hK=>absurd hi Z) (λh' bq g hP hK=>?_);have a:=hK.aA lg d;exact aC (Z2 a (show((0:Nat):Int)=0 from rfl))
theorem Alx(x:iF)(t:Int)(m:Mem)(q_:312<=j:=by omega):SM j 222 [.aF,.agg (gQ x),Ei t] m=some (.tuple [.aF,Ei 0],m):=by
 obtain⟨h,lg,d⟩:=m;refine aP 1999 q_ λn=>?_
 have g1:=λm=>AgB (312-1) m
 refine aW (Z2 @gQ.eq_1 g1) ?_;refine bL 0 [wJ,BZ] (λi=>[Ei i,.aF]) (λ_=>True) Z aX ⟨rfl,trivial⟩ (λi h' bq g hi hP hK=>absurd hi Z) (λh' bq g hP hK=>?_);have a:=hK.aA lg d;exact aC (Z2 a (show((0:Nat):Int)=0 from rfl))
structure wS(h:aN)(v:AV)(xs:List kT):Prop where
 s:aT h 2 v (xs.map dW)
 e:∀x∈xs,ig h x
theorem wS.bw{m m':Mem}{v:AV}{xs:List kT}(H:wS m.ah v xs)(k:aY m m'):wS m'.ah v xs:=⟨H.s.bw k,λx hx=>(H.e x hx).bw k⟩
def Db(l:List bF)(x:kT):Int:=(gt l (gt x.r.1 0)).t
def FsI(h:aN)(lg:List Nat)(l:List bF)(xs:List kT)(i:Nat)(a:AV)(m:Mem):Prop:=aY ⟨h,lg,[]⟩ m/\cG h.length m.ah 1 a (((xs.take i).map (Db l)).map iC)
theorem AgC(lg d:List Nat){l:List bF}{xs:List kT}{v w:AV}(hv:aT h 6 v (l.map bY))(hw:wS h w xs)(hl:xs.length<=1000)(hx:∀x∈xs,x.r.1≠[]/\gt x.r.1 0<l.length):Wa FT MT (SM j) (n+2000) (.fn 223) [v,w] ⟨aR h [],lg,d⟩ (Qk ⟨h,lg,d⟩ (λu h'=>aT h' 1 u ((xs.map (Db l)).map iC))):=by
 refine aI ?_;refine aS ?_;refine dz (α:=AV) xs.length [X6,X5] (λi a=>[Ei i,a]) (FsI h lg l xs) Z aX ⟨.aF,rfl,aH aL,.nil rfl rfl⟩ (λi a m' g hi hP=>?_) (λa m' g hP=>?_)
 .obtain⟨h',bq,d'⟩:=m';obtain⟨k,oa⟩:=hP;obtain rfl:d'=[]:=k.aV;simp only at oa;have Et:aT h' 6 v (l.map bY):=aT.bw (m:=⟨h,lg,[]⟩) (m':=⟨h',bq,[]⟩) hv k;have hw':wS h' w xs:=wS.bw (m:=⟨h,lg,[]⟩) (m':=⟨h',bq,[]⟩) hw k;have e:=hw'.s.el hi;have lw:=hw'.s.len;have hm:=bA hi;obtain⟨x1,x2⟩:=hx _ hm;have x3:0<(gt xs i).r.1.length:=length_pos_iff.2 x1;have e1:=(hw'.e _ hm).s.el x3;have e2:=Et.el x2;have r:=fh hi Z;have ca:=oa.sl.sc;have ra:((xs.take (i+1)).map (Db l)).map iC=((xs.take i).map (Db l)).map iC++[[Ei (gt l (gt (gt xs i).r.1 0)).t]]:=by rw[take_succ_eq_append_getElem hi,map_append,map_append,bB hi];rfl
  unfold dW at e;unfold fy at e1;unfold bY at e2;simp only[show((0:Nat):Int)=0 from rfl,Nat.add_zero]at e1;refine bH ?_;rcases oa with⟨ha,rfl⟩|⟨a0,rfl,ka,Fc⟩
  .refine aW (Z5 e e1 e2 lw r) ?_;exact⟨_,rfl,k.trans (aH aL),by rw[ra,ha];exact .some _ rfl (bK k.len aB) bj⟩
  .have o1:=bg (ag Fc);have ga:∀l,aj (aR h' l) a0=_:=λl=>(an l h' _ (ag Fc)).trans Fc
   have tl:(xs.take i).length=i:=by rw[length_take];omega
   have fA:(1000000000000<(i+1)*8)=False:=cR;have fC:List.take i (((xs.take i).map (Db l)).map iC)=((xs.take i).map (Db l)).map iC:=take_of_length_le (by simp;omega);obtain⟨bI,hr⟩:∃bI,bI=((xs.take i).map (Db l)).map iC:=⟨_,rfl⟩;have rl:bI.length=i:=by rw[hr,length_map,length_map,tl]
   rw[<-hr]at Fc ga fC ra;refine aW (gX e e1 e2 lw r o1 ga fA @fB fC rl tl) ?_;exact⟨_,rfl,k.bS ka (ag Fc) _ _ (dD.ok (by repeat first|exact dD.nil|refine dD.cons (by first|exact aB|exact bK (k.len) aB|assumption) ?_)),by rw[ra];exact .some (nb h' 1) (by simp[rl]) (bK k.len aB) (o1.2.1 _ _ 1)⟩
 .obtain⟨h',bq,d'⟩:=m';obtain⟨k,oa⟩:=hP;obtain rfl:d'=[]:=k.aV;simp only at oa;have hw':wS h' w xs:=wS.bw (m:=⟨h,lg,[]⟩) (m':=⟨h',bq,[]⟩) hw k;have lw:=hw'.s.len;have ca:=oa.sl.sc;refine bH ?_;refine aW lw ?_;rw[take_length]at oa;exact⟨k.sub,oa.sl⟩
def yU(x:kT):List kT->Nat
 |[]=>0
 |y::l=>if eF y.r x.r<0 then yU x l+1 else 0
def AP(xs:List kT)(x:kT):List kT:=xs.take (yU x xs)++x::xs.drop (yU x xs)
theorem Fe(x:kT):∀l,yU x l<=l.length
 |[]=>cB
 |y::l=>by
  have:=Fe x l;rw[yU];split<;>simp<;>omega
theorem KV{x:kT}:∀{l:List kT} {k:Nat},k<yU x l->eF (gt l k).r x.r<0
 |[],k,h=>by cases h
 |y::l,k,h=>by
  rw[yU]at h;split at h
  .rename_i c;cases k with
   |zero=>exact c
   |succ k=>exact KV (l:=l) (k:=k) Z
  .cases h
theorem KW{x:kT}:∀{l:List kT},yU x l<l.length->¬eF (gt l (yU x l)).r x.r<0
 |[],h=>by cases h
 |y::l,h=>by
  rw[yU]at h|-;split
  .rename_i c;rw[aG c]at h;exact KW (l:=l) (by simpa using h)
  .rename_i c;exact c
theorem Aly(lg d:List Nat){xs:List kT}{v:AV}{x:kT}{k0:Nat}(hv:cG k0 h 2 v (xs.map dW))(he:∀y∈xs,ig h y)(hx:ig h x)(hl:xs.length<=1000)(q_:307<=j:=by omega):Wa FT MT (SM j) (n+2000) (.fn 286) [v,.agg (dW x)] ⟨aR h [],lg,d⟩ (Qk ⟨h,lg,d⟩ (λu h'=>∃b,u=.slice b 0 (AP xs x).length none/\h.length<=b/\aj h' b=(aO 2 ((AP xs x).map dW)))):=by
 refine aI ?_;have vc:=hv.sl.sc;have xc:=hx.s.sc;have sv:=hv.sl;refine aW (Z2 @dW.eq_1 xc) ?_;have nl:=Fe x xs;refine dV (yU x xs) [X5] (λi=>[Ei i]) (λi m=>∃bq,m=⟨aR h [(aO 2 [[x.v,Ei x.r.2]])],bq,[]⟩/\dm h lg bq) Z aX ⟨rfl,_,rfl,aL⟩ (λi m g hi hP=>?_) (λm g hP=>?_)
 .obtain⟨bq,rfl,MW⟩:=hP;have il:i<xs.length:=Z;have e:=sv.el il;have lv:=sv.len;have r:=fh il Z;have g1:=λq lg d=>Tl j (gt xs i) x ⟨aR h q,lg,d⟩ ((he _ (bA il)).bx q) (hx.bx q)
  have c:=KV hi;unfold dW at e g1;refine aW (Z5 e lv r g1 c) ?_;exact⟨_,rfl,MW⟩
 .obtain⟨bq,rfl,MW⟩:=hP;have lv:=sv.len;obtain⟨N,hN⟩:∃N,N=yU x xs:=⟨_,rfl⟩;have ca:=λc=>KW (x:=x) (l:=xs) c
  rw[AP];rw[<-hN]at ca nl|-;rcases hv with⟨h0,rfl⟩|⟨b,rfl,kb,hb⟩
  .have x0:xs=[]:=by simpa using h0
   subst x0;obtain rfl:N=0:=by simpa using nl
   refine aW (Z2 (show((0:Nat):Int)=0 from rfl) xc) ?_;exact⟨aH (by first|exact .cons MW|exact .cons (.cons MW)|exact .cons (.cons (.cons MW))|exact .cons (.cons (.cons (.cons MW)))),_,rfl,aB,bj⟩
  .simp only[length_map]at*;have lb:=ag hb;have gb:=λq=>(an q h _ lb).trans hb
   have nx:∀k,(nb h k).beq b=false/\b.beq (nb h k)=false:=λk=>⟨Bool.eq_false_iff.2 (λq=>by have:=Nat.eq_of_beq_eq_true q;rw[show nb h k=h.length+k from rfl]at this;omega),Bool.eq_false_iff.2 (λq=>by have:=Nat.eq_of_beq_eq_true q;rw[show nb h k=h.length+k from rfl]at this;omega)⟩
   have n1:=eq_true nl;rcases Nat.lt_or_ge N xs.length with il|il
   .have e:=sv.el il;have r:=fh il Z;have g1:=λq lg d=>Tl j (gt xs N) x ⟨aR h q,lg,d⟩ ((he _ (bA il)).bx q) (hx.bx q)
    have c:=ca il;unfold dW at e g1;have i1:=eq_true il;obtain⟨m,hm⟩:∃m,xs.length-N=m+1:=⟨xs.length-N-1,Z⟩;have m1:=eq_true (show N+(m+1)<=xs.length by omega);rcases Nat.eq_zero_or_pos N with n0|n0
    .subst n0;simp only[show((0:Nat):Int)=0 from rfl,Nat.add_zero]at e r;obtain⟨q0,Q,hq⟩:∃q0 Q,List.take (m+1) (xs.map dW)=q0::Q:=exists_cons_of_length_pos (by rw[length_take,length_map];omega);have lQ:Q.length=m:=by have:=congrArg List.length hq;rw[length_take,length_map,length_cons]at this;omega
     have f0:((0:Int)<(xs.length:Int))=True:=dy;have f3:(1000000000000<(1+(m+1))*32)=False:=cR;have f5:(1+(m+1)<=1)=False:=cR;have kj:(xs.take 0++x::xs.drop 0).map dW=dW x::q0::Q:=by
      rw[take_zero,nil_append,drop_zero,map_cons,<-hq,take_of_length_le (by rw[length_map];omega)]
     have fil:(xs.take 0++x::xs.drop 0).length=1+(m+1):=by rw[take_zero,nil_append,drop_zero,length_cons];omega
     have LN:xs.length=m+1:=Z;have f0':((0:Int)<((m+1:Nat):Int))=True:=dy;have i1':(0<m+1)=True:=dy;rw[LN]at e lv;simp only[LN];refine aW (gX (show((0:Nat):Int)=0 from rfl) f0' hq LN lQ f3 f5 e lv g1 c (Z3 gb nx xc)) ?_;have fq:xs.map dW=q0::Q:=by rw[<-hq,take_of_length_le (by rw[length_map];omega)]
     exact⟨aH (by(repeat first|exact MW|apply dm.cons)),nb h 4,by rw[show m+1+1=1+(m+1) by omega],aB,by rw[fq];exact bj⟩
    .obtain⟨k,rfl⟩:∃k,N=k+1:=⟨N-1,Z⟩;obtain⟨p0,P,hp⟩:∃p0 P,List.take (k+1) (xs.map dW)=p0::P:=exists_cons_of_length_pos (by rw[length_take,length_map];omega);obtain⟨q0,Q,hq⟩:∃q0 Q,List.take (m+1) (drop (k+1) (xs.map dW))=q0::Q:=exists_cons_of_length_pos (by rw[length_take,length_drop,length_map];omega);have lP:P.length=k:=by have:=congrArg List.length hp;rw[length_take,length_map,length_cons]at this;omega
     have lQ:Q.length=m:=by have:=congrArg List.length hq;rw[length_take,length_drop,length_map,length_cons]at this;omega
     have tP:List.take k P=P:=take_of_length_le Z;have tP2:∀z,List.take (k+1) (P++[z])=P++[z]:=λz=>take_of_length_le (by simp;omega)
     have lP2:∀z,(P++[z]).length=k+1:=λz=>by rw[length_append,lP];rfl
     have f1:((k+1)*32<=1000000000000)=True:=dy;have f2:(1000000000000<(k+1+1)*32)=False:=cR;have f3:(1000000000000<(k+1+1+(m+1))*32)=False:=cR;have f4:(k+1+1<=k+1)=False:=cR;have f5:(k+1+1+(m+1)<=k+1+1)=False:=cR;have kj:(xs.take (k+1)++x::xs.drop (k+1)).map dW=p0::(P++dW x::q0::Q):=by
      rw[map_append,map_cons,map_take,map_drop,hp,<-hq,take_of_length_le (by rw[length_drop,length_map];omega)];rfl
     have fil:(xs.take (k+1)++x::xs.drop (k+1)).length=k+1+1+(m+1):=by rw[length_append,length_cons,length_take,length_drop];omega
     refine aW (gX hp hq lP lP2 lQ tP tP2 f1 f2 f3 f4 (gX f5 e lv r g1 c gb nx n1 hm m1 xc)) ?_;exact⟨aH (by(repeat first|exact MW|apply dm.cons)),nb h 5,by rw[fil],aB,by rw[kj];exact bj.trans (by simp[dW,fj])⟩
   .obtain rfl:N=xs.length:=Z;have r:=cY xs.length;have f0:((xs.length:Int)<(xs.length:Int))=False:=cR;rcases Nat.eq_zero_or_pos xs.length with n0|n0
    .have x0:xs=[]:=length_eq_zero_iff.1 n0;subst x0;simp only[length_nil,map_nil]at*;refine aW (Z5 (show((0:Nat):Int)=0 from rfl) lv gb nx xc) ?_;exact⟨aH (by(repeat first|exact MW|apply dm.cons)),nb h 3,rfl,aB,bj⟩
    .obtain⟨k,hk⟩:∃k,xs.length=k+1:=⟨xs.length-1,Z⟩;obtain⟨p0,P,hp⟩:∃p0 P,List.take (k+1) (xs.map dW)=p0::P:=exists_cons_of_length_pos (by rw[length_take,length_map];omega);have lP:P.length=k:=by have:=congrArg List.length hp;rw[length_take,length_map,length_cons]at this;omega
     have tP:List.take k P=P:=take_of_length_le Z;have f1:((k+1)*32<=1000000000000)=True:=dy;have f2:(1000000000000<(k+1+1)*32)=False:=cR;have f4:(k+1+1<=k+1)=False:=cR;have hm:k+1-(k+1)=0:=Z;have kj:(xs.take (k+1)++x::xs.drop (k+1)).map dW=p0::(P++[dW x]):=by
      rw[map_append,map_cons,map_take,map_drop,hp,drop_of_length_le (by rw[length_map];omega)];rfl
     have fil:(xs.take (k+1)++x::xs.drop (k+1)).length=k+1+1:=by rw[length_append,length_cons,length_take,length_drop];omega
     rw[hk]at lv r f0;simp only[hk];refine aW (gX f0 hk hp lP tP f1 f2 f4 lv gb nx (Z2 hm xc)) ?_;exact⟨aH (by(repeat first|exact MW|apply dm.cons)),nb h 4,by rw[fil],aB,by rw[kj];exact bj⟩
def Ff(r:qX):List qX->Nat
 |[]=>0
 |y::l=>if eF y r<0 then Ff r l+1 else 0
def zT(rs:List qX)(r:qX):List qX:=rs.take (Ff r rs)++r::rs.drop (Ff r rs)
theorem Qr(x:kT):∀xs:List kT,yU x xs=Ff x.r (xs.map (·.r))
 |[]=>rfl
 |y::l=>by rw[yU,map_cons,Ff,Qr x l]
theorem Ym(xs:List kT)(x:kT):(AP xs x).map (·.r)=zT (xs.map (·.r)) x.r:=by
 rw[AP,zT,map_append,map_cons,map_take,map_drop,Qr]
theorem Qs{xs:List kT}{x y:kT}(h:y∈AP xs x):y=x\/y∈xs:=by
 rw[AP,mem_append,mem_cons]at h;rcases h with h|h|h
 .exact .inr (mem_of_mem_take h)
 .exact .inl h
 .exact .inr (mem_of_mem_drop h)
theorem Qt(xs:List kT)(x:kT):(AP xs x).length=xs.length+1:=by
 have:=Fe x xs;rw[AP,length_append,length_cons,length_take,length_drop];omega
def pZ(l:List bF)(z a:Int)(f to:Int):Nat->List qX
 |0=>[]
 |k+1=>match Is l z a f to (k+1:Nat)with
  |some r=>zT (pZ l z a f to k) r
  |none=>pZ l z a f to k
def RfI(h:aN)(lg:List Nat)(l:List bF)(z a:Int)(f to:Nat)(i:Nat)(x:AV×List kT)(m:Mem):Prop:=
 aY ⟨h,lg,[]⟩ m/\cG h.length m.ah 2 x.1 (x.2.map dW)/\(∀y∈x.2,ig m.ah y)/\x.2.map (·.r)=pZ l z a f to i/\x.2.length<=i
theorem AgD(j n':Nat)(h:aN)(lg d:List Nat){l:List bF}{v:AV}{f to:Nat}{a z:Int}(hv:aT h 6 v (l.map bY))(hw:l.length<=40)(hp:(eA l).1=0)(Ft:(eA (gH l f)).1=0)(hc:∀c∈l,cF c)(hf:1<=f/\f<=16)(ht:1<=to/\to<=16)(ha:0<=a/\a<=1099511627776)(hz:1<=z/\z<=1200)(q_:306<=j/\299<=j/\307<=j/\292<=j/\309<=j:=by omega):
 Wa FT MT (SM j) (n'+8000) (.fn 221) [v,Ei f,Ei to,Ei a,Ei z,.aF] ⟨aR h [],lg,d⟩ (Qk ⟨h,lg,d⟩ (λw h'=>∃(u:AV) (xs:List kT),w=.tuple [u,Ei 0]/\cG h.length h' 2 u (xs.map dW)/\(∀y∈xs,ig h' y)/\xs.map (·.r)=pZ l z a f to 16/\xs.length<=16)):=by
 refine aI ?_;have g1:=λl' lg d (q:fj l' 0=(aO 1 [[Ei f],[Ei to]]))=>Ali (j:=j) (l:=l) (v:=v) (a:=a) (z:=z) [(f:Int),(to:Int)] (.slice (nb h 0) 0 2 (some 2)) ⟨aR h l',lg,d⟩ (hv.bx l') Z hp hz ha (.some (nb h 0) 0 (some 2) true _ rfl (by rw[bj,q]) rfl (λ_ h=>by cases h;simp)) (by simp) (by intro x hx;simp at hx;omega)
 refine aW g1 ?_;refine dz (α:=AV×List kT) 16 [Uw,Q7] (λi x=>[Ei ((i+1:Nat):Int),x.1]) (RfI h lg l z a f to) Z aX ⟨(.aF,[]),rfl,aH aL,.nil rfl rfl,λy hy=>(by cases hy),rfl,cB⟩ (λi x m' g hi hP=>?_) (λx m' g hP=>?_)
 .obtain⟨h3,dH,d3⟩:=m';obtain⟨u,xs⟩:=x;obtain⟨k,ou,ex,rx,xl⟩:=hP;obtain rfl:d3=[]:=k.aV;simp only at ou ex rx xl;have C6:aT h3 6 v (l.map bY):=aT.bw (m:=⟨h,lg,[]⟩) (m':=⟨h3,dH,[]⟩) hv k;have il:(((i+1:Nat):Int)<=16)=True:=dy;have r:i64.wrap (((i+1:Nat):Int)+1)=((i+1+1:Nat):Int):=by rw[aU Z Z];omega
  refine bH ?_;refine aW il ?_;rw[<-fZ];refine fK (Alr j _ (aR h3 []) _ _ (n:=i+1) (C6.bx _) hw Ft hc ht ⟨ha.1,by show a<=2199024304128;omega⟩ hz) (λw h4 fi k4 Da=>?_);obtain⟨x4,rfl,KU,U6⟩:=Da;have wz:aY ⟨h3,dH,[]⟩ ⟨h4,fi,[]⟩:=k4;have Zk:cG h.length h4 2 u (xs.map dW):=cG.bw (m:=⟨h3,dH,[]⟩) (m':=⟨h4,fi,[]⟩) ou wz;have Zl:∀y∈xs,ig h4 y:=λy hy=>ig.bw (m:=⟨h3,dH,[]⟩) (m':=⟨h4,fi,[]⟩) (ex y hy) wz
  rcases hb:Is l z a f to (i+1:Nat)with _|rb
  .have rr:pZ l z a f to (i+1)=pZ l z a f to i:=by rw[pZ,hb]
   refine aW (Z3 r @dW.eq_1 KU) ?_;exact⟨(u,xs),rfl,(k.trans wz).trans (aH aL),Zk.bx _,λy hy=>(Zl y hy).bx _,by rw[rr];exact rx,by simp only;omega⟩
  .obtain⟨rfl,To⟩:=U6 rb hb;have rr:pZ l z a f to (i+1)=zT (pZ l z a f to i) x4.r:=by rw[pZ,hb]
   have g2:=λm=>Alu j [] .aF ((i+1:Nat):Int) m (.none rfl (.inl rfl)) (by simp)
   have nm:decide (((i+1:Nat):Int)∈([]:List Int))=false:=by simp
   rw[nm]at g2;refine aW (Z3 @dW.eq_1 KU g2) ?_;rw[<-fZ];refine fK (Aly j _ (aR h4 [(aO 2 [[x4.v,Ei x4.r.2]])]) _ _ (x:=x4) (k0:=h.length) (Zk.bx _) (λy hy=>(Zl y hy).bx _) (To.bx _) Z) (λw h5 jg k5 IU=>?_);obtain⟨b,rfl,G4,gb5⟩:=IU;have G6:=(aH (h:=h4) (lg:=fi) (d:=[]) aL).trans k5;refine aW r ?_;refine⟨(.slice b 0 (AP xs x4).length none,AP xs x4),rfl,(k.trans wz).trans (G6.trans (aH aL)),?_,λy hy=>?_,by rw[rr,<-rx,Ym],by show(AP xs x4).length<=i+1;rw[Qt];omega⟩
   .exact .some b (by rw[length_map]) (bK (bK (k.trans wz).len (by rw[bV];exact Nat.le_add_right _ _)) G4) ((an _ h5 _ (ag gb5)).trans gb5)
   .rcases Qs hy with rfl|hy
    .exact(ig.bw (m:=⟨h4,fi,[]⟩) (m':=⟨h5,jg,[]⟩) To G6).bx _
    .exact(ig.bw (m:=⟨h4,fi,[]⟩) (m':=⟨h5,jg,[]⟩) (Zl y hy) G6).bx _
 .obtain⟨h3,dH,d3⟩:=m';obtain⟨u,xs⟩:=x;obtain⟨k,ou,ex,rx,xl⟩:=hP;obtain rfl:d3=[]:=k.aV;simp only at ou ex rx xl;refine bH ?_;refine aS ?_;exact⟨k.sub,u,xs,rfl,ou,ex,rx,xl⟩
theorem G9{l:List bF}{z a f to n:Int}{i:Nat}{r:qX}(h:nw l z a f to n i=some r):r.1≠[]/\gt r.1 0=i:=by
 unfold nw at h;split at h
 .split at h
  .cases h
  .split at h
   .cases h;exact⟨by simp,rfl⟩
   .split at h
    .cases h
    .split at h
     .cases h
     .cases h;exact⟨by simp,rfl⟩
 .cases h
theorem zU{l:List bF}{z a f to n:Int}:∀k,k<=l.length->∀{r:qX},iI l z a f to n k=some r->r.1≠[]/\gt r.1 0<l.length
 |0,_,r,h=>by cases h
 |k+1,hk,r,h=>by
  rw[iI]at h;rcases hv:nw l z a f to n k with _|q
  .rw[hv]at h;exact zU k Z h
  .obtain⟨q1,q2⟩:=G9 hv;rw[hv]at h;rcases hb:iI l z a f to n k with _|b
   .rw[hb]at h;cases h;exact⟨q1,Z⟩
   .rw[hb]at h;simp only[mg]at h;split at h
    .cases h;exact⟨q1,Z⟩
    .cases h;exact zU k Z hb
theorem yV{rs:List qX}{r y:qX}(h:y∈zT rs r):y=r\/y∈rs:=by
 rw[zT,mem_append,mem_cons]at h;rcases h with h|h|h
 .exact .inr (mem_of_mem_take h)
 .exact .inl h
 .exact .inr (mem_of_mem_drop h)
theorem sH{l:List bF}{z a f to:Int}:∀k,∀r∈pZ l z a f to k,r.1≠[]/\gt r.1 0<l.length
 |0,r,h=>by cases h
 |k+1,r,h=>by
  rw[pZ]at h;split at h
  .rename_i q hq;rcases yV h with rfl|h
   .exact zU l.length cB hq
   .exact sH k r h
  .exact sH k r h
def yW(l:List bF)(r:qX):Int:=(gt l (gt r.1 0)).t
theorem Alz(j n':Nat)(h:aN)(lg d:List Nat){l:List bF}{v:AV}{f to:Nat}{a z:Int}{id:iF}(hv:aT h 6 v (l.map bY))(hw:l.length<=40)(hp:(eA l).1=0)(Ft:(eA (gH l f)).1=0)(hc:∀c∈l,cF c)(hf:1<=f/\f<=16)(ht:1<=to/\to<=16)(ha:0<=a/\a<=1099511627776)(hz:1<=z/\z<=1200)(q_:314-1<=j:=by omega):
 Wa FT MT (SM j) (n'+9000) (.fn 153) [v,.aF,.agg (gQ id),Ei f,Ei to,Ei a,Ei z] ⟨aR h [],lg,d⟩ (Qk ⟨h,lg,d⟩ (λw h'=>∃u:AV,w=.tuple [u,Ei 0]/\aT h' 1 u (((pZ l z a f to 16).map (yW l)).map iC))):=by
 refine aI ?_;have g1:=λq lg d=>E41 j l v ⟨aR h q,lg,d⟩ (hv.bx q) Z
 have g2:=λm=>AgB j m
 refine aW (Z4 g1 g2 hp @gQ.eq_1) ?_;rw[<-fZ];refine fK (AgD j _ (aR h [(aO 3 [gQ id])]) _ _ (hv.bx _) hw hp Ft hc hf ht ha hz) (λw h2 dx k2 og=>?_);obtain⟨u2,xs2,rfl,o2,e2,r2,l2⟩:=og;have kd:=(aH (h:=h) (lg:=lg) (d:=[]) aL).trans k2;have bi:aj h2 (nb h 0)=(aO 3 [gQ id]):=k2.at [] 0 (by simp only[fY];omega);have bi':=λq=>(an q h2 _ (ag bi)).trans bi
 have Jw:aT h2 6 v (l.map bY):=aT.bw (m:=⟨h,lg,[]⟩) (m':=⟨h2,dx,[]⟩) hv kd;have g3:=λm=>Alx j id a m
 unfold gQ at bi' g3;refine aW (Z2 bi' g3) ?_;rw[<-fZ];refine fK (AgD j _ (aR h2 []) _ _ (Jw.bx _) hw hp Ft hc hf ht ha hz) (λw h3 dH k3 LB=>?_);obtain⟨u3,xs3,rfl,o3,e3,r3,l3⟩:=LB;have U0:aY ⟨h2,dx,[]⟩ ⟨h3,dH,[]⟩:=k3;have C6:aT h3 6 v (l.map bY):=aT.bw (m:=⟨h2,dx,[]⟩) (m':=⟨h3,dH,[]⟩) Jw U0;refine aS ?_;rw[<-fZ];refine fK (AgC j _ (aR h3 []) _ _ (xs:=xs3) (C6.bx _) ⟨o3.sl.bx _,λx hx=>(e3 x hx).bx _⟩ Z (λx hx=>sH 16 _ (by rw[<-r3];exact List.mem_map_of_mem hx))) (λw h4 fi k4 Da=>?_);have wz:aY ⟨h3,dH,[]⟩ ⟨h4,fi,[]⟩:=k4;have MP:aT h4 6 v (l.map bY):=aT.bw (m:=⟨h3,dH,[]⟩) (m':=⟨h4,fi,[]⟩) C6 wz;have rs4:wS h4 u2 xs2:=wS.bw (m:=⟨h2,dx,[]⟩) (m':=⟨h4,fi,[]⟩) ⟨o2.sl,e2⟩ (U0.trans wz);refine aS ?_;rw[<-fZ];refine fK (AgC j _ (aR h4 []) _ _ (xs:=xs2) (MP.bx _) ⟨rs4.s.bx _,λx hx=>(rs4.e x hx).bx _⟩ Z (λx hx=>sH 16 _ (by rw[<-r2];exact List.mem_map_of_mem hx))) (λw5 h5 jg k5 IU=>?_);have G6:aY ⟨h4,fi,[]⟩ ⟨h5,jg,[]⟩:=k5;have wQ:=((kd.trans U0).trans wz).trans G6;have s5:aT h5 1 w ((xs3.map (Db l)).map iC):=aT.bw (m:=⟨h4,fi,[]⟩) (m':=⟨h5,jg,[]⟩) Da G6;refine aS ?_;refine bL xs2.length [X25,X23] (λi=>[Ei i,w]) (λ_=>True) Z aX ⟨rfl,trivial⟩ (λi h6 ux g hi _ hK=>?_) (λh6 ux g _ hK=>?_)
 .have k56:aY ⟨h5,jg,[]⟩ ⟨h6,ux,[]⟩:=hK;have l6:=(aT.bw (m:=⟨h5,jg,[]⟩) (m':=⟨h6,ux,[]⟩) IU k56).len;have r:=fh hi Z;refine aW (Z2 l6 r) ?_;refine bL 0 [X26,X23] (λi=>[Ei i,w]) (λ_=>True) Z aX ⟨rfl,trivial⟩ (λi h' bq g hi hP hK=>absurd hi Z) (λh7 MX g _ hK7=>?_);refine aW (Z2 (show((0:Nat):Int)=0 from rfl) r) ?_;exact hK.trans hK7
 .have k56:aY ⟨h5,jg,[]⟩ ⟨h6,ux,[]⟩:=hK;have s6:=aT.bw (m:=⟨h5,jg,[]⟩) (m':=⟨h6,ux,[]⟩) IU k56;have l6:=s6.len;have s7:aT h6 1 w ((xs3.map (Db l)).map iC):=aT.bw (m:=⟨h5,jg,[]⟩) (m':=⟨h6,ux,[]⟩) s5 k56;refine aW l6 ?_;refine⟨(wQ.trans k56).sub,w,rfl,?_⟩;have q:(pZ l z a f to 16).map (yW l)=xs3.map (Db l):=by rw[<-r3,List.map_map];rfl
  rw[q];exact s7
def jL(l:List bF)(z a:Int)(f to:Int):Int×Int:=match pZ l z a f to 16 with
 |[]=>(0,15)
 |r::_=>(yW l r,0)
theorem E97{l:List bF}{v:AV}{f to:Nat}{a z:Int}{id:iF}(m:Mem)(hv:aT m.ah 6 v (l.map bY))(hw:l.length<=40)(hp:(eA l).1=0)(Ft:(eA (gH l f)).1=0)(hc:∀c∈l,cF c)(hf:1<=f/\f<=16)(ht:1<=to/\to<=16)(ha:0<=a/\a<=1099511627776)(hz:1<=z/\z<=1200)(q_:315<=j:=by omega):
 SM j 97 [v,.aF,.agg (gQ id),Ei f,Ei to,Ei a,Ei z] m=some (.tuple [Ei (jL l z a f to).1,Ei (jL l z a f to).2],m):=by
 obtain⟨h,lg,d⟩:=m;refine aP 9999 q_ λn=>?_
 refine aW @gQ.eq_1 ?_;rw[<-fZ];refine fK (Alz (315-1) _ (aR h [(aO 3 [gQ id])]) _ _ (id:=id) (hv.bx _) hw hp Ft hc hf ht ha hz) (λw h2 dx k2 og=>?_);obtain⟨u,rfl,su⟩:=og;have A:=k2.aA lg d;have l2:=su.len;rcases hr:pZ l z a f to 16 with _|⟨r,rs⟩
 .rw[hr]at l2;have nv:jL l z a f to=(0,15):=by rw[jL,hr]
  rw[nv];exact aC (Z2 A l2)
 .rw[hr]at su l2;have nv:jL l z a f to=(yW l r,0):=by rw[jL,hr]
  rw[nv];have e:=su.el (i:=0) (by simp);unfold iC at e;simp only[show((0:Nat):Int)=0 from rfl,Nat.add_zero]at e;have l0:((((rs.length+1:Nat):Int))=0)=False:=cR;refine aW (Z4 A l2 e l0) ?_;rfl
theorem zV{l:List bF}(hw:l.length<=200):(eA l).1=0↔Kj l:=by
 rw[<-Pt,eA,aq Z];show t7 (fO l) 0 l.length=0↔_;rw[iE];exact⟨λh i hi=>h i (Nat.zero_le _) Z,λh j _ hj=>h j Z⟩
theorem Eb{l:List bF}{n:Int}(hw:l.length<=200)(hp:(eA l).1=0):(eA (gH l n)).1=0:=by
 have hl:(gH l n).length<=l.length:=by rw[gH,length_map];exact o0 l n l.length
 exact(zV Z).2 (Mm ((zV hw).1 hp))
theorem KX{l:List bF}(hw:l.length<=200)(hp:(eA l).1=0):∀c∈l,cF c:=((zV hw).1 hp).1
theorem yX:∀(l m:List Nat),¬gr l m<0->¬gr m l<0->l=m
 |[],[],_,_=>rfl
 |[],b::m,h,_=>by simp[gr]at h
 |a::l,[],_,h=>by simp[gr]at h
 |a::l,b::m,h1,h2=>by
  rw[gr]at h1 h2;by_cases c:a<b
  .rw[aG c]at h1;omega
  .by_cases c2:b<a
   .rw[aG c2]at h2;omega
   .rw[aq c,aq c2]at h1;rw[aq c2,aq c]at h2;rw[yX l m h1 h2,show a=b by omega]
theorem zW{a b:qX}(h1:¬eF a b<0)(h2:¬eF b a<0):a=b:=by
 obtain⟨p,x⟩:=a;obtain⟨q,y⟩:=b;unfold eF at h1 h2;simp only at h1 h2;by_cases c1:x<y
 .rw[aG c1]at h1;omega
 by_cases c2:y<x
 .rw[aG c2]at h2;omega
 rw[aq c1,aq c2]at h1;rw[aq c2,aq c1]at h2;by_cases c3:p.length<q.length
 .rw[aG c3]at h1;omega
 by_cases c4:q.length<p.length
 .rw[aG c4]at h2;omega
 rw[aq c3,aq c4]at h1;rw[aq c4,aq c3]at h2;rw[yX p q h1 h2,show x=y by omega]
theorem sI:∀(l m:List Nat),gr l m<0->¬gr m l<0
 |[],[],h=>by simp[gr]at h
 |[],b::m,h=>by simp[gr]
 |a::l,[],h=>by simp[gr]at h
 |a::l,b::m,h=>by
  rw[gr]at h|-;by_cases c:a<b
  .rw[aq (show¬b<a by omega),aG c];omega
  .by_cases c2:b<a
   .rw[aq c,aG c2]at h;omega
   .rw[aq c,aq c2]at h;rw[aq c2,aq c];exact sI l m h
theorem p9:∀(l m k:List Nat),gr l m<0->gr m k<0->gr l k<0
 |[],[],k,h,_=>by simp[gr]at h
 |[],b::m,[],_,h=>by simp[gr]at h
 |[],b::m,c::k,_,_=>by simp[gr]
 |a::l,[],k,h,_=>by simp[gr]at h
 |a::l,b::m,[],_,h=>by simp[gr]at h
 |a::l,b::m,c::k,h1,h2=>by
  rw[gr]at h1 h2|-;by_cases c1:a<b
  .by_cases c2:b<c
   .rw[aG (show a<c by omega)];omega
   .by_cases c3:c<b
    .rw[aq c2,aG c3]at h2;omega
    .rw[aG (show a<c by omega)];omega
  .by_cases c4:b<a
   .rw[aq c1,aG c4]at h1;omega
   .rw[aq c1,aq c4]at h1;obtain rfl:a=b:=Z;by_cases c2:a<c
    .rw[aG c2];omega
    .by_cases c3:c<a
     .rw[aq c2,aG c3]at h2;omega
     .rw[aq c2,aq c3]at h2|-;exact p9 l m k h1 h2
theorem Ec{a b:qX}:eF a b<0↔a.2<b.2\/a.2=b.2/\(a.1.length<b.1.length\/a.1.length=b.1.length/\gr a.1 b.1<0):=by
 unfold eF;split
 .exact⟨λ_=>.inl (by assumption),λ_=>Z⟩
 .split
  .exact⟨λh=>Z,λh=>Z⟩
  .split
   .exact⟨λ_=>.inr ⟨Z,.inl (by assumption)⟩,λ_=>Z⟩
   .split
    .exact⟨λh=>Z,λh=>Z⟩
    .exact⟨λh=>.inr ⟨Z,.inr ⟨Z,h⟩⟩,λh=>by
      rcases h with h|⟨_,h|⟨_,h⟩⟩
      .omega
      .omega
      .exact h⟩
theorem tL{a b:qX}(h:eF a b<0):¬eF b a<0:=λk=>by
 rw[Ec]at h k;rcases h with h|⟨h0,h|⟨h1,h⟩⟩<;>rcases k with k|⟨k0,k|⟨k1,k⟩⟩<;>first|omega|exact sI _ _ h k
theorem As{a b c:qX}(h:eF a b<0)(k:eF b c<0):eF a c<0:=by
 rw[Ec]at h k|-;rcases h with h|⟨h0,h|⟨h1,h⟩⟩<;>rcases k with k|⟨k0,k|⟨k1,k⟩⟩<;>first|(left;omega)|(right;exact⟨Z,.inl Z⟩)|exact .inr ⟨Z,.inr ⟨Z,p9 _ _ _ h k⟩⟩
theorem Ha{a b c:qX}(h:¬eF b a<0)(k:¬eF c b<0):¬eF c a<0:=λq=>by
 by_cases e:eF a b<0
 .exact k (As q e)
 .rw[zW e h]at q;exact k q
theorem IX{rs:List qX}{r:qX}(H:∀x l,rs=x::l->∀s∈rs,¬eF s x<0):∀x l,zT rs r=x::l->∀s∈zT rs r,¬eF s x<0:=by
 intro x l e s hs;have irr:∀y,¬eF y y<0:=λy q=>tL q q
 cases rs with
 |nil=>
  simp[zT,Ff]at e hs;rw[hs,<-e.1];exact irr _
 |cons y m=>
  have Hy:=H y m rfl;by_cases c:eF y r<0
  .rw[zT,Ff,aG c]at e;simp at e;rw[<-e.1];rcases yV hs with rfl|hs
   .exact tL c
   .exact Hy s hs
  .rw[zT,Ff,aq c]at e;simp at e;rw[<-e.1];rcases yV hs with rfl|hs
   .exact irr _
   .exact Ha c (Hy s hs)
theorem xE{l:List bF}{z a f to:Int}:∀k,∀x m,pZ l z a f to k=x::m->∀s∈pZ l z a f to k,¬eF s x<0
 |0,x,m,h=>by cases h
 |k+1,x,m,h=>by
  rw[pZ]at h|-;split
  .rename_i q hq;rw[hq]at h;exact IX (xE k) x m h
  .rename_i hq;rw[hq]at h;exact xE k x m h
theorem Ts{rs:List qX}{r y:qX}:y∈zT rs r↔y=r\/y∈rs:=by
 refine⟨yV,λh=>?_⟩;rw[zT,mem_append,mem_cons];rcases h with rfl|h
 .exact .inr (.inl rfl)
 .rw[<-take_append_drop (Ff r rs) rs,mem_append]at h;exact h.elim .inl λh=>.inr (.inr h)
theorem vY{l:List bF}{z a f to:Int}{s:qX}:∀k,s∈pZ l z a f to k↔s∈jy l z a f to k
 |0=>by simp[pZ,jy]
 |k+1=>by
  have ih:=vY (l:=l) (z:=z) (a:=a) (f:=f) (to:=to) (s:=s) k;rw[pZ,jy];cases Is l z a f to ((k+1:Nat):Int)with
  |some r=>
   simp only[Ts,mem_append,mem_singleton,ih];exact or_comm
  |none=>exact ih
theorem Tt{l:List bF}{z a f to:Int}{ys:List qX}(hm:∀s,s∈ys↔s∈jy l z a f to 16)(hl:∀x m,ys=x::m->∀s∈ys,¬eF s x<0):
 jL l z a f to=match ys with|[]=>(0,15)|r::_=>(yW l r,0):=by
 rw[jL];cases hr:pZ l z a f to 16 with
 |nil=>
  cases ys with
  |nil=>rfl
  |cons y m=>
   have:=(vY 16).2 ((hm y).1 (.head _));rw[hr]at this;cases this
 |cons x m=>
  cases ys with
  |nil=>
   have:=(hm x).2 ((vY 16).1 (by rw[hr];exact .head _));cases this
  |cons y m'=>
   have h1:=xE 16 x m hr y ((vY 16).2 ((hm y).1 (.head _)));have h2:=hl y m' rfl x ((hm x).2 ((vY 16).1 (by rw[hr];exact .head _)));rw[zW h2 h1]
def Tu{α:Type}(c:α->α->Int)(xs:List α)(y:α):Int:=((xs.countP λs=>decide (c s y<0):Nat):Int)
theorem Ed{α:Type}{p q:α->Bool}{x:α}(h:∀s,p s=true->q s=true)(hp:p x=false)(hq:q x=true):∀{l:List α},x∈l->l.countP p<l.countP q
 |a::l,hx=>by
  rw[countP_cons,countP_cons];have le:l.countP p<=l.countP q:=countP_mono_left λs _=>h s
  rcases mem_cons.1 hx with rfl|hx
  .rw[hp,hq];simp;omega
  .have:=Ed h hp hq hx;by_cases e:p a=true
   .rw[e,h a e];simp;omega
   .rw[show p a=false by simpa using e];simp only[Bool.false_eq_true,if_false,Nat.add_zero];exact gA this (Nat.le_add_right _ _)
section
variable{α:Type}{c:α->α->Int}(Al7:∀{a b},c a b<0->¬c b a<0)(tr:∀{a b d},c a b<0->c b d<0->c a d<0)(nt:∀{a b d},¬c b a<0->¬c d b<0->¬c d a<0)
include Al7 tr nt
theorem Fg{xs:List α}{x y:α}(hx:x∈xs):c x y<0↔Tu c xs x<Tu c xs y:=by
 constructor
 .intro h;have:=Ed (p:=λs=>decide (c s x<0)) (q:=λs=>decide (c s y<0)) (x:=x) (l:=xs) (λs q=>by simp only[decide_eq_true_eq]at q|-;exact tr q h) (by simp only[decide_eq_false_iff_not];exactλq=>Al7 q q) (by simpa using h) hx;simp only[Tu];omega
 .intro h;refine Decidable.byContradiction λq=>?_
  have:xs.countP (λs=>decide (c s y<0))<=xs.countP (λs=>decide (c s x<0)):=countP_mono_left λs _ w=>by
   simp only[decide_eq_true_eq]at w|-;exact Decidable.byContradiction λk=>nt q k w
  simp only[Tu]at h;omega
end
theorem KY{a b d:List Nat}(h:¬gr b a<0)(k:¬gr d b<0):¬gr d a<0:=λq=>by
 by_cases e:gr a b<0
 .exact k (p9 _ _ _ q e)
 .rw[yX _ _ e h]at q;exact k q
theorem U7{l:List bF}{z a f to n:Int}{i:Nat}{r:qX}(h:nw l z a f to n i=some r):(gt l (gt r.1 0)).t=n:=by
 have e:=(G9 h).2;unfold nw at h;split at h
 .rename_i q;rw[e];exact q.2.1
 .cases h
theorem Fh{l:List bF}{z a f to n:Int}:∀k,∀{r:qX},iI l z a f to n k=some r->(gt l (gt r.1 0)).t=n
 |0,r,h=>by cases h
 |k+1,r,h=>by
  rw[iI]at h;rcases hv:nw l z a f to n k with _|q
  .rw[hv]at h;exact Fh k h
  .rw[hv]at h;rcases hb:iI l z a f to n k with _|b
   .rw[hb]at h;cases h;exact U7 hv
   .rw[hb]at h;simp only[mg]at h;split at h
    .cases h;exact U7 hv
    .cases h;exact Fh k hb
theorem CH{l:List bF}{z a f to:Int}:∀k,∀r∈jy l z a f to k,(gt l (gt r.1 0)).t<=(k:Int)
 |0,r,h=>by cases h
 |k+1,r,h=>by
  rw[jy]at h;split at h
  .rename_i q e;rcases mem_append.1 h with h|h
   .have:=CH k r h;omega
   .rw[mem_singleton.1 h,Fh _ e];omega
  .have:=CH k r h;omega
theorem Ee{l:List bF}{z a f to:Int}:∀k,(jy l z a f to k).Nodup
 |0=>nodup_nil
 |k+1=>by
  have ih:=Ee (l:=l) (z:=z) (a:=a) (f:=f) (to:=to) k;rw[jy];split
  .rename_i q e;refine nodup_append.2 ⟨ih,by simp,λx hx y hy=>?_⟩;rw[mem_singleton.1 hy];intro h;have h1:=CH k x hx;have h2:=Fh _ e;rw[h,h2]at h1;omega
  .exact ih
def Kx{α:Type}(q:Nat)(dM:List cO)(V:α->List AV)(P:α->Mem->Prop)(E:cT->Tr->Mem->Prop):cT->Tr->Mem->Prop
 |.exit i,T,m=>if i=q then∃a,dM.map (λp=>dL p T)=V a/\P a m else E (.exit i) T m
 |e,T,m=>E e T m
theorem Ef{α:Type}(q:Nat)(dM:List cO)(V:α->List AV)(P:α->Mem->Prop)(E:cT->Tr->Mem->Prop)(T:Tr)(m:Mem):Kx q dM V P E (.exit q) T m=∃a,dM.map (λp=>dL p T)=V a/\P a m:=by simp only[Kx,aG]
theorem Afs{α:Type}{q:Nat}{dM:List cO}{V:α->List AV}{P:α->Mem->Prop}{E:cT->Tr->Mem->Prop}(hE:Cl E):Cl (Kx q dM V P E):=λe T T' m t h=>by
 cases e with
 |normal=>exact hE _ _ _ _ t h
 |ret=>exact hE _ _ _ _ t h
 |exit j=>
  simp only[Kx]at h|-;split
  .rename_i c;rw[aG c]at h;obtain⟨a,h1,h2⟩:=h;exact⟨a,by rw[<-h1];exact map_congr_left λp _=>(t p).symm,h2⟩
  .rename_i c;rw[aq c]at h;exact hE _ _ _ _ t h
theorem Dc{α:Type}{F:FuncId->Option bD}{au:bR}{sm:ct}{n fu:Nat}{call:eX}{c:eQ}{T0:Tr}{m:Mem}{E:cT->Tr->Mem->Prop}(q:Nat)(dM:List cO)(V:α->List AV)(P:α->Mem->Prop)(hE:Cl E)
 (H:Wc call (Wa F au sm n) au fu c T0 m (Kx q dM V P E))
 (K:∀a h' bq d' g,P a ⟨h',bq,d'⟩->E (.exit q) (uU dM (V a) (uV g (ur dM (nX c)) T0)) ⟨aR h' [],bq,d'⟩):Wc call (Wa F au sm n) au fu c T0 m E:=by
 have key:∀a T,Fr (nX c) T0 T->dM.map (λp=>dL p T)=V a->oH (uU dM (V a) (uV (λp=>dL p T) (ur dM (nX c)) T0)) T:=λa T f hv t=>by
  rw[<-hv,vL (λp=>dL p T),vK];by_cases h1:t∈dM
  .rw[aG h1]
  .rw[aq h1];by_cases h2:t∈nX c
   .rw[aG ((nU _ _ _).2 ⟨h2,h1⟩)]
   .rw[aq (λh=>h2 ((nU _ _ _).1 h).1)];exact(f t h2).symm
 refine mc (dE n) fu c T0 T0 m _ E H (λ_=>rfl) (λe T' T1 m' hT hF hk=>?_);have h1:=Afs (q:=q) (dM:=dM) (V:=V) (P:=P) hE e T' T1 m' hT hk;cases e with
 |normal=>exact h1
 |ret=>exact h1
 |exit j=>
  simp only[Kx]at h1;split at h1
  .rename_i c1;subst c1;obtain⟨a,q1,q2⟩:=h1;obtain⟨h',bq,d'⟩:=m';have:=K a h' bq d' (λp=>dL p T1) q2;exact hE _ _ _ _ (key a T1 hF q1) this
  .exact h1
def dP{α:Type}(w:Nat)(C:α->List AV)(h:aN)(b:Nat)(L:List α):Prop:=aj h b=(aO w (L.map C))
def Qc(b:Nat)(m0:Mem)(P:AV->aN->Prop):AV->Mem->Prop:=λv m'=>dG (·=b) m0 m'/\P v m'.ah
theorem oQ{F:FuncId->Option bD}{au:bR}{sm:ct}{n:Nat}{c:hZ}{vs:List AV}{b:Nat}{h:aN}{lg d:List Nat}{P:AV->aN->Prop}{Q:AV->Mem->Prop}(H:Wa F au sm n c vs ⟨h,lg,d⟩ (Qc b ⟨h,lg,d⟩ P))
 (hQ:∀v h' bq,dG (·=b) ⟨h,lg,d⟩ ⟨h',bq,d⟩->P v h'->Q v ⟨aR h' [],bq,d⟩):Wa F au sm n c vs ⟨h,lg,d⟩ Q:=
 dE n _ _ _ _ _ (λv m' ⟨k,p⟩=>by
  obtain⟨h',bq,d'⟩:=m';obtain rfl:d'=d:=k.aV;exact hQ v h' bq k p) H
theorem dG.mono{P P':Nat->Prop}{m m':Mem}(k:dG P m m')(hp:∀x,P x->P' x):dG P' m m':=⟨k.len,λx hx hn=>k.get x hx (λq=>hn (hp x q)),k.aV,by obtain⟨l,e,hl⟩:=k.hU;exact⟨l,e,λb hb=>(hl b hb).imp (hp b) id⟩⟩
section
variable{α:Type}{w:Nat}{C:α->List AV}{h:aN}{b:Nat}{L:List α}
theorem dP.bx(H:dP w C h b L)(l:List (Option bp)):aj (aR h l) b=(aO w (L.map C)):=(an l h b (ag H)).trans H
theorem dP.put(H:dP w C h b L)(L':List α)(l:List (Option bp)):dP w C (aR (aQ h b ((aO w (L'.map C)))) l) b L':=(bg (ag H)).2.2.2.2.1 _ _
variable[Inhabited α]
theorem dP.row{i:Nat}(hi:i<L.length):(L.map C)[i]?=some (C (gt L i)):=by
 rw[getElem?_map,getElem?_eq_getElem hi,<-bB hi];rfl
theorem dP.rg(hw:0<w)(hC:∀x,(C x).length=w){i:Nat}(hi:i<L.length):fG w (L.map C) i 0 w=some (C (gt L i)):=by
 have e:Nat.ble w 0=false:=by cases w with
  |zero=>omega
  |succ=>rfl
 simp only[fG,e,cond_false,iT,dP.row hi];rw[aG Z,drop_zero,take_of_length_le (by rw[hC];exact cB)]
theorem dP.rs(hw:0<w)(hC:∀x,(C x).length=w){i:Nat}(hi:i<L.length)(x:α):iX w (L.map C) i 0 (C x)=some ((L.set i x).map C):=by
 have e:Nat.ble w 0=false:=by cases w with
  |zero=>omega
  |succ=>rfl
 simp only[iX,e,cond_false,nJ,dP.row hi];rw[aG (by rw[hC];omega),take_zero,nil_append,drop_eq_nil_of_le (by rw[hC,hC];omega),append_nil,map_set]
end
theorem aT.sy{P:Nat->Prop}{m m':Mem}{e:Nat}{v:AV}{es:List (List AV)}(H:aT m.ah e v es)(k:dG P m m')(hn:∀c∈v.cj,¬P c):aT m'.ah e v es:=by
 rcases H with⟨h1,h2⟩|⟨b,i,c,bS,bI,hv,hb,hw,hc⟩
 .exact .none h1 h2
 .exact .some b i c bS bI hv ((k.get b (ag hb) (hn b (by rw[hv];simp[AV.cj]))).trans hb) hw hc
theorem Mv.mem{α:Type}[Inhabited α]{a b:Nat}{l l':List α}(h:Mv a b l l'){x:α}(hx:x∈l'):x∈l:=h.sq.mem_iff.1 hx
theorem Mv.at{α:Type}[Inhabited α]{a b:Nat}{l l':List α}(h:Mv a b l l'){i:Nat}(hi:i<l'.length):gt l' i∈l:=h.mem (by rw[bB hi];exact getElem_mem hi)
structure PI{α:Type}[Inhabited α](K:α->Int)(a z i j:Nat)(L:List α):Prop where
 ai:a<i
 ij:i<=j+1
 jz:j<z
 zl:z<=L.length
 lo:∀k,a<k->k<i->K (gt L k)<K (gt L a)
 hi:∀k,j<k->k<z->K (gt L a)<=K (gt L k)
section
variable{α:Type}[Inhabited α]{K:α->Int}{a z i j:Nat}{L:List α}
theorem PI.start(h:a<z)(hl:z<=L.length):PI K a z (a+1) (z-1) L:=⟨Z,Z,Z,hl,λk _ _=>Z,λk _ _=>Z⟩
theorem PI.up(P:PI K a z i j L)(h:i<=j)(c:K (gt L i)<K (gt L a)):PI K a z (i+1) j L:=⟨by have:=P.ai;omega,Z,P.jz,P.zl,λk h1 h2=>by
 by_cases e:k=i
 .rw[e];exact c
 .exact P.lo k h1 Z,P.hi⟩
theorem PI.down(P:PI K a z i j L)(h:i<=j)(c:¬K (gt L j)<K (gt L a)):PI K a z i (j-1) L:=⟨P.ai,by have:=P.ai;omega,by have:=P.jz;omega,P.zl,P.lo,λk h1 h2=>by
 by_cases e:k=j
 .rw[e];omega
 .exact P.hi k Z h2⟩
theorem PI.swap(P:PI K a z i j L)(h:i<=j)(c:¬K (gt L i)<K (gt L a))(d:K (gt L j)<K (gt L a)):PI K a z (i+1) (j-1) (sw L i j):=by
 have ai:=P.ai;have jz:=P.jz;have zl:=P.zl;have ne:i≠j:=λe=>c (by rw[e];exact d)
 have g:=λk=>u9 (l:=L) (i:=i) (j:=j) (k:=k) Z Z
 have ga:gt (sw L i j) a=gt L a:=by rw[g,aq Z,aq Z]
 refine⟨Z,Z,Z,by rw[qV];exact zl,λk h1 h2=>?_,λk h1 h2=>?_⟩
 .rw[ga,g,aq Z];by_cases e:k=i
  .rw[aG e];exact d
  .rw[aq e];exact P.lo k h1 Z
 .rw[ga,g];by_cases e:k=j
  .rw[aG e];omega
  .rw[aq e,aq Z];exact P.hi k Z h2
theorem PI.done(P:PI K a z i j L)(h:¬i<=j):Part K a z j (sw L j a):=by
 have ai:=P.ai;have ij:=P.ij;have jz:=P.jz;have zl:=P.zl;have g:=λk=>u9 (l:=L) (i:=j) (j:=a) (k:=k) Z Z
 have gj:gt (sw L j a) j=gt L a:=by
  rw[g];by_cases e:j=a
  .rw[aG e,e]
  .rw[aq e,aG rfl]
 refine⟨Z,jz,λk h1 h2=>?_,λk h1 h2=>?_⟩
 .rw[gj,g];by_cases e:k=a
  .rw[aG e];exact P.lo j Z Z
  .rw[aq e,aq Z];exact P.lo k Z Z
 .by_cases e:k=j
  .rw[e];exact Int.le_refl _
  .rw[gj,g,aq Z,aq e];exact P.hi k Z h2
end
theorem CI{α:Type}[Inhabited α]{K:α->Int}{a z:Nat}{L:List α}(h:∀q,a<q->q<z->¬K (gt L q)<K (gt L (q-1))):mO K a z L:=by
 intro i j h1 h2 h3;induction j with
 |zero=>omega
 |succ j ih=>
  have c:=h (j+1) Z h3;rw[Nat.add_sub_cancel]at c;by_cases e:i=j
  .subst e;omega
  .have:=ih Z Z;omega
theorem AgE{α:Type}[Inhabited α]{K:α->Int}{L:List α}(h:(L.map K).Nodup){i j:Nat}(hi:i<L.length)(hj:j<L.length)(ne:i≠j):K (gt L i)≠K (gt L j):=by
 rw[bB hi,bB hj];intro e;refine ne ((getElem_inj (i:=i) (j:=j) (h₀:=by simpa using hi) (h₁:=by simpa using hj) h).1 ?_);rw[getElem_map,getElem_map];exact e
theorem EY.lt{α:Type}[Inhabited α]{K:α->Int}{n a z p:Nat}{L0 L:List α}(P:EY K n a z L0 L)(h:(L0.map K).Nodup)(ha:0<a)(hp:a<=p/\p<z):K (gt L (a-1))<K (gt L p):=by
 have bn:=P.bn;have l:=P.mv.len;have hn:=P.hn;have h1:=P.l1 (a-1) p Z hp.1 Z;have h2:=AgE (K:=K) (L:=L) ((P.mv.sq.map K).nodup_iff.2 h) (i:=a-1) (j:=p) Z Z Z;omega
def cK(x:Int):List AV:=[Ei x]
theorem Hb(a b:Int)(m:Mem)(q_:31<=j:=by omega):SM j 230 [Ei a,Ei b] m=some (.bool (decide (a<b)),m):=by
 obtain⟨h,lg,d⟩:=m;refine aP 1000 q_ λn=>?_
 have g1:=λm=>Aft (31-1) a m
 exact aC g1
def Rt(n:Nat):Nat:=if n=0 then 0 else if n=1 then 1 else if n<4 then 2 else if n<8 then 3 else if n<16 then 4 else 5
theorem U8(n:Nat):n<=12\/4<=Rt n:=by
 simp only[Rt];repeat' split
 all_goals omega
theorem U9(n:Nat):Rt n<=5:=by
 simp only[Rt];repeat' split
 all_goals omega
theorem AlA(m:Mem)(hn:n<=16)(q_:29<=j:=by omega):SM j 165 [Eu n] m=some (Ei (Rt n),m):=by
 obtain⟨h,lg,d⟩:=m;have c:n=0\/n=1\/n=2\/n=3\/n=4\/n=5\/n=6\/n=7\/n=8\/n=9\/n=10\/n=11\/n=12\/n=13\/n=14\/n=15\/n=16:=Z;rcases c with rfl|rfl|rfl|rfl|rfl|rfl|rfl|rfl|rfl|rfl|rfl|rfl|rfl|rfl|rfl|rfl|rfl
 all_goals
  refine aP 1000 q_ λn=>?_
  refine aS ?_;change Wp _ _ _ (some (AV.int .u8 ((UInt8.toNat _:Nat):Int),[])) _ _ _ _ _;refine aS ?_;rfl
theorem Qu(m:Mem)(hn:n<=16)(q_:30<=j:=by omega):SM j 102 [Eu n] m=some (Ei (Rt n),m):=by
 obtain⟨h,lg,d⟩:=m;refine aP 1000 q_ λk=>?_
 have g1:=λm=>AlA (30-1) n m hn
 exact aC g1
theorem Va(x:Int):∃r:Nat,r<=15/\u64.wrap ((@HAnd.hAnd (BitVec 64) (BitVec 64) (BitVec 64) (@instHAndOfAndOp (BitVec u64.bits) (@BitVec.instAndOp u64.bits)) (BitVec.ofInt 64 x) (BitVec.ofNat 64 15)).toNat:Int)=(r:Int):=by
 have h:(BitVec.ofInt 64 x&&&15#64).toNat<=15:=by rw[BitVec.toNat_and];exact Nat.and_le_right
 have w:u64.wrap ((BitVec.ofInt 64 x&&&15#64).toNat:Int)=((BitVec.ofInt 64 x&&&15#64).toNat:Int):=dB Z Z;exact⟨(BitVec.ofInt 64 x&&&15#64).toNat,h,w⟩
theorem AgF(lg d:List Nat){c:Nat}{x:Int}(hc:aj h c=(aO 1 [[Eu x]]))(q_:0<=j:=by omega):Wa FT MT (SM j) (n+1000) (.fn 235) [.ptr c 0 0] ⟨aR h [],lg,d⟩ (Qc c ⟨h,lg,d⟩ (λw h'=>∃x',w=Eu x'/\aj h' c=(aO 1 [[Eu x']]))):=by
 refine aI ?_;have o:=bg (ag hc);have gb:=λl=>(an l h c (ag hc)).trans hc
 refine aW (Z2 gb o) ?_;exact⟨cD (P:=(·=c)) (ag hc) rfl _ _ (.cons (.inl rfl) (.cons (.inl rfl) (.cons (.inl rfl) .nil))),_,rfl,o.2.2.2.2.1 _ _⟩
theorem AgG(lg d:List Nat){b a z N:Nat}{L:List Int}(hb:dP 1 cK h b L)(hN:L.length=N)(ha:a<=z/\z<=N)(hn:N<=1000)(q_:31<=j:=by omega):
 Wa FT MT (SM j) (n+3000) (.fn 224) [.slice b 0 N none,Ei a,Ei z] ⟨aR h [],lg,d⟩ (Qc b ⟨h,lg,d⟩ (λ_ h'=>∃L',dP 1 cK h' b L'/\Mv a z L L'/\mO id a z L')):=by
 refine aI ?_;have w0:i64.wrap ((a:Int)+1)=((a+1:Nat):Int):=by rw[aU Z Z];omega
 refine aW w0 ?_;refine dz (α:=List Int) (z-(a+1)) [X6] (λi _=>[Ei ((a+1+i:Nat):Int)]) (λi L' m=>dG (·=b) ⟨h,lg,[]⟩ m/\dP 1 cK m.ah b L'/\Mv a z L L'/\mO id a (a+1+i) L') Z aX ⟨L,rfl,dG.refl _ _,hb,Mv.refl _ _ _,λp q h1 h2 h3=>Z⟩ (λi L1 m g hi hP=>?_) (λL1 m g hP=>?_)
 .obtain⟨h3,dH,d3⟩:=m;obtain⟨kk,B,mv,Al7⟩:=hP;obtain rfl:d3=[]:=kk.aV;simp only at B;have il:(((a+1+i:Nat):Int)<(z:Int))=True:=dy;have w1:i64.wrap (((a+1+i:Nat):Int)+1)=((a+1+(i+1):Nat):Int):=by rw[aU Z Z];omega
  refine bH ?_;refine aW il ?_;refine dz (α:=Nat×List Int) (1+i) [X7] (λ_ x=>[Ei x.1]) (λk x m=>dG (·=b) ⟨h,lg,[]⟩ m/\dP 1 cK m.ah b x.2/\Mv a z L x.2/\zH id a (a+1+i) x.1 x.2/\x.1+k=a+1+i) Z aX ⟨(a+1+i,L1),rfl,kk,B,mv,zH.start Al7,Z⟩ (λk x m g hk hQ=>?_) (λx m g hQ=>?_)
  .obtain⟨h4,fi,d4⟩:=m;obtain⟨jj,L2⟩:=x;obtain⟨k4,B4,ru,ip,jk⟩:=hQ;obtain rfl:d4=[]:=k4.aV;simp only at B4 ru ip jk;have e4:=ru.len;have jl:jj<L2.length:=Z;have jm:jj-1<L2.length:=Z;have c1:((a:Int)<(jj:Int))=True:=dy;have w2:i64.wrap ((jj:Int)-1)=((jj-1:Nat):Int):=by rw[aU Z Z];omega
   have i1:decide (jj<N)=true:=by simp;omega
   have i2:decide (jj-1<N)=true:=by simp;omega
   have o:=bg (ag B4);have r1:=dP.rg (L:=L2) (C:=cK) (w:=1) aZ (λ_=>rfl) jl;have r2:=dP.rg (L:=L2) (C:=cK) (w:=1) aZ (λ_=>rfl) jm;have s1:=dP.rs (L:=L2) (C:=cK) (w:=1) aZ (λ_=>rfl) jl (gt L2 (jj-1));have s2:=dP.rs (L:=L2.set jj (gt L2 (jj-1))) (C:=cK) (w:=1) aZ (λ_=>rfl) (i:=jj-1) (by simpa using jm) (gt L2 jj);simp only[cK]at r1 r2 s1 s2;have gb:=λl=>B4.bx l
   have ls:=λm=>Hb j (gt L2 (jj)) (gt L2 (jj-1)) m
   refine bH ?_;refine aD (xq c1 w2 i1 i2 gb o r1 r2 s1 s2 ls) ?_;refine⟨λc=>⟨(jj-1,sw L2 jj (jj-1)),rfl,k4.trans (cD (P:=(·=b)) (ag B4) rfl _ _ (.cons (.inl rfl) (.cons (.inl rfl) .nil))) (λx e=>.inl e),B4.put _ _,ru.trans (Mv.sw Z Z Z),ip.step Z Z Z c,by show jj-1+(k+1)=a+1+i;omega⟩,λc=>⟨L2,w1,k4,B4,ru,ip.stop Z (.inr c)⟩⟩
  .obtain⟨h4,fi,d4⟩:=m;obtain⟨jj,L2⟩:=x;obtain⟨k4,B4,ru,ip,jk⟩:=hQ;obtain rfl:d4=[]:=k4.aV;simp only at B4 ru ip jk;obtain rfl:jj=a:=Z;have c1:((jj:Int)<(jj:Int))=False:=cR;refine bH ?_;refine aW c1 ?_;exact⟨L2,w1,k4,B4,ru,ip.stop Z (.inl cB)⟩
 .obtain⟨h3,dH,d3⟩:=m;obtain⟨kk,B,mv,Al7⟩:=hP;obtain rfl:d3=[]:=kk.aV;simp only at B;have il:(((a+1+(z-(a+1)):Nat):Int)<(z:Int))=False:=cR;refine bH ?_;refine aW il ?_;exact⟨kk.sub,L1,B,mv,λp q h1 h2 h3=>Al7 p q h1 h2 Z⟩
theorem AgH(lg d:List Nat){b a z p N:Nat}{L:List Int}(hb:dP 1 cK h b L)(hN:L.length=N)(ha:a<z/\z<=N)(hp:a<=p/\p<z)(hn:N<=1000)(q_:31<=j:=by omega):
 Wa FT MT (SM j) (n+3000) (.fn 232) [.slice b 0 N none,Ei a,Ei z,Ei p] ⟨aR h [],lg,d⟩ (Qc b ⟨h,lg,d⟩ (λw h'=>∃(q:Nat) (t:Bool) (L':List Int),w=.tuple [Ei q,.bool t]/\dP 1 cK h' b L'/\Mv a z L L'/\Part id a z q L')):=by
 refine aI ?_;have w0:i64.wrap ((a:Int)+1)=((a+1:Nat):Int):=by rw[aU Z Z];omega
 have Yn:i64.wrap ((z:Int)-1)=((z-1:Nat):Int):=by rw[aU Z Z];omega
 have o:=bg (ag hb);have i1:decide (p<N)=true:=by simp;omega
 have i2:decide (a<N)=true:=by simp;omega
 have gb:=λl=>hb.bx l
 have jE:=dP.rg (L:=L) (C:=cK) (w:=1) aZ (λ_=>rfl) (i:=a) Z;have jT:=dP.rg (L:=L) (C:=cK) (w:=1) aZ (λ_=>rfl) (i:=p) Z;have qv:=dP.rs (L:=L) (C:=cK) (w:=1) aZ (λ_=>rfl) (i:=a) Z (gt L p);have tJ:=dP.rs (L:=L.set a (gt L p)) (C:=cK) (w:=1) aZ (λ_=>rfl) (i:=p) (by rw[length_set];omega) (gt L a);simp only[cK]at jE jT qv tJ;refine aD (yA w0 Yn i1 i2 gb o jE jT qv tJ) ?_;have m1:Mv a z L (sw L a p):=Mv.sw Z Z Z;have B1:dP 1 cK (aR (aQ h b ((aO 1 ((sw L a p).map cK)))) []) b (sw L a p):=hb.put _ _;have l1:(sw L a p).length=N:=by rw[qV,hN]
 have s1:PI id a z (a+1) (z-1) (sw L a p):=PI.start Z Z;have K1:dG (·=b) ⟨h,lg,[]⟩ ⟨aR (aQ h b ((aO 1 ((sw L a p).map cK)))) [],b::b::lg,[]⟩:=cD (P:=(·=b)) (ag hb) rfl _ _ (.cons (.inl rfl) (.cons (.inl rfl) .nil));simp only[sw]at B1 K1;rw[show(L.set a (gt L p)).set p (gt L a)=sw L a p from rfl]at*;generalize sw L a p=L1 at*;refine Dc (α:=Nat) 0 [BZ] (λi=>[Ei (i:Nat)]) (λi m=>dG (·=b) ⟨h,lg,[]⟩ m/\dP 1 cK m.ah b L1/\PI id a z i (z-1) L1/\(i<=z-1->¬id (gt L1 i)<id (gt L1 a))) aX ?_ (λi h' bq d' g hP=>?_)
 .refine dV (z+1) [BZ] (λk=>[Ei ((a+1+k:Nat):Int)]) (λk m=>dG (·=b) ⟨h,lg,[]⟩ m/\dP 1 cK m.ah b L1/\PI id a z (a+1+k) (z-1) L1/\k<=z) Z aX ⟨rfl,K1,B1,s1,Nat.zero_le _⟩ (λk m g hk hP=>?_) (λm g hP=>absurd hP.2.2.2 Z);obtain⟨h4,fi,d4⟩:=m;obtain⟨k4,B4,P,kz⟩:=hP;obtain rfl:d4=[]:=k4.aV;simp only at B4;have f2:=P.ij;have f3:=P.jz;have gb:=λl=>B4.bx l
  refine bH ?_;by_cases ij:(a+1+k)<=(z-1)
  .have c1:((((a+1+k):Nat):Int)<=(((z-1):Nat):Int))=True:=dy;have w1:i64.wrap (((a+1+k:Nat):Int)+1)=((a+1+(k+1):Nat):Int):=by rw[aU Z Z];omega
   have i1:decide (a+1+k<N)=true:=by simp;omega
   have i2:decide (a<N)=true:=by simp;omega
   have jE:=dP.rg (L:=L1) (C:=cK) (w:=1) aZ (λ_=>rfl) (i:=a+1+k) Z;have jT:=dP.rg (L:=L1) (C:=cK) (w:=1) aZ (λ_=>rfl) (i:=a) Z;simp only[cK]at jE jT;have ls:=λm=>Hb j (gt L1 (a+1+k)) (gt L1 (a)) m
   refine aD (xq c1 w1 i1 i2 gb jE jT @Ef @Pf @Pg ls) ?_;exact⟨λc=>⟨k4,B4,P.up ij c,Z⟩,λc=>⟨a+1+k,rfl,k4,B4,P,λ_=>c⟩⟩
  .have c1:((((a+1+k):Nat):Int)<=(((z-1):Nat):Int))=False:=cR;refine aW (Z2 c1 @Ef) ?_;exact⟨a+1+k,rfl,k4,B4,P,λq=>absurd q ij⟩
 .obtain rfl:d'=[]:=hP.1.aV;obtain⟨k3,B3,P3,e3⟩:=hP;simp only at B3;refine aS ?_;refine Dc (α:=Nat) 2 [wJ] (λi=>[Ei (i:Nat)]) (λq m=>dG (·=b) ⟨h,lg,[]⟩ m/\dP 1 cK m.ah b L1/\PI id a z i q L1/\(i<=q->¬id (gt L1 i)<id (gt L1 a))/\(i<=q->id (gt L1 q)<id (gt L1 a))) aX ?_ (λq h' bq d' g hP=>?_)
  .refine dV (z+1) [wJ] (λk=>[Ei (((z-1)-k:Nat):Int)]) (λk m=>dG (·=b) ⟨h,lg,[]⟩ m/\dP 1 cK m.ah b L1/\PI id a z i ((z-1)-k) L1/\k<=z) Z aX ⟨rfl,k3,B3,P3,Nat.zero_le _⟩ (λk m g hk hP=>?_) (λm g hP=>absurd hP.2.2.2 Z);obtain⟨h4,fi,d4⟩:=m;obtain⟨k4,B4,P,kz⟩:=hP;obtain rfl:d4=[]:=k4.aV;simp only at B4;have f1:=P.ai;have f2:=P.ij;have f3:=P.jz;have gb:=λl=>B4.bx l
   refine bH ?_;by_cases ij:i<=((z-1)-k)
   .have c1:(((i:Nat):Int)<=((((z-1)-k):Nat):Int))=True:=dy;have w1:i64.wrap ((((z-1)-k:Nat):Int)-1)=(((z-1)-(k+1):Nat):Int):=by rw[aU Z Z];omega
    have i1:decide ((z-1)-k<N)=true:=by simp;omega
    have i2:decide (a<N)=true:=by simp;omega
    have jE:=dP.rg (L:=L1) (C:=cK) (w:=1) aZ (λ_=>rfl) (i:=(z-1)-k) Z;have jT:=dP.rg (L:=L1) (C:=cK) (w:=1) aZ (λ_=>rfl) (i:=a) Z;simp only[cK]at jE jT;have ls:=λm=>Hb j (gt L1 ((z-1)-k)) (gt L1 (a)) m
    refine aD (xq c1 w1 i1 i2 gb jE jT @Ef @Pf @Pg ls) ?_;exact⟨λc=>⟨k4,B4,P.down ij c,Z⟩,λc=>⟨(z-1)-k,rfl,k4,B4,P,λ_=>e3 Z,λ_=>c⟩⟩
   .have c1:(((i:Nat):Int)<=((((z-1)-k):Nat):Int))=False:=cR;refine aW (Z2 c1 @Ef) ?_;exact⟨(z-1)-k,rfl,k4,B4,P,λq=>absurd q ij,λq=>absurd q ij⟩
  .obtain rfl:d'=[]:=hP.1.aV;obtain⟨k5,B5,P5,e5,f5⟩:=hP;simp only at B5;have b1:=P5.ai;have b2:=P5.ij;have b3:=P5.jz;have o:=bg (ag B5);have gb:=λl=>B5.bx l
   have i1:decide (q<N)=true:=by simp;omega
   have i2:decide (a<N)=true:=by simp;omega
   by_cases ij:i<=q
   .have c1:((q:Int)<(i:Int))=False:=cR;have w1:i64.wrap ((i:Int)+1)=((i+1:Nat):Int):=by rw[aU Z Z];omega
    have w2:i64.wrap ((q:Int)-1)=((q-1:Nat):Int):=by rw[aU Z Z];omega
    have i3:decide (i<N)=true:=by simp;omega
    have jE:=dP.rg (L:=L1) (C:=cK) (w:=1) aZ (λ_=>rfl) (i:=i) Z;have jT:=dP.rg (L:=L1) (C:=cK) (w:=1) aZ (λ_=>rfl) (i:=q) Z;have qv:=dP.rs (L:=L1) (C:=cK) (w:=1) aZ (λ_=>rfl) (i:=i) Z (gt L1 q);have tJ:=dP.rs (L:=L1.set i (gt L1 q)) (C:=cK) (w:=1) aZ (λ_=>rfl) (i:=q) (by rw[length_set];omega) (gt L1 i);simp only[cK]at jE jT qv tJ;refine aD (xq c1 w1 w2 i1 i3 gb o jE jT qv tJ) ?_;refine dz (α:=Nat×Nat×List Int) (z+1) [BZ,wJ] (λ_ x=>[Ei (x.1:Nat),Ei (x.2.1:Nat)]) (λk x m=>dG (·=b) ⟨h,lg,[]⟩ m/\dP 1 cK m.ah b x.2.2/\Mv a z L x.2.2/\PI id a z x.1 x.2.1 x.2.2/\a+k<x.1) Z aX ⟨(i+1,q-1,sw L1 i q),rfl,k5.trans (cD (P:=(·=b)) (ag B5) rfl _ _ (.cons (.inl rfl) (.cons (.inl rfl) .nil))) (λx e=>.inl e),B5.put _ _,m1.trans (Mv.sw Z Z Z),P5.swap ij (e5 ij) (f5 ij),by simp only;omega⟩ (λk x m g hk hQ=>?_) (λx m g hQ=>absurd hQ.2.2.2.2 (by have:=hQ.2.2.2.1.ij;have:=hQ.2.2.2.1.jz;omega));obtain⟨h6,ux,d6⟩:=m;obtain⟨u,v,L2⟩:=x;obtain⟨k6,B6,m6,P6,u6⟩:=hQ;obtain rfl:d6=[]:=k6.aV;simp only at B6 m6 P6 u6;have l2:=m6.len;have v6:=P6.jz;refine bH ?_;refine aS ?_;refine Dc (α:=Nat) 6 [BZ] (λi=>[Ei (i:Nat)]) (λi m=>dG (·=b) ⟨h,lg,[]⟩ m/\dP 1 cK m.ah b L2/\PI id a z i v L2/\(i<=v->¬id (gt L2 i)<id (gt L2 a))/\u<=i) aX ?_ (λu3 h' bq d' g hP=>?_)
    .refine dV (z+1) [BZ] (λk=>[Ei ((u+k:Nat):Int)]) (λk m=>dG (·=b) ⟨h,lg,[]⟩ m/\dP 1 cK m.ah b L2/\PI id a z (u+k) v L2/\k<=z) Z aX ⟨rfl,k6,B6,P6,Nat.zero_le _⟩ (λk m g hk hP=>?_) (λm g hP=>absurd hP.2.2.2 Z);obtain⟨h4,fi,d4⟩:=m;obtain⟨k4,B4,P,kz⟩:=hP;obtain rfl:d4=[]:=k4.aV;simp only at B4;have f1:=P.ai;have f2:=P.ij;have gb:=λl=>B4.bx l
     refine bH ?_;by_cases ij:(u+k)<=v
     .have c1:((((u+k):Nat):Int)<=((v:Nat):Int))=True:=dy;have w1:i64.wrap (((u+k:Nat):Int)+1)=((u+(k+1):Nat):Int):=by rw[aU Z Z];omega
      have i1:decide (u+k<N)=true:=by simp;omega
      have i2:decide (a<N)=true:=by simp;omega
      have jE:=dP.rg (L:=L2) (C:=cK) (w:=1) aZ (λ_=>rfl) (i:=u+k) Z;have jT:=dP.rg (L:=L2) (C:=cK) (w:=1) aZ (λ_=>rfl) (i:=a) Z;simp only[cK]at jE jT;have ls:=λm=>Hb j (gt L2 (u+k)) (gt L2 (a)) m
      refine aD (xq c1 w1 i1 i2 gb jE jT @Ef @Pf @Pg ls) ?_;exact⟨λc=>⟨k4,B4,P.up ij c,Z⟩,λc=>⟨u+k,rfl,k4,B4,P,λ_=>c,Z⟩⟩
     .have c1:((((u+k):Nat):Int)<=((v:Nat):Int))=False:=cR;refine aW (Z2 c1 @Ef) ?_;exact⟨u+k,rfl,k4,B4,P,λq=>absurd q ij,Z⟩
    .obtain rfl:d'=[]:=hP.1.aV;obtain⟨k7,B7,P7,e3,u7⟩:=hP;simp only at B7;refine aS ?_;refine Dc (α:=Nat) 8 [wJ] (λi=>[Ei (i:Nat)]) (λq m=>dG (·=b) ⟨h,lg,[]⟩ m/\dP 1 cK m.ah b L2/\PI id a z u3 q L2/\(u3<=q->¬id (gt L2 u3)<id (gt L2 a))/\(u3<=q->id (gt L2 q)<id (gt L2 a))) aX ?_ (λq h' bq d' g hP=>?_)
     .refine dV (z+1) [wJ] (λk=>[Ei ((v-k:Nat):Int)]) (λk m=>dG (·=b) ⟨h,lg,[]⟩ m/\dP 1 cK m.ah b L2/\PI id a z u3 (v-k) L2/\k<=z) Z aX ⟨rfl,k7,B7,P7,Nat.zero_le _⟩ (λk m g hk hP=>?_) (λm g hP=>absurd hP.2.2.2 Z);obtain⟨h4,fi,d4⟩:=m;obtain⟨k4,B4,P,kz⟩:=hP;obtain rfl:d4=[]:=k4.aV;simp only at B4;have f1:=P.ai;have f2:=P.ij;have f3:=P.jz;have gb:=λl=>B4.bx l
      refine bH ?_;by_cases ij:u3<=(v-k)
      .have c1:(((u3:Nat):Int)<=(((v-k):Nat):Int))=True:=dy;have w1:i64.wrap (((v-k:Nat):Int)-1)=((v-(k+1):Nat):Int):=by rw[aU Z Z];omega
       have i1:decide (v-k<N)=true:=by simp;omega
       have i2:decide (a<N)=true:=by simp;omega
       have jE:=dP.rg (L:=L2) (C:=cK) (w:=1) aZ (λ_=>rfl) (i:=v-k) Z;have jT:=dP.rg (L:=L2) (C:=cK) (w:=1) aZ (λ_=>rfl) (i:=a) Z;simp only[cK]at jE jT;have ls:=λm=>Hb j (gt L2 (v-k)) (gt L2 (a)) m
       refine aD (xq c1 w1 i1 i2 gb jE jT @Ef @Pf @Pg ls) ?_;exact⟨λc=>⟨k4,B4,P.down ij c,Z⟩,λc=>⟨v-k,rfl,k4,B4,P,λ_=>e3 Z,λ_=>c⟩⟩
      .have c1:(((u3:Nat):Int)<=(((v-k):Nat):Int))=False:=cR;refine aW (Z2 c1 @Ef) ?_;exact⟨v-k,rfl,k4,B4,P,λq=>absurd q ij,λq=>absurd q ij⟩
     .obtain rfl:d'=[]:=hP.1.aV;obtain⟨k5,B5,P5,e5,f5⟩:=hP;simp only at B5;have b1:=P5.ai;have b2:=P5.ij;have b3:=P5.jz;have o:=bg (ag B5);have gb:=λl=>B5.bx l
      have i1:decide (q<N)=true:=by simp;omega
      have i2:decide (a<N)=true:=by simp;omega
      by_cases ij:u3<=q
      .have c1:((q:Int)<(u3:Int))=False:=cR;have w1:i64.wrap ((u3:Int)+1)=((u3+1:Nat):Int):=by rw[aU Z Z];omega
       have w2:i64.wrap ((q:Int)-1)=((q-1:Nat):Int):=by rw[aU Z Z];omega
       have i3:decide (u3<N)=true:=by simp;omega
       have jE:=dP.rg (L:=L2) (C:=cK) (w:=1) aZ (λ_=>rfl) (i:=u3) Z;have jT:=dP.rg (L:=L2) (C:=cK) (w:=1) aZ (λ_=>rfl) (i:=q) Z;have qv:=dP.rs (L:=L2) (C:=cK) (w:=1) aZ (λ_=>rfl) (i:=u3) Z (gt L2 q);have tJ:=dP.rs (L:=L2.set u3 (gt L2 q)) (C:=cK) (w:=1) aZ (λ_=>rfl) (i:=q) (by rw[length_set];omega) (gt L2 u3);simp only[cK]at jE jT qv tJ;refine aD (xq c1 w1 w2 i1 i3 gb o jE jT qv tJ) ?_;exact⟨(u3+1,q-1,sw L2 u3 q),⟨rfl,rfl⟩,k5.trans (cD (P:=(·=b)) (ag B5) rfl _ _ (.cons (.inl rfl) (.cons (.inl rfl) .nil))) (λx e=>.inl e),B5.put _ _,m6.trans (Mv.sw Z Z Z),P5.swap ij (e5 ij) (f5 ij),by simp only;omega⟩
      .have c1:((q:Int)<(u3:Int))=True:=dy;have jE:=dP.rg (L:=L2) (C:=cK) (w:=1) aZ (λ_=>rfl) (i:=q) Z;have jT:=dP.rg (L:=L2) (C:=cK) (w:=1) aZ (λ_=>rfl) (i:=a) Z;have qv:=dP.rs (L:=L2) (C:=cK) (w:=1) aZ (λ_=>rfl) (i:=q) Z (gt L2 a);have tJ:=dP.rs (L:=L2.set q (gt L2 a)) (C:=cK) (w:=1) aZ (λ_=>rfl) (i:=a) (by rw[length_set];omega) (gt L2 q);simp only[cK]at jE jT qv tJ;refine aD (Z9 c1 i1 i2 gb o jE jT qv tJ) ?_;exact⟨(k5.trans (cD (P:=(·=b)) (ag B5) rfl _ _ (.cons (.inl rfl) (.cons (.inl rfl) .nil))) (λx e=>.inl e)).sub,q,false,sw L2 q a,rfl,B5.put _ _,m6.trans (Mv.sw Z Z Z),P5.done ij⟩
   .have c1:((q:Int)<(i:Int))=True:=dy;have jE:=dP.rg (L:=L1) (C:=cK) (w:=1) aZ (λ_=>rfl) (i:=q) Z;have jT:=dP.rg (L:=L1) (C:=cK) (w:=1) aZ (λ_=>rfl) (i:=a) Z;have qv:=dP.rs (L:=L1) (C:=cK) (w:=1) aZ (λ_=>rfl) (i:=q) Z (gt L1 a);have tJ:=dP.rs (L:=L1.set q (gt L1 a)) (C:=cK) (w:=1) aZ (λ_=>rfl) (i:=a) (by rw[length_set];omega) (gt L1 q);simp only[cK]at jE jT qv tJ;refine aD (Z9 c1 i1 i2 gb o jE jT qv tJ) ?_;exact⟨(k5.trans (cD (P:=(·=b)) (ag B5) rfl _ _ (.cons (.inl rfl) (.cons (.inl rfl) .nil))) (λx e=>.inl e)).sub,q,true,sw L1 q a,rfl,B5.put _ _,m1.trans (Mv.sw Z Z Z),P5.done ij⟩
theorem AgI(lg d:List Nat){b a z N:Nat}{L:List Int}(hb:dP 1 cK h b L)(hN:L.length=N)(ha:a+13<=z/\z<=N)(hn:N<=16)(q_:31<=j:=by omega):
 Wa FT MT (SM j) (n+3000) (.fn 227) [.slice b 0 N none,Ei a,Ei z] ⟨aR h [],lg,d⟩ (Qk ⟨h,lg,d⟩ (λw _=>∃(p:Nat) (x:Int),w=.tuple [Ei p,Ei x]/\a<=p/\p<z/\(x=0\/x=1))):=by
 refine aI ?_;have w1:i64.wrap ((z:Int)-a)=((z-a:Nat):Int):=by rw[aU Z Z];omega
 have w2:i64.wrap (Int.tdiv ((z-a:Nat):Int) 4)=(((z-a)/4:Nat):Int):=by rw[Int.tdiv_eq_ediv_of_nonneg Z];exact aU Z Z
 have hq:3<=(z-a)/4/\4*((z-a)/4)<=z-a:=Z;have c1:((8:Int)<=((z-a:Nat):Int))=True:=dy;have c2:((50:Int)<=((z-a:Nat):Int))=False:=cR;generalize (z-a)/4=q at*;have w3:i64.wrap ((q:Int)*1)=(q:Int):=by rw[aU Z Z];omega
 have w4:i64.wrap ((q:Int)*2)=((2*q:Nat):Int):=by rw[aU Z Z];omega
 have w5:i64.wrap ((q:Int)*3)=((3*q:Nat):Int):=by rw[aU Z Z];omega
 have w6:i64.wrap ((a:Int)+q)=((a+q:Nat):Int):=by rw[aU Z Z];omega
 have w7:i64.wrap ((a:Int)+(2*q:Nat))=((a+2*q:Nat):Int):=by rw[aU Z Z];omega
 have w8:i64.wrap ((a:Int)+(3*q:Nat))=((a+3*q:Nat):Int):=by rw[aU Z Z];omega
 have v1:i64.wrap (0+1)=1:=aZ;have v2:i64.wrap (1+1)=2:=aZ;have v3:i64.wrap (2+1)=3:=aZ;have e1:((1:Int)=0)=False:=by simp
 have e2:((2:Int)=0)=False:=by simp
 have e3:((3:Int)=0)=False:=by simp
 have e4:((1:Int)=12)=False:=by simp
 have e5:((2:Int)=12)=False:=by simp
 have e6:((3:Int)=12)=False:=by simp
 obtain⟨I,hI⟩:∃I,I=a+q:=⟨_,rfl⟩;obtain⟨J,hJ⟩:∃I,I=a+2*q:=⟨_,rfl⟩;obtain⟨K3,S7⟩:∃I,I=a+3*q:=⟨_,rfl⟩;rw[<-hI]at w6;rw[<-hJ]at w7;rw[<-S7]at w8;have i1:decide (I<N)=true:=by simp;omega
 have i2:decide (J<N)=true:=by simp;omega
 have i3:decide (K3<N)=true:=by simp;omega
 have gb:=λl=>hb.bx l
 have jE:=dP.rg (L:=L) (C:=cK) (w:=1) aZ (λ_=>rfl) (i:=I) Z;have jT:=dP.rg (L:=L) (C:=cK) (w:=1) aZ (λ_=>rfl) (i:=J) Z;have rr3:=dP.rg (L:=L) (C:=cK) (w:=1) aZ (λ_=>rfl) (i:=K3) Z;simp only[cK]at jE jT rr3;have ls:=λ(x y:Nat) m=>Hb j (gt L x) (gt L y) m
 refine aD (gX w1 w2 w3 w4 w5 w6 w7 w8 c1 c2 v1 (gX v2 v3 e1 e2 e3 e4 e5 e6 i1 i2 i3 (Z8 gb jE jT rr3 (@aJ 289 _ rfl aZ) (@aJ 317 _ rfl aZ) @mZ ls))) ?_;(repeat' first|apply And.intro|intro _)<;>exact⟨_,_,⟨rfl,rfl⟩,Z,Z,by simp⟩
theorem AlB(lg d:List Nat){b a z N:Nat}{L:List Int}(hb:dP 1 cK h b L)(hN:L.length=N)(ha:a<z/\z<=N)(hn:N<=16)(q_:31<=j:=by omega):
 Wa FT MT (SM j) (n+3000) (.fn 229) [.slice b 0 N none,Ei a,Ei z] ⟨aR h [],lg,d⟩ (Qk ⟨h,lg,d⟩ (λw _=>∃t:Bool,w=.bool t/\(t=true->mO id a z L))):=by
 refine aI ?_;have w0:i64.wrap ((a:Int)+1)=((a+1:Nat):Int):=by rw[aU Z Z];omega
 have Yn:i64.wrap ((z:Int)-a)=((z-a:Nat):Int):=by rw[aU Z Z];omega
 have c0:(((z-a:Nat):Int)<50)=True:=dy;refine aW w0 ?_;refine dV 1 [X8,X7] (λk=>[Ei 0,Ei ((a+1:Nat):Int)]) (λk m=>aY ⟨h,lg,[]⟩ m/\k=0) Z aX ⟨rfl,aY.refl _,rfl⟩ (λk m g hk hP=>?_) (λm g hP=>absurd hP.2 Z);obtain⟨h3,dH,d3⟩:=m;obtain⟨k3,rfl⟩:=hP;obtain rfl:d3=[]:=k3.aV;refine bH ?_;refine aW (show((0:Int)<5)=True from dy) ?_;refine Dc (α:=Nat) 2 [X7] (λi=>[Ei (i:Nat)]) (λi m=>aY ⟨h,lg,[]⟩ m/\i<=z/\∀q,a<q->q<i->¬id (gt L q)<id (gt L (q-1))) aX ?_ (λi h' bq d' g hP=>?_)
 .refine dV (z+1) [X7] (λk=>[Ei ((a+1+k:Nat):Int)]) (λk m=>aY ⟨h,lg,[]⟩ m/\a+1+k<=z/\∀q,a<q->q<a+1+k->¬id (gt L q)<id (gt L (q-1))) Z aX ⟨rfl,k3,Z,λq h1 h2=>Z⟩ (λk m g hk hP=>?_) (λm g hP=>absurd hP.2.1 Z);obtain⟨h4,fi,d4⟩:=m;obtain⟨k4,iz,Al7⟩:=hP;obtain rfl:d4=[]:=k4.aV;refine bH ?_;by_cases ij:a+1+k<z
  .have c1:(((a+1+k:Nat):Int)<(z:Int))=True:=dy;have w1:i64.wrap (((a+1+k:Nat):Int)+1)=((a+1+(k+1):Nat):Int):=by rw[aU Z Z];omega
   have w2:i64.wrap (((a+1+k:Nat):Int)-1)=((a+k:Nat):Int):=by rw[aU Z Z];omega
   have B4:dP 1 cK h4 b L:=(k4.get b (ag hb)).trans hb;have gb:=λl=>B4.bx l
   have i1:decide (a+1+k<N)=true:=by simp;omega
   have i2:decide (a+k<N)=true:=by simp;omega
   have jE:=dP.rg (L:=L) (C:=cK) (w:=1) aZ (λ_=>rfl) (i:=a+1+k) Z;have jT:=dP.rg (L:=L) (C:=cK) (w:=1) aZ (λ_=>rfl) (i:=a+k) Z;simp only[cK]at jE jT;have ls:=λm=>Hb j (gt L (a+1+k)) (gt L (a+k)) m
   refine aD (gX c1 w1 w2 i1 i2 gb jE jT @Ef @Pf @Pg ls) ?_;exact⟨λc=>⟨k4,Z,λq h1 h2=>(by
    by_cases e:q=a+1+k
    .rw[e,show a+1+k-1=a+k by omega];exact c
    .exact Al7 q h1 Z)⟩,λc=>⟨a+1+k,rfl,k4,Z,Al7⟩⟩
  .have c1:(((a+1+k:Nat):Int)<(z:Int))=False:=cR;refine aW (Z2 c1 @Ef) ?_;exact⟨a+1+k,rfl,k4,iz,Al7⟩
 .obtain rfl:d'=[]:=hP.1.aV;obtain⟨k4,iz,Al7⟩:=hP;by_cases e:i=z
  .have c1:((i:Int)=(z:Int))=True:=dy;subst e;refine aW @mZ ?_;exact⟨k4.sub,true,rfl,λ_=>CI Al7⟩
  .have c1:((i:Int)=(z:Int))=False:=cR;refine aW (Z4 c1 Yn c0 @mZ) ?_;exact⟨k4.sub,false,rfl,λh=>(by cases h)⟩
theorem AlC(lg d:List Nat){b a z N:Nat}{L:List Int}(hb:dP 1 cK h b L)(hN:L.length=N)(ha:a+13<=z/\z<=a+15/\z<=N)(hn:N<=16)(q_:31<=j/\30<=j:=by omega):
 Wa FT MT (SM j) (n+3000) (.fn 226) [.slice b 0 N none,Ei a,Ei z] ⟨aR h [],lg,d⟩ (Qc b ⟨h,lg,d⟩ (λ_ h'=>∃L',dP 1 cK h' b L'/\Mv a z L L')):=by
 refine aI ?_;have w1:i64.wrap ((z:Int)-a)=((z-a:Nat):Int):=by rw[aU Z Z];omega
 have w2:i64.wrap (Int.tdiv ((z-a:Nat):Int) 4)=3:=by rw[Int.tdiv_eq_ediv_of_nonneg Z,aU Z Z];omega
 have w4:i64.wrap ((a:Int)+6)=((a+6:Nat):Int):=by rw[aU Z Z];omega
 have w5:i64.wrap (((a+6:Nat):Int)-1)=((a+5:Nat):Int):=by rw[aU Z Z];omega
 have w6:i64.wrap (((a+6:Nat):Int)+1)=((a+7:Nat):Int):=by rw[aU Z Z];omega
 have c1:((8:Int)<=((z-a:Nat):Int))=True:=dy;have u1:u64.wrap ((z-a:Nat):Int)=((z-a:Nat):Int):=dB Z Z;have g1:=λm=>Qu j (z-a) m Z
 have e4:Rt (z-a)=4:=by
  simp only[Rt];repeat rw[aq Z]
  rw[aG Z]
 rw[e4]at g1;refine aW (Z8 w1 w2 w4 w5 c1 u1 g1 (@aJ 234 _ rfl aZ)) ?_;have HI:aj (aR h [(aO 1 [[Eu ((z-a:Nat):Int)]])]) (nb h 0)=(aO 1 [[Eu ((z-a:Nat):Int)]]):=by rw[bj];rfl
 have cb:nb h 0≠b:=by have:=ag hb;simp only[nb];omega
 refine dV 3 [X9] (λk=>[Ei ((a+5+k:Nat):Int)]) (λk m=>dG (·=b) ⟨h,lg,[]⟩ m/\∃L' x,dP 1 cK m.ah b L'/\Mv a z L L'/\aj m.ah (nb h 0)=(aO 1 [[Eu x]])) Z aX ⟨rfl,(aH aL).sy,L,_,hb.bx _,Mv.refl _ _ _,HI⟩ (λk m g hk hP=>?_) (λm g hP=>?_)
 .obtain⟨h3,dH,d3⟩:=m;obtain⟨k3,L3,x3,B3,m3,Yo⟩:=hP;obtain rfl:d3=[]:=k3.aV;simp only at B3 Yo;have c2:(((a+5+k:Nat):Int)<=((a+7:Nat):Int))=True:=dy;have w7:i64.wrap (((a+5+k:Nat):Int)+1)=((a+5+(k+1):Nat):Int):=by rw[aU Z Z];omega
  refine bH ?_;refine aW (Z4 c2 w2 w4 w6) ?_;rw[<-fZ];refine oQ (AgF j _ h3 dH [] Yo) (λw h4 fi k4 hw=>?_);obtain⟨x4,rfl,Tv⟩:=hw;obtain⟨r,D0,YD⟩:=Va x4;have wm1:u64.wrap (1*2^min 4 64)=16:=aZ;have wm2:u64.wrap 15=15:=aZ;have B4:dP 1 cK h4 b L3:=(k4.get b (ag B3) (Ne.symm cb)).trans B3;have l3:=m3.len;have k4':=k3.trans k4 (λx e=>.inr (by rw[e];simp only[nb];omega));have w8:i64.wrap ((r:Nat):Int)=(r:Int):=aU Z Z;have gb:=λl=>B4.bx l
  have o:=bg (ag B4);have i1:decide (a+5+k<N)=true:=by simp;omega
  have jE:=dP.rg (L:=L3) (C:=cK) (w:=1) aZ (λ_=>rfl) (i:=a+5+k) Z;simp only[cK]at jE;obtain⟨s,s1,s2⟩:∃s:Nat,s<z-a/\(s=if z-a<=r then r-(z-a)else r):=⟨_,by split<;>omega,rfl⟩;have w9:i64.wrap ((a:Int)+(s:Nat))=((a+s:Nat):Int):=by rw[aU Z Z];omega
  have i2:decide (a+s<N)=true:=by simp;omega
  have jE:=dP.rg (L:=L3) (C:=cK) (w:=1) aZ (λ_=>rfl) (i:=(a+5+k)) Z;have jT:=dP.rg (L:=L3) (C:=cK) (w:=1) aZ (λ_=>rfl) (i:=(a+s)) Z;have qv:=dP.rs (L:=L3) (C:=cK) (w:=1) aZ (λ_=>rfl) (i:=(a+5+k)) Z (gt L3 (a+s));have tJ:=dP.rs (L:=L3.set (a+5+k) (gt L3 (a+s))) (C:=cK) (w:=1) aZ (λ_=>rfl) (i:=(a+s)) (by rw[length_set];omega) (gt L3 (a+5+k));simp only[cK]at jE jT qv tJ;by_cases cr:z-a<=r
  .rw[aG cr]at s2;have c3:(((z-a:Nat):Int)<=(r:Int))=True:=dy;have w10:i64.wrap ((r:Int)-((z-a:Nat):Int))=(s:Int):=by rw[aU Z Z];omega
   refine aD (gX YD wm1 wm2 w7 w8 w9 w10 c3 i1 i2 gb (Z5 o jE jT qv tJ)) ?_;exact⟨k4'.trans (cD (P:=(·=b)) (ag B4) rfl _ _ (.cons (.inl rfl) (.cons (.inl rfl) .nil))) (λx e=>.inl e),sw L3 (a+5+k) (a+s),x4,B4.put _ _,m3.trans (Mv.sw Z Z Z),(bP (ag B4) (ag Tv) cb _ _).trans Tv⟩
  .rw[aq cr]at s2;subst s2;have c3:(((z-a:Nat):Int)<=(s:Int))=False:=cR;refine aD (gX YD wm1 wm2 w7 w8 w9 c3 i1 i2 gb o (Z4 jE jT qv tJ)) ?_;exact⟨k4'.trans (cD (P:=(·=b)) (ag B4) rfl _ _ (.cons (.inl rfl) (.cons (.inl rfl) .nil))) (λx e=>.inl e),sw L3 (a+5+k) (a+s),x4,B4.put _ _,m3.trans (Mv.sw Z Z Z),(bP (ag B4) (ag Tv) cb _ _).trans Tv⟩
 .obtain⟨h3,dH,d3⟩:=m;obtain⟨k3,L3,x3,B3,m3,Yo⟩:=hP;obtain rfl:d3=[]:=k3.aV;have c2:(((a+5+3:Nat):Int)<=((a+7:Nat):Int))=False:=cR;refine bH ?_;refine aW (Z4 c2 w2 w4 w6) ?_;exact⟨k3.sub,L3,B3,m3⟩
theorem KZ(lg d:List Nat){b a z N l:Nat}{L:List Int}(hb:dP 1 cK h b L)(hN:L.length=N)(ha:a<=z/\z<=N)(hs:z<=a+12)(hn:N<=16)(q_:31<=j:=by omega):
 Wa FT MT (SM j) (n+4000) (.fn 155) [.slice b 0 N none,Ei a,Ei z,Ei l] ⟨aR h [],lg,d⟩ (Qc b ⟨h,lg,d⟩ (λ_ h'=>∃L',dP 1 cK h' b L'/\Mv a z L L'/\mO id a z L')):=by
 refine aI ?_;have w1:i64.wrap ((z:Int)-a)=((z-a:Nat):Int):=by rw[aU Z Z];omega
 have c1:(((z-a:Nat):Int)<=12)=True:=dy;refine aS ?_;refine dV 1 [X2,X1,X3,X8,X9] (λk=>[Ei z,Ei a,Ei l,.bool true,.bool true]) (λk m=>dG (·=b) ⟨h,lg,[]⟩ m/\dP 1 cK m.ah b L/\k=0) Z aX ⟨rfl,dG.refl _ _,hb,rfl⟩ (λk m g hk hP=>?_) (λm g hP=>absurd hP.2.2 Z);obtain⟨h3,dH,d3⟩:=m;obtain⟨k3,B3,rfl⟩:=hP;obtain rfl:d3=[]:=k3.aV;refine bH ?_;refine aW (Z2 w1 c1) ?_;rw[<-fZ];refine oQ (AgG j _ h3 dH [] B3 hN ha Z) (λw h4 fi k4 hw=>?_);obtain⟨L4,B4,m4,Al7⟩:=hw;refine aS ?_;exact⟨(k3.trans k4 (λx e=>.inl e)).sub,L4,B4,m4,Al7⟩
theorem AlD(lg d:List Nat){b N l:Nat}{L:List Int}(hb:dP 1 cK h b L)(hN:L.length=N)(hn:N<=16)(hd:(L.map id).Nodup)(hl:N<=12\/4<=l)(PW:l<=5)(q_:31<=j/\30<=j:=by omega):
 Wa FT MT (SM j) (n+8000) (.fn 155) [.slice b 0 N none,Ei 0,Ei N,Ei l] ⟨aR h [],lg,d⟩ (Qc b ⟨h,lg,d⟩ (λ_ h'=>∃L',dP 1 cK h' b L'/\L'.Perm L/\mO id 0 N L')):=by
 refine aI ?_;refine aS ?_;refine dz (α:=Nat×Nat×Nat×Bool×Bool×List Int) (N+1) [X2,X1,X3,X8,X9] (λk x=>[Ei (x.2.1:Nat),Ei (x.1:Nat),Ei (x.2.2.1:Nat),.bool x.2.2.2.1,.bool x.2.2.2.2.1]) (λk x m=>dG (·=b) ⟨h,lg,[]⟩ m/\dP 1 cK m.ah b x.2.2.2.2.2/\EY id N x.1 x.2.1 L x.2.2.2.2.2/\(N<=12\/4<=x.2.2.1+k)/\x.2.2.1<=5/\x.2.1-x.1+k<=N/\(x.2.2.2.1=false->1<=k)) Z aX ⟨(0,N,l,true,true,L),rfl,dG.refl _ _,hb,by subst hN;exact EY.start,by simpa using hl,PW,by simp,by simp⟩ (λk x m g hk hP=>?_) (λx m g hP=>absurd hP.2.2.2.2.2.1 Z);obtain⟨h7,MX,d3⟩:=m;obtain⟨a,z,lq,t1,t2,L9⟩:=x;obtain⟨k7,B7,P7,Yp,Qv,hzk,VP⟩:=hP;obtain rfl:d3=[]:=k7.aV;simp only at B7 P7 Yp Qv hzk VP;have pa:=P7.ab;have pb:=P7.bn;have l7:=P7.mv.len;have w1:i64.wrap ((z:Int)-a)=((z-a:Nat):Int):=by rw[aU Z Z];omega
 refine bH ?_;by_cases c12:z-a<=12
 .have c1:(((z-a:Nat):Int)<=12)=True:=dy;refine aW (Z2 w1 c1) ?_;rw[<-fZ];refine oQ (AgG j _ h7 MX [] B7 Z ⟨pa,pb⟩ Z) (λw h4 fi k4 hw=>?_);obtain⟨L4,B4,m4,Al7⟩:=hw;refine aS ?_;exact⟨(k7.trans k4 (λx e=>.inl e)).sub,L4,B4,(P7.move m4).mv.sq,(P7.move m4).EZ Al7⟩
 .have c1:(((z-a:Nat):Int)<=12)=False:=cR;have c2:((lq:Int)=0)=False:=cR;have w2:i64.wrap ((lq:Int)-1)=((lq-1:Nat):Int):=by rw[aU Z Z];omega
  cases t1;case' false=>
   have k1:=VP rfl;refine aW (Z3 w1 c1 c2) ?_;rw[<-fZ];refine oQ (AlC j _ h7 MX [] B7 Z Z hn) (λw h4 fi k4 hw=>?_);obtain⟨L9,B8,m8⟩:=hw;have k8:=k7.trans k4 (λx e=>.inl e);have P9:=P7.move m8;have l9:=P9.mv.len;obtain⟨lq,Qw,Qx,el⟩:∃GM:Nat,(N<=12\/4<=GM+(k+1))/\GM<=5/\GM=lq-1:=⟨_,Z,Z,rfl⟩;rw[<-el]at w2;refine aW w2 ?_;rw[<-fZ];refine fK (AgI j _ h4 fi [] B8 Z Z hn) (λw h9 IY k9 hw=>?_);obtain⟨p,x,rfl,p1,p2,hx⟩:=hw;have Fy:=k8.trans (aY.sy (P:=(·=b)) k9) (λx e=>.inl e);have B9:dP 1 cK h9 b L9:=(k9.get b (ag B8)).trans B8;have x2:(x=2)=False:=cR;have x1:=x2
  case' true=>
   refine aW (Z3 w1 c1 c2) ?_;rw[<-fZ];refine fK (AgI j _ h7 MX [] B7 Z Z hn) (λw h9 IY k8 hw=>?_);obtain⟨p,x,rfl,p1,p2,hx⟩:=hw;have Fy:=k7.trans (aY.sy (P:=(·=b)) k8) (λx e=>.inl e);have B9:dP 1 cK h9 b L9:=(k8.get b (ag B7)).trans B7;have P9:=P7;have Qw:N<=12\/4<=lq+(k+1):=Z;have Qx:=Qv;have x2:(x=2)=False:=cR;by_cases tx:t2=true/\x=1;case' pos=>
    obtain⟨rfl,rfl⟩:=tx;refine aW x2 ?_;rw[<-fZ];refine fK (AlB j _ h9 IY [] B9 Z Z hn) (λw h9 IY k9 hw=>?_);obtain⟨tt,rfl,Al7⟩:=hw;have Fy:=Fy.trans (aY.sy (P:=(·=b)) k9) (λx e=>.inl e);have B9:dP 1 cK h9 b L9:=(k9.get b (ag B9)).trans B9;cases tt;case true=>
     refine aS ?_;exact⟨Fy.sub,L9,B9,P9.mv.sq,P9.EZ (Al7 rfl)⟩
    case' false=>have x1:=x2
   case' neg=>
    cases t2;case' false=>have x1:=x2
    case' true=>have x1:(x=1)=False:=eq_false (λe=>tx ⟨rfl,e⟩)
  all_goals
   have gb:=λl=>B9.bx l
   have i1:decide (p<N)=true:=by simp;omega
   have i2:decide (a-1<N)=true:=by simp;omega
   have jE:=dP.rg (L:=L9) (C:=cK) (w:=1) aZ (λ_=>rfl) (i:=p) Z;have jT:=dP.rg (L:=L9) (C:=cK) (w:=1) aZ (λ_=>rfl) (i:=(a-1)) Z;simp only[cK]at jE jT;have ls:=λm=>Hb j (gt L9 (a-1)) (gt L9 (p)) m
   have c3:((0:Int)<(a:Int))=True\/(((0:Int)<(a:Int))=False/\a=0):=by
    by_cases a0:a=0
    .exact .inr ⟨cR,a0⟩
    .exact .inl dy
   rcases c3 with c3|⟨c3,a0⟩
   rotate_left
   .refine aW (Z3 x1 x2 c3) ?_;rw[<-fZ];refine oQ (AgH j _ h9 IY [] B9 Z Z ⟨p1,p2⟩ Z) (λw Mi CJ Yq hw=>?_);obtain⟨q,t,L10,rfl,JY,Qy,pt⟩:=hw;have IZ:=Fy.trans Yq (λx e=>.inl e);have CL:=P9.move Qy;have l10:=Qy.len;have q1:=pt.h1;have q2:=pt.h2;have w5:i64.wrap ((q:Int)-a)=((q-a:Nat):Int):=by rw[aU Z Z];omega
    have w6:i64.wrap ((z:Int)-q)=((z-q:Nat):Int):=by rw[aU Z Z];omega
    have w7:i64.wrap (Int.tdiv ((z-a:Nat):Int) 8)=(((z-a)/8:Nat):Int):=by rw[Int.tdiv_eq_ediv_of_nonneg Z];exact aU Z Z
    have w8:i64.wrap ((q:Int)+1)=((q+1:Nat):Int):=by rw[aU Z Z];omega
    by_cases cs:q-a<z-q
    .have c5:(((q-a:Nat):Int)<((z-q:Nat):Int))=True:=dy;refine aW (Z4 w5 w6 w7 c5) ?_;rw[<-fZ];refine oQ (KZ j _ Mi CJ [] JY Z Z Z hn) (λw Yr I3 I4 hw=>?_);obtain⟨I5,Fs,I6,Al7⟩:=hw;refine aW w8 ?_;exact⟨(q+1,z,lq,_,t,I5),⟨rfl,rfl,rfl,rfl,rfl⟩,IZ.trans I4 (λx e=>.inl e),Fs,CL.left pt I6 Al7,Qw,Qx,by simp only;omega⟩
    .have c5:(((q-a:Nat):Int)<((z-q:Nat):Int))=False:=cR;refine aW (Z5 w5 w6 w7 w8 c5) ?_;rw[<-fZ];refine oQ (KZ j _ Mi CJ [] JY Z Z Z hn) (λw Yr I3 I4 hw=>?_);obtain⟨I5,Fs,I6,Al7⟩:=hw;refine aS ?_;exact⟨(a,q,lq,_,t,I5),⟨rfl,rfl,rfl,rfl,rfl⟩,IZ.trans I4 (λx e=>.inl e),Fs,CL.right pt I6 Al7,Qw,Qx,by simp only;omega⟩
   .have a0:0<a:=by have:=of_eq_true c3;omega
    have w3:i64.wrap ((a:Int)-1)=((a-1:Nat):Int):=by rw[aU Z Z];omega
    have c4:(gt L9 (a-1)<gt L9 (p))=True:=eq_true (P9.lt hd Z Z);refine aD (xq x1 x2 c3 c4 w3 gb jE jT i1 i2 ls) ?_;rw[<-fZ];refine oQ (AgH j _ h9 IY [] B9 Z Z ⟨p1,p2⟩ Z) (λw Mi CJ Yq hw=>?_);obtain⟨q,t,L10,rfl,JY,Qy,pt⟩:=hw;have IZ:=Fy.trans Yq (λx e=>.inl e);have CL:=P9.move Qy;have l10:=Qy.len;have q1:=pt.h1;have q2:=pt.h2;have w5:i64.wrap ((q:Int)-a)=((q-a:Nat):Int):=by rw[aU Z Z];omega
    have w6:i64.wrap ((z:Int)-q)=((z-q:Nat):Int):=by rw[aU Z Z];omega
    have w7:i64.wrap (Int.tdiv ((z-a:Nat):Int) 8)=(((z-a)/8:Nat):Int):=by rw[Int.tdiv_eq_ediv_of_nonneg Z];exact aU Z Z
    have w8:i64.wrap ((q:Int)+1)=((q+1:Nat):Int):=by rw[aU Z Z];omega
    by_cases cs:q-a<z-q
    .have c5:(((q-a:Nat):Int)<((z-q:Nat):Int))=True:=dy;refine aW (Z4 w5 w6 w7 c5) ?_;rw[<-fZ];refine oQ (KZ j _ Mi CJ [] JY Z Z Z hn) (λw Yr I3 I4 hw=>?_);obtain⟨I5,Fs,I6,Al7⟩:=hw;refine aW w8 ?_;exact⟨(q+1,z,lq,_,t,I5),⟨rfl,rfl,rfl,rfl,rfl⟩,IZ.trans I4 (λx e=>.inl e),Fs,CL.left pt I6 Al7,Qw,Qx,by simp only;omega⟩
    .have c5:(((q-a:Nat):Int)<((z-q:Nat):Int))=False:=cR;refine aW (Z5 w5 w6 w7 w8 c5) ?_;rw[<-fZ];refine oQ (KZ j _ Mi CJ [] JY Z Z Z hn) (λw Yr I3 I4 hw=>?_);obtain⟨I5,Fs,I6,Al7⟩:=hw;refine aS ?_;exact⟨(a,q,lq,_,t,I5),⟨rfl,rfl,rfl,rfl,rfl⟩,IZ.trans I4 (λx e=>.inl e),Fs,CL.right pt I6 Al7,Qw,Qx,by simp only;omega⟩
end Go.Abs
end
