/- Functions of the program on symbolic values
   Conditions: none. -/
import Derived.Test.YteeknodhjojhhaaGreatDoorPh
set_option linter.unusedSimpArgs false
set_option linter.unusedVariables false
set_option maxRecDepth 100000
set_option maxHeartbeats 16000000
noncomputable section
namespace Go.Abs
open List Option IntKind
variable(j n:Nat)(h:aN)
def kE(D:kG)(l:List bF):Int:=if dU D≠0 then dU D else(eA l).1
def TG(D:kG)(l:List bF):List (Int×Int):=if kE D l=0 then xF l D.cA D.bu D.bu.length else[]
theorem AlR{D:kG}{l:List bF}(h:kE D l=0):dU D=0:=by
 rw[kE]at h;split at h
 .rename_i c;exact absurd h c
 .rename_i c;exact Decidable.not_not.1 c
theorem TH(D:kG)(l:List bF):(TG D l).length<=300:=by
 rw[TG];split
 .rename_i c;have h1:=v7 l D.cA D.bu D.bu.length;have h2:=(fV (AlR c)).1;have:=Nat.mul_le_mul h2 h2;omega
 .simp
theorem WtQ.Dq{h:aN}{D:kG}{l:List bF}{w:AV}{h':aN}(H:WtQ h D l w h'):∃u,w=.tuple [u,Ei (kE D l)]/\aT h' 2 u ((TG D l).map I9):=by
 obtain⟨u,⟨hz,rfl,rfl⟩|⟨hz,hp,rfl,rfl⟩|⟨hz,hp,rfl,ou⟩⟩:=H
 .have e:kE D l=dU D:=aG hz;exact⟨_,by rw[e],by rw[TG,e,aq hz];exact .none rfl (.inl rfl)⟩
 .have e:kE D l=(eA l).1:=aq (by rw[hz];simp);exact⟨_,by rw[e],by rw[TG,e,aq hp];exact .none rfl (.inl rfl)⟩
 .have e:kE D l=0:=(aq (by rw[hz];simp)).trans hp;exact⟨_,by rw[e],by rw[TG,aG e];exact ou.sl⟩
theorem Ll{M M':Nat->Nat->Bool}(h:∀a b,1<=a/\a<17->1<=b/\b<17->M a b=M' a b){i:Nat}(hi:1<=i/\i<17):∀k,k<=16->Av M i k=Av M' i k
 |0,_=>rfl
 |k+1,hk=>by
  rw[Av,Av,Ll h hi k Z,h i (k+1) hi Z,h (k+1) i Z hi]
theorem Hk{M M':Nat->Nat->Bool}(h:∀a b,1<=a/\a<17->1<=b/\b<17->M a b=M' a b):∀k,k<=16->rD M k=rD M' k
 |0,_=>rfl
 |k+1,hk=>by
  rw[rD,rD,Hk h k Z,Ll h (i:=k+1) Z 16 cB]
theorem AQ.iff{L:List (Int×Int)}{M:Nat->Nat->Bool}(W:AQ L 16 1 1 M){a b:Nat}(ha:1<=a/\a<17)(hb:1<=b/\b<17):M a b=true↔Pk (Fz L) 16 a b:=⟨W.s a b Z Z,W.c a b ha hb⟩
def ktL(D:kG)(l:List bF):List (List Nat):=by classical exact if kE D l=0 then rD (λa b=>decide (Pk (Fz (xF l D.cA D.bu D.bu.length)) 16 a b)) 16 else[]
theorem KtQ.Dq{h:aN}{D:kG}{l:List bF}{w:AV}{h':aN}(H:KtQ h D l w h'):∃(u:AV) (xs:List qb),w=.tuple [u,Ei (kE D l)]/\aT h' 1 u (xs.map zb)/\(∀y∈xs,K9 h' y)/\xs.map (·.l)=ktL D l:=by
 obtain⟨u,xs,M,c,ou,ka⟩:=H;refine⟨u,xs,?_,ou.sl,ka,?_⟩
 .rcases c with⟨hz,rfl,rfl,rfl⟩|⟨hz,hp,rfl,rfl,rfl⟩|⟨hz,hp,rfl,_,_⟩
  .rw[show kE D l=dU D from aG hz]
  .rw[show kE D l=(eA l).1 from aq (by rw[hz];simp)]
  .rw[show kE D l=0 from(aq (by rw[hz];simp)).trans hp]
 .rw[ktL];rcases c with⟨hz,rfl,rfl,rfl⟩|⟨hz,hp,rfl,rfl,rfl⟩|⟨hz,hp,rfl,W,e⟩
  .have e:kE D l=dU D:=aG hz;rw[aq (show¬kE D l=0 by rw[e];exact hz)];rfl
  .have e:kE D l=(eA l).1:=aq (by rw[hz];simp);rw[aq (show¬kE D l=0 by rw[e];exact hp)];rfl
  .have e0:kE D l=0:=(aq (by rw[hz];simp)).trans hp;rw[aG e0,e];refine Hk (λa b ha hb=>?_) 16 cB;classical
   rw[Bool.eq_iff_iff,W.iff ha hb,decide_eq_true_iff]
theorem TI(D:kG)(l:List bF):(ktL D l).length<=16:=by
 rw[ktL];split
 .exact CO _ 16
 .simp
theorem Lm{x:iF}:∀{l m:List LX},l.map (·.l)=m.map (·.l)->za x l=za x m
 |[],[],_=>rfl
 |[],_::_,h=>by cases h
 |_::_,[],h=>by cases h
 |a::l,b::m,h=>by
  obtain⟨h1,h2⟩:=List.cons.inj (show a.l::l.map (·.l)=b.l::m.map (·.l)from h);rw[za,za,h1,Lm h2]
theorem QQ{D:kG}(hz:dU D=0)(x:iF):(mT D.bu x).length<=1000:=by
 rw[<-QP hz,na];have:=(fV hz).1;exact bK (length_filterMap_le _ _) Z
structure Nd(cx ci co:Nat)(s s':cE)(x:iF)(l:List bF)(v p:AV)(h:aN):Prop where
 g:aj h 0=some (.row false 1 fM)
 c:aj h 1=some (.row false 1 uZ)
 z:aj h cx=(aO 3 [cJ s])
 i:aj h ci=(aO 3 [gQ x])
 y:aj h co=(aO 3 [cJ s'])
 R:iM h s
 R':iM h s'
 v:aT h 6 v (l.map bY)
 p:aT h 6 p (l.map bY)
theorem Nd.bw{cx ci co:Nat}{s s':cE}{x:iF}{l:List bF}{v p:AV}{h h':aN}{lg bq d:List Nat}(H:Nd cx ci co s s' x l v p h)(k:aY ⟨h,lg,d⟩ ⟨h',bq,d⟩):Nd cx ci co s s' x l v p h':=
 ⟨(k.get _ (ag H.g)).trans H.g,(k.get _ (ag H.c)).trans H.c,(k.get _ (ag H.z)).trans H.z,(k.get _ (ag H.i)).trans H.i,(k.get _ (ag H.y)).trans H.y,iM.bw (m:=⟨h,lg,d⟩) (m':=⟨h',bq,d⟩) H.R k,iM.bw (m:=⟨h,lg,d⟩) (m':=⟨h',bq,d⟩) H.R' k,aT.bw (m:=⟨h,lg,d⟩) (m':=⟨h',bq,d⟩) H.v k,aT.bw (m:=⟨h,lg,d⟩) (m':=⟨h',bq,d⟩) H.p k⟩
theorem Nd.rd{cx ci co:Nat}{s s':cE}{x:iF}{l:List bF}{v p:AV}{h:aN}(H:Nd cx ci co s s' x l v p h):(∀q,aj (aR h q) cx=(aO 3 [[Ei s.cA,s.nv,s.lv]]))/\(∀q,aj (aR h q) ci=(aO 3 [[Ei x.n,Eu x.s,Ei x.o]]))/\(∀q,aj (aR h q) co=(aO 3 [[Ei s'.cA,s'.nv,s'.lv]])):=
 ⟨λq=>(an q h _ (ag H.z)).trans H.z,λq=>(an q h _ (ag H.i)).trans H.i,λq=>(an q h _ (ag H.y)).trans H.y⟩
theorem N3(lg d:List Nat){s:cE}{x:iF}{l:List bF}{v:AV}(h0:aj h 0=some (.row false 1 fM))(h1:aj h 1=some (.row false 1 uZ))(R:iM h s)(he:∀x∈s.vs,wP x)(hn:∀x∈s.vs,PK x.v)(hv:aT h 6 v (l.map bY))(q_:346<=j):
 Wa FT MT (SM j) (n+400000) (.fn 3) [.agg (cJ s),.agg (gQ x),v] ⟨aR h [],lg,d⟩ (Qk ⟨h,lg,d⟩ λw _=>w=.bool true):=by
 refine aI ?_;have c1:=R.v.sc;have c2:=R.l.sc;have lv:=hv.len;rw[length_map]at lv;refine aW (Z4 @cJ.eq_1 @gQ.eq_1 c1 c2) ?_;rw[<-fZ];refine fK (N4 j _ (aR h [(aO 3 [cJ s]),(aO 3 [gQ x])]) _ _ s (R.bx _)) (λw h2 dx k2 og=>?_);obtain⟨b,rfl,C5⟩:=og;have kk:aY ⟨h,lg,d⟩ ⟨h2,dx,d⟩:=(aH aL).trans k2.sub;have z2:aj h2 (nb h 0)=(aO 3 [cJ s]):=(k2.get _ (by rw[bV];simp[nb])).trans bj;have i2:aj h2 (nb h 1)=(aO 3 [gQ x]):=(k2.get _ (by rw[bV];simp[nb])).trans bj;have b2:∀q,aj (aR h2 q) (nb h 0)=(aO 3 [[Ei s.cA,s.nv,s.lv]]):=λq=>(an q h2 _ (ag z2)).trans z2
 have Jw:aT h2 6 v (l.map bY):=aT.bw (m:=⟨h,lg,d⟩) (m':=⟨h2,dx,d⟩) hv kk;have Zp:aj h2 0=some (.row false 1 fM):=(kk.get 0 (ag h0)).trans h0;have Zq:aj h2 1=some (.row false 1 uZ):=(kk.get 1 (ag h1)).trans h1;have g5:=λq bq d'=>E5 j ⟨aR h2 q,bq,d'⟩ ((an q h2 _ (ag Zp)).trans Zp) ((an q h2 _ (ag Zq)).trans Zq)
 have done:∀q bq,dm h2 dx bq->Qk ⟨h,lg,d⟩ (λw _=>w=.bool true) (.bool true) ⟨aR h2 q,bq,d⟩:=λq bq hq=>⟨kk.trans (aH hq),rfl⟩
 by_cases hb:b=true
 .subst hb;have L:=C5 rfl;have G:=Tc hn he L;by_cases hNN:(30:Int)<(l.length:Int)
  .refine aW (Z3 g5 lv hNN) ?_;exact done _ _ aL
  .refine aW (Z3 b2 lv hNN) ?_;rw[<-fZ];have R2:iM h2 s:=iM.bw (m:=⟨h,lg,d⟩) (m':=⟨h2,dx,d⟩) R kk;have S2:=oO R2 he G;have N0:=PM he G;refine fK (N6 j _ h2 _ _ s S2 (XK he G)) (λw h3 dH k3 LB=>?_);obtain⟨s',rfl,ow,ed⟩:=LB;have C6:aT h3 6 v (l.map bY):=aT.bw (m:=⟨h2,dx,[]⟩) (m':=⟨h3,dH,[]⟩) Jw k3;have o1:=ow.v.sl.sc;have o2:=ow.l.sl.sc;refine aS ?_;rw[<-fZ];refine fK (N7 j _ h3 _ _ l v C6 Z) (λp h4 fi k4 Da=>?_);refine aW (Z3 @cJ.eq_1 o1 o2) ?_;have G':CA s'.d:=by rw[ed];exact G
   have Zr:=AfV ow;have O':=AfX ow;have N':=PM Zr G';have QR:aY ⟨h2,dx,[]⟩ ⟨h4,fi,[]⟩:=k3.trans k4;have M0:Nd (nb h 0) (nb h 1) (nb h4 0) s s' x l v p (aR h4 [(aO 3 [cJ s'])]):=
    ⟨(an _ h4 _ (ag ((QR.get 0 (ag Zp)).trans Zp))).trans ((QR.get 0 (ag Zp)).trans Zp),
     (an _ h4 _ (ag ((QR.get 1 (ag Zq)).trans Zq))).trans ((QR.get 1 (ag Zq)).trans Zq),
     (an _ h4 _ (ag ((QR.get _ (ag z2)).trans z2))).trans ((QR.get _ (ag z2)).trans z2),
     (an _ h4 _ (ag ((QR.get _ (ag i2)).trans i2))).trans ((QR.get _ (ag i2)).trans i2),bj,
     (iM.bw (m:=⟨h2,dx,[]⟩) (m':=⟨h4,fi,[]⟩) R2 QR).bx _,(iM.bw (m:=⟨h3,dH,[]⟩) (m':=⟨h4,fi,[]⟩) (AfW ow G') k4).bx _,
     (aT.bw (m:=⟨h2,dx,[]⟩) (m':=⟨h4,fi,[]⟩) Jw QR).bx _,Da.sl.bx _⟩
   have m0:=And.intro M0.z (And.intro M0.i M0.y);simp only[cJ,gQ]at m0;refine aW m0 ?_;rw[<-fZ];refine fK (N8 j _ (aR h4 [(aO 3 [cJ s'])]) _ _ (s:=s') (x:=x) (oO M0.R' Zr G')) (λw h5 jg k5 IU=>?_);obtain⟨va,rfl,sa⟩:=IU;have M5:=M0.bw k5;have r5:=M5.rd;refine aW r5 ?_;rw[<-fZ];refine fK (N9 j _ h5 _ _ (s:=s) (x:=x) (oO M5.R he G)) (λw h6 ux k6 hw6=>?_);obtain⟨vb,rfl,sb⟩:=hw6;have M6:=M5.bw k6;have r6:=M6.rd;have ec:AN s' x=AN s x:=by rw[AN,AN,ed]
   have en:za x s'.ls=za x s.ls:=Lm (show s'.ls.map (·.l)=s.ls.map (·.l)from congrArg kG.gV ed);have fs:∀y∈s.ls,∀f∈y.l.dh,f.length<=1300:=L.g;have fs':∀y∈s'.ls,∀f∈y.l.dh,f.length<=1300:=λy hy f hf=>by
    have m:y.l∈s'.d.gV:=List.mem_map_of_mem hy;rw[ed]at m;obtain⟨z,hz,e⟩:=mem_map.1 m;exact L.g z hz f (by rw[e];exact hf)
   have q10:=λq bq d'=>E10 j s' x ⟨aR h6 q,bq,d'⟩ ⟨_,(an q h6 _ (ag M6.g)).trans M6.g⟩ ⟨_,(an q h6 _ (ag M6.c)).trans M6.c⟩ ((oO M6.R' Zr G').bx q) fs'
   have q11:=λq bq d'=>E11 j s x ⟨aR h6 q,bq,d'⟩ ((oO M6.R he G).bx q) fs
   rw[ec,en]at q10;unfold cJ gQ at q10 q11;have ta:=aT.bw (m:=⟨h5,jg,[]⟩) (m':=⟨h6,ux,[]⟩) sa k6;rw[ec,ed]at ta;have eh:(if AN s x=0 then na s.d.bu x else[])=if AN s x=0 then mT s.d.bu x else[]:=by
    split
    .rename_i c;rw[AN]at c;split at c
     .rename_i z;rw[QP z]
     .rename_i z;exact absurd c z
    .rfl
   rw[eh]at ta;have l12:(if AN s x=0 then mT s.d.bu x else[]).length<=1000:=by
    split
    .rename_i c;rw[AN]at c;split at c
     .rename_i z;exact QQ z x
     .rename_i z;exact absurd c z
    .simp
   have q12:=λq bq d'=>E12 j _ va vb ⟨aR h6 q,bq,d'⟩ (aT.bx ta q) (sb.bx q) l12
   refine aW (Z5 r6 q10 q11 q12 ec) ?_;rw[<-fZ];refine fK (N13 j _ h6 _ _ (s:=s') M6.g O' (oO M6.R' Zr G') N' M6.p Z) (λw h7 MX k7 hw7=>?_);rw[ed]at hw7;obtain⟨vc,rfl,sc⟩:=hw7.Dq;have M7:=M6.bw k7;have r7:=M7.rd;refine aW r7 ?_;rw[<-fZ];refine fK (N14 j _ h7 _ _ (s:=s) (oO M7.R he G) N0 M7.v Z) (λw h8 Vj k8 S9=>?_);obtain⟨vd,rfl,sd⟩:=S9.Dq;have M8:=M7.bw k8;have tc:=aT.bw (m:=⟨h7,MX,[]⟩) (m':=⟨h8,Vj,[]⟩) sc k8;have lc:=tc.len;have ld:=sd.len;rw[length_map]at lc ld;have wl:=TH s.d l;refine aW (Z2 lc ld) ?_;have h3:(TG s.d l).length<n+399999:=Z;refine dV (TG s.d l).length [WV] (λi=>[Ei (i:Nat)]) (λi m=>aY ⟨h8,Vj,[]⟩ m) h3 aX ⟨rfl,aY.refl _⟩ (λi m g hi hP=>?_) (λm g hP=>?_)
   .obtain⟨h9,IY,d9⟩:=m;obtain rfl:d9=[]:=hP.aV;have e1:=(aT.bw (m:=⟨h8,Vj,[]⟩) (m':=⟨h9,IY,[]⟩) tc hP).el hi;have e2:=(aT.bw (m:=⟨h8,Vj,[]⟩) (m':=⟨h9,IY,[]⟩) sd hP).el hi;have r:=fh hi Z;unfold I9 at e1 e2;refine bH ?_;refine aW (Z4 e1 e2 r lc) ?_;exact hP
   .obtain⟨h9,IY,d9⟩:=m;obtain rfl:d9=[]:=hP.aV;have M9:=M8.bw hP;have r9:=M9.rd;have r:=cY (TG s.d l).length;refine bH ?_;refine aW (Z3 r lc r9) ?_;rw[<-fZ];refine fK (N15 j _ h9 _ _ (s:=s') M9.g O' (oO M9.R' Zr G') N' M9.p Z) (λw hA lgA kA hwA=>?_);rw[ed]at hwA;obtain⟨ve,xe,rfl,se,ke,le⟩:=hwA.Dq;have MA:=M9.bw kA;have rA:=MA.rd;refine aW rA ?_;rw[<-fZ];refine fK (Zf j _ hA _ _ (s:=s) (oO MA.R he G) N0 MA.v Z) (λw hB lgB kB hwB=>?_);obtain⟨vf,xf,rfl,sf,kf,lf⟩:=hwB.Dq;have MB:=MA.bw kB;have rB:=MB.rd;have te:=aT.bw (m:=⟨hA,lgA,[]⟩) (m':=⟨hB,lgB,[]⟩) se kB;have ke':∀y∈xe,K9 hB y:=λy hy=>⟨aT.bw (m:=⟨hA,lgA,[]⟩) (m':=⟨hB,lgB,[]⟩) (ke y hy).1 kB,(ke y hy).2⟩
    have xl:xe.length<=1000:=by
     have e:xe.length=(ktL s.d l).length:=by rw[<-le,length_map]
     have:=TI s.d l;omega
    have S18:uf hB s' s:=Td MB.R' MB.R Zr he ed G;have q17:=λq bq d'=>E17 j xe xf ve vf ⟨aR hB q,bq,d'⟩ (te.bx q) (sf.bx q) (λy hy=>⟨(ke' y hy).1.bx q,(ke' y hy).2⟩) (λy hy=>⟨(kf y hy).1.bx q,(kf y hy).2⟩) (le.trans lf.symm) xl
    have q18:=λq bq d'=>E18 j s' s ⟨aR hB q,bq,d'⟩ (S18.bx q)
    have q19:=λq bq d'=>E19 j l p v ⟨aR hB q,bq,d'⟩ (MB.p.bx q) (MB.v.bx q) Z
    have q5:=λq bq d'=>E5 j ⟨aR hB q,bq,d'⟩ ((an q hB _ (ag MB.g)).trans MB.g) ((an q hB _ (ag MB.c)).trans MB.c)
    unfold cJ at q18;refine aW (Z5 rB q17 q18 q19 q5) ?_;exact⟨(((((((((((aH aL:aY ⟨h,lg,[]⟩ ⟨aR h [(aO 3 [cJ s]),(aO 3 [gQ x])],_,[]⟩).trans k2).trans QR).trans (aH aL)).trans k5).trans k6).trans k7).trans k8).trans hP).trans kA).trans kB).sub,rfl⟩
 .obtain rfl:b=false:=by simpa using hb
  refine aW g5 ?_;exact done _ _ aL
end Go.Abs
end
