/- Functions of the program on symbolic values
   Conditions: none. -/
import Derived.Test.YteeknodhjojhhaaGreatDoorPf
set_option linter.unusedSimpArgs false
set_option linter.unusedVariables false
set_option maxRecDepth 100000
set_option maxHeartbeats 16000000
noncomputable section
namespace Go.Abs
open List Option IntKind
variable(j n:Nat)(h:aN)
theorem ig.ko{h h':aN}{lg bq d d':List Nat}{b:Nat}{L:List kT}{x:kT}(H:ig h x)(hb:dP 2 dW h b L)(k:dG (·=b) ⟨h,lg,d⟩ ⟨h',bq,d'⟩):ig h' x:=⟨aT.sy (m:=⟨h,lg,d⟩) (m':=⟨h',bq,d'⟩) H.s k (H.s.gz hb aZ),H.l⟩
theorem AgJ(lg d:List Nat){b a z N:Nat}{L:List kT}(hb:dP 2 dW h b L)(hN:L.length=N)(ha:a<=z/\z<=N)(hn:N<=1000)(hr:∀x∈L,ig h x){K:kT->Int}(hK:∀x∈L,∀y∈L,(eF x.r y.r<0↔K x<K y))(q_:190<=j:=by omega):
 Wa FT MT (SM j) (n+3000) (.fn 334) [.slice b 0 N none,Ei a,Ei z,.func 310 [] []] ⟨aR h [],lg,d⟩ (Qc b ⟨h,lg,d⟩ (λ_ h'=>∃L',dP 2 dW h' b L'/\Mv a z L L'/\mO K a z L')):=by
 refine aI ?_;have w0:i64.wrap ((a:Int)+1)=((a+1:Nat):Int):=by rw[aU Z Z];omega
 refine aW w0 ?_;refine dz (α:=List kT) (z-(a+1)) [X8] (λi _=>[Ei ((a+1+i:Nat):Int)]) (λi L' m=>dG (·=b) ⟨h,lg,[]⟩ m/\dP 2 dW m.ah b L'/\Mv a z L L'/\mO K a (a+1+i) L') Z aX ⟨L,rfl,dG.refl _ _,hb,Mv.refl _ _ _,λp q h1 h2 h3=>Z⟩ (λi L1 m g hi hP=>?_) (λL1 m g hP=>?_)
 .obtain⟨h3,dH,d3⟩:=m;obtain⟨kk,B,mv,Al7⟩:=hP;obtain rfl:d3=[]:=kk.aV;simp only at B;have il:(((a+1+i:Nat):Int)<(z:Int))=True:=dy;have w1:i64.wrap (((a+1+i:Nat):Int)+1)=((a+1+(i+1):Nat):Int):=by rw[aU Z Z];omega
  refine bH ?_;refine aW il ?_;refine dz (α:=Nat×List kT) (1+i) [X9] (λ_ x=>[Ei x.1]) (λk x m=>dG (·=b) ⟨h,lg,[]⟩ m/\dP 2 dW m.ah b x.2/\Mv a z L x.2/\zH K a (a+1+i) x.1 x.2/\x.1+k=a+1+i) Z aX ⟨(a+1+i,L1),rfl,kk,B,mv,zH.start Al7,Z⟩ (λk x m g hk hQ=>?_) (λx m g hQ=>?_)
  .obtain⟨h4,fi,d4⟩:=m;obtain⟨jj,L2⟩:=x;obtain⟨k4,B4,ru,ip,jk⟩:=hQ;obtain rfl:d4=[]:=k4.aV;simp only at B4 ru ip jk;have e4:=ru.len;have jl:jj<L2.length:=Z;have jm:jj-1<L2.length:=Z;have c1:((a:Int)<(jj:Int))=True:=dy;have w2:i64.wrap ((jj:Int)-1)=((jj-1:Nat):Int):=by rw[aU Z Z];omega
   have i1:decide (jj<N)=true:=by simp;omega
   have i2:decide (jj-1<N)=true:=by simp;omega
   have o:=bg (ag B4);have r1:=dP.rg (L:=L2) (C:=dW) (w:=2) aZ (λ_=>rfl) jl;have r2:=dP.rg (L:=L2) (C:=dW) (w:=2) aZ (λ_=>rfl) jm;have s1:=dP.rs (L:=L2) (C:=dW) (w:=2) aZ (λ_=>rfl) jl (gt L2 (jj-1));have s2:=dP.rs (L:=L2.set jj (gt L2 (jj-1))) (C:=dW) (w:=2) aZ (λ_=>rfl) (i:=jj-1) (by simpa using jm) (gt L2 jj);simp only[dW]at r1 r2 s1 s2;have sc:=And.intro (hr _ (ru.at (i:=(jj)) Z)).s.sc (hr _ (ru.at (i:=(jj-1)) Z)).s.sc;have gb:=λl=>B4.bx l
   have ls:=λl lg d=>C9 j (gt L2 (jj)) (gt L2 (jj-1)) ⟨aR h4 l,lg,d⟩ (((hr _ (ru.at Z)).ko hb k4).bx l) (((hr _ (ru.at Z)).ko hb k4).bx l)
   simp only[dW]at ls;refine bH ?_;refine aD (gX c1 w2 i1 i2 gb o r1 r2 s1 s2 ls sc) ?_;refine⟨λc=>⟨(jj-1,sw L2 jj (jj-1)),rfl,k4.trans (cD (P:=(·=b)) (ag B4) rfl _ _ (.cons (.inl rfl) (.cons (.inl rfl) .nil))) (λx e=>.inl e),B4.put _ _,ru.trans (Mv.sw Z Z Z),ip.step Z Z Z ((hK (gt L2 (jj)) (ru.at Z) (gt L2 (jj-1)) (ru.at Z)).1 c),by show jj-1+(k+1)=a+1+i;omega⟩,λc=>⟨L2,w1,k4,B4,ru,ip.stop Z (.inr (λq=>c ((hK (gt L2 (jj)) (ru.at Z) (gt L2 (jj-1)) (ru.at Z)).2 q)))⟩⟩
  .obtain⟨h4,fi,d4⟩:=m;obtain⟨jj,L2⟩:=x;obtain⟨k4,B4,ru,ip,jk⟩:=hQ;obtain rfl:d4=[]:=k4.aV;simp only at B4 ru ip jk;obtain rfl:jj=a:=Z;have c1:((jj:Int)<(jj:Int))=False:=cR;refine bH ?_;refine aW c1 ?_;exact⟨L2,w1,k4,B4,ru,ip.stop Z (.inl cB)⟩
 .obtain⟨h3,dH,d3⟩:=m;obtain⟨kk,B,mv,Al7⟩:=hP;obtain rfl:d3=[]:=kk.aV;simp only at B;have il:(((a+1+(z-(a+1)):Nat):Int)<(z:Int))=False:=cR;refine bH ?_;refine aW il ?_;exact⟨kk.sub,L1,B,mv,λp q h1 h2 h3=>Al7 p q h1 h2 Z⟩
theorem AgK(lg d:List Nat){b a z p N:Nat}{L:List kT}(hb:dP 2 dW h b L)(hN:L.length=N)(ha:a<z/\z<=N)(hp:a<=p/\p<z)(hn:N<=1000)(hr:∀x∈L,ig h x){K:kT->Int}(hK:∀x∈L,∀y∈L,(eF x.r y.r<0↔K x<K y))(q_:190<=j:=by omega):
 Wa FT MT (SM j) (n+3000) (.fn 341) [.slice b 0 N none,Ei a,Ei z,Ei p,.func 310 [] []] ⟨aR h [],lg,d⟩ (Qc b ⟨h,lg,d⟩ (λw h'=>∃(q:Nat) (t:Bool) (L':List kT),w=.tuple [Ei q,.bool t]/\dP 2 dW h' b L'/\Mv a z L L'/\Part K a z q L')):=by
 refine aI ?_;have w0:i64.wrap ((a:Int)+1)=((a+1:Nat):Int):=by rw[aU Z Z];omega
 have Yn:i64.wrap ((z:Int)-1)=((z-1:Nat):Int):=by rw[aU Z Z];omega
 have o:=bg (ag hb);have i1:decide (p<N)=true:=by simp;omega
 have i2:decide (a<N)=true:=by simp;omega
 have gb:=λl=>hb.bx l
 have jE:=dP.rg (L:=L) (C:=dW) (w:=2) aZ (λ_=>rfl) (i:=a) Z;have jT:=dP.rg (L:=L) (C:=dW) (w:=2) aZ (λ_=>rfl) (i:=p) Z;have qv:=dP.rs (L:=L) (C:=dW) (w:=2) aZ (λ_=>rfl) (i:=a) Z (gt L p);have tJ:=dP.rs (L:=L.set a (gt L p)) (C:=dW) (w:=2) aZ (λ_=>rfl) (i:=p) (by rw[length_set];omega) (gt L a);simp only[dW]at jE jT qv tJ;have sc:=And.intro (hr _ ((Mv.refl 0 0 L).at (i:=(a)) Z)).s.sc (hr _ ((Mv.refl 0 0 L).at (i:=(p)) Z)).s.sc;refine aD (xq w0 Yn i1 i2 gb o jE jT qv tJ sc) ?_;have m1:Mv a z L (sw L a p):=Mv.sw Z Z Z;have B1:dP 2 dW (aR (aQ h b ((aO 2 ((sw L a p).map dW)))) []) b (sw L a p):=hb.put _ _;have l1:(sw L a p).length=N:=by rw[qV,hN]
 have s1:PI K a z (a+1) (z-1) (sw L a p):=PI.start Z Z;have K1:dG (·=b) ⟨h,lg,[]⟩ ⟨aR (aQ h b ((aO 2 ((sw L a p).map dW)))) [],b::b::lg,[]⟩:=cD (P:=(·=b)) (ag hb) rfl _ _ (.cons (.inl rfl) (.cons (.inl rfl) .nil));simp only[sw]at B1 K1;rw[show(L.set a (gt L p)).set p (gt L a)=sw L a p from rfl]at*;generalize sw L a p=L1 at*;refine Dc (α:=Nat) 0 [Il] (λi=>[Ei (i:Nat)]) (λi m=>dG (·=b) ⟨h,lg,[]⟩ m/\dP 2 dW m.ah b L1/\PI K a z i (z-1) L1/\(i<=z-1->¬K (gt L1 i)<K (gt L1 a))) aX ?_ (λi h' bq d' g hP=>?_)
 .refine dV (z+1) [Il] (λk=>[Ei ((a+1+k:Nat):Int)]) (λk m=>dG (·=b) ⟨h,lg,[]⟩ m/\dP 2 dW m.ah b L1/\PI K a z (a+1+k) (z-1) L1/\k<=z) Z aX ⟨rfl,K1,B1,s1,Nat.zero_le _⟩ (λk m g hk hP=>?_) (λm g hP=>absurd hP.2.2.2 Z);obtain⟨h4,fi,d4⟩:=m;obtain⟨k4,B4,P,kz⟩:=hP;obtain rfl:d4=[]:=k4.aV;simp only at B4;have f2:=P.ij;have f3:=P.jz;have gb:=λl=>B4.bx l
  refine bH ?_;by_cases ij:(a+1+k)<=(z-1)
  .have c1:((((a+1+k):Nat):Int)<=(((z-1):Nat):Int))=True:=dy;have w1:i64.wrap (((a+1+k:Nat):Int)+1)=((a+1+(k+1):Nat):Int):=by rw[aU Z Z];omega
   have i1:decide (a+1+k<N)=true:=by simp;omega
   have i2:decide (a<N)=true:=by simp;omega
   have jE:=dP.rg (L:=L1) (C:=dW) (w:=2) aZ (λ_=>rfl) (i:=a+1+k) Z;have jT:=dP.rg (L:=L1) (C:=dW) (w:=2) aZ (λ_=>rfl) (i:=a) Z;simp only[dW]at jE jT;have ls:=λl lg d=>C9 j (gt L1 (a+1+k)) (gt L1 (a)) ⟨aR h4 l,lg,d⟩ (((hr _ (m1.at Z)).ko hb k4).bx l) (((hr _ (m1.at Z)).ko hb k4).bx l)
   simp only[dW]at ls;refine aD (xq c1 w1 i1 i2 gb jE jT @Ef @Pf @Pg ls) ?_;exact⟨λc=>⟨k4,B4,P.up ij ((hK (gt L1 (a+1+k)) (m1.at Z) (gt L1 (a)) (m1.at Z)).1 c),Z⟩,λc=>⟨a+1+k,rfl,k4,B4,P,λ_=>(λq=>c ((hK (gt L1 (a+1+k)) (m1.at Z) (gt L1 (a)) (m1.at Z)).2 q))⟩⟩
  .have c1:((((a+1+k):Nat):Int)<=(((z-1):Nat):Int))=False:=cR;refine aW (Z2 c1 @Ef) ?_;exact⟨a+1+k,rfl,k4,B4,P,λq=>absurd q ij⟩
 .obtain rfl:d'=[]:=hP.1.aV;obtain⟨k3,B3,P3,e3⟩:=hP;simp only at B3;refine aS ?_;refine Dc (α:=Nat) 2 [JX] (λi=>[Ei (i:Nat)]) (λq m=>dG (·=b) ⟨h,lg,[]⟩ m/\dP 2 dW m.ah b L1/\PI K a z i q L1/\(i<=q->¬K (gt L1 i)<K (gt L1 a))/\(i<=q->K (gt L1 q)<K (gt L1 a))) aX ?_ (λq h' bq d' g hP=>?_)
  .refine dV (z+1) [JX] (λk=>[Ei (((z-1)-k:Nat):Int)]) (λk m=>dG (·=b) ⟨h,lg,[]⟩ m/\dP 2 dW m.ah b L1/\PI K a z i ((z-1)-k) L1/\k<=z) Z aX ⟨rfl,k3,B3,P3,Nat.zero_le _⟩ (λk m g hk hP=>?_) (λm g hP=>absurd hP.2.2.2 Z);obtain⟨h4,fi,d4⟩:=m;obtain⟨k4,B4,P,kz⟩:=hP;obtain rfl:d4=[]:=k4.aV;simp only at B4;have f1:=P.ai;have f2:=P.ij;have f3:=P.jz;have gb:=λl=>B4.bx l
   refine bH ?_;by_cases ij:i<=((z-1)-k)
   .have c1:(((i:Nat):Int)<=((((z-1)-k):Nat):Int))=True:=dy;have w1:i64.wrap ((((z-1)-k:Nat):Int)-1)=(((z-1)-(k+1):Nat):Int):=by rw[aU Z Z];omega
    have i1:decide ((z-1)-k<N)=true:=by simp;omega
    have i2:decide (a<N)=true:=by simp;omega
    have jE:=dP.rg (L:=L1) (C:=dW) (w:=2) aZ (λ_=>rfl) (i:=(z-1)-k) Z;have jT:=dP.rg (L:=L1) (C:=dW) (w:=2) aZ (λ_=>rfl) (i:=a) Z;simp only[dW]at jE jT;have ls:=λl lg d=>C9 j (gt L1 ((z-1)-k)) (gt L1 (a)) ⟨aR h4 l,lg,d⟩ (((hr _ (m1.at Z)).ko hb k4).bx l) (((hr _ (m1.at Z)).ko hb k4).bx l)
    simp only[dW]at ls;refine aD (xq c1 w1 i1 i2 gb jE jT @Ef @Pf @Pg ls) ?_;exact⟨λc=>⟨k4,B4,P.down ij (λq=>c ((hK (gt L1 ((z-1)-k)) (m1.at Z) (gt L1 (a)) (m1.at Z)).2 q)),Z⟩,λc=>⟨(z-1)-k,rfl,k4,B4,P,λ_=>e3 Z,λ_=>((hK (gt L1 ((z-1)-k)) (m1.at Z) (gt L1 (a)) (m1.at Z)).1 c)⟩⟩
   .have c1:(((i:Nat):Int)<=((((z-1)-k):Nat):Int))=False:=cR;refine aW (Z2 c1 @Ef) ?_;exact⟨(z-1)-k,rfl,k4,B4,P,λq=>absurd q ij,λq=>absurd q ij⟩
  .obtain rfl:d'=[]:=hP.1.aV;obtain⟨k5,B5,P5,e5,f5⟩:=hP;simp only at B5;have b1:=P5.ai;have b2:=P5.ij;have b3:=P5.jz;have o:=bg (ag B5);have gb:=λl=>B5.bx l
   have i1:decide (q<N)=true:=by simp;omega
   have i2:decide (a<N)=true:=by simp;omega
   by_cases ij:i<=q
   .have c1:((q:Int)<(i:Int))=False:=cR;have w1:i64.wrap ((i:Int)+1)=((i+1:Nat):Int):=by rw[aU Z Z];omega
    have w2:i64.wrap ((q:Int)-1)=((q-1:Nat):Int):=by rw[aU Z Z];omega
    have i3:decide (i<N)=true:=by simp;omega
    have jE:=dP.rg (L:=L1) (C:=dW) (w:=2) aZ (λ_=>rfl) (i:=i) Z;have jT:=dP.rg (L:=L1) (C:=dW) (w:=2) aZ (λ_=>rfl) (i:=q) Z;have qv:=dP.rs (L:=L1) (C:=dW) (w:=2) aZ (λ_=>rfl) (i:=i) Z (gt L1 q);have tJ:=dP.rs (L:=L1.set i (gt L1 q)) (C:=dW) (w:=2) aZ (λ_=>rfl) (i:=q) (by rw[length_set];omega) (gt L1 i);simp only[dW]at jE jT qv tJ;have sc:=And.intro (hr _ (m1.at (i:=(i)) Z)).s.sc (hr _ (m1.at (i:=(q)) Z)).s.sc;refine aD (gX c1 w1 w2 i1 i3 gb o jE jT qv tJ sc) ?_;refine dz (α:=Nat×Nat×List kT) (z+1) [Il,JX] (λ_ x=>[Ei (x.1:Nat),Ei (x.2.1:Nat)]) (λk x m=>dG (·=b) ⟨h,lg,[]⟩ m/\dP 2 dW m.ah b x.2.2/\Mv a z L x.2.2/\PI K a z x.1 x.2.1 x.2.2/\a+k<x.1) Z aX ⟨(i+1,q-1,sw L1 i q),rfl,k5.trans (cD (P:=(·=b)) (ag B5) rfl _ _ (.cons (.inl rfl) (.cons (.inl rfl) .nil))) (λx e=>.inl e),B5.put _ _,m1.trans (Mv.sw Z Z Z),P5.swap ij (e5 ij) (f5 ij),by simp only;omega⟩ (λk x m g hk hQ=>?_) (λx m g hQ=>absurd hQ.2.2.2.2 (by have:=hQ.2.2.2.1.ij;have:=hQ.2.2.2.1.jz;omega));obtain⟨h6,ux,d6⟩:=m;obtain⟨u,v,L2⟩:=x;obtain⟨k6,B6,m6,P6,u6⟩:=hQ;obtain rfl:d6=[]:=k6.aV;simp only at B6 m6 P6 u6;have l2:=m6.len;have v6:=P6.jz;refine bH ?_;refine aS ?_;refine Dc (α:=Nat) 6 [Il] (λi=>[Ei (i:Nat)]) (λi m=>dG (·=b) ⟨h,lg,[]⟩ m/\dP 2 dW m.ah b L2/\PI K a z i v L2/\(i<=v->¬K (gt L2 i)<K (gt L2 a))/\u<=i) aX ?_ (λu3 h' bq d' g hP=>?_)
    .refine dV (z+1) [Il] (λk=>[Ei ((u+k:Nat):Int)]) (λk m=>dG (·=b) ⟨h,lg,[]⟩ m/\dP 2 dW m.ah b L2/\PI K a z (u+k) v L2/\k<=z) Z aX ⟨rfl,k6,B6,P6,Nat.zero_le _⟩ (λk m g hk hP=>?_) (λm g hP=>absurd hP.2.2.2 Z);obtain⟨h4,fi,d4⟩:=m;obtain⟨k4,B4,P,kz⟩:=hP;obtain rfl:d4=[]:=k4.aV;simp only at B4;have f1:=P.ai;have f2:=P.ij;have gb:=λl=>B4.bx l
     refine bH ?_;by_cases ij:(u+k)<=v
     .have c1:((((u+k):Nat):Int)<=((v:Nat):Int))=True:=dy;have w1:i64.wrap (((u+k:Nat):Int)+1)=((u+(k+1):Nat):Int):=by rw[aU Z Z];omega
      have i1:decide (u+k<N)=true:=by simp;omega
      have i2:decide (a<N)=true:=by simp;omega
      have jE:=dP.rg (L:=L2) (C:=dW) (w:=2) aZ (λ_=>rfl) (i:=u+k) Z;have jT:=dP.rg (L:=L2) (C:=dW) (w:=2) aZ (λ_=>rfl) (i:=a) Z;simp only[dW]at jE jT;have ls:=λl lg d=>C9 j (gt L2 (u+k)) (gt L2 (a)) ⟨aR h4 l,lg,d⟩ (((hr _ (m6.at Z)).ko hb k4).bx l) (((hr _ (m6.at Z)).ko hb k4).bx l)
      simp only[dW]at ls;refine aD (xq c1 w1 i1 i2 gb jE jT @Ef @Pf @Pg ls) ?_;exact⟨λc=>⟨k4,B4,P.up ij ((hK (gt L2 (u+k)) (m6.at Z) (gt L2 (a)) (m6.at Z)).1 c),Z⟩,λc=>⟨u+k,rfl,k4,B4,P,λ_=>(λq=>c ((hK (gt L2 (u+k)) (m6.at Z) (gt L2 (a)) (m6.at Z)).2 q)),Z⟩⟩
     .have c1:((((u+k):Nat):Int)<=((v:Nat):Int))=False:=cR;refine aW (Z2 c1 @Ef) ?_;exact⟨u+k,rfl,k4,B4,P,λq=>absurd q ij,Z⟩
    .obtain rfl:d'=[]:=hP.1.aV;obtain⟨k7,B7,P7,e3,u7⟩:=hP;simp only at B7;refine aS ?_;refine Dc (α:=Nat) 8 [JX] (λi=>[Ei (i:Nat)]) (λq m=>dG (·=b) ⟨h,lg,[]⟩ m/\dP 2 dW m.ah b L2/\PI K a z u3 q L2/\(u3<=q->¬K (gt L2 u3)<K (gt L2 a))/\(u3<=q->K (gt L2 q)<K (gt L2 a))) aX ?_ (λq h' bq d' g hP=>?_)
     .refine dV (z+1) [JX] (λk=>[Ei ((v-k:Nat):Int)]) (λk m=>dG (·=b) ⟨h,lg,[]⟩ m/\dP 2 dW m.ah b L2/\PI K a z u3 (v-k) L2/\k<=z) Z aX ⟨rfl,k7,B7,P7,Nat.zero_le _⟩ (λk m g hk hP=>?_) (λm g hP=>absurd hP.2.2.2 Z);obtain⟨h4,fi,d4⟩:=m;obtain⟨k4,B4,P,kz⟩:=hP;obtain rfl:d4=[]:=k4.aV;simp only at B4;have f1:=P.ai;have f2:=P.ij;have f3:=P.jz;have gb:=λl=>B4.bx l
      refine bH ?_;by_cases ij:u3<=(v-k)
      .have c1:(((u3:Nat):Int)<=(((v-k):Nat):Int))=True:=dy;have w1:i64.wrap (((v-k:Nat):Int)-1)=((v-(k+1):Nat):Int):=by rw[aU Z Z];omega
       have i1:decide (v-k<N)=true:=by simp;omega
       have i2:decide (a<N)=true:=by simp;omega
       have jE:=dP.rg (L:=L2) (C:=dW) (w:=2) aZ (λ_=>rfl) (i:=v-k) Z;have jT:=dP.rg (L:=L2) (C:=dW) (w:=2) aZ (λ_=>rfl) (i:=a) Z;simp only[dW]at jE jT;have ls:=λl lg d=>C9 j (gt L2 (v-k)) (gt L2 (a)) ⟨aR h4 l,lg,d⟩ (((hr _ (m6.at Z)).ko hb k4).bx l) (((hr _ (m6.at Z)).ko hb k4).bx l)
       simp only[dW]at ls;refine aD (xq c1 w1 i1 i2 gb jE jT @Ef @Pf @Pg ls) ?_;exact⟨λc=>⟨k4,B4,P.down ij (λq=>c ((hK (gt L2 (v-k)) (m6.at Z) (gt L2 (a)) (m6.at Z)).2 q)),Z⟩,λc=>⟨v-k,rfl,k4,B4,P,λ_=>e3 Z,λ_=>((hK (gt L2 (v-k)) (m6.at Z) (gt L2 (a)) (m6.at Z)).1 c)⟩⟩
      .have c1:(((u3:Nat):Int)<=(((v-k):Nat):Int))=False:=cR;refine aW (Z2 c1 @Ef) ?_;exact⟨v-k,rfl,k4,B4,P,λq=>absurd q ij,λq=>absurd q ij⟩
     .obtain rfl:d'=[]:=hP.1.aV;obtain⟨k5,B5,P5,e5,f5⟩:=hP;simp only at B5;have b1:=P5.ai;have b2:=P5.ij;have b3:=P5.jz;have o:=bg (ag B5);have gb:=λl=>B5.bx l
      have i1:decide (q<N)=true:=by simp;omega
      have i2:decide (a<N)=true:=by simp;omega
      by_cases ij:u3<=q
      .have c1:((q:Int)<(u3:Int))=False:=cR;have w1:i64.wrap ((u3:Int)+1)=((u3+1:Nat):Int):=by rw[aU Z Z];omega
       have w2:i64.wrap ((q:Int)-1)=((q-1:Nat):Int):=by rw[aU Z Z];omega
       have i3:decide (u3<N)=true:=by simp;omega
       have jE:=dP.rg (L:=L2) (C:=dW) (w:=2) aZ (λ_=>rfl) (i:=u3) Z;have jT:=dP.rg (L:=L2) (C:=dW) (w:=2) aZ (λ_=>rfl) (i:=q) Z;have qv:=dP.rs (L:=L2) (C:=dW) (w:=2) aZ (λ_=>rfl) (i:=u3) Z (gt L2 q);have tJ:=dP.rs (L:=L2.set u3 (gt L2 q)) (C:=dW) (w:=2) aZ (λ_=>rfl) (i:=q) (by rw[length_set];omega) (gt L2 u3);simp only[dW]at jE jT qv tJ;have sc:=And.intro (hr _ (m6.at (i:=(u3)) Z)).s.sc (hr _ (m6.at (i:=(q)) Z)).s.sc;refine aD (gX c1 w1 w2 i1 i3 gb o jE jT qv tJ sc) ?_;exact⟨(u3+1,q-1,sw L2 u3 q),⟨rfl,rfl⟩,k5.trans (cD (P:=(·=b)) (ag B5) rfl _ _ (.cons (.inl rfl) (.cons (.inl rfl) .nil))) (λx e=>.inl e),B5.put _ _,m6.trans (Mv.sw Z Z Z),P5.swap ij (e5 ij) (f5 ij),by simp only;omega⟩
      .have c1:((q:Int)<(u3:Int))=True:=dy;have jE:=dP.rg (L:=L2) (C:=dW) (w:=2) aZ (λ_=>rfl) (i:=q) Z;have jT:=dP.rg (L:=L2) (C:=dW) (w:=2) aZ (λ_=>rfl) (i:=a) Z;have qv:=dP.rs (L:=L2) (C:=dW) (w:=2) aZ (λ_=>rfl) (i:=q) Z (gt L2 a);have tJ:=dP.rs (L:=L2.set q (gt L2 a)) (C:=dW) (w:=2) aZ (λ_=>rfl) (i:=a) (by rw[length_set];omega) (gt L2 q);simp only[dW]at jE jT qv tJ;have sc:=And.intro (hr _ (m6.at (i:=(q)) Z)).s.sc (hr _ (m6.at (i:=(a)) Z)).s.sc;refine aD (yA c1 i1 i2 gb o jE jT qv tJ sc) ?_;exact⟨(k5.trans (cD (P:=(·=b)) (ag B5) rfl _ _ (.cons (.inl rfl) (.cons (.inl rfl) .nil))) (λx e=>.inl e)).sub,q,false,sw L2 q a,rfl,B5.put _ _,m6.trans (Mv.sw Z Z Z),P5.done ij⟩
   .have c1:((q:Int)<(i:Int))=True:=dy;have jE:=dP.rg (L:=L1) (C:=dW) (w:=2) aZ (λ_=>rfl) (i:=q) Z;have jT:=dP.rg (L:=L1) (C:=dW) (w:=2) aZ (λ_=>rfl) (i:=a) Z;have qv:=dP.rs (L:=L1) (C:=dW) (w:=2) aZ (λ_=>rfl) (i:=q) Z (gt L1 a);have tJ:=dP.rs (L:=L1.set q (gt L1 a)) (C:=dW) (w:=2) aZ (λ_=>rfl) (i:=a) (by rw[length_set];omega) (gt L1 q);simp only[dW]at jE jT qv tJ;have sc:=And.intro (hr _ (m1.at (i:=(q)) Z)).s.sc (hr _ (m1.at (i:=(a)) Z)).s.sc;refine aD (yA c1 i1 i2 gb o jE jT qv tJ sc) ?_;exact⟨(k5.trans (cD (P:=(·=b)) (ag B5) rfl _ _ (.cons (.inl rfl) (.cons (.inl rfl) .nil))) (λx e=>.inl e)).sub,q,true,sw L1 q a,rfl,B5.put _ _,m1.trans (Mv.sw Z Z Z),P5.done ij⟩
theorem AgL(lg d:List Nat){b a z N:Nat}{L:List kT}(hb:dP 2 dW h b L)(hN:L.length=N)(ha:a+13<=z/\z<=N)(hn:N<=16)(hr:∀x∈L,ig h x){K:kT->Int}(hK:∀x∈L,∀y∈L,(eF x.r y.r<0↔K x<K y))(q_:190<=j:=by omega):
 Wa FT MT (SM j) (n+3000) (.fn 337) [.slice b 0 N none,Ei a,Ei z,.func 310 [] []] ⟨aR h [],lg,d⟩ (Qk ⟨h,lg,d⟩ (λw _=>∃(p:Nat) (x:Int),w=.tuple [Ei p,Ei x]/\a<=p/\p<z/\(x=0\/x=1))):=by
 refine aI ?_;have w1:i64.wrap ((z:Int)-a)=((z-a:Nat):Int):=by rw[aU Z Z];omega
 have w2:i64.wrap (Int.tdiv ((z-a:Nat):Int) 4)=(((z-a)/4:Nat):Int):=by rw[Int.tdiv_eq_ediv_of_nonneg Z];exact aU Z Z
 have hq:3<=(z-a)/4/\4*((z-a)/4)<=z-a:=Z;have c1:((8:Int)<=((z-a:Nat):Int))=True:=dy;have c2:((50:Int)<=((z-a:Nat):Int))=False:=cR;generalize (z-a)/4=q at*;have w3:i64.wrap ((q:Int)*1)=(q:Int):=by rw[aU Z Z];omega
 have w4:i64.wrap ((q:Int)*2)=((2*q:Nat):Int):=by rw[aU Z Z];omega
 have w5:i64.wrap ((q:Int)*3)=((3*q:Nat):Int):=by rw[aU Z Z];omega
 have w6:i64.wrap ((a:Int)+q)=((a+q:Nat):Int):=by rw[aU Z Z];omega
 have w7:i64.wrap ((a:Int)+(2*q:Nat))=((a+2*q:Nat):Int):=by rw[aU Z Z];omega
 have w8:i64.wrap ((a:Int)+(3*q:Nat))=((a+3*q:Nat):Int):=by rw[aU Z Z];omega
 have v1:i64.wrap (0+1)=1:=aZ;have v2:i64.wrap (1+1)=2:=aZ;have v3:i64.wrap (2+1)=3:=aZ;have e1:((1:Int)=0)=False:=by simp
 have e2:((2:Int)=0)=False:=by simp
 have e3:((3:Int)=0)=False:=by simp
 have e4:((1:Int)=12)=False:=by simp
 have e5:((2:Int)=12)=False:=by simp
 have e6:((3:Int)=12)=False:=by simp
 obtain⟨I,hI⟩:∃I,I=a+q:=⟨_,rfl⟩;obtain⟨J,hJ⟩:∃I,I=a+2*q:=⟨_,rfl⟩;obtain⟨K3,S7⟩:∃I,I=a+3*q:=⟨_,rfl⟩;rw[<-hI]at w6;rw[<-hJ]at w7;rw[<-S7]at w8;have i1:decide (I<N)=true:=by simp;omega
 have i2:decide (J<N)=true:=by simp;omega
 have i3:decide (K3<N)=true:=by simp;omega
 have gb:=λl=>hb.bx l
 have jE:=dP.rg (L:=L) (C:=dW) (w:=2) aZ (λ_=>rfl) (i:=I) Z;have jT:=dP.rg (L:=L) (C:=dW) (w:=2) aZ (λ_=>rfl) (i:=J) Z;have rr3:=dP.rg (L:=L) (C:=dW) (w:=2) aZ (λ_=>rfl) (i:=K3) Z;simp only[dW]at jE jT rr3;have ls:=λ(x y:Nat) (hx:decide (x<N)=true) (hy:decide (y<N)=true) l lg d=>C9 j (gt L x) (gt L y) ⟨aR h l,lg,d⟩ ((hr _ ((Mv.refl 0 0 L).at (by have:=of_decide_eq_true hx;omega))).bx l) ((hr _ ((Mv.refl 0 0 L).at (by have:=of_decide_eq_true hy;omega))).bx l)
 simp only[dW]at ls;refine aD (gX w1 w2 w3 w4 w5 w6 w7 w8 c1 c2 v1 (gX v2 v3 e1 e2 e3 e4 e5 e6 i1 i2 i3 (Z8 gb jE jT rr3 (@aJ 356 _ rfl aZ) (@aJ 364 _ rfl aZ) @mZ ls))) ?_;(repeat' first|apply And.intro|intro _)<;>exact⟨_,_,⟨rfl,rfl⟩,Z,Z,by simp⟩
theorem AlE(lg d:List Nat){b a z N:Nat}{L:List kT}(hb:dP 2 dW h b L)(hN:L.length=N)(ha:a<z/\z<=N)(hn:N<=16)(hr:∀x∈L,ig h x){K:kT->Int}(hK:∀x∈L,∀y∈L,(eF x.r y.r<0↔K x<K y))(q_:190<=j:=by omega):
 Wa FT MT (SM j) (n+3000) (.fn 339) [.slice b 0 N none,Ei a,Ei z,.func 310 [] []] ⟨aR h [],lg,d⟩ (Qk ⟨h,lg,d⟩ (λw _=>∃t:Bool,w=.bool t/\(t=true->mO K a z L))):=by
 refine aI ?_;have w0:i64.wrap ((a:Int)+1)=((a+1:Nat):Int):=by rw[aU Z Z];omega
 have Yn:i64.wrap ((z:Int)-a)=((z-a:Nat):Int):=by rw[aU Z Z];omega
 have c0:(((z-a:Nat):Int)<50)=True:=dy;refine aW w0 ?_;refine dV 1 [BZ,X9] (λk=>[Ei 0,Ei ((a+1:Nat):Int)]) (λk m=>aY ⟨h,lg,[]⟩ m/\k=0) Z aX ⟨rfl,aY.refl _,rfl⟩ (λk m g hk hP=>?_) (λm g hP=>absurd hP.2 Z);obtain⟨h3,dH,d3⟩:=m;obtain⟨k3,rfl⟩:=hP;obtain rfl:d3=[]:=k3.aV;refine bH ?_;refine aW (show((0:Int)<5)=True from dy) ?_;refine Dc (α:=Nat) 2 [X9] (λi=>[Ei (i:Nat)]) (λi m=>aY ⟨h,lg,[]⟩ m/\i<=z/\∀q,a<q->q<i->¬K (gt L q)<K (gt L (q-1))) aX ?_ (λi h' bq d' g hP=>?_)
 .refine dV (z+1) [X9] (λk=>[Ei ((a+1+k:Nat):Int)]) (λk m=>aY ⟨h,lg,[]⟩ m/\a+1+k<=z/\∀q,a<q->q<a+1+k->¬K (gt L q)<K (gt L (q-1))) Z aX ⟨rfl,k3,Z,λq h1 h2=>Z⟩ (λk m g hk hP=>?_) (λm g hP=>absurd hP.2.1 Z);obtain⟨h4,fi,d4⟩:=m;obtain⟨k4,iz,Al7⟩:=hP;obtain rfl:d4=[]:=k4.aV;refine bH ?_;by_cases ij:a+1+k<z
  .have c1:(((a+1+k:Nat):Int)<(z:Int))=True:=dy;have w1:i64.wrap (((a+1+k:Nat):Int)+1)=((a+1+(k+1):Nat):Int):=by rw[aU Z Z];omega
   have w2:i64.wrap (((a+1+k:Nat):Int)-1)=((a+k:Nat):Int):=by rw[aU Z Z];omega
   have B4:dP 2 dW h4 b L:=(k4.get b (ag hb)).trans hb;have gb:=λl=>B4.bx l
   have i1:decide (a+1+k<N)=true:=by simp;omega
   have i2:decide (a+k<N)=true:=by simp;omega
   have jE:=dP.rg (L:=L) (C:=dW) (w:=2) aZ (λ_=>rfl) (i:=a+1+k) Z;have jT:=dP.rg (L:=L) (C:=dW) (w:=2) aZ (λ_=>rfl) (i:=a+k) Z;simp only[dW]at jE jT;have ls:=λl lg d=>C9 j (gt L (a+1+k)) (gt L (a+k)) ⟨aR h4 l,lg,d⟩ (((hr _ ((Mv.refl 0 0 L).at Z)).ko hb (aY.sy (P:=(·=b)) k4)).bx l) (((hr _ ((Mv.refl 0 0 L).at Z)).ko hb (aY.sy (P:=(·=b)) k4)).bx l)
   simp only[dW]at ls;refine aD (gX c1 w1 w2 i1 i2 gb jE jT @Ef @Pf @Pg ls) ?_;exact⟨λc=>⟨k4,Z,λq h1 h2=>(by
    by_cases e:q=a+1+k
    .rw[e,show a+1+k-1=a+k by omega];exact(λq=>c ((hK (gt L (a+1+k)) ((Mv.refl 0 0 L).at Z) (gt L (a+k)) ((Mv.refl 0 0 L).at Z)).2 q))
    .exact Al7 q h1 Z)⟩,λc=>⟨a+1+k,rfl,k4,Z,Al7⟩⟩
  .have c1:(((a+1+k:Nat):Int)<(z:Int))=False:=cR;refine aW (Z2 c1 @Ef) ?_;exact⟨a+1+k,rfl,k4,iz,Al7⟩
 .obtain rfl:d'=[]:=hP.1.aV;obtain⟨k4,iz,Al7⟩:=hP;by_cases e:i=z
  .have c1:((i:Int)=(z:Int))=True:=dy;subst e;refine aW @mZ ?_;exact⟨k4.sub,true,rfl,λ_=>CI Al7⟩
  .have c1:((i:Int)=(z:Int))=False:=cR;refine aW (Z4 c1 Yn c0 @mZ) ?_;exact⟨k4.sub,false,rfl,λh=>(by cases h)⟩
theorem AlF(lg d:List Nat){b a z N:Nat}{L:List kT}(hb:dP 2 dW h b L)(hN:L.length=N)(ha:a+13<=z/\z<=a+15/\z<=N)(hn:N<=16)(hr:∀x∈L,ig h x)(q_:190<=j/\30<=j:=by omega):
 Wa FT MT (SM j) (n+3000) (.fn 336) [.slice b 0 N none,Ei a,Ei z,.func 310 [] []] ⟨aR h [],lg,d⟩ (Qc b ⟨h,lg,d⟩ (λ_ h'=>∃L',dP 2 dW h' b L'/\Mv a z L L')):=by
 refine aI ?_;have w1:i64.wrap ((z:Int)-a)=((z-a:Nat):Int):=by rw[aU Z Z];omega
 have w2:i64.wrap (Int.tdiv ((z-a:Nat):Int) 4)=3:=by rw[Int.tdiv_eq_ediv_of_nonneg Z,aU Z Z];omega
 have w4:i64.wrap ((a:Int)+6)=((a+6:Nat):Int):=by rw[aU Z Z];omega
 have w5:i64.wrap (((a+6:Nat):Int)-1)=((a+5:Nat):Int):=by rw[aU Z Z];omega
 have w6:i64.wrap (((a+6:Nat):Int)+1)=((a+7:Nat):Int):=by rw[aU Z Z];omega
 have c1:((8:Int)<=((z-a:Nat):Int))=True:=dy;have u1:u64.wrap ((z-a:Nat):Int)=((z-a:Nat):Int):=dB Z Z;have g1:=λm=>Qu j (z-a) m Z
 have e4:Rt (z-a)=4:=by
  simp only[Rt];repeat rw[aq Z]
  rw[aG Z]
 rw[e4]at g1;refine aW (Z8 w1 w2 w4 w5 c1 u1 g1 (@aJ 234 _ rfl aZ)) ?_;have HI:aj (aR h [(aO 1 [[Eu ((z-a:Nat):Int)]])]) (nb h 0)=(aO 1 [[Eu ((z-a:Nat):Int)]]):=by rw[bj];rfl
 have cb:nb h 0≠b:=by have:=ag hb;simp only[nb];omega
 refine dV 3 [wJ] (λk=>[Ei ((a+5+k:Nat):Int)]) (λk m=>dG (·=b) ⟨h,lg,[]⟩ m/\∃L' x,dP 2 dW m.ah b L'/\Mv a z L L'/\aj m.ah (nb h 0)=(aO 1 [[Eu x]])) Z aX ⟨rfl,(aH aL).sy,L,_,hb.bx _,Mv.refl _ _ _,HI⟩ (λk m g hk hP=>?_) (λm g hP=>?_)
 .obtain⟨h3,dH,d3⟩:=m;obtain⟨k3,L3,x3,B3,m3,Yo⟩:=hP;obtain rfl:d3=[]:=k3.aV;simp only at B3 Yo;have c2:(((a+5+k:Nat):Int)<=((a+7:Nat):Int))=True:=dy;have w7:i64.wrap (((a+5+k:Nat):Int)+1)=((a+5+(k+1):Nat):Int):=by rw[aU Z Z];omega
  refine bH ?_;refine aW (Z4 c2 w2 w4 w6) ?_;rw[<-fZ];refine oQ (AgF j _ h3 dH [] Yo) (λw h4 fi k4 hw=>?_);obtain⟨x4,rfl,Tv⟩:=hw;obtain⟨r,D0,YD⟩:=Va x4;have wm1:u64.wrap (1*2^min 4 64)=16:=aZ;have wm2:u64.wrap 15=15:=aZ;have B4:dP 2 dW h4 b L3:=(k4.get b (ag B3) (Ne.symm cb)).trans B3;have l3:=m3.len;have k4':=k3.trans k4 (λx e=>.inr (by rw[e];simp only[nb];omega));have w8:i64.wrap ((r:Nat):Int)=(r:Int):=aU Z Z;have gb:=λl=>B4.bx l
  have o:=bg (ag B4);have i1:decide (a+5+k<N)=true:=by simp;omega
  have jE:=dP.rg (L:=L3) (C:=dW) (w:=2) aZ (λ_=>rfl) (i:=a+5+k) Z;simp only[dW]at jE;obtain⟨s,s1,s2⟩:∃s:Nat,s<z-a/\(s=if z-a<=r then r-(z-a)else r):=⟨_,by split<;>omega,rfl⟩;have w9:i64.wrap ((a:Int)+(s:Nat))=((a+s:Nat):Int):=by rw[aU Z Z];omega
  have i2:decide (a+s<N)=true:=by simp;omega
  have jE:=dP.rg (L:=L3) (C:=dW) (w:=2) aZ (λ_=>rfl) (i:=(a+5+k)) Z;have jT:=dP.rg (L:=L3) (C:=dW) (w:=2) aZ (λ_=>rfl) (i:=(a+s)) Z;have qv:=dP.rs (L:=L3) (C:=dW) (w:=2) aZ (λ_=>rfl) (i:=(a+5+k)) Z (gt L3 (a+s));have tJ:=dP.rs (L:=L3.set (a+5+k) (gt L3 (a+s))) (C:=dW) (w:=2) aZ (λ_=>rfl) (i:=(a+s)) (by rw[length_set];omega) (gt L3 (a+5+k));simp only[dW]at jE jT qv tJ;have sc:=And.intro (hr _ (m3.at (i:=((a+5+k))) Z)).s.sc (hr _ (m3.at (i:=((a+s))) Z)).s.sc;by_cases cr:z-a<=r
  .rw[aG cr]at s2;have c3:(((z-a:Nat):Int)<=(r:Int))=True:=dy;have w10:i64.wrap ((r:Int)-((z-a:Nat):Int))=(s:Int):=by rw[aU Z Z];omega
   refine aD (gX YD wm1 wm2 w7 w8 w9 w10 c3 i1 i2 gb (Z6 o jE jT qv tJ sc)) ?_;exact⟨k4'.trans (cD (P:=(·=b)) (ag B4) rfl _ _ (.cons (.inl rfl) (.cons (.inl rfl) .nil))) (λx e=>.inl e),sw L3 (a+5+k) (a+s),x4,B4.put _ _,m3.trans (Mv.sw Z Z Z),(bP (ag B4) (ag Tv) cb _ _).trans Tv⟩
  .rw[aq cr]at s2;subst s2;have c3:(((z-a:Nat):Int)<=(s:Int))=False:=cR;refine aD (gX YD wm1 wm2 w7 w8 w9 c3 i1 i2 gb o (Z5 jE jT qv tJ sc)) ?_;exact⟨k4'.trans (cD (P:=(·=b)) (ag B4) rfl _ _ (.cons (.inl rfl) (.cons (.inl rfl) .nil))) (λx e=>.inl e),sw L3 (a+5+k) (a+s),x4,B4.put _ _,m3.trans (Mv.sw Z Z Z),(bP (ag B4) (ag Tv) cb _ _).trans Tv⟩
 .obtain⟨h3,dH,d3⟩:=m;obtain⟨k3,L3,x3,B3,m3,Yo⟩:=hP;obtain rfl:d3=[]:=k3.aV;have c2:(((a+5+3:Nat):Int)<=((a+7:Nat):Int))=False:=cR;refine bH ?_;refine aW (Z4 c2 w2 w4 w6) ?_;exact⟨k3.sub,L3,B3,m3⟩
theorem K7(lg d:List Nat){b a z N l:Nat}{L:List kT}(hb:dP 2 dW h b L)(hN:L.length=N)(ha:a<=z/\z<=N)(hs:z<=a+12)(hn:N<=16)(hr:∀x∈L,ig h x){K:kT->Int}(hK:∀x∈L,∀y∈L,(eF x.r y.r<0↔K x<K y))(q_:190<=j:=by omega):
 Wa FT MT (SM j) (n+4000) (.fn 325) [.slice b 0 N none,Ei a,Ei z,Ei l,.func 310 [] []] ⟨aR h [],lg,d⟩ (Qc b ⟨h,lg,d⟩ (λ_ h'=>∃L',dP 2 dW h' b L'/\Mv a z L L'/\mO K a z L')):=by
 refine aI ?_;have w1:i64.wrap ((z:Int)-a)=((z-a:Nat):Int):=by rw[aU Z Z];omega
 have c1:(((z-a:Nat):Int)<=12)=True:=dy;refine aS ?_;refine dV 1 [X2,X1,X3,BZ,wJ] (λk=>[Ei z,Ei a,Ei l,.bool true,.bool true]) (λk m=>dG (·=b) ⟨h,lg,[]⟩ m/\dP 2 dW m.ah b L/\k=0) Z aX ⟨rfl,dG.refl _ _,hb,rfl⟩ (λk m g hk hP=>?_) (λm g hP=>absurd hP.2.2 Z);obtain⟨h3,dH,d3⟩:=m;obtain⟨k3,B3,rfl⟩:=hP;obtain rfl:d3=[]:=k3.aV;refine bH ?_;refine aW (Z2 w1 c1) ?_;rw[<-fZ];refine oQ (AgJ j _ h3 dH [] B3 hN ha Z (λx hx=>(hr x hx).ko hb k3) hK) (λw h4 fi k4 hw=>?_);obtain⟨L4,B4,m4,Al7⟩:=hw;refine aS ?_;exact⟨(k3.trans k4 (λx e=>.inl e)).sub,L4,B4,m4,Al7⟩
theorem AlG(lg d:List Nat){b N l:Nat}{L:List kT}(hb:dP 2 dW h b L)(hN:L.length=N)(hn:N<=16)(hr:∀x∈L,ig h x){K:kT->Int}(hK:∀x∈L,∀y∈L,(eF x.r y.r<0↔K x<K y))(hd:(L.map K).Nodup)(hl:N<=12\/4<=l)(PW:l<=5)(q_:190<=j/\30<=j:=by omega):
 Wa FT MT (SM j) (n+8000) (.fn 325) [.slice b 0 N none,Ei 0,Ei N,Ei l,.func 310 [] []] ⟨aR h [],lg,d⟩ (Qc b ⟨h,lg,d⟩ (λ_ h'=>∃L',dP 2 dW h' b L'/\L'.Perm L/\mO K 0 N L')):=by
 refine aI ?_;refine aS ?_;refine dz (α:=Nat×Nat×Nat×Bool×Bool×List kT) (N+1) [X2,X1,X3,BZ,wJ] (λk x=>[Ei (x.2.1:Nat),Ei (x.1:Nat),Ei (x.2.2.1:Nat),.bool x.2.2.2.1,.bool x.2.2.2.2.1]) (λk x m=>dG (·=b) ⟨h,lg,[]⟩ m/\dP 2 dW m.ah b x.2.2.2.2.2/\EY K N x.1 x.2.1 L x.2.2.2.2.2/\(N<=12\/4<=x.2.2.1+k)/\x.2.2.1<=5/\x.2.1-x.1+k<=N/\(x.2.2.2.1=false->1<=k)) Z aX ⟨(0,N,l,true,true,L),rfl,dG.refl _ _,hb,by subst hN;exact EY.start,by simpa using hl,PW,by simp,by simp⟩ (λk x m g hk hP=>?_) (λx m g hP=>absurd hP.2.2.2.2.2.1 Z);obtain⟨h7,MX,d3⟩:=m;obtain⟨a,z,lq,t1,t2,L9⟩:=x;obtain⟨k7,B7,P7,Yp,Qv,hzk,VP⟩:=hP;obtain rfl:d3=[]:=k7.aV;simp only at B7 P7 Yp Qv hzk VP;have pa:=P7.ab;have pb:=P7.bn;have l7:=P7.mv.len;have w1:i64.wrap ((z:Int)-a)=((z-a:Nat):Int):=by rw[aU Z Z];omega
 refine bH ?_;by_cases c12:z-a<=12
 .have c1:(((z-a:Nat):Int)<=12)=True:=dy;refine aW (Z2 w1 c1) ?_;rw[<-fZ];refine oQ (AgJ j _ h7 MX [] B7 Z ⟨pa,pb⟩ Z (λx hx=>(hr x (P7.mv.mem hx)).ko hb k7) (λx hx y hy=>hK x (P7.mv.mem hx) y (P7.mv.mem hy))) (λw h4 fi k4 hw=>?_);obtain⟨L4,B4,m4,Al7⟩:=hw;refine aS ?_;exact⟨(k7.trans k4 (λx e=>.inl e)).sub,L4,B4,(P7.move m4).mv.sq,(P7.move m4).EZ Al7⟩
 .have c1:(((z-a:Nat):Int)<=12)=False:=cR;have c2:((lq:Int)=0)=False:=cR;have w2:i64.wrap ((lq:Int)-1)=((lq-1:Nat):Int):=by rw[aU Z Z];omega
  cases t1;case' false=>
   have k1:=VP rfl;refine aW (Z3 w1 c1 c2) ?_;rw[<-fZ];refine oQ (AlF j _ h7 MX [] B7 Z Z hn (λx hx=>(hr x (P7.mv.mem hx)).ko hb k7)) (λw h4 fi k4 hw=>?_);obtain⟨L9,B8,m8⟩:=hw;have k8:=k7.trans k4 (λx e=>.inl e);have P9:=P7.move m8;have l9:=P9.mv.len;obtain⟨lq,Qw,Qx,el⟩:∃GM:Nat,(N<=12\/4<=GM+(k+1))/\GM<=5/\GM=lq-1:=⟨_,Z,Z,rfl⟩;rw[<-el]at w2;refine aW w2 ?_;rw[<-fZ];refine fK (AgL j _ h4 fi [] B8 Z Z hn (λx hx=>(hr x (P9.mv.mem hx)).ko hb k8) (λx hx y hy=>hK x (P9.mv.mem hx) y (P9.mv.mem hy))) (λw h9 IY k9 hw=>?_);obtain⟨p,x,rfl,p1,p2,hx⟩:=hw;have Fy:=k8.trans (aY.sy (P:=(·=b)) k9) (λx e=>.inl e);have B9:dP 2 dW h9 b L9:=(k9.get b (ag B8)).trans B8;have x2:(x=2)=False:=cR;have x1:=x2
  case' true=>
   refine aW (Z3 w1 c1 c2) ?_;rw[<-fZ];refine fK (AgL j _ h7 MX [] B7 Z Z hn (λx hx=>(hr x (P7.mv.mem hx)).ko hb k7) (λx hx y hy=>hK x (P7.mv.mem hx) y (P7.mv.mem hy))) (λw h9 IY k8 hw=>?_);obtain⟨p,x,rfl,p1,p2,hx⟩:=hw;have Fy:=k7.trans (aY.sy (P:=(·=b)) k8) (λx e=>.inl e);have B9:dP 2 dW h9 b L9:=(k8.get b (ag B7)).trans B7;have P9:=P7;have Qw:N<=12\/4<=lq+(k+1):=Z;have Qx:=Qv;have x2:(x=2)=False:=cR;by_cases tx:t2=true/\x=1;case' pos=>
    obtain⟨rfl,rfl⟩:=tx;refine aW x2 ?_;rw[<-fZ];refine fK (AlE j _ h9 IY [] B9 Z Z hn (λx hx=>(hr x (P9.mv.mem hx)).ko hb Fy) (λx hx y hy=>hK x (P9.mv.mem hx) y (P9.mv.mem hy))) (λw h9 IY k9 hw=>?_);obtain⟨tt,rfl,Al7⟩:=hw;have Fy:=Fy.trans (aY.sy (P:=(·=b)) k9) (λx e=>.inl e);have B9:dP 2 dW h9 b L9:=(k9.get b (ag B9)).trans B9;cases tt;case true=>
     refine aS ?_;exact⟨Fy.sub,L9,B9,P9.mv.sq,P9.EZ (Al7 rfl)⟩
    case' false=>have x1:=x2
   case' neg=>
    cases t2;case' false=>have x1:=x2
    case' true=>have x1:(x=1)=False:=eq_false (λe=>tx ⟨rfl,e⟩)
  all_goals
   have gb:=λl=>B9.bx l
   have i1:decide (p<N)=true:=by simp;omega
   have i2:decide (a-1<N)=true:=by simp;omega
   have jE:=dP.rg (L:=L9) (C:=dW) (w:=2) aZ (λ_=>rfl) (i:=p) Z;have jT:=dP.rg (L:=L9) (C:=dW) (w:=2) aZ (λ_=>rfl) (i:=(a-1)) Z;simp only[dW]at jE jT;have ls:=λl lg d=>C9 j (gt L9 (a-1)) (gt L9 (p)) ⟨aR h9 l,lg,d⟩ (((hr _ (P9.mv.at Z)).ko hb Fy).bx l) (((hr _ (P9.mv.at Z)).ko hb Fy).bx l)
   simp only[dW]at ls;have c3:((0:Int)<(a:Int))=True\/(((0:Int)<(a:Int))=False/\a=0):=by
    by_cases a0:a=0
    .exact .inr ⟨cR,a0⟩
    .exact .inl dy
   rcases c3 with c3|⟨c3,a0⟩
   rotate_left
   .refine aW (Z3 x1 x2 c3) ?_;rw[<-fZ];refine oQ (AgK j _ h9 IY [] B9 Z Z ⟨p1,p2⟩ Z (λx hx=>(hr x (P9.mv.mem hx)).ko hb Fy) (λx hx y hy=>hK x (P9.mv.mem hx) y (P9.mv.mem hy))) (λw Mi CJ Yq hw=>?_);obtain⟨q,t,L10,rfl,JY,Qy,pt⟩:=hw;have IZ:=Fy.trans Yq (λx e=>.inl e);have CL:=P9.move Qy;have l10:=Qy.len;have q1:=pt.h1;have q2:=pt.h2;have w5:i64.wrap ((q:Int)-a)=((q-a:Nat):Int):=by rw[aU Z Z];omega
    have w6:i64.wrap ((z:Int)-q)=((z-q:Nat):Int):=by rw[aU Z Z];omega
    have w7:i64.wrap (Int.tdiv ((z-a:Nat):Int) 8)=(((z-a)/8:Nat):Int):=by rw[Int.tdiv_eq_ediv_of_nonneg Z];exact aU Z Z
    have w8:i64.wrap ((q:Int)+1)=((q+1:Nat):Int):=by rw[aU Z Z];omega
    by_cases cs:q-a<z-q
    .have c5:(((q-a:Nat):Int)<((z-q:Nat):Int))=True:=dy;refine aW (Z4 w5 w6 w7 c5) ?_;rw[<-fZ];refine oQ (K7 j _ Mi CJ [] JY Z Z Z hn (λx hx=>(hr x (CL.mv.mem hx)).ko hb IZ) (λx hx y hy=>hK x (CL.mv.mem hx) y (CL.mv.mem hy))) (λw Yr I3 I4 hw=>?_);obtain⟨I5,Fs,I6,Al7⟩:=hw;refine aW w8 ?_;exact⟨(q+1,z,lq,_,t,I5),⟨rfl,rfl,rfl,rfl,rfl⟩,IZ.trans I4 (λx e=>.inl e),Fs,CL.left pt I6 Al7,Qw,Qx,by simp only;omega⟩
    .have c5:(((q-a:Nat):Int)<((z-q:Nat):Int))=False:=cR;refine aW (Z5 w5 w6 w7 w8 c5) ?_;rw[<-fZ];refine oQ (K7 j _ Mi CJ [] JY Z Z Z hn (λx hx=>(hr x (CL.mv.mem hx)).ko hb IZ) (λx hx y hy=>hK x (CL.mv.mem hx) y (CL.mv.mem hy))) (λw Yr I3 I4 hw=>?_);obtain⟨I5,Fs,I6,Al7⟩:=hw;refine aS ?_;exact⟨(a,q,lq,_,t,I5),⟨rfl,rfl,rfl,rfl,rfl⟩,IZ.trans I4 (λx e=>.inl e),Fs,CL.right pt I6 Al7,Qw,Qx,by simp only;omega⟩
   .have a0:0<a:=by have:=of_eq_true c3;omega
    have w3:i64.wrap ((a:Int)-1)=((a-1:Nat):Int):=by rw[aU Z Z];omega
    have c4:(eF (gt L9 (a-1)).r (gt L9 (p)).r<0)=True:=eq_true (((hK (gt L9 (a-1)) (P9.mv.at Z) (gt L9 (p)) (P9.mv.at Z)).2 (P9.lt hd Z Z)));refine aD (xq x1 x2 c3 c4 w3 gb jE jT i1 i2 ls) ?_;rw[<-fZ];refine oQ (AgK j _ h9 IY [] B9 Z Z ⟨p1,p2⟩ Z (λx hx=>(hr x (P9.mv.mem hx)).ko hb Fy) (λx hx y hy=>hK x (P9.mv.mem hx) y (P9.mv.mem hy))) (λw Mi CJ Yq hw=>?_);obtain⟨q,t,L10,rfl,JY,Qy,pt⟩:=hw;have IZ:=Fy.trans Yq (λx e=>.inl e);have CL:=P9.move Qy;have l10:=Qy.len;have q1:=pt.h1;have q2:=pt.h2;have w5:i64.wrap ((q:Int)-a)=((q-a:Nat):Int):=by rw[aU Z Z];omega
    have w6:i64.wrap ((z:Int)-q)=((z-q:Nat):Int):=by rw[aU Z Z];omega
    have w7:i64.wrap (Int.tdiv ((z-a:Nat):Int) 8)=(((z-a)/8:Nat):Int):=by rw[Int.tdiv_eq_ediv_of_nonneg Z];exact aU Z Z
    have w8:i64.wrap ((q:Int)+1)=((q+1:Nat):Int):=by rw[aU Z Z];omega
    by_cases cs:q-a<z-q
    .have c5:(((q-a:Nat):Int)<((z-q:Nat):Int))=True:=dy;refine aW (Z4 w5 w6 w7 c5) ?_;rw[<-fZ];refine oQ (K7 j _ Mi CJ [] JY Z Z Z hn (λx hx=>(hr x (CL.mv.mem hx)).ko hb IZ) (λx hx y hy=>hK x (CL.mv.mem hx) y (CL.mv.mem hy))) (λw Yr I3 I4 hw=>?_);obtain⟨I5,Fs,I6,Al7⟩:=hw;refine aW w8 ?_;exact⟨(q+1,z,lq,_,t,I5),⟨rfl,rfl,rfl,rfl,rfl⟩,IZ.trans I4 (λx e=>.inl e),Fs,CL.left pt I6 Al7,Qw,Qx,by simp only;omega⟩
    .have c5:(((q-a:Nat):Int)<((z-q:Nat):Int))=False:=cR;refine aW (Z5 w5 w6 w7 w8 c5) ?_;rw[<-fZ];refine oQ (K7 j _ Mi CJ [] JY Z Z Z hn (λx hx=>(hr x (CL.mv.mem hx)).ko hb IZ) (λx hx y hy=>hK x (CL.mv.mem hx) y (CL.mv.mem hy))) (λw Yr I3 I4 hw=>?_);obtain⟨I5,Fs,I6,Al7⟩:=hw;refine aS ?_;exact⟨(a,q,lq,_,t,I5),⟨rfl,rfl,rfl,rfl,rfl⟩,IZ.trans I4 (λx e=>.inl e),Fs,CL.right pt I6 Al7,Qw,Qx,by simp only;omega⟩
theorem AgM(lg d:List Nat)(q_:0<=j:=by omega):Wa FT MT (SM j) (n+3000) (.fn 224) [.aF,Ei 0,Ei 0] ⟨aR h [],lg,d⟩ (λ_ m=>aY ⟨h,lg,d⟩ m):=by
 refine aI ?_;refine aS ?_;refine dV 0 [X6] (λr=>[Ei 1]) (λr m=>aY ⟨h,lg,[]⟩ m) Z aX ⟨rfl,aY.refl _⟩ (λr m g hr hP=>absurd hr Z) (λm g hP=>?_);obtain⟨h3,dH,d3⟩:=m;obtain rfl:d3=[]:=hP.aV;refine bH ?_;refine aW (show((1:Int)<0)=False by simp) ?_;exact hP.sub
theorem AgN(lg d:List Nat){l:Nat}(q_:0<=j:=by omega):Wa FT MT (SM j) (n+4000) (.fn 155) [.aF,Ei 0,Ei 0,Ei l] ⟨aR h [],lg,d⟩ (λ_ m=>aY ⟨h,lg,d⟩ m):=by
 refine aI ?_;refine aS ?_;refine dV 1 [X2,X1,X3,X8,X9] (λk=>[Ei 0,Ei 0,Ei l,.bool true,.bool true]) (λk m=>aY ⟨h,lg,[]⟩ m/\k=0) Z aX ⟨rfl,aY.refl _,rfl⟩ (λk m g hk hP=>?_) (λm g hP=>absurd hP.2 Z);obtain⟨h3,dH,d3⟩:=m;obtain⟨k3,rfl⟩:=hP;obtain rfl:d3=[]:=k3.aV;refine bH ?_;refine aW (Z2 (show i64.wrap 0=0 by decide) (show((0:Int)<=12)=True by simp)) ?_;rw[<-fZ];refine dE _ _ _ _ _ _ (λw m4 k4=>?_) (AgM j _ h3 dH []);obtain⟨h4,fi,d4⟩:=m4;obtain rfl:d4=[]:=k4.aV;refine bH ?_;refine aS ?_;exact(k3.trans k4).sub
theorem N99(lg d:List Nat){k0:Nat}{v:AV}{L:List Int}(hv:cG k0 h 1 v (L.map cK))(hn:L.length<=16)(hd:(L.map id).Nodup)(q_:31<=j/\30<=j:=by omega):
 Wa FT MT (SM j) (n+9000) (.fn 99) [v] ⟨aR h [],lg,d⟩ (λ_ m'=>dG (·∈v.cj) ⟨h,lg,d⟩ m'/\∃L',cG k0 m'.ah 1 v (L'.map cK)/\L'.Perm L/\mO id 0 L.length L'):=by
 refine aI ?_;have u1:u64.wrap ((L.length:Nat):Int)=((L.length:Nat):Int):=dB Z Z;have g1:=λm=>Qu j L.length m Z
 have vl:=hv.sl.len;rw[length_map]at vl;have vc:=hv.sl.sc;refine aW (Z3 vl u1 g1) ?_;rw[<-fZ];rcases hv with⟨hL,rfl⟩|⟨b,rfl,hk,hb⟩
 .obtain rfl:L=[]:=map_eq_nil_iff.1 hL;refine dE _ _ _ _ _ _ (λw m4 k4=>?_) (AgN j _ h lg []);obtain⟨h4,fi,d4⟩:=m4;obtain rfl:d4=[]:=k4.aV;refine aS ?_;exact⟨k4.sub.sy,[],.nil rfl rfl,.refl _,λi j h1 h2 h3=>by simp at h3⟩
 .rw[length_map];refine oQ (AlD j _ h lg [] hb rfl hn hd (U8 _) (U9 _)) (λw h4 fi k4 hw=>?_);obtain⟨L4,B4,pm,Al7⟩:=hw;refine aS ?_;refine⟨(k4.mono (λx e=>by rw[e];simp)).sub,L4,.some b ?_ hk B4,pm,Al7⟩;rw[length_map,pm.length_eq]
theorem AgO(lg d:List Nat)(q_:0<=j:=by omega):Wa FT MT (SM j) (n+3000) (.fn 334) [.aF,Ei 0,Ei 0,.func 310 [] []] ⟨aR h [],lg,d⟩ (λ_ m=>aY ⟨h,lg,d⟩ m):=by
 refine aI ?_;refine aS ?_;refine dV 0 [X8] (λr=>[Ei 1]) (λr m=>aY ⟨h,lg,[]⟩ m) Z aX ⟨rfl,aY.refl _⟩ (λr m g hr hP=>absurd hr Z) (λm g hP=>?_);obtain⟨h3,dH,d3⟩:=m;obtain rfl:d3=[]:=hP.aV;refine bH ?_;refine aW (show((1:Int)<0)=False by simp) ?_;exact hP.sub
theorem AgP(lg d:List Nat){l:Nat}(q_:0<=j:=by omega):Wa FT MT (SM j) (n+4000) (.fn 325) [.aF,Ei 0,Ei 0,Ei l,.func 310 [] []] ⟨aR h [],lg,d⟩ (λ_ m=>aY ⟨h,lg,d⟩ m):=by
 refine aI ?_;refine aS ?_;refine dV 1 [X2,X1,X3,BZ,wJ] (λk=>[Ei 0,Ei 0,Ei l,.bool true,.bool true]) (λk m=>aY ⟨h,lg,[]⟩ m/\k=0) Z aX ⟨rfl,aY.refl _,rfl⟩ (λk m g hk hP=>?_) (λm g hP=>absurd hP.2 Z);obtain⟨h3,dH,d3⟩:=m;obtain⟨k3,rfl⟩:=hP;obtain rfl:d3=[]:=k3.aV;refine bH ?_;refine aW (Z2 (show i64.wrap 0=0 by decide) (show((0:Int)<=12)=True by simp)) ?_;rw[<-fZ];refine dE _ _ _ _ _ _ (λw m4 k4=>?_) (AgO j _ h3 dH []);obtain⟨h4,fi,d4⟩:=m4;obtain rfl:d4=[]:=k4.aV;refine bH ?_;refine aS ?_;exact(k3.trans k4).sub
theorem AlH(lg d:List Nat){k0:Nat}{v:AV}{L:List kT}(hv:cG k0 h 2 v (L.map dW))(hn:L.length<=16)(hr:∀x∈L,ig h x){K:kT->Int}(hK:∀x∈L,∀y∈L,(eF x.r y.r<0↔K x<K y))(hd:(L.map K).Nodup)(q_:190<=j/\30<=j:=by omega):
 Wa FT MT (SM j) (n+9000) (.fn 309) [v,.func 310 [] []] ⟨aR h [],lg,d⟩ (λ_ m'=>dG (·∈v.cj) ⟨h,lg,d⟩ m'/\∃L',cG k0 m'.ah 2 v (L'.map dW)/\L'.Perm L/\mO K 0 L.length L'):=by
 refine aI ?_;have u1:u64.wrap ((L.length:Nat):Int)=((L.length:Nat):Int):=dB Z Z;have g1:=λm=>Qu j L.length m Z
 have vl:=hv.sl.len;rw[length_map]at vl;have vc:=hv.sl.sc;refine aW (Z3 vl u1 g1) ?_;rw[<-fZ];rcases hv with⟨hL,rfl⟩|⟨b,rfl,hk,hb⟩
 .obtain rfl:L=[]:=map_eq_nil_iff.1 hL;refine dE _ _ _ _ _ _ (λw m4 k4=>?_) (AgP j _ h lg []);obtain⟨h4,fi,d4⟩:=m4;obtain rfl:d4=[]:=k4.aV;refine aS ?_;exact⟨k4.sub.sy,[],.nil rfl rfl,.refl _,λi j h1 h2 h3=>by simp at h3⟩
 .rw[length_map];refine oQ (AlG j _ h lg [] hb rfl hn hr hK hd (U8 _) (U9 _)) (λw h4 fi k4 hw=>?_);obtain⟨L4,B4,pm,Al7⟩:=hw;refine aS ?_;refine⟨(k4.mono (λx e=>by rw[e];simp)).sub,L4,.some b ?_ hk B4,pm,Al7⟩;rw[length_map,pm.length_eq]
structure qb where
 v:AV
 l:List Nat
 deriving Inhabited
def zb(x:qb):List AV:=[x.v]
structure MY(b:Nat)(h:aN)(x:qb):Prop where
 s:aT h 1 x.v (x.l.map fy)
 l:x.l.length<=1000
 n:∀c∈x.v.cj,c≠b
theorem MY.ko{h h':aN}{lg bq d d':List Nat}{b:Nat}{x:qb}(H:MY b h x)(k:dG (·=b) ⟨h,lg,d⟩ ⟨h',bq,d'⟩):MY b h' x:=⟨aT.sy (m:=⟨h,lg,d⟩) (m':=⟨h',bq,d'⟩) H.s k H.n,H.l,H.n⟩
theorem AlI(lg d:List Nat){b a z N:Nat}{L:List qb}(hb:dP 1 zb h b L)(hN:L.length=N)(ha:a<=z/\z<=N)(hn:N<=1000)(hr:∀x∈L,MY b h x){K:qb->Int}(hK:∀x∈L,∀y∈L,(gr x.l y.l<0↔K x<K y))(q_:15<=j:=by omega):
 Wa FT MT (SM j) (n+3000) (.fn 156) [.slice b 0 N none,Ei a,Ei z,.func 49 [] []] ⟨aR h [],lg,d⟩ (Qc b ⟨h,lg,d⟩ (λ_ h'=>∃L',dP 1 zb h' b L'/\Mv a z L L'/\mO K a z L')):=by
 refine aI ?_;have w0:i64.wrap ((a:Int)+1)=((a+1:Nat):Int):=by rw[aU Z Z];omega
 refine aW w0 ?_;refine dz (α:=List qb) (z-(a+1)) [X8] (λi _=>[Ei ((a+1+i:Nat):Int)]) (λi L' m=>dG (·=b) ⟨h,lg,[]⟩ m/\dP 1 zb m.ah b L'/\Mv a z L L'/\mO K a (a+1+i) L') Z aX ⟨L,rfl,dG.refl _ _,hb,Mv.refl _ _ _,λp q h1 h2 h3=>Z⟩ (λi L1 m g hi hP=>?_) (λL1 m g hP=>?_)
 .obtain⟨h3,dH,d3⟩:=m;obtain⟨kk,B,mv,Al7⟩:=hP;obtain rfl:d3=[]:=kk.aV;simp only at B;have il:(((a+1+i:Nat):Int)<(z:Int))=True:=dy;have w1:i64.wrap (((a+1+i:Nat):Int)+1)=((a+1+(i+1):Nat):Int):=by rw[aU Z Z];omega
  refine bH ?_;refine aW il ?_;refine dz (α:=Nat×List qb) (1+i) [X9] (λ_ x=>[Ei x.1]) (λk x m=>dG (·=b) ⟨h,lg,[]⟩ m/\dP 1 zb m.ah b x.2/\Mv a z L x.2/\zH K a (a+1+i) x.1 x.2/\x.1+k=a+1+i) Z aX ⟨(a+1+i,L1),rfl,kk,B,mv,zH.start Al7,Z⟩ (λk x m g hk hQ=>?_) (λx m g hQ=>?_)
  .obtain⟨h4,fi,d4⟩:=m;obtain⟨jj,L2⟩:=x;obtain⟨k4,B4,ru,ip,jk⟩:=hQ;obtain rfl:d4=[]:=k4.aV;simp only at B4 ru ip jk;have e4:=ru.len;have jl:jj<L2.length:=Z;have jm:jj-1<L2.length:=Z;have c1:((a:Int)<(jj:Int))=True:=dy;have w2:i64.wrap ((jj:Int)-1)=((jj-1:Nat):Int):=by rw[aU Z Z];omega
   have i1:decide (jj<N)=true:=by simp;omega
   have i2:decide (jj-1<N)=true:=by simp;omega
   have o:=bg (ag B4);have r1:=dP.rg (L:=L2) (C:=zb) (w:=1) aZ (λ_=>rfl) jl;have r2:=dP.rg (L:=L2) (C:=zb) (w:=1) aZ (λ_=>rfl) jm;have s1:=dP.rs (L:=L2) (C:=zb) (w:=1) aZ (λ_=>rfl) jl (gt L2 (jj-1));have s2:=dP.rs (L:=L2.set jj (gt L2 (jj-1))) (C:=zb) (w:=1) aZ (λ_=>rfl) (i:=jj-1) (by simpa using jm) (gt L2 jj);simp only[zb]at r1 r2 s1 s2;have sc:=And.intro (And.intro (hr _ (ru.at (i:=(jj)) Z)).s.sc (hr _ (ru.at (i:=(jj)) Z)).s.cells) (And.intro (hr _ (ru.at (i:=(jj-1)) Z)).s.sc (hr _ (ru.at (i:=(jj-1)) Z)).s.cells);have gb:=λl=>B4.bx l
   have ls:=λl lg d=>Agz j (gt L2 (jj)).l (gt L2 (jj-1)).l (gt L2 (jj)).v (gt L2 (jj-1)).v ⟨aR h4 l,lg,d⟩ (((hr _ (ru.at Z)).ko k4).s.bx l) (((hr _ (ru.at Z)).ko k4).s.bx l) (hr _ (ru.at Z)).l (hr _ (ru.at Z)).l
   refine bH ?_;refine aD (gX c1 w2 i1 i2 gb o r1 r2 s1 s2 ls sc) ?_;refine⟨λc=>⟨(jj-1,sw L2 jj (jj-1)),rfl,k4.trans (cD (P:=(·=b)) (ag B4) rfl _ _ (.cons (.inl rfl) (.cons (.inl rfl) .nil))) (λx e=>.inl e),B4.put _ _,ru.trans (Mv.sw Z Z Z),ip.step Z Z Z ((hK (gt L2 (jj)) (ru.at Z) (gt L2 (jj-1)) (ru.at Z)).1 c),by show jj-1+(k+1)=a+1+i;omega⟩,λc=>⟨L2,w1,k4,B4,ru,ip.stop Z (.inr (λq=>c ((hK (gt L2 (jj)) (ru.at Z) (gt L2 (jj-1)) (ru.at Z)).2 q)))⟩⟩
  .obtain⟨h4,fi,d4⟩:=m;obtain⟨jj,L2⟩:=x;obtain⟨k4,B4,ru,ip,jk⟩:=hQ;obtain rfl:d4=[]:=k4.aV;simp only at B4 ru ip jk;obtain rfl:jj=a:=Z;have c1:((jj:Int)<(jj:Int))=False:=cR;refine bH ?_;refine aW c1 ?_;exact⟨L2,w1,k4,B4,ru,ip.stop Z (.inl cB)⟩
 .obtain⟨h3,dH,d3⟩:=m;obtain⟨kk,B,mv,Al7⟩:=hP;obtain rfl:d3=[]:=kk.aV;simp only at B;have il:(((a+1+(z-(a+1)):Nat):Int)<(z:Int))=False:=cR;refine bH ?_;refine aW il ?_;exact⟨kk.sub,L1,B,mv,λp q h1 h2 h3=>Al7 p q h1 h2 Z⟩
theorem AgQ(lg d:List Nat){b a z N l:Nat}{L:List qb}(hb:dP 1 zb h b L)(hN:L.length=N)(ha:a<=z/\z<=N)(hs:z<=a+12)(hn:N<=16)(hr:∀x∈L,MY b h x){K:qb->Int}(hK:∀x∈L,∀y∈L,(gr x.l y.l<0↔K x<K y))(q_:15<=j:=by omega):
 Wa FT MT (SM j) (n+4000) (.fn 101) [.slice b 0 N none,Ei a,Ei z,Ei l,.func 49 [] []] ⟨aR h [],lg,d⟩ (Qc b ⟨h,lg,d⟩ (λ_ h'=>∃L',dP 1 zb h' b L'/\Mv a z L L'/\mO K a z L')):=by
 refine aI ?_;have w1:i64.wrap ((z:Int)-a)=((z-a:Nat):Int):=by rw[aU Z Z];omega
 have c1:(((z-a:Nat):Int)<=12)=True:=dy;refine aS ?_;refine dV 1 [X2,X1,X3,BZ,wJ] (λk=>[Ei z,Ei a,Ei l,.bool true,.bool true]) (λk m=>dG (·=b) ⟨h,lg,[]⟩ m/\dP 1 zb m.ah b L/\k=0) Z aX ⟨rfl,dG.refl _ _,hb,rfl⟩ (λk m g hk hP=>?_) (λm g hP=>absurd hP.2.2 Z);obtain⟨h3,dH,d3⟩:=m;obtain⟨k3,B3,rfl⟩:=hP;obtain rfl:d3=[]:=k3.aV;refine bH ?_;refine aW (Z2 w1 c1) ?_;rw[<-fZ];refine oQ (AlI j _ h3 dH [] B3 hN ha Z (λx hx=>(hr x hx).ko k3) hK) (λw h4 fi k4 hw=>?_);obtain⟨L4,B4,m4,Al7⟩:=hw;refine aS ?_;exact⟨(k3.trans k4 (λx e=>.inl e)).sub,L4,B4,m4,Al7⟩
theorem AgR(lg d:List Nat)(q_:0<=j:=by omega):Wa FT MT (SM j) (n+3000) (.fn 156) [.aF,Ei 0,Ei 0,.func 49 [] []] ⟨aR h [],lg,d⟩ (λ_ m=>aY ⟨h,lg,d⟩ m):=by
 refine aI ?_;refine aS ?_;refine dV 0 [X8] (λr=>[Ei 1]) (λr m=>aY ⟨h,lg,[]⟩ m) Z aX ⟨rfl,aY.refl _⟩ (λr m g hr hP=>absurd hr Z) (λm g hP=>?_);obtain⟨h3,dH,d3⟩:=m;obtain rfl:d3=[]:=hP.aV;refine bH ?_;refine aW (show((1:Int)<0)=False by simp) ?_;exact hP.sub
theorem AgS(lg d:List Nat){l:Nat}(q_:0<=j:=by omega):Wa FT MT (SM j) (n+4000) (.fn 101) [.aF,Ei 0,Ei 0,Ei l,.func 49 [] []] ⟨aR h [],lg,d⟩ (λ_ m=>aY ⟨h,lg,d⟩ m):=by
 refine aI ?_;refine aS ?_;refine dV 1 [X2,X1,X3,BZ,wJ] (λk=>[Ei 0,Ei 0,Ei l,.bool true,.bool true]) (λk m=>aY ⟨h,lg,[]⟩ m/\k=0) Z aX ⟨rfl,aY.refl _,rfl⟩ (λk m g hk hP=>?_) (λm g hP=>absurd hP.2 Z);obtain⟨h3,dH,d3⟩:=m;obtain⟨k3,rfl⟩:=hP;obtain rfl:d3=[]:=k3.aV;refine bH ?_;refine aW (Z2 (show i64.wrap 0=0 by decide) (show((0:Int)<=12)=True by simp)) ?_;rw[<-fZ];refine dE _ _ _ _ _ _ (λw m4 k4=>?_) (AgR j _ h3 dH []);obtain⟨h4,fi,d4⟩:=m4;obtain rfl:d4=[]:=k4.aV;refine bH ?_;refine aS ?_;exact(k3.trans k4).sub
theorem N48(lg d:List Nat){k0:Nat}{v:AV}{L:List qb}(hv:cG k0 h 1 v (L.map zb))(hn:L.length<=8)(hr:∀x∈L,∀b∈v.cj,MY b h x){K:qb->Int}(hK:∀x∈L,∀y∈L,(gr x.l y.l<0↔K x<K y))(q_:15<=j/\30<=j:=by omega):
 Wa FT MT (SM j) (n+9000) (.fn 48) [v,.func 49 [] []] ⟨aR h [],lg,d⟩ (λ_ m'=>dG (·∈v.cj) ⟨h,lg,d⟩ m'/\∃L',cG k0 m'.ah 1 v (L'.map zb)/\L'.Perm L/\mO K 0 L.length L'):=by
 refine aI ?_;have u1:u64.wrap ((L.length:Nat):Int)=((L.length:Nat):Int):=dB Z Z;have g1:=λm=>Qu j L.length m Z
 have vl:=hv.sl.len;rw[length_map]at vl;have vc:=hv.sl.sc;refine aW (Z3 vl u1 g1) ?_;rw[<-fZ];rcases hv with⟨hL,rfl⟩|⟨b,rfl,hk,hb⟩
 .obtain rfl:L=[]:=map_eq_nil_iff.1 hL;refine dE _ _ _ _ _ _ (λw m4 k4=>?_) (AgS j _ h lg []);obtain⟨h4,fi,d4⟩:=m4;obtain rfl:d4=[]:=k4.aV;refine aS ?_;exact⟨k4.sub.sy,[],.nil rfl rfl,.refl _,λi j h1 h2 h3=>by simp at h3⟩
 .rw[length_map];refine oQ (AgQ j _ h lg [] hb rfl ⟨Nat.zero_le _,cB⟩ Z Z (λx hx=>hr x hx b (by simp[AV.cj])) hK) (λw h4 fi k4 hw=>?_);obtain⟨L4,B4,m4,Al7⟩:=hw;have pm:=m4.sq;refine aS ?_;refine⟨(k4.mono (λx e=>by rw[e];simp)).sub,L4,.some b ?_ hk B4,pm,Al7⟩;rw[length_map,pm.length_eq]
theorem cG.At{k:Nat}{h:aN}{e:Nat}{v:AV}{es:List (List AV)}(H:cG k h e v es):∀b∈v.cj,k<=b:=by
 rcases H with⟨_,rfl⟩|⟨b,rfl,hk,_⟩
 .intro b hb;cases hb
 .intro c hc;simp only[AV.cj,mem_singleton]at hc;omega
theorem cG.nr{k:Nat}{h:aN}{e e':Nat}{u v:AV}{es pd:List (List AV)}(H:cG k h e u es)(S:aT h e' v pd)(ne:e'≠e):∀c∈v.cj,¬c∈u.cj:=by
 rcases H with⟨_,rfl⟩|⟨b,rfl,hk,hb⟩
 .intro c _ hc;cases hc
 .intro c hc EP;simp only[AV.cj,mem_singleton]at EP;exact S.gz hb ne c hc EP
def FtI(h:aN)(lg:List Nat)(l:List bF)(z a:Int)(f to:Nat)(i:Nat)(x:AV×List kT)(m:Mem):Prop:=
 aY ⟨h,lg,[]⟩ m/\cG h.length m.ah 2 x.1 (x.2.map dW)/\(∀y∈x.2,ig m.ah y)/\x.2.map (·.r)=jy l z a f to i/\x.2.length<=i
def FtQ(h:aN)(l:List bF)(z a:Int)(f to:Nat)(w:AV)(h':aN):Prop:=∃(u:AV) (xs:List kT),w=.tuple [u,Ei 0]/\cG h.length h' 2 u (xs.map dW)/\(∀y∈xs,ig h' y)/\xs.length<=16/\(xs.map (·.r)).Perm (jy l z a f to 16)/\∀x m,xs=x::m->∀s∈xs,¬eF s.r x.r<0
theorem AlJ(j n':Nat)(h:aN)(lg d:List Nat){l:List bF}{v:AV}{f to:Nat}{a z:Int}(hv:aT h 6 v (l.map bY))(hw:l.length<=40)(hp:(eA l).1=0)(Ft:(eA (gH l f)).1=0)(hc:∀c∈l,cF c)(hf:1<=f/\f<=16)(ht:1<=to/\to<=16)(ha:0<=a/\a<=1099511627776)(hz:1<=z/\z<=1200)(q_:219<=j/\207<=j/\190<=j/\189<=j/\23<=j/\30<=j:=by omega):
 Wa FT MT (SM j) (n'+9800) (.fn 274) [v,Ei f,Ei to,Ei a,Ei z,.aF] ⟨aR h [],lg,d⟩ (Qk ⟨h,lg,d⟩ (FtQ h l z a f to)):=by
 refine aI ?_;have g1:=λl' lg d (q:fj l' 0=(aO 1 [[Ei f],[Ei to]]))=>Alh (j:=j) (l:=l) (v:=v) (a:=a) (z:=z) [(f:Int),(to:Int)] (.slice (nb h 0) 0 2 (some 2)) ⟨aR h l',lg,d⟩ (hv.bx l') Z hp hz ha (.some (nb h 0) 0 (some 2) true _ rfl (by rw[bj,q]) rfl (λ_ h=>by cases h;simp)) (by simp) (by intro x hx;simp at hx;omega)
 refine aW g1 ?_;refine dz (α:=AV×List kT) 16 [Uw,Q7] (λi x=>[Ei ((i+1:Nat):Int),x.1]) (FtI h lg l z a f to) Z aX ⟨(.aF,[]),rfl,aH aL,.nil rfl rfl,λy hy=>(by cases hy),rfl,cB⟩ (λi x m' g hi hP=>?_) (λx m' g hP=>?_)
 .obtain⟨h3,dH,d3⟩:=m';obtain⟨u,xs⟩:=x;obtain⟨k,ou,ex,rx,xl⟩:=hP;obtain rfl:d3=[]:=k.aV;simp only at ou ex rx xl;have C6:aT h3 6 v (l.map bY):=aT.bw (m:=⟨h,lg,[]⟩) (m':=⟨h3,dH,[]⟩) hv k;have il:(((i+1:Nat):Int)<=16)=True:=dy;have r:i64.wrap (((i+1:Nat):Int)+1)=((i+1+1:Nat):Int):=by rw[aU Z Z];omega
  refine bH ?_;refine aW il ?_;rw[<-fZ];refine fK (Alq j _ (aR h3 []) _ _ (n:=i+1) (C6.bx _) hw hp Ft hc ht ⟨ha.1,by show a<=2199024304128;omega⟩ hz) (λw h4 fi k4 Da=>?_);obtain⟨x4,rfl,KU,U6⟩:=Da;have wz:aY ⟨h3,dH,[]⟩ ⟨h4,fi,[]⟩:=k4;have Zk:cG h.length h4 2 u (xs.map dW):=cG.bw (m:=⟨h3,dH,[]⟩) (m':=⟨h4,fi,[]⟩) ou wz;have Zl:∀y∈xs,ig h4 y:=λy hy=>ig.bw (m:=⟨h3,dH,[]⟩) (m':=⟨h4,fi,[]⟩) (ex y hy) wz
  have cu:=Zk.sl.sc;rcases hb:Is l z a f to (i+1:Nat)with _|rb
  .have rr:jy l z a f to (i+1)=jy l z a f to i:=by rw[jy,hb]
   refine aW (Z3 r @dW.eq_1 KU) ?_;exact⟨(u,xs),rfl,(k.trans wz).trans (aH aL),Zk.bx _,λy hy=>(Zl y hy).bx _,by rw[rr];exact rx,by simp only;omega⟩
  .obtain⟨rfl,To⟩:=U6 rb hb;have rr:jy l z a f to (i+1)=jy l z a f to i++[x4.r]:=by rw[jy,hb]
   have g2:=λm=>E44 j [] .aF ((i+1:Nat):Int) m (.none rfl (.inl rfl)) (by simp)
   have nm:decide (((i+1:Nat):Int)∈([]:List Int))=false:=by simp
   rw[nm]at g2;have k5:=(k.trans wz);rcases Zk with⟨hn,rfl⟩|⟨b,rfl,hk,hb⟩
   .obtain rfl:xs=[]:=map_eq_nil_iff.1 hn;refine aW (Z4 r @dW.eq_1 KU g2) ?_;refine⟨(_,[x4]),rfl,k5.trans (aH aL),?_,λy hy=>?_,?_,by simp⟩
    .exact .some _ rfl (bK k5.len aB) bj
    .rw[mem_singleton.1 hy];exact To.bx _
    .rw[rr,<-rx];rfl
   .simp only[length_map]at*;have o:=bg (ag hb);have gb:∀l,aj (aR h4 l) b=_:=λl=>(an l h4 _ (ag hb)).trans hb
    have fA:(1000000000000<(xs.length+1)*32)=False:=by simp;omega
    have fC:List.take xs.length (xs.map dW)=xs.map dW:=take_of_length_le (by simp);refine aW (Z9 r @dW.eq_1 KU g2 o gb fA @fB fC) ?_;refine⟨(_,xs++[x4]),rfl,k5.bS hk (ag hb) _ _ (dD.ok (by repeat first|exact dD.nil|refine dD.cons (by first|exact aB|exact bK (k5.len) aB|assumption) ?_)),?_,λy hy=>?_,?_,by simp;omega⟩
    .rw[map_append];exact .some (nb h4 2) (by simp) (bK k5.len aB) (o.2.1 _ _ _)
    .have ry:ig h4 y:=by
      rcases mem_append.1 hy with hy|hy
      .exact Zl y hy
      .rw[mem_singleton.1 hy];exact To
     exact⟨aT.bS ry.s (ag hb) (ry.s.gz hb aZ) _ _,ry.l⟩
    .rw[rr,map_append,rx];rfl
 .obtain⟨h3,dH,d3⟩:=m';obtain⟨u,xs⟩:=x;obtain⟨k,ou,ex,rx,xl⟩:=hP;obtain rfl:d3=[]:=k.aV;simp only at ou ex rx xl;refine bH ?_;refine aS ?_;rw[<-fZ];have FY:(xs.map (·.r)).Nodup:=by rw[rx];exact Ee 16
  have hK:∀x∈xs,∀y∈xs,(eF x.r y.r<0↔Tu (λa b:kT=>eF a.r b.r) xs x<Tu (λa b:kT=>eF a.r b.r) xs y):=λx hx y hy=>Fg (c:=λa b:kT=>eF a.r b.r) tL As Ha hx
  refine dE _ _ _ _ _ _ (λw m4 hw=>?_) (AlH j _ h3 dH [] ou Z ex hK ?_)
  .obtain⟨h4,fi,d4⟩:=m4;obtain⟨kc,L,oL,pm,Al7⟩:=hw;obtain rfl:d4=[]:=kc.aV;refine bH ?_;refine aS ?_;refine⟨(k.ko kc λb hb=>ou.At b hb).sub,u,L,rfl,oL,λy hy=>?_,?_,?_,?_⟩
   .have ry:=ex y (pm.mem_iff.1 hy);exact⟨aT.sy (m:=⟨h3,dH,[]⟩) (m':=⟨h4,fi,[]⟩) ry.s kc (ou.nr ry.s aZ),ry.l⟩
   .rw[pm.length_eq];exact xl
   .rw[<-rx];exact pm.map _
   .intro x m e s hs;obtain⟨i,hi,es⟩:=getElem_of_mem hs;have pe:=pm.length_eq;have x0:x=gt L 0:=by rw[e];rfl
    have ei:s=gt L i:=by rw[bB hi];exact es.symm
    rcases Nat.eq_zero_or_pos i with q|q
    .rw[ei,q,<-x0];exactλc=>tL c c
    .have:=Al7 0 i (Nat.zero_le _) q Z;intro c;have c:=(hK s (pm.mem_iff.1 hs) x (pm.mem_iff.1 (by rw[e];exact .head _))).1 c;rw[ei,x0]at c;omega
  .refine pairwise_map.2 ((pairwise_map.1 FY).imp_of_mem λ{x y} hx hy ne e=>ne ?_);refine zW (λc=>?_) (λc=>?_)
   .have:=(hK x hx y hy).1 c;omega
   .have:=(hK y hy x hx).1 c;omega
theorem Hc{F:FuncId->Option bD}{au:bR}{sm:ct}{n:Nat}{c:hZ}{vs:List AV}{h:aN}{lg d:List Nat}{P Q:AV->Mem->Prop}(H:Wa F au sm n c vs ⟨h,lg,d⟩ P)(hd:∀v m',P v m'->m'.aV=d)
 (hQ:∀v h' bq,P v ⟨h',bq,d⟩->Q v ⟨aR h' [],bq,d⟩):Wa F au sm n c vs ⟨h,lg,d⟩ Q:=
 dE n _ _ _ _ _ (λv m' p=>by
  obtain⟨h',bq,d'⟩:=m';obtain rfl:d'=d:=hd v _ p;exact hQ v h' bq p) H
def KB(h h':aN):Prop:=h.length<=h'.length/\∀b,b<h.length->aj h' b=aj h b
theorem KB.trans{a b c:aN}(h:KB a b)(k:KB b c):KB a c:=⟨bK h.1 k.1,λx hx=>(k.2 x (gA hx h.1)).trans (h.2 x hx)⟩
theorem aY.kb{m m':Mem}(k:aY m m'):KB m.ah m'.ah:=⟨k.len,k.get⟩
theorem KB.bx(h:aN)(l:List (Option bp)):KB h (aR h l):=⟨by rw[bV];omega,λb hb=>an l h b hb⟩
def GrJ(k0:Nat)(m m':Mem):Prop:=m'.aV=m.aV/\m.ah.length<=m'.ah.length/\∃q,m'.hU=q++m.hU/\∀b∈q,k0<=b
theorem lO{k b:Nat}{lg bq:List Nat}(hb:k<=b)(h:∃q,bq=q++lg/\∀b∈q,k<=b):∃q,b::bq=q++lg/\∀b∈q,k<=b:=by
 obtain⟨q,rfl,h⟩:=h;exact⟨b::q,rfl,λc hc=>by rcases mem_cons.1 hc with rfl|hc;exact hb;exact h c hc⟩
theorem K8{k:Nat}{lg:List Nat}:∃q,lg=q++lg/\∀b∈q,k<=b:=⟨[],rfl,λb hb=>by cases hb⟩
theorem Hd{k:Nat}{lg q:List Nat}(h:∀b∈q,k<=b){bq:List Nat}(h':∃p,bq=p++lg/\∀b∈p,k<=b):∃p,q++bq=p++lg/\∀b∈p,k<=b:=by
 obtain⟨p,rfl,h'⟩:=h';exact⟨q++p,by rw[append_assoc],λb hb=>(mem_append.1 hb).elim (h b) (h' b)⟩
def ItX(b:bp):Prop:=(∃r,b=.loop r)\/b=.nZ\/∃y,b=.row true 1 [[.yield y]]
def LD(b:bp):Prop:=(∃r,b=.loop r)\/b=.nZ
structure StJ(J:Nat->aN->Prop)(h0:aN)(k1:Nat):Prop where
 kk:h0.length<=k1
 b:∀i h,J i h->KB h0 h
 k:∀i h h',J i h->KB h h'->J i h'
 l:∀i h c r x,J i h->k1<=c->aj h c=some r->LD r->J i (aQ h c x)
def YlJ(j f:Nat)(J:Nat->aN->Prop)(h0:aN)(k1 y:Nat)(ns:List Int):Prop:=∀n i h lg d,i<ns.length->J i h->Wa FT MT (SM j) (n+f) (.yield y) [Ei (gt ns i)] ⟨h,lg,d⟩ (λv m'=>v=.bool true/\GrJ h0.length ⟨h,lg,d⟩ m'/\J (i+1) m'.ah/\∀b x,k1<=b->aj h b=some x->ItX x->aj m'.ah b=some x)
def Vb(j f X g:Nat)(Al7 cs:List AV)(ns:List Int)(h0:aN):Prop:=∀n J k1 y,StJ J h0 k1->YlJ j f J h0 k1 y ns->∀h lg d,k1<=h.length->J 0 h->Wa FT MT (SM j) (n+X) (.fn g) (Al7++[.yield y]++cs) ⟨aR h [],lg,d⟩ (λ_ m'=>GrJ h0.length ⟨h,lg,d⟩ m'/\J ns.length m'.ah)
theorem AgT(j f:Nat)(hf:f<=1900){h0:aN}{c1 c2 c3 c4:Nat}{o1 o2 o3 o4:Bool}{u v:AV}{xs:List kT}{l:List bF}{rs:List (List AV)}(H1:aj h0 c1=some (.row o1 1 [[u]]))(H2:aj h0 c2=some (.row o2 1 [[v]]))(H3:aj h0 c3=some (.row o3 1 [[.aF]]))(H4:aj h0 c4=some (.row o4 1 [[.bool false]]))
 (hu:aT h0 2 u (xs.map dW)) (hx:xs.length<=16) (hr:∀y∈xs,ig h0 y) (hh:∀y∈xs,y.r.1≠[]/\gt y.r.1 0<l.length) (hv:aT h0 6 v (l.map bY)) (q_:23<=j:=by omega):Vb j f 2000 277 [] [.ptr c1 0 0,.ptr c2 0 0,.ptr c3 0 0,.ptr c4 0 0] (xs.map λx=>yW l x.r) h0:=by
 intro n J k1 y S Y h lg d hk hJ;have kb:=S.b 0 h hJ;have b1:aj h c1=_:=(kb.2 c1 (ag H1)).trans H1;have d1:=λl=>(an l h c1 (ag b1)).trans b1
 have ul:=hu.len;show Wa FT MT (SM j) (n+2000) (.fn 277) [.yield y,.ptr c1 0 0,.ptr c2 0 0,.ptr c3 0 0,.ptr c4 0 0] ⟨aR h [],lg,d⟩ _;refine aI ?_;refine aW (Z2 d1 ul) ?_;refine dz (α:=Unit) xs.length [wJ] (λi _=>[Ei (i:Nat)]) (λi _ m=>GrJ h0.length ⟨h,lg,[]⟩ m/\J i m.ah) Z aX ⟨(),rfl,⟨rfl,cB,[],rfl,λb hb=>by cases hb⟩,hJ⟩ (λi _ m' g hi hP=>?_) (λ_ m' g hP=>?_)
 .obtain⟨h3,dH,d3⟩:=m';obtain⟨⟨e3,l3,q3⟩,J3⟩:=hP;simp only at e3 l3 q3 J3;subst e3;have Dd:=S.b i h3 J3;have a2:aj h3 c2=_:=(Dd.2 c2 (ag H2)).trans H2;have a3:aj h3 c3=_:=(Dd.2 c3 (ag H3)).trans H3;have a4:aj h3 c4=_:=(Dd.2 c4 (ag H4)).trans H4;have g2:=λl=>(an l h3 c2 (ag a2)).trans a2
  have g3:=λl=>(an l h3 c3 (ag a3)).trans a3
  have g4:=λl=>(an l h3 c4 (ag a4)).trans a4
  have u3:aT h3 2 u (xs.map dW):=aT.bw (m:=⟨h0,[],[]⟩) (m':=⟨h3,[],[]⟩) hu ⟨Dd.1,Dd.2,rfl,[],rfl,λb hb=>by cases hb⟩;have v3:aT h3 6 v (l.map bY):=aT.bw (m:=⟨h0,[],[]⟩) (m':=⟨h3,[],[]⟩) hv ⟨Dd.1,Dd.2,rfl,[],rfl,λb hb=>by cases hb⟩;have r3:ig h3 (gt xs i):=ig.bw (m:=⟨h0,[],[]⟩) (m':=⟨h3,[],[]⟩) (hr _ (bA hi)) ⟨Dd.1,Dd.2,rfl,[],rfl,λb hb=>by cases hb⟩;have e:=u3.el hi;have r:=fh hi Z;obtain⟨n0,n1⟩:=hh _ (bA hi);have p0:0<(gt xs i).r.1.length:=length_pos_iff.2 n0;have er:=r3.s.el p0;have ec:=v3.el n1;simp only[show((0:Nat):Int)=0 from rfl,Nat.add_zero]at er;unfold dW at e;unfold fy at er;unfold bY at ec;have rc:=r3.s.sc;have ul3:=u3.len;rw[length_map]at ul3;have g5:=λx m=>E44 j [] .aF x m (.none rfl (.inl rfl)) (by simp)
  have nm:∀x:Int,decide (x∈([]:List Int))=false:=λx=>by simp
  simp only[nm]at g5;refine bH ?_;refine aW (Z9 e er ec r rc g2 g3 g4 g5) ?_;have lV:i<(xs.map λx=>yW l x.r).length:=by rw[length_map];exact hi
  have gm:gt (xs.map λx=>yW l x.r) i=(gt l (gt (gt xs i).r.1 0)).t:=by rw[bB lV,getElem_map,<-bB hi];rfl
  have y0:=λlg d=>Y (n+1999-f) i (aR h3 [(aO 2 [[(gt xs i).v,Ei (gt xs i).r.2]])]) lg d lV (S.k i _ _ J3 (KB.bx _ _))
  rw[gm,show n+1999-f+f=n+1999 by omega]at y0;refine Hc (y0 _ _) (λv m' p=>p.2.1.1) (λw h4 fi hw=>?_);obtain⟨rfl,⟨_,l4,q4,e4,f4⟩,J4,_⟩:=hw;simp only at l4 e4 J4;refine aW r ?_;have k3:h0.length<=nb h3 0:=bK Dd.1 aB;have e4:fi=q4:=by rw[e4,append_nil]
  exact⟨(),⟨rfl,bK l3 (bK (by rw[bV];omega) l4),by rw[e4];exact Hd f4 (lO k3 (lO k3 q3))⟩,J4⟩
 .obtain⟨h3,dH,d3⟩:=m';obtain⟨⟨e3,l3,q3⟩,J3⟩:=hP;simp only at e3 l3 q3 J3;subst e3;have r:=cY xs.length;refine bH ?_;refine aW r ?_;exact⟨⟨rfl,l3,q3⟩,J3⟩
theorem AgU(j f:Nat)(hf:f<=1900){h0:aN}{c:Nat}{o:Bool}{v:AV}{ns:List Int}(H:aj h0 c=some (.row o 1 [[v]]))(hv:aT h0 1 v (ns.map cK))(hl:ns.length<=1000):Vb j f 2000 100 [] [.ptr c 0 0] ns h0:=by
 intro n J k1 y S Y h lg d hk hJ;have kb:=S.b 0 h hJ;have b1:aj h c=_:=(kb.2 c (ag H)).trans H;have d1:=λl=>(an l h c (ag b1)).trans b1
 have ul:=hv.len;rw[length_map]at ul;show Wa FT MT (SM j) (n+2000) (.fn 100) [.yield y,.ptr c 0 0] ⟨aR h [],lg,d⟩ _;refine aI ?_;refine aW (Z2 d1 ul) ?_;refine dz (α:=Unit) ns.length [X7] (λi _=>[Ei (i:Nat)]) (λi _ m=>GrJ h0.length ⟨h,lg,[]⟩ m/\J i m.ah) Z aX ⟨(),rfl,⟨rfl,cB,[],rfl,λb hb=>by cases hb⟩,hJ⟩ (λi _ m' g hi hP=>?_) (λ_ m' g hP=>?_)
 .obtain⟨h3,dH,d3⟩:=m';obtain⟨⟨e3,l3,q3⟩,J3⟩:=hP;simp only at e3 l3 q3 J3;subst e3;have Dd:=S.b i h3 J3;have v3:aT h3 1 v (ns.map cK):=aT.bw (m:=⟨h0,[],[]⟩) (m':=⟨h3,[],[]⟩) hv ⟨Dd.1,Dd.2,rfl,[],rfl,λb hb=>by cases hb⟩;have e:=v3.el hi;have r:=fh hi Z;unfold cK at e;refine bH ?_;refine aW (Z2 e r) ?_;have y0:=Y (n+1999-f) i h3 dH [] hi J3;rw[show n+1999-f+f=n+1999 by omega]at y0;refine Hc y0 (λv m' p=>p.2.1.1) (λw h4 fi hw=>?_);obtain⟨rfl,⟨_,l4,q4,e4,f4⟩,J4,_⟩:=hw;simp only at l4 e4 J4;refine aW r ?_;exact⟨(),⟨rfl,bK l3 l4,by rw[e4];exact Hd f4 q3⟩,J4⟩
 .obtain⟨h3,dH,d3⟩:=m';obtain⟨⟨e3,l3,q3⟩,J3⟩:=hP;simp only at e3 l3 q3 J3;subst e3;have r:=cY ns.length;refine bH ?_;refine aW r ?_;exact⟨⟨rfl,l3,q3⟩,J3⟩
theorem cG.kb{k:Nat}{h h':aN}{e:Nat}{v:AV}{es:List (List AV)}(H:cG k h e v es)(K:KB h h'):cG k h' e v es:=cG.bw (m:=⟨h,[],[]⟩) (m':=⟨h',[],[]⟩) H ⟨K.1,K.2,rfl,[],rfl,λb hb=>by cases hb⟩
theorem KB.kp{h h':aN}(K:KB h h'):aY ⟨h,[],[]⟩ ⟨h',[],[]⟩:=⟨K.1,K.2,rfl,[],rfl,λb hb=>by cases hb⟩
theorem Qz{l:List Int}{v:AV}(h:∀x,v≠Ei x):l.map cK≠[[v]]:=λe=>by
 cases l with
 |nil=>cases e
 |cons a l=>
  rw[map_cons]at e;have:=(List.cons.inj e).1;exact h a (List.cons.inj this).1.symm
theorem I7:∀(l:List Int) (x:Int),gh (l.map cK++[[Ei x]])=[]
 |[],_=>rfl
 |a::l,x=>by
  have:=I7 l x;rw[map_cons,cons_append];simpa[gh,cK,hH,AV.cj]using this
def JL(h:aN)(T1:Tr)(ns:List Int)(i:Nat)(hh:aN):Prop:=KB h hh/\(∃u,aj hh (nb h 0)=(aO 1 [[u]])/\cG h.length hh 1 u ((ns.take i).map cK))/\aj hh (nb h 2)=some (.loop ⟨.ready,none,T1,[X7],(oR [oM X5 Y7]),(.block 1 (oR [oP X8 (.load false 1 Y2),oM X9 Y5,oP BZ (.Aw 1 1 [E0] [(0,Y9)]),oP wJ (.tN 1 8 Y8 YR),oN (.store 1 Y2 YS)]))⟩)/\aj hh (nb h 1)=some .nZ
theorem AlK(lg d:List Nat){X g:Nat}{Al7 cs:List AV}{ns:List Int}(I:Vb j 1000 X g Al7 cs ns h)(hX:X<=8000)(hl:ns.length<=1000):Wa FT MT (SM j) (n+9000) (.fn 154) [.aF,.func g Al7 cs] ⟨aR h [],lg,d⟩ (Qk ⟨h,lg,d⟩ (λw h'=>cG h.length h' 1 w (ns.map cK))):=by
 refine aI ?_;refine aS ?_;refine Ph rfl (λT1 hT=>?_) (by simp only[Mem.apply,jR,fY];rw[tA (by rfl),jR];rfl);refine aS ?_;rw[<-fZ];have Zm:nb h 0≠nb h 2:=by simp[nb]
 have n3:∀{c},nb h 3<=c->c≠nb h 0/\c≠nb h 2/\h.length<=c/\c≠nb h 1:=λ{c} hc=>by simp only[nb]at*;omega
 have hS:StJ (JL h T1 ns) h (nb h 3):={
  kk:=aB
  b:=λi hh H=>H.1
  k:=λi hh h' H k=>by
   obtain⟨kb,⟨u,c0,ou⟩,c2,c1⟩:=H;exact⟨kb.trans k,⟨u,(k.2 _ (ag c0)).trans c0,ou.kb k⟩,(k.2 _ (ag c2)).trans c2,(k.2 _ (ag c1)).trans c1⟩
  l:=λi hh c r x H hc hr hl=>by
   obtain⟨kb,⟨u,c0,ou⟩,c2,c1⟩:=H;obtain⟨m1,m2,m3,m4⟩:=n3 hc;have lc:=ag hr;refine⟨⟨by rw[bJ lc];exact kb.1,λb hb=>?_⟩,⟨u,?_,?_⟩,?_,?_⟩
   .rw[eY lc,aq Z];exact kb.2 b hb
   .rw[eY lc,aq (Ne.symm m1)];exact c0
   .rcases ou with⟨hn,hv⟩|⟨b0,hv,hk,hb⟩
    .exact .nil hn hv
    .exact .some b0 hv hk (by rw[eY lc,aq (λe=>by rw[e,hr]at hb;rcases hl with⟨r,rfl⟩|rfl<;>cases hb)];exact hb)
   .rw[eY lc,aq (Ne.symm m2)];exact c2
   .rw[eY lc,aq (Ne.symm m4)];exact c1}
 have hY:YlJ j 1000 (JL h T1 ns) h (nb h 3) (nb h 2) ns:=by
  intro n i hh lg d hi hJ;obtain⟨kb,⟨u,c0,ou⟩,c2,c1⟩:=hJ;have Vc:nb h 1≠nb h 2:=by simp[nb]
  have Xy:nb h 1≠nb h 0:=by simp[nb]
  have tk:(ns.take (i+1)).map cK=(ns.take i).map cK++[cK (gt ns i)]:=by rw[take_add_one,getElem?_eq_getElem hi,toList_some,map_append,bB hi];rfl
  have tl:(ns.take i).length=i:=by rw[length_take];omega
  have g0:∀l,aj (aR hh l) (nb h 0)=_:=λl=>(an l hh _ (ag c0)).trans c0
  have g2:∀l,aj (aR hh l) (nb h 2)=_:=λl=>(an l hh _ (ag c2)).trans c2
  refine w_y c2 rfl rfl rfl (oH.round hT _ _) ?_;refine bH ?_;rcases ou with⟨hn,rfl⟩|⟨b0,rfl,hk,hb⟩
  .have O:=jY (ag c2) (ag c0) Zm;have O1:=bg (ag c2);refine aW (Z4 g2 c0 O O1) ?_;have lg1:=bK kb.1 (aB (h:=hh) (k:=0));have dx:=bK kb.1 (aB (h:=hh) (k:=1));refine⟨⟨rfl,by show hh.length<=_;rw[bV,bJ (by rw[bJ (ag c2)];exact ag c0),bJ (ag c2)];exact Nat.le_add_right _ _,lO aB (lO aB (lO dx (lO lg1 (lO aB K8))))⟩,⟨?_,⟨_,O.2.2.2.2.1 _ _ _,?_⟩,O.2.2.2.2.2.1 _ _ _,(kP (ag c2) (ag c0) (ag c1) Vc Xy _ _ _).trans c1⟩,λb x hb hx _=>?_⟩
   .exact(aY.uW kb.kp aB (ag c2) aB (ag c0) _ _ _ ⟨[],rfl,λb hb=>by cases hb⟩).kb
   .rw[tk,hn];exact .some (nb hh 1) rfl dx (O.2.1 _ _ _ _)
   .obtain⟨m1,m2,_,_⟩:=n3 hb;exact(kP (ag c2) (ag c0) (ag hx) m2 m1 _ _ _).trans hx
  .have nb0:b0≠nb h 0:=λe=>by
    rw[e,c0]at hb;simp only[Option.some.injEq,bp.row.injEq,true_and]at hb;exact Qz (λx h=>by cases h) hb.symm
   have XQ:b0≠nb h 2:=λe=>by rw[e,c2]at hb;cases hb
   have O:SF hh (nb h 2) (nb h 0) b0:=⟨ag c2,ag c0,ag hb,Zm,XQ,nb0⟩;have o:=SG O;have fA:(1000000000000<(i+1)*8)=False:=by simp;omega
   have fC:List.take i ((ns.take i).map cK)=(ns.take i).map cK:=take_of_length_le (by simp;omega);have rf:=I7 (ns.take i) (gt ns i);simp only[length_map,tl]at c0;show Wc _ _ _ _ _ _ ⟨aR (t8 hh (nb h 2) (nb h 0) b0 none none none) [],_,_⟩ _;refine aW (Z9 c0 c2 hb o tl rf fA @fB fC) ?_;have lg1:=bK kb.1 (aB (h:=hh) (k:=0));have dx:=bK kb.1 (aB (h:=hh) (k:=1));have XP:nb h 1≠b0:=λe=>by rw[<-e,c1]at hb;cases hb
   refine⟨⟨rfl,by show hh.length<=_;rw[bV,AZ O];exact Nat.le_add_right _ _,?_⟩,⟨?_,⟨_,(o.2.2.2.2.1 _ _ _ _).trans rfl,?_⟩,(o.2.2.2.1 _ _ _ _).trans rfl,(E4 O (ag c1) Vc Xy XP _ _ _ _).trans c1⟩,λb x kJ hx hI=>?_⟩
   .repeat' first|exact K8|apply lO (by first|exact aB|exact lg1|exact dx|exact hk)
   .exact(aY.Gx kb.kp O aB aB hk _ _ _ _ ⟨[],rfl,λb hb=>by cases hb⟩).kb
   .rw[tk];exact .some (nb hh 1) (by rw[length_append,length_map,tl];rfl) dx (o.2.2.2.2.2.2.1 _ _ _ _ _)
   .obtain⟨m1,m2,_,_⟩:=n3 kJ;refine(E4 O (ag hx) m2 m1 (λe=>?_) _ _ _ _).trans hx;rw[e,hb]at hx;simp only[Option.some.injEq]at hx;rcases hI with⟨r,rfl⟩|rfl|⟨y,rfl⟩
    .cases hx
    .cases hx
    .simp only[bp.row.injEq,true_and]at hx;exact Qz (λx h=>by cases h) hx
 have h0:JL h T1 ns 0 (aR h [(aO 1 [[.aF]]),some .nZ,some (.loop ⟨.ready,none,T1,[X7],(oR [oM X5 Y7]),(.block 1 (oR [oP X8 (.load false 1 Y2),oM X9 Y5,oP BZ (.Aw 1 1 [E0] [(0,Y9)]),oP wJ (.tN 1 8 Y8 YR),oN (.store 1 Y2 YS)]))⟩)]):=⟨KB.bx _ _,⟨_,by rw[bj];rfl,.nil rfl rfl⟩,by rw[bj];rfl,by rw[bj];rfl⟩;have key:=I (n+8999-X) (JL h T1 ns) (nb h 3) (nb h 2) hS hY (aR h [(aO 1 [[.aF]]),some .nZ,some (.loop ⟨.ready,none,T1,[X7],(oR [oM X5 Y7]),(.block 1 (oR [oP X8 (.load false 1 Y2),oM X9 Y5,oP BZ (.Aw 1 1 [E0] [(0,Y9)]),oP wJ (.tN 1 8 Y8 YR),oN (.store 1 Y2 YS)]))⟩)]) (nb h 2::nb h 1::nb h 0::lg) [nb h 1] (by rw[jR];exact cB) h0;rw[show n+8999-X+X=n+8998+1 by omega]at key;refine Hc key (λv m' p=>p.1.1) (λw h4 fi hw=>?_);obtain⟨⟨_,l4,q4,e4,f4⟩,kb4,⟨u,b0,ou⟩,b2,b1⟩:=hw;simp only at l4 e4 kb4 b0 ou b2 b1;have Vc:nb h 1≠nb h 2:=by simp[nb]
 have n01:nb h 0≠nb h 1:=by simp[nb]
 have o:=bg (ag b2);have o2:=jY (ag b2) (ag b1) Vc;have g0:=λl x=>(bP (ag b2) (ag b0) Zm l x).trans b0
 have g2:=λl=>(an l h4 _ (ag b2)).trans b2
 have cu:=ou.sl.sc;refine aW (Z4 g2 o o2 g0) ?_;have k4:aY ⟨h,lg,d⟩ ⟨h4,fi,d⟩:=⟨kb4.1,kb4.2,rfl,q4++[nb h 2,nb h 1,nb h 0],by rw[e4];simp,λb hb=>by
  rcases mem_append.1 hb with hb|hb
  .exact f4 b hb
  .simp only[mem_cons,not_mem_nil,or_false]at hb;rcases hb with rfl|rfl|rfl<;>exact aB⟩
 refine⟨k4.uW aB (ag b2) aB (ag b1) _ _ _ ⟨[nb h 1,nb h 2],rfl,λb hb=>by
  simp only[mem_cons,not_mem_nil,or_false]at hb;rcases hb with rfl|rfl<;>exact aB⟩,?_⟩
 rw[take_length]at ou;rcases ou with⟨hn,rfl⟩|⟨b3,rfl,hk,hb⟩
 .exact .nil hn rfl
 .exact .some b3 rfl hk ((kP (ag b2) (ag b1) (ag hb) (λe=>by rw[e,b2]at hb;cases hb) (λe=>by rw[e,b1]at hb;cases hb) _ _ _).trans hb)
theorem N98(lg d:List Nat){X g:Nat}{Al7 cs:List AV}{ns:List Int}(I:Vb j 1000 X g Al7 cs ns h)(hX:X<=8000)(hl:ns.length<=1000):Wa FT MT (SM j) (n+9500) (.fn 98) [.func g Al7 cs] ⟨aR h [],lg,d⟩ (Qk ⟨h,lg,d⟩ (λw h'=>cG h.length h' 1 w (ns.map cK))):=by
 refine aI ?_;refine aS ?_;rw[<-fZ];refine fK (AlK j _ h lg [] I hX hl) (λw h2 dx k2 hw=>?_);refine aW @mZ ?_;exact⟨k2.sub,hw⟩
theorem Ys(j f:Nat)(hf:f<=1900){h0:aN}{c1 c2 c3 c4:Nat}{o1 o2 o3 o4:Bool}{u v:AV}{xs:List kT}{l:List bF}(H1:aj h0 c1=some (.row o1 1 [[u]]))(H2:aj h0 c2=some (.row o2 1 [[v]]))(H3:aj h0 c3=some (.row o3 1 [[.aF]]))(H4:aj h0 c4=some (.row o4 1 [[.bool true]]))
 (hu:aT h0 2 u (xs.map dW)) (hx:xs.length<=16) (hr:∀y∈xs,ig h0 y) (hh:∀y∈xs,y.r.1≠[]/\gt y.r.1 0<l.length) (hv:aT h0 6 v (l.map bY)) (q_:23<=j:=by omega):Vb j f 2000 277 [] [.ptr c1 0 0,.ptr c2 0 0,.ptr c3 0 0,.ptr c4 0 0] [] h0:=by
 intro n J k1 y S Y h lg d hk hJ;have kb:=S.b 0 h hJ;have b1:aj h c1=_:=(kb.2 c1 (ag H1)).trans H1;have d1:=λl=>(an l h c1 (ag b1)).trans b1
 have ul:=hu.len;show Wa FT MT (SM j) (n+2000) (.fn 277) [.yield y,.ptr c1 0 0,.ptr c2 0 0,.ptr c3 0 0,.ptr c4 0 0] ⟨aR h [],lg,d⟩ _;refine aI ?_;refine aW (Z2 d1 ul) ?_;refine dz (α:=Unit) xs.length [wJ] (λi _=>[Ei (i:Nat)]) (λi _ m=>GrJ h0.length ⟨h,lg,[]⟩ m/\J 0 m.ah) Z aX ⟨(),rfl,⟨rfl,cB,[],rfl,λb hb=>by cases hb⟩,hJ⟩ (λi _ m' g hi hP=>?_) (λ_ m' g hP=>?_)
 .obtain⟨h3,dH,d3⟩:=m';obtain⟨⟨e3,l3,q3⟩,J3⟩:=hP;simp only at e3 l3 q3 J3;subst e3;have Dd:=S.b 0 h3 J3;have a2:aj h3 c2=_:=(Dd.2 c2 (ag H2)).trans H2;have a3:aj h3 c3=_:=(Dd.2 c3 (ag H3)).trans H3;have a4:aj h3 c4=_:=(Dd.2 c4 (ag H4)).trans H4;have g2:=λl=>(an l h3 c2 (ag a2)).trans a2
  have g3:=λl=>(an l h3 c3 (ag a3)).trans a3
  have g4:=λl=>(an l h3 c4 (ag a4)).trans a4
  have u3:aT h3 2 u (xs.map dW):=aT.bw (m:=⟨h0,[],[]⟩) (m':=⟨h3,[],[]⟩) hu Dd.kp;have v3:aT h3 6 v (l.map bY):=aT.bw (m:=⟨h0,[],[]⟩) (m':=⟨h3,[],[]⟩) hv Dd.kp;have r3:ig h3 (gt xs i):=ig.bw (m:=⟨h0,[],[]⟩) (m':=⟨h3,[],[]⟩) (hr _ (bA hi)) Dd.kp;have e:=u3.el hi;have r:=fh hi Z;obtain⟨n0,n1⟩:=hh _ (bA hi);have p0:0<(gt xs i).r.1.length:=length_pos_iff.2 n0;have er:=r3.s.el p0;have ec:=v3.el n1;simp only[show((0:Nat):Int)=0 from rfl,Nat.add_zero]at er;unfold dW at e;unfold fy at er;unfold bY at ec;have rc:=r3.s.sc;have ul3:=u3.len;rw[length_map]at ul3;have g5:=λx m=>E44 j [] .aF x m (.none rfl (.inl rfl)) (by simp)
  have nm:∀x:Int,decide (x∈([]:List Int))=false:=λx=>by simp
  simp only[nm]at g5;have k3:h0.length<=nb h3 0:=bK Dd.1 aB;refine bH ?_;refine aW (yA e er ec r rc g2 g3 g4 g5 (show(false==true)=false from rfl)) ?_;exact⟨(),⟨rfl,bK l3 (by rw[bV];exact Nat.le_add_right _ _),lO k3 (lO k3 q3)⟩,S.k _ _ _ J3 (KB.bx _ _)⟩
 .obtain⟨h3,dH,d3⟩:=m';obtain⟨⟨e3,l3,q3⟩,J3⟩:=hP;simp only at e3 l3 q3 J3;subst e3;have r:=cY xs.length;refine bH ?_;refine aW r ?_;exact⟨⟨rfl,l3,q3⟩,J3⟩
def JC(J:Nat->aN->Prop)(h:aN)(T1:Tr)(y:Nat)(i:Nat)(hh:aN):Prop:=J i hh/\aj hh (nb h 0)=(aO 1 [[.yield y]])/\aj hh (nb h 2)=some (.loop ⟨.ready,none,T1,[X7],(oR [oM X4 Y7]),(.block 1 (.seq (oR [oP X8 (.load false 1 Y3),oM X9 Y4,oP BZ (.rL Y8 [Y9]),oP wJ (.un .not YR)]) (.cond YS .ret .skip)))⟩)/\aj hh (nb h 1)=some .nZ
theorem AgV(j f:Nat)(hf:f<=1500){h0:aN}{c5 c6:Nat}{o5 o6:Bool}{Q4 YI:List AV}{ns:List Int}(H5:aj h0 c5=some (.row o5 1 [[.func 277 [] Q4]]))(H6:aj h0 c6=some (.row o6 1 [[.func 277 [] YI]]))(I1:Vb j (f+5) 2000 277 [] Q4 ns h0)(I2:Vb j (f+5) 2000 277 [] YI [] h0):Vb j f 5000 311 [] [.ptr c5 0 0,.ptr c6 0 0] ns h0:=by
 intro n J k1 y S Y h lg d hk hJ;have kb:=S.b 0 h hJ;have b5:aj h c5=_:=(kb.2 c5 (ag H5)).trans H5;have d5:=λl=>(an l h c5 (ag b5)).trans b5
 show Wa FT MT (SM j) (n+5000) (.fn 311) [.yield y,.ptr c5 0 0,.ptr c6 0 0] ⟨aR h [],lg,d⟩ _;refine aI ?_;have cy:(AV.yield y).cells?=some [.yield y]:=rfl;refine aW (Z2 d5 cy) ?_;refine Ph rfl (λT1 hT=>?_) (by simp only[Mem.apply,jR,fY];rw[tA (by rfl),jR];rfl);refine aS ?_;rw[<-fZ];have Zm:nb h 0≠nb h 2:=by simp[nb]
 have Vc:nb h 1≠nb h 2:=by simp[nb]
 have n3:∀{c},nb h 3<=c->c≠nb h 0/\c≠nb h 2/\h.length<=c/\c≠nb h 1:=λ{c} hc=>by simp only[nb]at*;omega
 have hS:StJ (JC J h T1 y) h0 (nb h 3):={
  kk:=bK kb.1 aB
  b:=λi hh H=>S.b i hh H.1
  k:=λi hh h' H k=>by
   obtain⟨Ji,c0,c2,c1⟩:=H;exact⟨S.k i _ _ Ji k,(k.2 _ (ag c0)).trans c0,(k.2 _ (ag c2)).trans c2,(k.2 _ (ag c1)).trans c1⟩
  l:=λi hh c r x H hc hr hl=>by
   obtain⟨Ji,c0,c2,c1⟩:=H;obtain⟨m1,m2,m3,m4⟩:=n3 hc;have lc:=ag hr;refine⟨S.l i _ c r x Ji (bK hk m3) hr hl,?_,?_,?_⟩
   .rw[eY lc,aq (Ne.symm m1)];exact c0
   .rw[eY lc,aq (Ne.symm m2)];exact c2
   .rw[eY lc,aq (Ne.symm m4)];exact c1}
 have hY:YlJ j (f+5) (JC J h T1 y) h0 (nb h 3) (nb h 2) ns:=by
  intro n i hh lg d hi hJ;obtain⟨Ji,c0,c2,c1⟩:=hJ;have O1:=bg (ag c2);have g0:=λl x=>(bP (ag c2) (ag c0) Zm l x).trans c0
  refine w_y c2 rfl rfl rfl (oH.round hT _ _) ?_;refine bH ?_;have g2:∀l,aj (aR hh l) (nb h 2)=_:=λl=>(an l hh _ (ag c2)).trans c2
  refine aW (Z3 g0 g2 O1) ?_;have k2:k1<=nb h 2:=bK hk aB;have y0:=λYF bq (Jh:J i YF)=>Y (n+4) i YF bq [] hi Jh
  rw[show n+4+f=n.add (f+4)from by show n+4+f=n+(f+4);omega]at y0;refine Hc (y0 _ _ (S.l i _ (nb h 2) _ _ Ji k2 c2 (.inl ⟨_,rfl⟩))) (λv m' p=>p.2.1.1) (λw h4 fi hw=>?_);obtain⟨rfl,⟨_,l4,q4,e4,f4⟩,J4,pr⟩:=hw;simp only at l4 e4 J4 pr;have p2:=pr (nb h 2) _ k2 (O1.2.2.2.2.1 _ _) (.inl ⟨_,rfl⟩);have p0:=pr (nb h 0) _ (bK hk aB) (g0 _ _) (.inr (.inr ⟨y,rfl⟩));have p1:=pr (nb h 1) _ (bK hk aB) ((bP (ag c2) (ag c1) Vc _ _).trans c1) (.inr (.inl rfl));have O2:=bg (ag p2);have q2:∀l,aj (aR h4 l) (nb h 2)=_:=λl=>(an l h4 _ (ag p2)).trans p2
  refine aW (Z2 q2 O2) ?_;have z2:h0.length<=nb h 2:=bK kb.1 aB;refine⟨⟨rfl,?_,by rw[e4];exact lO z2 (Hd f4 (lO z2 K8))⟩,⟨S.l _ _ (nb h 2) _ _ J4 k2 p2 (.inl ⟨_,rfl⟩),(bP (ag p2) (ag p0) Zm _ _).trans p0,O2.2.2.2.2.1 _ _,(bP (ag p2) (ag p1) Vc _ _).trans p1⟩,λb x hb hx hI=>?_⟩
  .show hh.length<=_;rw[bV,bJ (ag p2)];rw[bV,bJ (ag c2)]at l4;exact bK l4 (Nat.le_add_right _ _)
  .obtain⟨m1,m2,m3,m4⟩:=n3 hb;have px:=pr b x (bK hk m3) ((bP (ag c2) (ag hx) m2 [] _).trans hx) hI;exact(bP (ag p2) (ag px) m2 _ _).trans px
 have key:=I1 (n+2999) (JC J h T1 y) (nb h 3) (nb h 2) hS hY (aR h [(aO 1 [[.yield y]]),some .nZ,some (.loop ⟨.ready,none,T1,[X7],(oR [oM X4 Y7]),(.block 1 (.seq (oR [oP X8 (.load false 1 Y3),oM X9 Y4,oP BZ (.rL Y8 [Y9]),oP wJ (.un .not YR)]) (.cond YS .ret .skip)))⟩)]) (nb h 2::nb h 1::nb h 0::lg) [nb h 1] (by rw[jR];exact cB) ⟨S.k 0 _ _ hJ (KB.bx _ _),by rw[bj];rfl,by rw[bj];rfl,by rw[bj];rfl⟩;refine Hc key (λv m' p=>p.1.1) (λw h4 fi hw=>?_);obtain⟨⟨_,l4,q4,e4,f4⟩,J4,b0,b2,b1⟩:=hw;simp only at l4 e4 J4 b0 b2 b1;have o:=bg (ag b2);have g2:=λl=>(an l h4 _ (ag b2)).trans b2
 have k2:k1<=nb h 2:=bK hk aB;have J5:=S.l _ _ (nb h 2) _ none J4 k2 b2 (.inl ⟨_,rfl⟩);have d1:=(bP (ag b2) (ag b1) Vc [] none).trans b1;have l5:h4.length=(aQ h4 (nb h 2) none).length:=(bJ (ag b2)).symm;refine aW (Z2 g2 o) ?_;change aj (aQ h4 (nb h 2) none) (nb h 1)=_ at d1;obtain⟨h5,e5⟩:∃h5,h5=aQ h4 (nb h 2) none:=⟨_,rfl⟩;rw[<-e5]at d1 J5 l5|-;have b6:aj h5 c6=_:=((S.b _ _ J5).2 c6 (ag H6)).trans H6;have g6:=λl=>(an l h5 c6 (ag b6)).trans b6
 refine aW g6 ?_;refine Ph rfl (λT2 hT2=>?_) (by simp only[Mem.apply,jR,fY];rw[tA (by rfl),jR];rfl);refine aS ?_;rw[<-fZ];have h5l:h.length<=h5.length:=by
  rw[<-l5];simp only[bV]at l4;exact bK (Nat.le_add_right _ _) l4
 have n5:∀{c},nb h5 2<=c->c≠nb h5 0/\c≠nb h5 1/\h.length<=c:=λ{c} hc=>by simp only[nb]at*;omega
 have l1:=ag d1;have hS2:StJ (λ_ hh=>J ns.length hh/\aj hh (nb h5 1)=some (.loop ⟨.ready,none,T2,[JX],(oR [oM X5 Y13]),(.block 3 (.seq (oR [oP Uv (.load false 1 Y3),oM Q7 Y5,oP Uw (.rL Y14 [Y15]),oP Ux (.un .not Y16)]) (.cond Y17 .ret .skip)))⟩)/\aj hh (nb h5 0)=some .nZ/\aj hh (nb h 1)=some .nZ) h0 (nb h5 2):={
  kk:=bK (bK kb.1 h5l) aB
  b:=λi hh H=>S.b _ hh H.1
  k:=λi hh h' H k=>by
   obtain⟨Ji,c0,c2,c1⟩:=H;exact⟨S.k _ _ _ Ji k,(k.2 _ (ag c0)).trans c0,(k.2 _ (ag c2)).trans c2,(k.2 _ (ag c1)).trans c1⟩
  l:=λi hh c r x H hc hr hl=>by
   obtain⟨Ji,c0,c2,c1⟩:=H;obtain⟨m1,m2,m3⟩:=n5 hc;have lc:=ag hr;have m4:c≠nb h 1:=by simp only[nb]at*;omega
   refine⟨S.l _ _ c r x Ji (bK hk m3) hr hl,?_,?_,?_⟩
   .rw[eY lc,aq (Ne.symm m2)];exact c0
   .rw[eY lc,aq (Ne.symm m1)];exact c2
   .rw[eY lc,aq (Ne.symm m4)];exact c1}
 have AlL:=I2 (n+2999) _ (nb h5 2) (nb h5 1) hS2 (λn i hh lg d hi=>absurd hi (by simp)) (aR h5 [some .nZ,some (.loop ⟨.ready,none,T2,[JX],(oR [oM X5 Y13]),(.block 3 (.seq (oR [oP Uv (.load false 1 Y3),oM Q7 Y5,oP Uw (.rL Y14 [Y15]),oP Ux (.un .not Y16)]) (.cond Y17 .ret .skip)))⟩)]) (nb h5 1::nb h5 0::nb h 2::fi) [nb h5 0,nb h 1] (by rw[jR];exact cB) ⟨S.k _ _ _ J5 (KB.bx _ _),by rw[bj];rfl,by rw[bj];rfl,(an _ h5 _ l1).trans d1⟩;refine Hc AlL (λv m' p=>p.1.1) (λw h6 ux hw=>?_);obtain⟨⟨_,l6,q6,e6,f6⟩,J6,a1,a0,a2⟩:=hw;simp only at l6 e6 J6 a1 a0 a2;have o6:=bg (ag a1);have g7:=λl=>(an l h6 _ (ag a1)).trans a1
 refine aW (Z2 g7 o6) ?_;have z:∀k,h0.length<=nb h k:=λk=>bK kb.1 aB
 have z5:∀k,h0.length<=nb h5 k:=λk=>bK (bK kb.1 h5l) aB
 have y5:∀k,k1<=nb h5 k:=λk=>bK (bK hk h5l) aB
 have m01:nb h5 0≠nb h5 1:=by simp[nb]
 have m1:nb h 1≠nb h5 1:=by simp only[nb]at*;omega
 have m0:nb h 1≠nb h5 0:=by simp only[nb]at*;omega
 have ja:=S.l _ _ (nb h5 1) _ none J6 (y5 1) a1 (.inl ⟨_,rfl⟩);have s1:(aQ h6 (nb h5 1) none).length=h6.length:=bJ (ag a1);have a0':aj (aQ h6 (nb h5 1) none) (nb h5 0)=some .nZ:=(bP (ag a1) (ag a0) m01 [] none).trans a0;have jb:=S.l _ _ (nb h5 0) _ none ja (y5 0) a0' (.inr rfl);have s2:(aQ (aQ h6 (nb h5 1) none) (nb h5 0) none).length=h6.length:=(bJ (ag a0')).trans s1;have a2':aj (aQ (aQ h6 (nb h5 1) none) (nb h5 0) none) (nb h 1)=some .nZ:=by
  rw[eY (ag a0'),aq m0,eY (ag a1),aq m1];exact a2
 have jc:=S.l _ _ (nb h 1) _ none jb (bK hk aB) a2' (.inr rfl);refine⟨⟨rfl,?_,?_⟩,jc⟩
 .show h.length<=(aQ (aQ (aQ h6 (nb h5 1) none) (nb h5 0) none) (nb h 1) none).length;rw[bJ (ag a2'),s2];simp only[bV]at l6;exact bK h5l (bK (Nat.le_add_right _ _) l6)
 .show∃q,nb h 1::nb h5 0::nb h5 1::ux=q++lg/\_;rw[e6,e4];exact lO (z 1) (lO (z5 0) (lO (z5 1) (Hd f6 (lO (z5 1) (lO (z5 0) (lO (z 2) (Hd f4 (lO (z 2) (lO (z 1) (lO (z 0) K8))))))))))
theorem cG.lo{k k':Nat}{h:aN}{e:Nat}{v:AV}{es:List (List AV)}(H:cG k' h e v es)(hk:k<=k'):cG k h e v es:=by
 rcases H with⟨a,b⟩|⟨b,c,d,f⟩
 .exact .nil a b
 .exact .some b c (bK hk d) f
theorem He{l:List bF}{z a f to:Int}{r:qX}(h:r∈jy l z a f to 16):r.1≠[]/\gt r.1 0<l.length:=sH 16 r ((vY 16).2 h)
def ChQ(h:aN)(l:List bF)(z a:Int)(f to:Nat)(w:AV)(h':aN):Prop:=∃(u:AV) (ys:List qX),w=.tuple [u,Ei 0]/\cG h.length h' 1 u ((ys.map (yW l)).map cK)/\ys.length<=16/\(∀s,s∈ys↔s∈jy l z a f to 16)/\∀x m,ys=x::m->∀s∈ys,¬eF s x<0
theorem AlM(j n':Nat)(h:aN)(lg d:List Nat){l:List bF}{v:AV}{f to:Nat}{a z:Int}{id:iF}(hv:aT h 6 v (l.map bY))(hw:l.length<=40)(hp:(eA l).1=0)(Ft:(eA (gH l f)).1=0)(hc:∀c∈l,cF c)(hf:1<=f/\f<=16)(ht:1<=to/\to<=16)(ha:0<=a/\a<=1099511627776)(hz:1<=z/\z<=1200)(q_:219<=j/\207<=j/\190<=j/\189<=j/\23<=j/\30<=j/\166<=j/\188<=j/\236<=j:=by omega):
 Wa FT MT (SM j) (n'+12000) (.fn 213) [v,.aF,.agg (gQ id),Ei f,Ei to,Ei a,Ei z] ⟨aR h [],lg,d⟩ (Qk ⟨h,lg,d⟩ (ChQ h l z a f to)):=by
 refine aI ?_;have vc:=hv.sc;have vs:=hv.cells;have g1:=λl' lg d=>E39 j l v ⟨aR h l',lg,d⟩ (hv.bx l') Z
 simp only[hp]at g1;have g2:=λm=>Alv j m
 have g3:=λm=>Alw j id a m
 unfold gQ at g3;refine aW (Z5 @gQ.eq_1 vc vs g1 g2) ?_;rw[<-fZ];refine fK (AlJ j _ (aR h [(aO 1 [[v]]),(aO 3 [gQ id])]) _ _ (hv.bx _) hw hp Ft hc hf ht ha hz) (λw h2 dx k2 og=>?_);obtain⟨u,xs,rfl,ou,rx,xl,pm,ml⟩:=og;have cu:=ou.sl.sc;have cc:=ou.sl.cells;have z0:=λl=>k2.at l 0 (by simp only[fY];omega)
 have z1:=λl=>k2.at l 1 (by simp only[fY];omega)
 refine aW (Z6 cu cc z1 g3 (@aJ 276 _ rfl aZ) (@aJ 278 _ rfl aZ)) ?_;rw[<-fZ];obtain⟨H3,eH⟩:∃H3,H3=aR h2 [(aO 1 [[u]]),(aO 1 [[.aF]]),(aO 1 [[.bool false]]),(aO 1 [[.bool true]]),(aO 1 [[.func 277 [] [.ptr (nb h2 0) 0 0,.ptr (nb h 0) 0 0,.ptr (nb h2 1) 0 0,.ptr (nb h2 2) 0 0]]]),(aO 1 [[.func 277 [] [.ptr (nb h2 0) 0 0,.ptr (nb h 0) 0 0,.ptr (nb h2 1) 0 0,.ptr (nb h2 3) 0 0]]])]:=⟨_,rfl⟩;have v3:aT H3 6 v (l.map bY):=by rw[eH];exact(aT.bw (m:=⟨aR h _,_,[]⟩) (m':=⟨h2,dx,[]⟩) (hv.bx _) k2).bx _
 have u3:aT H3 2 u (xs.map dW):=by rw[eH];exact ou.sl.bx _
 have r3:∀y∈xs,ig H3 y:=λy hy=>by rw[eH];exact(rx y hy).bx _
 have hh:∀y∈xs,y.r.1≠[]/\gt y.r.1 0<l.length:=λy hy=>He (pm.mem_iff.1 (mem_map.2 ⟨y,hy,rfl⟩))
 have f0:aj H3 (nb h2 0)=(aO 1 [[u]]):=by rw[eH,bj];rfl
 have f1:aj H3 (nb h2 1)=(aO 1 [[.aF]]):=by rw[eH,bj];rfl
 have f2:aj H3 (nb h2 2)=(aO 1 [[.bool false]]):=by rw[eH,bj];rfl
 have f3:aj H3 (nb h2 3)=(aO 1 [[.bool true]]):=by rw[eH,bj];rfl
 have f4:aj H3 (nb h2 4)=(aO 1 [[.func 277 [] [.ptr (nb h2 0) 0 0,.ptr (nb h 0) 0 0,.ptr (nb h2 1) 0 0,.ptr (nb h2 2) 0 0]]]):=by rw[eH,bj];rfl
 have f5:aj H3 (nb h2 5)=(aO 1 [[.func 277 [] [.ptr (nb h2 0) 0 0,.ptr (nb h 0) 0 0,.ptr (nb h2 1) 0 0,.ptr (nb h2 3) 0 0]]]):=by rw[eH,bj];rfl
 have fp:aj H3 (nb h 0)=(aO 1 [[v]]):=by rw[eH,z0];rfl
 have I:=AgV j 1000 Z f4 f5 (AgT j 1005 Z f0 fp f1 f2 u3 xl r3 hh v3 (rs:=[])) (Ys j 1005 Z f0 fp f1 f3 u3 xl r3 hh v3);have K3:aY ⟨h,lg,[]⟩ ⟨H3,nb h2 5::nb h2 4::nb h2 3::nb h2 2::nb h2 1::nb h2 1::nb h2 0::nb h2 0::dx,[]⟩:=by
  rw[eH];exact((aH aL).trans k2).trans (aH aL)
 rw[<-eH];refine fK (N98 j _ H3 _ [] I Z (by rw[length_map];omega)) (λw h6 ux k6 hw=>?_);refine aW @mZ ?_;refine⟨(K3.trans k6).sub,w,xs.map (·.r),rfl,?_,by rw[length_map];exact xl,λs=>pm.mem_iff,λx m e s hs=>?_⟩
 .have e:=hw.lo K3.len;rw[show(xs.map λx=>yW l x.r)=(xs.map (·.r)).map (yW l) by rw[List.map_map];rfl]at e;exact e
 .cases xs with
  |nil=>cases e
  |cons x0 m0=>
   obtain⟨s0,vp,rfl⟩:=mem_map.1 hs;rw[map_cons]at e;rw[<-(List.cons.inj e).1];exact ml x0 m0 rfl s0 vp
theorem AlN{l:List bF}{v:AV}{f to:Nat}{a z:Int}{id:iF}(m:Mem)(hv:aT m.ah 6 v (l.map bY))(hw:l.length<=40)(hp:(eA l).1=0)(Ft:(eA (gH l f)).1=0)(hc:∀c∈l,cF c)(hf:1<=f/\f<=16)(ht:1<=to/\to<=16)(ha:0<=a/\a<=1099511627776)(hz:1<=z/\z<=1200)(q_:240<=j:=by omega):
 SM j 143 [v,.aF,.agg (gQ id),Ei f,Ei to,Ei a,Ei z] m=some (.tuple [Ei (jL l z a f to).1,Ei (jL l z a f to).2],m):=by
 obtain⟨h,lg,d⟩:=m;refine aP 13999 q_ λn=>?_
 refine aW @gQ.eq_1 ?_;rw[<-fZ];refine fK (AlM (240-1) _ (aR h [(aO 3 [gQ id])]) _ _ (id:=id) (hv.bx _) hw hp Ft hc hf ht ha hz) (λw h2 dx k2 og=>?_);obtain⟨u,ys,rfl,ou,yl,hm,hl⟩:=og;have A:=k2.aA lg d;have l2:=ou.sl.len;have nx:=Tt hm hl;cases ys with
 |nil=>
  simp only at nx;rw[nx];exact aC (Z2 A l2)
 |cons y ys=>
  simp only at nx;rw[nx];have e:=ou.sl.el (l:=(y::ys).map (yW l)) (f:=cK) (i:=0) (by simp);simp only[show((0:Nat):Int)=0 from rfl,Nat.add_zero]at e;have g0:gt ((y::ys).map (yW l)) 0=yW l y:=rfl;simp only[g0,cK]at e;have c0:(((ys.length+1:Nat):Int)=0)=False:=cR;exact aC (Z4 A l2 e c0)
theorem Au{S:je}(h:d8 S=0):∀b∈S.held,j0 b=0:=by
 rw[d8]at h;split at h
 .omega
 .split at h
  .omega
  .split at h
   .omega
   .split at h
    .omega
    .rename_i _ _ _ q;intro b hb;obtain⟨i,hi,e⟩:=getElem_of_mem hb;have hz:=(iE S.held.length 0).1 (show t7 (gl S.held) 0 _=0 by
      have:first (gl S.held) S.held.length=0:=Z
      exact this) i Z Z
     rw[gl,bB hi,e]at hz;split at hz
     .omega
     .omega
theorem Hf{b:fR}(h:j0 b=0):1<=b.jF/\b.jF<=16/\xu b.id=0:=by
 rw[j0]at h;split at h
 .omega
 .split at h
  .omega
  .exact⟨Z,Z,Z⟩
theorem Hg{b:fR}(h:j0 b=0):1<=eS b/\eS b<=1200:=by
 have h1:=yF b;have h2:=dg (b.data.length:Int);rw[eS,aq Z];rw[j0]at h;split at h
 .omega
 .split at h
  .omega
  .split at h
   .omega
   .split at h
    .omega
    .omega
theorem I8{v:jh}(h:kR v=0):∀p∈v.bM,jn p=0:=by
 have q:=yH h;intro p hp;obtain⟨i,hi,e⟩:=getElem_of_mem hp;have hz:=(iE v.bM.length 0).1 q.2.2.2 i Z Z;rw[j3,bB hi,e]at hz;split at hz
 .omega
 .rename_i z;omega
theorem CM{v:jh}(h:kR v=0):∀p∈v.bM,(ji p.send).1=0/\p.send.bN.length<=1000:=λp hp=>by
 have a:=(lH (I8 h p hp)).2.2.2.1;exact⟨a,by have:=(A2 a).2.2.2.1;omega⟩
def Tw(l:List bF)(cA a b:Int)(ps:List dT)(us rm:Int)(x:fR):Bool:=
 decide (cA<x.born+x.iO)&&(!yQ ps x.id&&(decide (jL l (eS x) cA a x.jF=(b,0))&&(decide (us<eS x)&&decide (rm<eS x))))
def Yt(P:dT):Int:=P.send.g-P.send.n-P.send.r
def CN(l:List bF)(cA:Int)(x y:jh):Bool:=decide (x.eB.node≠y.eB.node)&&(x.up&&(y.up&&x.st.held.any (Tw l cA x.eB.node y.eB.node x.bM (Yt (sG x y.eB.node)) (vw y))))
theorem AgW{l:List bF}{v:AV}{f to:Int}{a z:Int}{id:iF}(m:Mem)(hv:aT m.ah 6 v (l.map bY))(hw:l.length<=40)(hp:(eA l).1=0)(hf:1<=f/\f<=16)(ht:1<=to/\to<=16)(ha:0<=a/\a<=1099511627776)(hz:1<=z/\z<=1200)(q_:240<=j:=by omega):
 SM j 143 [v,.aF,.agg (gQ id),Ei f,Ei to,Ei a,Ei z] m=some (.tuple [Ei (jL l z a f to).1,Ei (jL l z a f to).2],m):=by
 have e:=AlN j (f:=f.toNat) (to:=to.toNat) (id:=id) m hv hw hp (Eb Z hp) (KX Z hp) Z Z ha hz;rw[Int.toNat_of_nonneg Z,Int.toNat_of_nonneg Z]at e;exact e
theorem AlO{l:List bF}{v:AV}{f to:Int}{a z:Int}{id:iF}(m:Mem)(hv:aT m.ah 6 v (l.map bY))(hw:l.length<=40)(hp:(eA l).1=0)(hf:1<=f/\f<=16)(ht:1<=to/\to<=16)(ha:0<=a/\a<=1099511627776)(hz:1<=z/\z<=1200)(q_:315<=j:=by omega):
 SM j 97 [v,.aF,.agg (gQ id),Ei f,Ei to,Ei a,Ei z] m=some (.tuple [Ei (jL l z a f to).1,Ei (jL l z a f to).2],m):=by
 have e:=E97 j (f:=f.toNat) (to:=to.toNat) (id:=id) m hv hw hp (Eb Z hp) (KX Z hp) Z Z ha hz;rw[Int.toNat_of_nonneg Z,Int.toNat_of_nonneg Z]at e;exact e
theorem aY.od{h h':aN}{lg bq d d':List Nat}{l0 l1:List (Option bp)}{b:Nat}{x:Option bp}(k:aY ⟨aR h l0,lg,d⟩ ⟨h',bq,d'⟩)(hb:aj (aR h l1) b=x)(hl:b<h.length)(l:List (Option bp)):aj (aR h' l) b=x:=by
 have h1:b<(aR h l0).length:=by rw[bV];omega
 rw[an l h' b (gA h1 k.len),k.get b h1,an l0 h b hl,<-an l1 h b hl];exact hb
theorem Vd{l:List bF}{cA a b:Int}{ps:List dT}{us rm:Int}{x:fR}(h:Tw l cA a b ps us rm x=false):¬cA<x.born+x.iO\/(cA<x.born+x.iO/\yQ ps x.id=true)\/(cA<x.born+x.iO/\yQ ps x.id=false/\(jL l (eS x) cA a x.jF).2≠0)\/
 (cA<x.born+x.iO/\yQ ps x.id=false/\(jL l (eS x) cA a x.jF).2=0/\(jL l (eS x) cA a x.jF).1≠b)\/(cA<x.born+x.iO/\yQ ps x.id=false/\(jL l (eS x) cA a x.jF).2=0/\(jL l (eS x) cA a x.jF).1=b/\¬us<eS x)\/
 (cA<x.born+x.iO/\yQ ps x.id=false/\(jL l (eS x) cA a x.jF).2=0/\(jL l (eS x) cA a x.jF).1=b/\us<eS x/\¬rm<eS x):=by
 rw[Tw]at h;by_cases c1:cA<x.born+x.iO
 .rw[decide_eq_true c1,Bool.true_and]at h;cases c2:yQ ps x.id with
  |true=>exact .inr (.inl ⟨c1,rfl⟩)
  |false=>
   rw[c2,Bool.not_false,Bool.true_and]at h;by_cases c3:(jL l (eS x) cA a x.jF).2=0
   .by_cases c4:(jL l (eS x) cA a x.jF).1=b
    .rw[decide_eq_true (Prod.ext c4 c3),Bool.true_and]at h;by_cases c5:us<eS x
     .rw[decide_eq_true c5,Bool.true_and]at h;exact .inr (.inr (.inr (.inr (.inr ⟨c1,rfl,c3,c4,c5,of_decide_eq_false h⟩))))
     .exact .inr (.inr (.inr (.inr (.inl ⟨c1,rfl,c3,c4,c5⟩))))
    .exact .inr (.inr (.inr (.inl ⟨c1,rfl,c3,c4⟩)))
   .exact .inr (.inr (.inl ⟨c1,rfl,c3⟩))
 .exact .inl c1
theorem Ve{l:List bF}{cA a b:Int}{ps:List dT}{us rm:Int}{x:fR}(h:Tw l cA a b ps us rm x=true):cA<x.born+x.iO/\yQ ps x.id=false/\(jL l (eS x) cA a x.jF).2=0/\(jL l (eS x) cA a x.jF).1=b/\us<eS x/\rm<eS x:=by
 simp only[Tw,Bool.and_eq_true,decide_eq_true_eq,Bool.not_eq_true']at h;obtain⟨h1,h2,h3,h4,h5⟩:=h;exact⟨h1,h2,by rw[h3],by rw[h3],h4,h5⟩
theorem Hh{α:Type}[Inhabited α]{p:α->Bool}{l:List α}{r:Nat}(h:r<l.length):(l.take (r+1)).any p=((l.take r).any p||p (gt l r)):=by
 rw[take_add_one,getElem?_eq_getElem h,toList_some,any_append,any_cons,any_nil,Bool.or_false,bB h]
theorem E87{s:cE}{b i k:Nat}{l:List bF}{v:AV}{bS:Bool}(m:Mem)(hg:aj m.ah 0=some (.row bS 1 fM))(hO:Cz s)(hb:aj m.ah b=some (.map (Cv s.nv s.vs s.vs.length)))(H:bQ m.ah s)(hz:dU s.d=0)(hN:yI s)(hv:aT m.ah 6 v (l.map bY))(hw:l.length<=40)(hp:(eA l).1=0)(hi:i<s.vs.length)(hk:k<s.vs.length)(q_:262<=j:=by omega):
 SM j 87 [.agg (cJ s++[.map b]),v,.ptr (sb s.nv) (si s.nv+i) 0,.ptr (sb s.nv) (si s.nv+k) 0] m=some (.bool (CN l s.cA (gt s.vs i).v (gt s.vs k).v),m):=by
 obtain⟨h,lg,d⟩:=m;refine aP 5999 q_ λn=>?_
 have V:=H.va _ (bA hi);have nd:s.d.bu.length=s.vs.length:=by simp[cE.d]
 obtain⟨_,sn⟩:=fV hz;have gi:gt s.d.bu i=(gt s.vs i).v:=gY hi;have gk:gt s.d.bu k=(gt s.vs k).v:=gY hk;have si:=sn i Z;have sk:=sn k Z;rw[gi]at si;rw[gk]at sk;have ci:=pU si.1;have ck:=pU sk.1;have wZ:=yH si.2.1;have QA:=Au wZ.1;have QB:=GK hz;have hnw:s.d.cA=s.cA:=rfl;rw[hnw]at QB;have hpo:jn (sG (gt s.vs i).v (gt s.vs k).v.eB.node)=0:=GJ si.2.1 ck.1 ck.2.1;have hse:=(lH hpo).2.2.2.1;have hpx:=KE V (gt s.vs k).v.eB.node;have c1:=H.v.sc;have c2:=H.l.sc;have lh:=V.s.b.len;rw[length_map]at lh;have sZ:=V.s.w1;have e1:=H.v.el hi;have e2:=H.v.el hk;unfold dI at e1 e2;have kJ:∀l',aj (aR h l') 0=some (.row bS 1 fM):=λl'=>(an l' h 0 (ag hg)).trans hg
 have g1:=λl' lg d=>Aj7 (262-1) s b i (gt s.vs k).v.eB.node ⟨aR h l',lg,d⟩ (H.bx l') hz ((an l' h b (ag hb)).trans hb) hi
 have PA:=GI V (gt s.vs k).v.eB.node;have g2:=λl' lg d=>Aj3 (262-1) (gZ (gt s.vs i) (gt s.vs k).v.eB.node).p.send (gZ (gt s.vs i) (gt s.vs k).v.eB.node).s ⟨aR h l',lg,d⟩ (PA.s.bx l') (S4 hO (bA hi) _).1 (by rw[hpx];exact hse)
 unfold wh dc cJ at g1;unfold eG at g2;have gU:(gZ (gt s.vs i) (gt s.vs k).v.eB.node).p.send.g-(gZ (gt s.vs i) (gt s.vs k).v.eB.node).p.send.n-(gZ (gt s.vs i) (gt s.vs k).v.eB.node).p.send.r=Yt (sG (gt s.vs i).v (gt s.vs k).v.eB.node):=by rw[<-hpx];rfl
 simp only[gU]at g2;simp only[cons_append,nil_append]at g1;by_cases ab:(gt s.vs i).v.eB.node=(gt s.vs k).v.eB.node
 .have wv:CN l s.cA (gt s.vs i).v (gt s.vs k).v=false:=by rw[CN,decide_eq_false (by simpa using ab),Bool.false_and]
  rw[wv];exact aC (Z6 @cJ.eq_1 e1 e2 c1 c2 ab)
 cases MZ:(gt s.vs i).v.up with
 |false=>
  have wv:CN l s.cA (gt s.vs i).v (gt s.vs k).v=false:=by rw[CN,MZ,Bool.false_and,Bool.and_false]
  rw[wv];exact aC (Z7 @cJ.eq_1 e1 e2 c1 c2 ab MZ)
 |true=>
 cases Tx:(gt s.vs k).v.up with
 |false=>
  have wv:CN l s.cA (gt s.vs i).v (gt s.vs k).v=false:=by rw[CN,Tx,Bool.false_and,Bool.and_false,Bool.and_false]
  rw[wv];exact aC (Z8 @cJ.eq_1 e1 e2 c1 c2 ab MZ Tx)
 |true=>
 have wv:CN l s.cA (gt s.vs i).v (gt s.vs k).v=(gt s.vs i).v.st.held.any (Tw l s.cA (gt s.vs i).v.eB.node (gt s.vs k).v.eB.node (gt s.vs i).v.bM (Yt (sG (gt s.vs i).v (gt s.vs k).v.eB.node)) (vw (gt s.vs k).v)):=by rw[CN,MZ,Tx,decide_eq_true (by simpa using ab),Bool.true_and,Bool.true_and,Bool.true_and]
 rw[wv];refine aW (xq @cJ.eq_1 e1 e2 c1 c2 ab MZ Tx g1 g2 lh) ?_;generalize Ou:Tw l s.cA (gt s.vs i).v.eB.node (gt s.vs k).v.eB.node (gt s.vs i).v.bM (Yt (sG (gt s.vs i).v (gt s.vs k).v.eB.node)) (vw (gt s.vs k).v)=pr;refine bL (gt s.vs i).v.st.held.length [X63] (λr=>[Ei (r:Nat)]) (λr=>((gt s.vs i).v.st.held.take r).any pr=false) Z aX ⟨rfl,rfl⟩ (λr h3 dH g hr hP hK=>?_) (λh3 dH g hP hK=>?_)
 .have H3:bQ h3 s:=hK.sn H;have V3:=H3.va _ (bA hi);have v3:aT h3 6 v (l.map bY):=aT.bw (m:=⟨aR h _,_,[]⟩) (m':=⟨h3,dH,[]⟩) (hv.bx _) hK;have a:=hK.aA lg d;have e:=V3.s.b.el hr;unfold dt at e;have rr:=fh hr Z;have hB:=QA _ (bA hr);have hd:=V.s.d _ (bA hr);have vp:=hN.h _ (bA hi) _ (bA hr);have bd:=Hf hB;have sz:=Hg hB;have u1:u64.wrap (eS (gt (gt s.vs i).v.st.held r))=eS (gt (gt s.vs i).v.st.held r):=dB Z Z;have KH:∀l',aj (aR h3 l') 0=some (.row bS 1 fM):=λl'=>(an l' h3 0 (gA (gA (ag hg) (by rw[bV];exact Nat.le_add_right _ _)) hK.len)).trans ((hK.get 0 (gA (ag hg) (by rw[bV];exact Nat.le_add_right _ _))).trans (kJ _))
  have lE:wO (gt (gt s.vs i).v.st.held r) s.cA=((gt (gt s.vs i).v.st.held r).born+(gt (gt s.vs i).v.st.held r).iO-s.cA,0):=by rw[wO,aq Z,aq Z]
  have g3:=λm=>AjE (262-1) (gt (gt s.vs i).v.st.held r) s.cA m hd.1 hd.2
  have q3:decide ((wO (gt (gt s.vs i).v.st.held r) s.cA).1<=0/\(wO (gt (gt s.vs i).v.st.held r) s.cA).2=0)=!decide (s.cA<(gt (gt s.vs i).v.st.held r).born+(gt (gt s.vs i).v.st.held r).iO):=by
   rw[lE];by_cases c:s.cA<(gt (gt s.vs i).v.st.held r).born+(gt (gt s.vs i).v.st.held r).iO
   .rw[decide_eq_true c,decide_eq_false (by simp only;omega)];rfl
   .rw[decide_eq_false c,decide_eq_true ⟨by simp only;omega,rfl⟩];rfl
  simp only[q3]at g3;unfold dt at g3;have g4:=λl' lg d=>Ak9 (262-1) s i (gt (gt s.vs i).v.st.held r).id ⟨aR h3 l',lg,d⟩ (H3.bx l') hi (λp hp=>(CM si.2.1 p.p (by rw[V.e];exact mem_map.2 ⟨p,hp,rfl⟩)).2)
  unfold gQ at g4;have g5:=λl' lg d=>AfH (262-1) (gt (gt s.vs i).v.st.held r) bS ⟨aR h3 l',lg,d⟩ (KH l') vp hd.1 hd.2
  unfold dt at g5;have g6:=λl' lg d=>AgW (262-1) (id:=(gt (gt s.vs i).v.st.held r).id) ⟨aR h3 l',lg,d⟩ (v3.bx l') hw hp ⟨ci.1,ci.2.1⟩ ⟨bd.1,bd.2.1⟩ QB sz
  unfold gQ at g6;have g7:=λl' lg d=>Ale (262-1) s k bS ⟨aR h3 l',lg,d⟩ (KH l') (H3.bx l') hN hO hk
  cases Na:pr (gt (gt s.vs i).v.st.held r)with
  |true=>
   have at1:(gt s.vs i).v.st.held.any pr=true:=List.any_eq_true.2 ⟨_,bA hr,Na⟩;rw[at1];rw[<-Ou]at Na;obtain⟨x1,x2,x3,x4,x5,x6⟩:=Ve Na;have y1:=eq_true x1;have y2:=x2;have y3:=x3;have y4:=x4;have y5:=eq_true x5;have y6:=eq_true x6;exact aC (gX y1 y2 y3 y4 y5 y6 a e rr hB u1 (Z5 g3 g4 g5 g6 g7))
  |false=>
   have Nb:((gt s.vs i).v.st.held.take (r+1)).any pr=false:=by rw[Hh hr,hP,Na];rfl
   rw[<-Ou]at Na;rcases Vd Na with x1|⟨x1,x2⟩|⟨x1,x2,x3⟩|⟨x1,x2,x3,x4⟩|⟨x1,x2,x3,x4,x5⟩|⟨x1,x2,x3,x4,x5,x6⟩
   .have y1:=eq_false x1;refine aW (Z5 y1 a e rr g3) ?_;exact Nb
   .have y1:=eq_true x1;have y2:=x2;refine aW (Z7 y1 y2 a e rr g3 g4) ?_;exact Nb
   .have y1:=eq_true x1;have y2:=x2;have y3:=eq_false x3;refine aW (xq y1 y2 y3 a e rr hB g3 g4 g5 g6) ?_;exact Nb
   .have y1:=eq_true x1;have y2:=x2;have y3:=x3;have y4:=eq_false x4;refine aW (gX y1 y2 y3 y4 a e rr hB g3 g4 g5 g6) ?_;exact Nb
   .have y1:=eq_true x1;have y2:=x2;have y3:=x3;have y4:=x4;have y5:=eq_false x5;refine aW (gX y1 y2 y3 y4 y5 a e rr hB u1 g3 (Z3 g4 g5 g6)) ?_;exact Nb
   .have y1:=eq_true x1;have y2:=x2;have y3:=x3;have y4:=x4;have y5:=eq_true x5;have y6:=eq_false x6;refine aW (gX y1 y2 y3 y4 y5 y6 a e rr hB u1 (Z5 g3 g4 g5 g6 g7)) ?_;exact Nb
 .have H3:bQ h3 s:=hK.sn H;have a:=hK.aA lg d;have z0:=λl=>hK.at l 0 (by simp only[fY];omega)
  have nq0:=λk=>hK.WS 0 k (by simp only[fY];omega)
  have rr:=cY (gt s.vs i).v.st.held.length;rw[take_length]at hP;rw[hP];exact aC (Z2 a rr)
theorem E42{s:cE}{i k:Nat}{l:List bF}{v:AV}(m:Mem)(H:bQ m.ah s)(hz:dU s.d=0)(hN:yI s)(hv:aT m.ah 6 v (l.map bY))(hw:l.length<=40)(hp:(eA l).1=0)(hi:i<s.vs.length)(hk:k<s.vs.length)(ne:(gt s.vs i).v.eB.node≠(gt s.vs k).v.eB.node)(q_:316<=j:=by omega):
 SM j 42 [.agg (cJ s),v,.agg (dI (gt s.vs i)),.agg (dI (gt s.vs k))] m=some (.bool (CN l s.cA (gt s.vs i).v (gt s.vs k).v),m):=by
 obtain⟨h,lg,d⟩:=m;refine aP 5999 q_ λn=>?_
 have V:=H.va _ (bA hi);have W:=H.va _ (bA hk);have nd:s.d.bu.length=s.vs.length:=by simp[cE.d]
 obtain⟨_,sn⟩:=fV hz;have gi:gt s.d.bu i=(gt s.vs i).v:=gY hi;have gk:gt s.d.bu k=(gt s.vs k).v:=gY hk;have si:=sn i Z;have sk:=sn k Z;rw[gi]at si;rw[gk]at sk;have ci:=pU si.1;have ck:=pU sk.1;have wZ:=yH si.2.1;have QA:=Au wZ.1;have QB:=GK hz;have hnw:s.d.cA=s.cA:=rfl;rw[hnw]at QB;have hpo:jn (sG (gt s.vs i).v (gt s.vs k).v.eB.node)=0:=GJ si.2.1 ck.1 ck.2.1;have hse:=(lH hpo).2.2.2.1;have hpx:=KE V (gt s.vs k).v.eB.node;have c1:=H.v.sc;have c2:=H.l.sc;have d1:=V.s.b.sc;have d2:=V.s.m.sc;have d3:=V.s.p.v.sc;have d4:=V.q.v.sc;have f1:=W.s.b.sc;have f2:=W.s.m.sc;have f3:=W.s.p.v.sc;have f4:=W.q.v.sc;have lh:=V.s.b.len;rw[length_map]at lh;have sZ:=V.s.w1;have rH:(gt s.vs i).v.eB.node≠(gt s.vs k).v.eB.node:=ne;have g1:=λl' lg d=>E92 (316-1) (gt s.vs i) (gt s.vs k).v.eB.node ⟨aR h l',lg,d⟩ (V.bx l')
 have PA:=GI V (gt s.vs k).v.eB.node;have g2:=λl' lg d=>E91 (316-1) (gZ (gt s.vs i) (gt s.vs k).v.eB.node).p.send (gZ (gt s.vs i) (gt s.vs k).v.eB.node).s ⟨aR h l',lg,d⟩ (PA.s.bx l') (by rw[hpx];exact hse)
 unfold wh dc dI at g1;unfold eG at g2;have gU:(gZ (gt s.vs i) (gt s.vs k).v.eB.node).p.send.g-(gZ (gt s.vs i) (gt s.vs k).v.eB.node).p.send.n-(gZ (gt s.vs i) (gt s.vs k).v.eB.node).p.send.r=Yt (sG (gt s.vs i).v (gt s.vs k).v.eB.node):=by rw[<-hpx];rfl
 simp only[gU]at g2;cases MZ:(gt s.vs i).v.up with
 |false=>
  have wv:CN l s.cA (gt s.vs i).v (gt s.vs k).v=false:=by rw[CN,MZ,Bool.false_and,Bool.and_false]
  rw[wv];exact aC (gX @cJ.eq_1 @dI.eq_1 c1 c2 d1 d2 d3 d4 f1 f2 f3 (Z2 f4 MZ))
 |true=>
 cases Tx:(gt s.vs k).v.up with
 |false=>
  have wv:CN l s.cA (gt s.vs i).v (gt s.vs k).v=false:=by rw[CN,Tx,Bool.false_and,Bool.and_false,Bool.and_false]
  rw[wv];exact aC (gX @cJ.eq_1 @dI.eq_1 c1 c2 d1 d2 d3 d4 f1 f2 f3 (Z3 f4 MZ Tx))
 |true=>
 have wv:CN l s.cA (gt s.vs i).v (gt s.vs k).v=(gt s.vs i).v.st.held.any (Tw l s.cA (gt s.vs i).v.eB.node (gt s.vs k).v.eB.node (gt s.vs i).v.bM (Yt (sG (gt s.vs i).v (gt s.vs k).v.eB.node)) (vw (gt s.vs k).v)):=by rw[CN,MZ,Tx,decide_eq_true rH,Bool.true_and,Bool.true_and,Bool.true_and]
 rw[wv];simp only[MZ,decide_true]at g1;have n93:=λL lg=>N93 (316-1) (n+3999) (aR h L) lg [] (gt s.vs k).v.st (gt s.vs k).b (gt s.vs k).m (gt s.vs k).p (gt s.vs k).lp (gt s.vs k).v.eB.iK (W.s.bx L) (hN.q _ (bA hk)) (hN.h _ (bA hk)) (hN.p _ (bA hk))
 unfold mf at n93;refine aW (gX @cJ.eq_1 @dI.eq_1 c1 c2 d1 d2 d3 d4 f1 f2 f3 (Z5 f4 MZ Tx g1 g2)) ?_;rw[<-fZ];rw[show aR h _=aR (aR h _) []from rfl];refine fK (n93 _ _) (λw h2 dx k2 og=>?_);rw[nN]at k2;obtain⟨x,y,z,rfl,sz,he0,JD⟩:=og;have z0:=λl=>k2.at l 0 (by simp only[fY];omega)
 have z1:=λl=>k2.at l 1 (by simp only[fY];omega)
 have z2:=λl=>k2.at l 2 (by simp only[fY];omega)
 have K2:aY ⟨h,lg,[]⟩ ⟨h2,dx,[]⟩:=(aH aL).trans k2;have H2:bQ h2 s:=bQ.bw (m:=⟨h,lg,[]⟩) (m':=⟨h2,dx,[]⟩) H K2;have v2:aT h2 6 v (l.map bY):=aT.bw (m:=⟨h,lg,[]⟩) (m':=⟨h2,dx,[]⟩) hv K2;have w2:=W.w2;have s0:=(vW (gt s.vs k).v.st.held).1;generalize Od:vw (gt s.vs k).v=rm;have pG:(jf (gt s.vs k).v.st (gt s.vs k).v.eB.iK=0/\(gt s.vs k).v.eB.jZ<qI (gt s.vs k).v)\/(jf (gt s.vs k).v.st (gt s.vs k).v.eB.iK=0/\¬(gt s.vs k).v.eB.jZ<qI (gt s.vs k).v)\/jf (gt s.vs k).v.st (gt s.vs k).v.eB.iK≠0:=Z;rcases pG with⟨hs,fl⟩|⟨hs,fl⟩|hs
 case' inl=>
  obtain⟨R,rfl,rfl,zl,Yg,r0,rt⟩:=JD hs;have ok:=zS hs;have g9:=λl' lg d=>E94 (316-1) (gt s.vs k).v.eB.iK (du (gt s.vs k).v.st.held) z R ⟨aR h2 l',lg,d⟩ (zl.bx l') Yg r0 s0 Z ok.2.1
  have rp:=iW r0;have fv:(gt s.vs k).v.eB.iK-du (gt s.vs k).v.st.held-dS R=qI (gt s.vs k).v:=by rw[qI,aG hs];omega
  have fr:qI (gt s.vs k).v<=1099511627776:=Z;simp only[fv]at g9;have wl:u64.wrap (qI (gt s.vs k).v-(gt s.vs k).v.eB.jZ)=rm:=by rw[<-Od,vw,aq Z];exact dB Z Z
  have cf:=eq_true fl;refine aW (Z6 hs sz z2 g9 wl cf) ?_;have hr0:rm=rm:=rfl
 case' inr.inl=>
  obtain⟨R,rfl,rfl,zl,Yg,r0,rt⟩:=JD hs;have ok:=zS hs;have g9:=λl' lg d=>E94 (316-1) (gt s.vs k).v.eB.iK (du (gt s.vs k).v.st.held) z R ⟨aR h2 l',lg,d⟩ (zl.bx l') Yg r0 s0 Z ok.2.1
  have fv:(gt s.vs k).v.eB.iK-du (gt s.vs k).v.st.held-dS R=qI (gt s.vs k).v:=by rw[qI,aG hs];omega
  simp only[fv]at g9;have cf:=eq_false fl;have hr0:rm=0:=by rw[<-Od,vw,aG Z]
  simp+contextual-implicitDefEqProofs (maxSteps:=1000000) (maxDischargeDepth:=20) only[go_sem,simprocAttr,hs,sz,z2,g9,cf]
 case' inr.inr=>
  obtain⟨rfl,rfl,rfl⟩:=he0 hs;have cf:=eq_false hs;have hr0:rm=0:=by rw[<-Od,vw,qI,aq hs,aG w2]
  simp+contextual-implicitDefEqProofs (maxSteps:=1000000) (maxDischargeDepth:=20) only[go_sem,simprocAttr,cf]
 all_goals
  generalize Ou:Tw l s.cA (gt s.vs i).v.eB.node (gt s.vs k).v.eB.node (gt s.vs i).v.bM (Yt (sG (gt s.vs i).v (gt s.vs k).v.eB.node)) rm=pr;refine bL (gt s.vs i).v.st.held.length [Uw,wJ] (λr=>[Ei (r:Nat),Eu rm]) (λr=>((gt s.vs i).v.st.held.take r).any pr=false) Z aX ⟨by first|rfl|(rw[hr0];rfl),rfl⟩ (λr h3 dH g hr hP hK=>?_) (λh3 dH g hP hK=>?_)
  .have H3:bQ h3 s:=hK.sn H2;have V3:=H3.va _ (bA hi);have v3:aT h3 6 v (l.map bY):=aT.bw (m:=⟨aR h2 _,_,[]⟩) (m':=⟨h3,dH,[]⟩) (v2.bx _) hK;have y0:=λl=>hK.od (z0 []) (by have:=k2.len;simp only[bV,length_cons,length_nil,nb]at*;omega) l
   have y1:=λl=>hK.od (z1 []) (by have:=k2.len;simp only[bV,length_cons,length_nil,nb]at*;omega) l
   have y2:=λl=>hK.od (z2 []) (by have:=k2.len;simp only[bV,length_cons,length_nil,nb]at*;omega) l
   have QC:=V3.s.b.len;rw[length_map]at QC;have e:=V3.s.b.el hr;unfold dt at e;have rr:=fh hr Z;have hB:=QA _ (bA hr);have hd:=V.s.d _ (bA hr);have vp:=hN.h _ (bA hi) _ (bA hr);have bd:=Hf hB;have sz:=Hg hB;have bo:=tG hB;have u1:u64.wrap (eS (gt (gt s.vs i).v.st.held r))=eS (gt (gt s.vs i).v.st.held r):=dB Z Z;have u2:i64.wrap ((gt (gt s.vs i).v.st.held r).born+(gt (gt s.vs i).v.st.held r).iO)=(gt (gt s.vs i).v.st.held r).born+(gt (gt s.vs i).v.st.held r).iO:=aU Z Z;have g5:=λm=>E95 (316-1) (gt (gt s.vs i).v.st.held r) m vp hd.1 hd.2
   unfold dt at g5;have g4:=λl' lg d=>E96 (316-1) (gt s.vs i) (gt (gt s.vs i).v.st.held r).id ⟨aR h3 l',lg,d⟩ (V3.bx l') (λp hp=>by
    have q:=CM si.2.1 p.p (by rw[V.e];exact mem_map.2 ⟨p,hp,rfl⟩);exact⟨q.2,q.1⟩) bd.2.2
   unfold dI gQ at g4;simp only[MZ,decide_true]at g4;have g6:=λl' lg d=>AlO (316-1) (id:=(gt (gt s.vs i).v.st.held r).id) ⟨aR h3 l',lg,d⟩ (v3.bx l') hw hp ⟨ci.1,ci.2.1⟩ ⟨bd.1,bd.2.1⟩ QB sz
   unfold gQ at g6;have a:∀l' bq,dm h3 dH bq->aY ⟨aR h2 _,_,[]⟩ ⟨aR h3 l',bq,[]⟩:=λl' bq q=>hK.bx l' q
   have kk:∀{l' bq},dm h3 dH bq->aY ⟨h,lg,d⟩ ⟨aR h3 l',bq,d⟩:=λ{l' bq} q=>((K2.trans (aH aL)).trans (a l' bq q)).sub
   cases Na:pr (gt (gt s.vs i).v.st.held r)with
   |true=>
    have at1:(gt s.vs i).v.st.held.any pr=true:=List.any_eq_true.2 ⟨_,bA hr,Na⟩;rw[at1];rw[<-Ou]at Na;obtain⟨x1,x2,x3,x4,x5,x6⟩:=Ve Na;have t0:=eq_false (Int.not_le.2 x1);have t2:=x2;have t3:=x3;have t4:=x4;have t5:=eq_true x5;have t6:=eq_true x6;refine aW (gX t0 t2 t3 t4 t5 t6 e rr hB QC u1 (Z7 u2 y0 y1 y2 g4 g5 g6)) ?_;exact kk aL
   |false=>
    have Nb:((gt s.vs i).v.st.held.take (r+1)).any pr=false:=by rw[Hh hr,hP,Na];rfl
    rw[<-Ou]at Na;rcases Vd Na with x1|⟨x1,x2⟩|⟨x1,x2,x3⟩|⟨x1,x2,x3,x4⟩|⟨x1,x2,x3,x4,x5⟩|⟨x1,x2,x3,x4,x5,x6⟩
    .have t0:=eq_true (Int.not_lt.1 x1);refine aW (yA t0 a e rr hB QC u2 y0 y1 g5) ?_;exact Nb
    .have t0:=eq_false (Int.not_le.2 x1);have t2:=x2;refine aW (gX t0 t2 a e rr hB QC u2 y0 y1 g4 g5) ?_;exact Nb
    .have t0:=eq_false (Int.not_le.2 x1);have t2:=x2;have t3:=eq_false x3;refine aW (gX t0 t2 t3 a e rr hB QC u2 y0 y1 (Z3 g4 g5 g6)) ?_;exact Nb
    .have t0:=eq_false (Int.not_le.2 x1);have t2:=x2;have t3:=x3;have t4:=eq_false x4;refine aW (gX t0 t2 t3 t4 a e rr hB QC u2 y0 (Z5 y1 y2 g4 g5 g6)) ?_;exact Nb
    .have t0:=eq_false (Int.not_le.2 x1);have t2:=x2;have t3:=x3;have t4:=x4;have t5:=eq_false x5;refine aW (gX t0 t2 t3 t4 t5 a e rr hB QC u1 (Z7 u2 y0 y1 y2 g4 g5 g6)) ?_;exact Nb
    .have t0:=eq_false (Int.not_le.2 x1);have t2:=x2;have t3:=x3;have t4:=x4;have t5:=eq_true x5;have t6:=eq_false x6;refine aW (gX t0 t2 t3 t4 t5 t6 a e rr hB QC (Z8 u1 u2 y0 y1 y2 g4 g5 g6)) ?_;exact Nb
  .have H3:bQ h3 s:=hK.sn H2;have V3:=H3.va _ (bA hi);have QC:=V3.s.b.len;rw[length_map]at QC;have y1:=λl=>hK.od (z1 []) (by have:=k2.len;simp only[bV,length_cons,length_nil,nb]at*;omega) l
   have rr:=cY (gt s.vs i).v.st.held.length;rw[take_length]at hP;rw[hP];refine aW (Z3 rr y1 QC) ?_;exact((K2.trans (aH aL)).trans hK).sub
def I9(p:Int×Int):List AV:=[Ei p.1,Ei p.2]
def QD(l:List bF)(cA:Int)(N:List jh)(i k:Nat):List (Int×Int):=if CN l cA (gt N i) (gt N k)=true then[((gt N i).eB.node,(gt N k).eB.node)]else[]
def kY(l:List bF)(cA:Int)(N:List jh)(i:Nat):Nat->List (Int×Int)
 |0=>[]
 |k+1=>kY l cA N i k++QD l cA N i k
def xF(l:List bF)(cA:Int)(N:List jh):Nat->List (Int×Int)
 |0=>[]
 |i+1=>xF l cA N i++kY l cA N i N.length
theorem Ty(l:List bF)(cA:Int)(N:List jh)(i k:Nat):(QD l cA N i k).length<=1:=by
 rw[QD];split<;>simp
theorem vZ(l:List bF)(cA:Int)(N:List jh)(i:Nat):∀k,(kY l cA N i k).length<=k
 |0=>Nat.le_refl 0
 |k+1=>by
  have:=vZ l cA N i k;have:=Ty l cA N i k;rw[kY,length_append];omega
theorem v7(l:List bF)(cA:Int)(N:List jh):∀i,(xF l cA N i).length<=i*N.length
 |0=>by simp[xF]
 |i+1=>by
  have h1:=v7 l cA N i;have h2:=vZ l cA N i N.length;rw[xF,length_append,Nat.succ_mul];omega
def PrI(h:aN)(lg:List Nat)(w:List AV)(L:List (Int×Int))(u:AV)(m:Mem):Prop:=aY ⟨h,lg,[]⟩ m/\aj m.ah (nb h 0)=(aO 4 [w])/\cG h.length m.ah 2 u (L.map I9)
theorem N40(lg d:List Nat){s:cE}{b:Nat}{l:List bF}{v:AV}{bS:Bool}(hg:aj h 0=some (.row bS 1 fM))(hO:Cz s)(hb:aj h b=some (.map (Cv s.nv s.vs s.vs.length)))(H:bQ h s)(hz:dU s.d=0)(hN:yI s)(hv:aT h 6 v (l.map bY))(hw:l.length<=40)(hp:(eA l).1=0)(q_:262<=j:=by omega):
 Wa FT MT (SM j) (n+3000) (.fn 40) [.agg (cJ s++[.map b]),v] ⟨aR h [],lg,d⟩ (Qk ⟨h,lg,d⟩ (λw h'=>cG h.length h' 2 w ((xF l s.cA s.d.bu s.vs.length).map I9))):=by
 refine aI ?_;have c1:=H.v.sc;have c2:=H.l.sc;have lv:=H.v.len;rw[length_map]at lv;have nd:s.d.bu.length=s.vs.length:=by simp[cE.d]
 have n16:=(fV hz).1;refine aW (Z4 @cJ.eq_1 c1 c2 lv) ?_;refine dz (α:=AV) s.vs.length [Uv,X5] (λi u=>[Ei (i:Nat),u]) (λi u m=>PrI h lg [Ei s.cA,s.nv,s.lv,.map b] (xF l s.cA s.d.bu i) u m) Z aX ⟨.aF,rfl,aH aL,by rw[bj];rfl,.nil rfl rfl⟩ (λi u m' g hi hP=>?_) (λu m' g hP=>?_)
 .obtain⟨h3,dH,d3⟩:=m';obtain⟨k3,z3,ou⟩:=hP;obtain rfl:d3=[]:=k3.aV;simp only at z3 ou;have z3':=λl=>(an l h3 _ (ag z3)).trans z3
  have H3:bQ h3 s:=bQ.bw (m:=⟨h,lg,[]⟩) (m':=⟨h3,dH,[]⟩) H k3;have QE:=H3.v.len;rw[length_map]at QE;have ri:=fh hi Z;refine bH ?_;refine aW (Z3 z3' QE ri) ?_;refine dz (α:=AV) s.vs.length [X21,X5] (λk u=>[Ei (k:Nat),u]) (λk u m=>PrI h lg [Ei s.cA,s.nv,s.lv,.map b] (xF l s.cA s.d.bu i++kY l s.cA s.d.bu i k) u m) Z aX ⟨u,rfl,k3,z3,by rw[kY,append_nil];exact ou⟩ (λk u m' g hk hP=>?_) (λu m' g hP=>?_)
  .obtain⟨h4,fi,d4⟩:=m';obtain⟨k4,z4,ou⟩:=hP;obtain rfl:d4=[]:=k4.aV;simp only at z4 ou;have Nv:=λl=>(an l h4 _ (ag z4)).trans z4
   have H4:bQ h4 s:=bQ.bw (m:=⟨h,lg,[]⟩) (m':=⟨h4,fi,[]⟩) H k4;have v4:aT h4 6 v (l.map bY):=aT.bw (m:=⟨h,lg,[]⟩) (m':=⟨h4,fi,[]⟩) hv k4;have hg4:aj h4 0=some (.row bS 1 fM):=(k4.get 0 (ag hg)).trans hg;have C5:aj h4 b=some (.map (Cv s.nv s.vs s.vs.length)):=(k4.get b (ag hb)).trans hb;have Nq:=H4.v.len;rw[length_map]at Nq;have rk:=fh hk Z;have gi:gt s.d.bu i=(gt s.vs i).v:=gY hi;have gk:gt s.d.bu k=(gt s.vs k).v:=gY hk;have g1:=λl' lg d=>E87 j (i:=i) (k:=k) (l:=l) (v:=v) (bS:=bS) ⟨aR h4 l',lg,d⟩ ((an l' h4 0 (ag hg4)).trans hg4) hO ((an l' h4 b (ag C5)).trans C5) (H4.bx l') hz hN (v4.bx l') hw hp hi hk
   simp only[cJ,cons_append,nil_append]at g1;have e1:=H4.v.el hi;have e2:=H4.v.el hk;unfold dI at e1 e2;have cu:=ou.sl.sc;have pl1:=v7 l s.cA s.d.bu i;have pl2:=vZ l s.cA s.d.bu i k;have st:kY l s.cA s.d.bu i (k+1)=kY l s.cA s.d.bu i k++QD l s.cA s.d.bu i k:=rfl;have pv:QD l s.cA s.d.bu i k=if CN l s.cA (gt s.vs i).v (gt s.vs k).v=true then[((gt s.vs i).v.eB.node,(gt s.vs k).v.eB.node)]else[]:=by rw[QD,gi,gk]
   refine bH ?_;cases LL:CN l s.cA (gt s.vs i).v (gt s.vs k).v with
   |false=>
    rw[LL,aq (by simp)]at pv;simp only[LL]at g1;refine aW (Z5 Nv e1 e2 g1 rk) ?_;exact⟨u,rfl,k4,z4,by rw[st,pv,append_nil];exact ou⟩
   |true=>
    rw[LL,aG rfl]at pv;simp only[LL]at g1;rcases ou with⟨hn,rfl⟩|⟨b0,rfl,Qb,rH⟩
    .have L0:xF l s.cA s.d.bu i++kY l s.cA s.d.bu i k=[]:=map_eq_nil_iff.1 hn;refine aW (Z5 Nv e1 e2 g1 rk) ?_;refine⟨_,rfl,k4.trans (aH aL),Nv _,?_⟩;rw[st,pv,<-append_assoc,L0];exact .some (nb h4 1) rfl (bK k4.len aB) bj
    .have o:=bg (ag rH);have gb:∀l,aj (aR h4 l) b0=_:=λl=>(an l h4 _ (ag rH)).trans rH
     have nx1:=λk=>iv (k:=k) (ag rH)
     have nx2:=λk=>iD (k:=k) (ag rH)
     have n0:nb h 0≠b0:=λe=>by rw[<-e,z4]at rH;simp at rH
     rw[st,pv,<-append_assoc];have ll:(xF l s.cA s.d.bu i++kY l s.cA s.d.bu i k).length<=300:=by
      rw[length_append];have:i*s.d.bu.length<=16*16:=Nat.mul_le_mul Z n16;omega
     generalize xF l s.cA s.d.bu i++kY l s.cA s.d.bu i k=L0 at*;have fA:(1000000000000<(L0.length+1)*16)=False:=by simp;omega
     have fC:List.take L0.length (L0.map I9)=L0.map I9:=take_of_length_le (by simp);simp only[length_map]at*;refine aW (gX Nv e1 e2 g1 rk o gb nx1 nx2 fA @fB fC) ?_;refine⟨_,rfl,k4.bS Qb (ag rH) _ _ (dD.ok (by repeat first|exact dD.nil|refine dD.cons (by first|exact aB|exact bK (k4.len) aB|assumption) ?_)),(bP (ag rH) (ag z4) n0 _ _).trans z4,?_⟩;rw[map_append];exact .some (nb h4 1) (by simp) (bK k4.len aB) (o.2.1 _ _ _)
  .obtain⟨h4,fi,d4⟩:=m';obtain⟨k4,z4,ou⟩:=hP;obtain rfl:d4=[]:=k4.aV;have rk:=cY s.vs.length;refine bH ?_;refine aW (Z2 rk ri) ?_;exact⟨u,rfl,k4,z4,by rw[xF,nd];exact ou⟩
 .obtain⟨h3,dH,d3⟩:=m';obtain⟨k3,z3,ou⟩:=hP;obtain rfl:d3=[]:=k3.aV;simp only at ou;have ri:=cY s.vs.length;refine bH ?_;refine aW (Z2 ri @mZ) ?_;exact⟨k3.sub,ou⟩
end Go.Abs
end
