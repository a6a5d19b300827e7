/- Functions of the program on symbolic values
   Conditions: none. -/
import Derived.Test.YteeknodhjojhhaaGreatDoorPg
set_option linter.unusedSimpArgs false
set_option linter.unusedVariables false
set_option maxRecDepth 100000
set_option maxHeartbeats 16000000
noncomputable section
namespace Go.Abs
open List Option IntKind
variable(j n:Nat)(h:aN)
def WtQ(h:aN)(D:kG)(l:List bF)(w:AV)(h':aN):Prop:=∃(u:AV),(dU D≠0/\u=.aF/\w=.tuple [u,Ei (dU D)])\/(dU D=0/\(eA l).1≠0/\u=.aF/\w=.tuple [u,Ei (eA l).1])\/(dU D=0/\(eA l).1=0/\w=.tuple [u,Ei 0]/\cG h.length h' 2 u ((xF l D.cA D.bu D.bu.length).map I9))
theorem N13(lg d:List Nat){s:cE}{l:List bF}{v:AV}{bS:Bool}(hg:aj h 0=some (.row bS 1 fM))(hO:Cz s)(H:bQ h s)(hN:yI s)(hv:aT h 6 v (l.map bY))(hw:l.length<=40)(q_:262<=j:=by omega):
 Wa FT MT (SM j) (n+4000) (.fn 13) [.agg (cJ s),v] ⟨aR h [],lg,d⟩ (Qk ⟨h,lg,d⟩ (WtQ h s.d l)):=by
 refine aI ?_;have c1:=H.v.sc;have c2:=H.l.sc;refine aW (Z3 @cJ.eq_1 c1 c2) ?_;rw[<-fZ];refine fK (N31 j _ (aR h [(aO 3 [cJ s])]) _ _ s (H.bx _)) (λw h2 dx k2 og=>?_);have H2:bQ h2 s:=k2.sn H;have v2:aT h2 6 v (l.map bY):=aT.bw (m:=⟨aR h _,_,[]⟩) (m':=⟨h2,dx,[]⟩) (hv.bx _) k2;have K2:aY ⟨h,lg,[]⟩ ⟨h2,dx,[]⟩:=(aH aL).trans k2;have kk:∀{l bq},dm h2 dx bq->aY ⟨h,lg,d⟩ ⟨aR h2 l,bq,d⟩:=λ{l bq} q=>(K2.trans (aH q)).sub
 have g1:=λl' lg d=>E39 j l v ⟨aR h2 l',lg,d⟩ (v2.bx l') Z
 by_cases hz:dU s.d=0
 .rw[aG hz]at og;obtain⟨b,rfl,hb⟩:=og;by_cases hp:(eA l).1=0
  .refine aW (Z5 @cJ.eq_1 c1 c2 g1 hp) ?_;rw[<-fZ];have n40:=λL lg=>N40 j (n+999) (aR h2 L) lg [] (l:=l) (v:=v) (bS:=bS) ((an L h2 0 (gA (ag hg) K2.len)).trans ((K2.get 0 (ag hg)).trans hg)) hO ((an L h2 b (ag hb)).trans hb) (H2.bx L) hz hN (v2.bx L) hw hp
   simp only[cJ,cons_append,nil_append,nN]at n40;refine fK (n40 _ _) (λw h4 fi k4 Da=>?_);refine aW @mZ ?_;have nd:s.d.bu.length=s.vs.length:=by simp[cE.d]
   refine⟨((K2.trans (aH aL)).trans k4).sub,w,.inr (.inr ⟨hz,hp,rfl,?_⟩)⟩;rw[nd];exact Da.lo (bK K2.len (by rw[bV];exact Nat.le_add_right _ _))
  .refine aW (Z6 @cJ.eq_1 c1 c2 g1 hp @mZ) ?_;exact⟨kk aL,.aF,.inr (.inl ⟨hz,hp,rfl,rfl⟩)⟩
 .rw[aq hz]at og;subst og;refine aW (Z2 hz @mZ) ?_;exact⟨kk aL,.aF,.inl ⟨hz,rfl,rfl⟩⟩
def PrJ(h:aN)(lg:List Nat)(w:List AV)(L:List (Int×Int))(u:AV)(m:Mem):Prop:=aY ⟨h,lg,[]⟩ m/\aj m.ah (nb h 0)=(aO 3 [w])/\cG h.length m.ah 2 u (L.map I9)
theorem N14(lg d:List Nat){s:cE}{l:List bF}{v:AV}(H:bQ h s)(hN:yI s)(hv:aT h 6 v (l.map bY))(hw:l.length<=40)(q_:316<=j:=by omega):
 Wa FT MT (SM j) (n+4000) (.fn 14) [.agg (cJ s),v] ⟨aR h [],lg,d⟩ (Qk ⟨h,lg,d⟩ (WtQ h s.d l)):=by
 refine aI ?_;have c1:=H.v.sc;have c2:=H.l.sc;have g0:=λl' lg d=>E34 j s ⟨aR h l',lg,d⟩ (H.bx l')
 have g1:=λl' lg d=>E41 j l v ⟨aR h l',lg,d⟩ (hv.bx l') Z
 unfold cJ at g0;by_cases hz:dU s.d=0
 .by_cases hp:(eA l).1=0
  .have lv:=H.v.len;rw[length_map]at lv;have nd:s.d.bu.length=s.vs.length:=by simp[cE.d]
   have n16:=(fV hz).1;refine aW (Z7 @cJ.eq_1 c1 c2 g0 g1 hz hp) ?_;refine dz (α:=AV) s.vs.length [X8,X7] (λi u=>[Ei (i:Nat),u]) (λi u m=>PrJ h lg [Ei s.cA,s.nv,s.lv] (xF l s.cA s.d.bu i) u m) Z aX ⟨.aF,rfl,aH aL,by rw[bj];rfl,.nil rfl rfl⟩ (λi u m' g hi hP=>?_) (λu m' g hP=>?_)
   .obtain⟨h3,dH,d3⟩:=m';obtain⟨k3,z3,ou⟩:=hP;obtain rfl:d3=[]:=k3.aV;simp only at z3 ou;have z3':=λl=>(an l h3 _ (ag z3)).trans z3
    have H3:bQ h3 s:=bQ.bw (m:=⟨h,lg,[]⟩) (m':=⟨h3,dH,[]⟩) H k3;have QE:=H3.v.len;rw[length_map]at QE;have ri:=fh hi Z;refine bH ?_;refine aW (Z3 z3' QE ri) ?_;refine dz (α:=AV) s.vs.length [X9,X7] (λk u=>[Ei (k:Nat),u]) (λk u m=>PrJ h lg [Ei s.cA,s.nv,s.lv] (xF l s.cA s.d.bu i++kY l s.cA s.d.bu i k) u m) Z aX ⟨u,rfl,k3,z3,by rw[kY,append_nil];exact ou⟩ (λk u m' g hk hP=>?_) (λu m' g hP=>?_)
    .obtain⟨h4,fi,d4⟩:=m';obtain⟨k4,z4,ou⟩:=hP;obtain rfl:d4=[]:=k4.aV;simp only at z4 ou;have Nv:=λl=>(an l h4 _ (ag z4)).trans z4
     have H4:bQ h4 s:=bQ.bw (m:=⟨h,lg,[]⟩) (m':=⟨h4,fi,[]⟩) H k4;have v4:aT h4 6 v (l.map bY):=aT.bw (m:=⟨h,lg,[]⟩) (m':=⟨h4,fi,[]⟩) hv k4;have Nq:=H4.v.len;rw[length_map]at Nq;have rk:=fh hk Z;have gi:gt s.d.bu i=(gt s.vs i).v:=gY hi;have gk:gt s.d.bu k=(gt s.vs k).v:=gY hk;have e1:=H4.v.el hi;have e2:=H4.v.el hk;unfold dI at e1 e2;have cu:=ou.sl.sc;have pl1:=v7 l s.cA s.d.bu i;have pl2:=vZ l s.cA s.d.bu i k;have st:kY l s.cA s.d.bu i (k+1)=kY l s.cA s.d.bu i k++QD l s.cA s.d.bu i k:=rfl;have pv:QD l s.cA s.d.bu i k=if CN l s.cA (gt s.vs i).v (gt s.vs k).v=true then[((gt s.vs i).v.eB.node,(gt s.vs k).v.eB.node)]else[]:=by rw[QD,gi,gk]
     have ij:=PH hz (i:=i) (k:=k) Z Z;rw[gi,gk]at ij;have dn:=(H4.va _ (bA hi)).s.b.sc;refine bH ?_;by_cases ik:i=k
     .have wf:CN l s.cA (gt s.vs i).v (gt s.vs k).v=false:=by rw[CN,decide_eq_false (by simpa using ij.2 ik),Bool.false_and]
      rw[wf,aq (by simp)]at pv;have ci:((i:Int)=(k:Int))=True:=dy;refine aW (Z4 Nv Nq ci rk) ?_;exact⟨u,rfl,k4,z4,by rw[st,pv,append_nil];exact ou⟩
     .have ci:((i:Int)=(k:Int))=False:=cR;have g2:=λl' lg d=>E42 j (i:=i) (k:=k) (l:=l) (v:=v) ⟨aR h4 l',lg,d⟩ (H4.bx l') hz hN (v4.bx l') hw hp hi hk (λe=>ik (ij.1 e))
      unfold cJ dI at g2;cases LL:CN l s.cA (gt s.vs i).v (gt s.vs k).v with
      |false=>
       rw[LL,aq (by simp)]at pv;simp only[LL]at g2;refine aW (Z7 Nv Nq ci e1 e2 g2 rk) ?_;exact⟨u,rfl,k4,z4,by rw[st,pv,append_nil];exact ou⟩
      |true=>
       rw[LL,aG rfl]at pv;simp only[LL]at g2;rcases ou with⟨hn,rfl⟩|⟨b0,rfl,Qb,rH⟩
       .have L0:xF l s.cA s.d.bu i++kY l s.cA s.d.bu i k=[]:=map_eq_nil_iff.1 hn;refine aW (Z7 Nv Nq ci e1 e2 g2 rk) ?_;refine⟨_,rfl,k4.trans (aH aL),Nv _,?_⟩;rw[st,pv,<-append_assoc,L0];exact .some (nb h4 1) rfl (bK k4.len aB) bj
       .have o:=bg (ag rH);have gb:∀l,aj (aR h4 l) b0=_:=λl=>(an l h4 _ (ag rH)).trans rH
        have nx1:=λk=>iv (k:=k) (ag rH)
        have nx2:=λk=>iD (k:=k) (ag rH)
        have n0:nb h 0≠b0:=λe=>by rw[<-e,z4]at rH;simp at rH
        rw[st,pv,<-append_assoc];have ll:(xF l s.cA s.d.bu i++kY l s.cA s.d.bu i k).length<=300:=by
         rw[length_append];have:i*s.d.bu.length<=16*16:=Nat.mul_le_mul Z n16;omega
        generalize xF l s.cA s.d.bu i++kY l s.cA s.d.bu i k=L0 at*;have fA:(1000000000000<(L0.length+1)*16)=False:=by simp;omega
        have fC:List.take L0.length (L0.map I9)=L0.map I9:=take_of_length_le (by simp);simp only[length_map]at*;refine aW (gX Nv Nq ci e1 e2 g2 rk o gb nx1 nx2 (Z3 fA @fB fC)) ?_;refine⟨_,rfl,k4.bS Qb (ag rH) _ _ (dD.ok (by repeat first|exact dD.nil|refine dD.cons (by first|exact aB|exact bK (k4.len) aB|assumption) ?_)),(bP (ag rH) (ag z4) n0 _ _).trans z4,?_⟩;rw[map_append];exact .some (nb h4 1) (by simp) (bK k4.len aB) (o.2.1 _ _ _)
    .obtain⟨h4,fi,d4⟩:=m';obtain⟨k4,z4,ou⟩:=hP;obtain rfl:d4=[]:=k4.aV;have Nv:=λl=>(an l h4 _ (ag z4)).trans z4
     have Nq:=(bQ.bw (m:=⟨h,lg,[]⟩) (m':=⟨h4,fi,[]⟩) H k4).v.len;rw[length_map]at Nq;have rk:=cY s.vs.length;refine bH ?_;refine aW (Z4 rk ri Nv Nq) ?_;exact⟨u,rfl,k4,z4,by rw[xF,nd];exact ou⟩
   .obtain⟨h3,dH,d3⟩:=m';obtain⟨k3,z3,ou⟩:=hP;obtain rfl:d3=[]:=k3.aV;simp only at z3 ou;have z3':=λl=>(an l h3 _ (ag z3)).trans z3
    have QE:=(bQ.bw (m:=⟨h,lg,[]⟩) (m':=⟨h3,dH,[]⟩) H k3).v.len;rw[length_map]at QE;have ri:=cY s.vs.length;refine bH ?_;refine aW (Z4 ri z3' QE @mZ) ?_;exact⟨k3.sub,u,.inr (.inr ⟨hz,hp,rfl,by rw[nd];exact ou⟩)⟩
  .refine aW (Z8 @cJ.eq_1 c1 c2 g0 g1 hz hp @mZ) ?_;exact⟨.aF,.inr (.inl ⟨hz,hp,rfl,rfl⟩)⟩
 .refine aW (Z6 @cJ.eq_1 c1 c2 g0 hz @mZ) ?_;exact⟨.aF,.inl ⟨hz,rfl,rfl⟩⟩
inductive Pk(e:Nat->Nat->Prop)(k:Nat):Nat->Nat->Prop
 |one {a b:Nat}:e a b->Pk e k a b
 |step {a c b:Nat}:e a c->c<=k->Pk e k c b->Pk e k a b
theorem Pk.split{e:Nat->Nat->Prop}{k a b:Nat}(h:Pk e (k+1) a b):Pk e k a b\/(Pk e k a (k+1)/\Pk e k (k+1) b):=by
 induction h with
 |one h=>exact .inl (.one h)
 |@step a c b h1 h2 _ ih=>
  by_cases q:c<=k
  .rcases ih with ih|⟨i1,i2⟩
   .exact .inl (.step h1 q ih)
   .exact .inr ⟨.step h1 q i1,i2⟩
  .obtain rfl:c=k+1:=Z;rcases ih with ih|⟨_,i2⟩
   .exact .inr ⟨.one h1,ih⟩
   .exact .inr ⟨.one h1,i2⟩
theorem Pk.trans{e:Nat->Nat->Prop}{k a c b:Nat}(h:Pk e k a c)(hc:c<=k)(g:Pk e k c b):Pk e k a b:=by
 induction h with
 |one h=>exact .step h hc g
 |step h1 h2 _ ih=>exact .step h1 h2 (ih hc g)
def Fz(L:List (Int×Int))(a b:Nat):Prop:=((a:Int),(b:Int))∈L
structure AQ(L:List (Int×Int))(k i j:Nat)(M:Nat->Nat->Bool):Prop where
 s:∀a b,a<17->b<17->M a b=true->Pk (Fz L) 16 a b
 c:∀a b,1<=a/\a<17->1<=b/\b<17->Pk (Fz L) k a b->M a b=true
 d:∀a b,1<=a/\a<17->1<=b/\b<17->a<i\/(a=i/\b<j)->Pk (Fz L) (k+1) a b->M a b=true
def Vf(M:Nat->Nat->Bool)(i j:Nat)(v:Bool):Nat->Nat->Bool:=λa b=>if a=i/\b=j then v else M a b
theorem AQ.put{L:List (Int×Int)}{k i j:Nat}{M:Nat->Nat->Bool}(W:AQ L k i j M)(hk:k<16)(hi:1<=i/\i<17)(hj:1<=j/\j<17):AQ L k i (j+1) (Vf M i j (M i j||(M i (k+1)&&M (k+1) j))):=by
 have put:∀a b,M a b=true->Vf M i j (M i j||(M i (k+1)&&M (k+1) j)) a b=true:=λa b h=>by
  rw[Vf];split
  .rename_i e;rw[e.1,e.2]at h;rw[h];rfl
  .exact h
 refine⟨λa b ha hb h=>?_,λa b ha hb h=>put a b (W.c a b ha hb h),λa b ha hb h p=>?_⟩
 .rw[Vf]at h;split at h
  .rename_i e;rw[e.1,e.2];simp only[Bool.or_eq_true,Bool.and_eq_true]at h;rcases h with h|⟨h1,h2⟩
   .exact W.s i j hi.2 hj.2 h
   .exact(W.s i (k+1) hi.2 Z h1).trans Z (W.s (k+1) j Z hj.2 h2)
  .exact W.s a b ha hb h
 .by_cases e:a=i/\b=j
  .rw[Vf,aG e];rw[e.1,e.2]at p;simp only[Bool.or_eq_true,Bool.and_eq_true];rcases p.split with p|⟨p1,p2⟩
   .exact .inl (W.c i j hi hj p)
   .exact .inr ⟨W.c i (k+1) hi Z p1,W.c (k+1) j Z hj p2⟩
  .exact put a b (W.d a b ha hb Z p)
theorem AQ.row{L:List (Int×Int)}{k i:Nat}{M:Nat->Nat->Bool}(W:AQ L k i 17 M):AQ L k (i+1) 1 M:=⟨W.s,W.c,λa b ha hb h=>W.d a b ha hb Z⟩
theorem AQ.next{L:List (Int×Int)}{k:Nat}{M:Nat->Nat->Bool}(W:AQ L k 17 1 M):AQ L (k+1) 1 1 M:=⟨W.s,λa b ha hb h=>W.d a b ha hb Z h,λa b ha hb h=>Z⟩
theorem AQ.start{L:List (Int×Int)}{M:Nat->Nat->Bool}(h0:∀a b,Fz L a b->1<=b)(h:∀a b,a<17->b<17->(M a b=true↔Fz L a b)):AQ L 0 1 1 M:=⟨λa b ha hb q=>.one ((h a b ha hb).1 q),λa b ha hb p=>by
 cases p with
 |one e=>exact(h a b ha.2 hb.2).2 e
 |step h1 h2 _=>have:=h0 _ _ h1;omega,λa b ha hb h=>Z⟩
theorem AQ.congr{L:List (Int×Int)}{k i j:Nat}{M M':Nat->Nat->Bool}(W:AQ L k i j M)(h:∀a b,a<17->b<17->M' a b=M a b):AQ L k i j M':=⟨λa b ha hb q=>W.s a b ha hb (by rw[<-h a b ha hb];exact q),λa b ha hb p=>by rw[h a b ha.2 hb.2];exact W.c a b ha hb p,λa b ha hb q p=>by rw[h a b ha.2 hb.2];exact W.d a b ha hb q p⟩
instance Ams:Inhabited AV:=⟨.undef⟩
def Nw(w:AV):List AV:=[w]
def Nc(b:Bool):List AV:=[.bool b]
structure rC(k0:Nat)(hh:aN)(a0:Nat)(ws:List AV)(bs:Nat->Nat)(Ms:Nat->List Bool)(i:Nat):Prop where
 o:aj hh a0=(aO 1 (ws.map Nw))
 wl:ws.length=17
 w:∀q,q<i->gt ws q=.slice (bs q) 0 17 (some 17)
 r:∀q,q<i->aj hh (bs q)=(aO 1 ((Ms q).map Nc))
 l:∀q,q<i->(Ms q).length=17
 inj:∀p q,p<i->q<i->bs p=bs q->p=q
 g:k0<=a0/\∀q,q<i->k0<=bs q
 sc:∀q,q<17->(gt ws q).cU=true/\∀b,gt ws q≠.bool b
theorem rC.ne{k0:Nat}{hh:aN}{a0:Nat}{ws:List AV}{bs:Nat->Nat}{Ms:Nat->List Bool}{i:Nat}(M:rC k0 hh a0 ws bs Ms i){q:Nat}(hq:q<i):bs q≠a0:=λe=>by
 have h1:=M.r q hq;rw[e,M.o]at h1;simp only[Option.some.injEq,bp.row.injEq,true_and]at h1;have h2:(ws.map Nw)[0]?=((Ms q).map Nc)[0]?:=by rw[h1]
 have e1:(ws.map Nw)[0]?=some (Nw (gt ws 0)):=dP.row (by rw[M.wl];omega);have e2:((Ms q).map Nc)[0]?=some (Nc (gt (Ms q) 0)):=dP.row (by rw[M.l q hq];omega);rw[e1,e2]at h2;simp only[Nw,Nc,Option.some.injEq,List.cons.injEq,and_true]at h2;exact(M.sc 0 Z).2 _ h2
theorem rC.put{k0:Nat}{hh:aN}{a0:Nat}{ws:List AV}{bs:Nat->Nat}{Ms:Nat->List Bool}{i:Nat}(M:rC k0 hh a0 ws bs Ms i){q:Nat}(hq:q<i)(R:List Bool)(hR:R.length=17)(l:List (Option bp)):rC k0 (aR (aQ hh (bs q) ((aO 1 (R.map Nc)))) l) a0 ws bs (λp=>if p=q then R else Ms p) i where
 o:=(bP (ag (M.r q hq)) (ag M.o) (Ne.symm (M.ne hq)) _ _).trans M.o
 wl:=M.wl
 w:=M.w
 r:=λp hp=>by
  by_cases e:p=q
  .rw[aG e,e];exact(bg (ag (M.r q hq))).2.2.2.2.1 _ _
  .rw[aq e];exact(bP (ag (M.r q hq)) (ag (M.r p hp)) (λc=>e (M.inj p q hp hq c)) _ _).trans (M.r p hp)
 l:=λp hp=>by
  by_cases e:p=q
  .rw[aG e];exact hR
  .rw[aq e];exact M.l p hp
 inj:=M.inj
 g:=M.g
 sc:=M.sc
theorem rC.add{k0:Nat}{hh:aN}{a0:Nat}{ws:List AV}{bs:Nat->Nat}{Ms:Nat->List Bool}{i:Nat}(M:rC k0 hh a0 ws bs Ms i)(hi:i<17)(R:List Bool)(hR:R.length=17)(hk:k0<=hh.length):rC k0 (aR (aQ hh a0 ((aO 1 ((ws.set i (.slice (nb hh 0) 0 17 (some 17))).map Nw)))) [(aO 1 (R.map Nc))]) a0 (ws.set i (.slice (nb hh 0) 0 17 (some 17))) (λp=>if p=i then nb hh 0 else bs p) (λp=>if p=i then R else Ms p) (i+1)where
 o:=(bg (ag M.o)).2.2.2.2.1 _ _
 wl:=by rw[length_set];exact M.wl
 w:=λp hp=>by
  rw[ju (by rw[M.wl];exact hi)];by_cases e:p=i
  .simp only[e,if_true]
  .simp only[aq e];exact M.w p Z
 r:=λp hp=>by
  by_cases e:p=i
  .simp only[e,if_true];exact(bg (ag M.o)).2.1 _ _ 0
  .simp only[aq e];exact(bP (ag M.o) (ag (M.r p Z)) (M.ne Z) _ _).trans (M.r p Z)
 l:=λp hp=>by
  by_cases e:p=i
  .simp only[e,if_true];exact hR
  .simp only[aq e];exact M.l p Z
 inj:=λp q hp hq c=>by
  have lt:∀p,p<i->bs p<nb hh 0:=λp hp=>ag (M.r p hp)
  by_cases e:p=i
  .by_cases f:q=i
   .omega
   .simp only[e,if_true,aq f]at c;have:=lt q Z;omega
  .by_cases f:q=i
   .simp only[f,if_true,aq e]at c;have:=lt p Z;omega
   .simp only[aq e,aq f]at c;exact M.inj p q Z Z c
 g:=⟨M.g.1,λp hp=>by
  by_cases e:p=i
  .simp only[e,if_true];exact hk
  .simp only[aq e];exact M.g.2 p Z⟩
 sc:=λp hp=>by
  rw[ju (by rw[M.wl];exact hi)];by_cases e:p=i
  .rw[aG e];exact⟨rfl,λb h=>by cases h⟩
  .rw[aq e];exact M.sc p hp
def R50(h:aN)(lg:List Nat)(i:Nat)(x:List AV×(Nat->Nat)×(Nat->List Bool))(m:Mem):Prop:=aY ⟨h,lg,[]⟩ m/\rC h.length m.ah (nb h 0) x.1 x.2.1 x.2.2 i/\∀q,q<i->∀b,b<17->gt (x.2.2 q) b=false
theorem rC.bw{k0:Nat}{m m':Mem}{a0:Nat}{ws:List AV}{bs:Nat->Nat}{Ms:Nat->List Bool}{i:Nat}(M:rC k0 m.ah a0 ws bs Ms i)(k:aY m m'):rC k0 m'.ah a0 ws bs Ms i:=⟨(k.get _ (ag M.o)).trans M.o,M.wl,M.w,λq hq=>(k.get _ (ag (M.r q hq))).trans (M.r q hq),M.l,M.inj,M.g,M.sc⟩
theorem rC.rw{k0:Nat}{hh:aN}{a0:Nat}{ws:List AV}{bs:Nat->Nat}{Ms:Nat->List Bool}(M:rC k0 hh a0 ws bs Ms 17){p:Nat}(hp:p<17):fG 1 (ws.map Nw) p 0 1=some [.slice (bs p) 0 17 (some 17)]/\∀q,q<17->fG 1 ((Ms p).map Nc) q 0 1=some [.bool (gt (Ms p) q)]/\∀v,iX 1 ((Ms p).map Nc) q 0 [.bool v]=some (((Ms p).set q v).map Nc):=by
 refine⟨?_,λq hq=>⟨?_,λv=>?_⟩⟩
 .rw[dP.rg (L:=ws) (C:=Nw) (w:=1) aZ (λ_=>rfl) (by rw[M.wl];exact hp),M.w p hp];rfl
 .exact dP.rg (L:=Ms p) (C:=Nc) (w:=1) aZ (λ_=>rfl) (by rw[M.l p hp];exact hq)
 .exact dP.rs (L:=Ms p) (C:=Nc) (w:=1) aZ (λ_=>rfl) (by rw[M.l p hp];exact hq) v
def Q50(h:aN)(lg:List Nat)(W:(Nat->Nat->Bool)->Prop)(x:List AV×(Nat->Nat)×(Nat->List Bool))(m:Mem):Prop:=aY ⟨h,lg,[]⟩ m/\rC h.length m.ah (nb h 0) x.1 x.2.1 x.2.2 17/\W (λa b=>gt (x.2.2 a) b)
def EdM(L:List (Int×Int))(i:Nat)(M:Nat->Nat->Bool):Prop:=∀a b,a<17->b<17->(M a b=true↔Fz (L.take i) a b)
theorem aT.mV{h:aN}{e:Nat}{v:AV}{es:List (List AV)}(H:aT h e v es)(hn:es≠[]):∃(bS:Bool) (bI:List (List AV)),aj h (sb v)=Option.some (bp.row bS e bI):=by
 rcases H with⟨h1,_⟩|⟨b,i,c,bS,bI,rfl,hb,_,_⟩
 .exact absurd h1 hn
 .exact⟨bS,bI,hb⟩
theorem QF{Ms:Nat->List Bool}{p q:Nat}{v:Bool}(hl:(Ms p).length=17)(hq:q<17)(a b:Nat):gt (if a=p then(Ms p).set q v else Ms a) b=Vf (λa b=>gt (Ms a) b) p q v a b:=by
 rw[Vf];by_cases e:a=p
 .rw[aG e,ju (by rw[hl];exact hq)];by_cases f:b=q
  .rw[aG f,aG ⟨e,f⟩]
  .rw[aq f,aq (λc=>f c.2),e]
 .rw[aq e,aq (λc=>e c.1)]
theorem N50(lg d:List Nat){L:List (Int×Int)}{v:AV}(hv:aT h 2 v (L.map I9))(hl:L.length<=300)(hL:∀p∈L,(1<=p.1/\p.1<=16)/\(1<=p.2/\p.2<=16))(q_:0<=j:=by omega):
 Wa FT MT (SM j) (n+3000) (.fn 50) [v] ⟨aR h [],lg,d⟩ (Qk ⟨h,lg,d⟩ (λw h'=>∃ws bs Ms,w=.slice (nb h 0) 0 17 (some 17)/\rC h.length h' (nb h 0) ws bs Ms 17/\AQ L 16 1 1 (λa b=>gt (Ms a) b))):=by
 refine aI ?_;refine aS ?_;have M0:rC h.length (aR h [(aO 1 ((replicate 17 AV.aF).map Nw))]) (nb h 0) (replicate 17 AV.aF) (λ_=>0) (λ_=>[]) 0:=⟨by rw[bj];rfl,by simp,λq hq=>Z,λq hq=>Z,λq hq=>Z,λp q hp=>Z,⟨aB,λq hq=>Z⟩,λq hq=>by
  have e:gt (replicate 17 AV.aF) q=.aF:=by rw[bB (by rw[length_replicate];exact hq)];exact getElem_replicate _
  rw[e];exact⟨rfl,λb h=>by cases h⟩⟩
 simp only[replicate_succ,replicate_zero,map_cons,map_nil,Nw]at M0;refine dz (α:=List AV×(Nat->Nat)×(Nat->List Bool)) 17 [X4] (λi _=>[Ei (i:Nat)]) (R50 h lg) Z aX ⟨(_,_,_),rfl,aH aL,M0,λq hq=>absurd hq (Nat.not_lt_zero q)⟩ (λi x m' g hi hP=>?_) (λx m' g hP=>?_)
 .obtain⟨h3,dH,d3⟩:=m';obtain⟨ws,bs,Ms⟩:=x;obtain⟨k3,M3,f3⟩:=hP;obtain rfl:d3=[]:=k3.aV;simp only at M3 f3;have il:((i:Int)<=16)=True:=dy;have ri:i64.wrap ((i:Int)+1)=((i+1:Nat):Int):=by rw[aU Z Z];omega
  have i1:(i<17)=True:=eq_true hi;have o:=bg (ag M3.o);have ob:=λl=>(an l h3 _ (ag M3.o)).trans M3.o
  have st:=dP.rs (L:=ws) (C:=Nw) (w:=1) aZ (λ_=>rfl) (i:=i) (by rw[M3.wl];exact hi) (.slice (nb h3 0) 0 17 (some 17));simp only[Nw]at st;refine bH ?_;refine aD (Z6 il ri i1 o ob st) ?_;have A:=M3.add hi (replicate 17 false) (by simp) k3.len;have fr:∀b,b<17->gt (replicate 17 false) b=false:=λb q=>by
   rw[bB (by rw[length_replicate];exact q)];exact getElem_replicate _
  refine⟨(ws.set i (.slice (nb h3 0) 0 17 (some 17)),(λp=>if p=i then nb h3 0 else bs p),(λp=>if p=i then replicate 17 false else Ms p)),k3.bS aB (ag M3.o) _ _ (dD.ok (by repeat first|exact dD.nil|refine dD.cons (by first|exact aB|exact bK (k3.len) aB|assumption) ?_)),A,λq hq b hb=>?_⟩;by_cases e:q=i
  .simp only[e,if_true];exact fr b hb
  .simp only[aq e];exact f3 q Z b hb
 .obtain⟨h3,dH,d3⟩:=m';obtain⟨ws,bs,Ms⟩:=x;obtain⟨k3,M3,f3⟩:=hP;obtain rfl:d3=[]:=k3.aV;simp only at M3 f3;refine bH ?_;refine aS ?_;refine dz (α:=List AV×(Nat->Nat)×(Nat->List Bool)) L.length [X5] (λi _=>[Ei (i:Nat)]) (λi=>Q50 h lg (EdM L i)) Z aX ⟨(ws,bs,Ms),rfl,k3,M3,λa b ha hb=>by simp only[f3 a ha b hb];simp[Fz]⟩ (λi x m' g hi hP=>?_) (λx m' g hP=>?_)
  .obtain⟨h4,fi,d4⟩:=m';obtain⟨ws,bs,Ms⟩:=x;obtain⟨k4,M4,f4⟩:=hP;obtain rfl:d4=[]:=k4.aV;simp only at M4 f4;have v4:aT h4 2 v (L.map I9):=aT.bw (m:=⟨h,lg,[]⟩) (m':=⟨h4,fi,[]⟩) hv k4;have e:=v4.el hi;have lv:=v4.len;rw[length_map]at lv;have rr:=fh hi Z;obtain⟨h1,h2⟩:=hL _ (bA hi);obtain⟨p,hp⟩:∃p:Nat,(gt L i).1=p:=⟨(gt L i).1.toNat,Z⟩;obtain⟨q,hq⟩:∃p:Nat,(gt L i).2=p:=⟨(gt L i).2.toNat,Z⟩;have Ru:p<17:=Z;have q17:q<17:=Z;unfold I9 at e;simp only[hp,hq]at e;have ob:=λl=>(an l h4 _ (ag M4.o)).trans M4.o
   have orr:=λl=>(an l h4 _ (ag (M4.r p Ru))).trans (M4.r p Ru)
   have o:=bg (ag (M4.r p Ru));obtain⟨r1,r2⟩:=M4.rw Ru;obtain⟨r3,r4⟩:=r2 q q17;obtain⟨bS,bI,hbv⟩:=v4.mV (by intro c;rw[map_eq_nil_iff]at c;rw[c]at hi;simp at hi);have gv:=λl=>(an l h4 _ (ag hbv)).trans hbv
   have x1:=eq_true Ru;have x2:=eq_true q17;refine bH ?_;refine aD (xq e gv lv rr ob orr o x1 x2 r1 r4) ?_;have gp:=M4.g.2 p Ru;refine⟨(ws,bs,λa=>if a=p then(Ms p).set q true else Ms a),k4.bS gp (ag (M4.r p Ru)) _ _ (dD.ok (by repeat first|exact dD.nil|refine dD.cons (by first|exact aB|exact bK (k4.len) aB|assumption) ?_)),M4.put Ru _ (by rw[length_set];exact M4.l p Ru) [],λa b ha hb=>?_⟩;simp only;rw[QF (M4.l p Ru) q17,Vf,Fz,take_add_one,getElem?_eq_getElem hi,toList_some,mem_append,mem_singleton,<-bB hi];have ep:((a:Int),(b:Int))=gt L i↔a=p/\b=q:=by
    rw[show gt L i=((p:Int),(q:Int))from Prod.ext hp hq,Prod.mk.injEq];omega
   rw[ep];by_cases c:a=p/\b=q
   .rw[aG c];exact⟨λ_=>.inr c,λ_=>rfl⟩
   .rw[aq c,f4 a b ha hb];exact⟨.inl,λh=>h.elim id λx=>absurd x c⟩
  .obtain⟨h4,fi,d4⟩:=m';obtain⟨ws,bs,Ms⟩:=x;obtain⟨k4,M4,f4⟩:=hP;obtain rfl:d4=[]:=k4.aV;simp only at M4 f4;have v4:aT h4 2 v (L.map I9):=aT.bw (m:=⟨h,lg,[]⟩) (m':=⟨h4,fi,[]⟩) hv k4;have lv:=v4.len;rw[length_map]at lv;have rr:=cY L.length;have W0:AQ L 0 1 1 (λa b=>gt (Ms a) b):=AQ.start (λa b e=>by have:=(hL _ e).2.1;simp only at this;omega) (λa b ha hb=>by have:=f4 a b ha hb;rw[take_length]at this;exact this);refine bH ?_;refine aW (Z2 lv rr) ?_;refine dz (α:=List AV×(Nat->Nat)×(Nat->List Bool)) 16 [X6] (λk _=>[Ei ((k+1:Nat):Int)]) (λk=>Q50 h lg (AQ L k 1 1)) Z aX ⟨(ws,bs,Ms),rfl,k4,M4,W0⟩ (λk x m' g hk hP=>?_) (λx m' g hP=>?_)
   .obtain⟨h5,jg,d5⟩:=m';have hP5:=hP;obtain⟨k5,M5,f5⟩:=hP;obtain rfl:d5=[]:=k5.aV;have kl:(((k+1:Nat):Int)<=16)=True:=dy;have rk:i64.wrap (((k+1:Nat):Int)+1)=((k+1+1:Nat):Int):=by rw[aU Z Z];omega
    refine bH ?_;refine aW kl ?_;refine dz (α:=List AV×(Nat->Nat)×(Nat->List Bool)) 16 [X7] (λi _=>[Ei ((i+1:Nat):Int)]) (λi=>Q50 h lg (AQ L k (i+1) 1)) Z aX ⟨x,rfl,hP5⟩ (λi x m' g hi hP=>?_) (λx m' g hP=>?_)
    .obtain⟨h6,ux,d6⟩:=m';have hP6:=hP;obtain⟨k6,M6,f6⟩:=hP;obtain rfl:d6=[]:=k6.aV;have il:(((i+1:Nat):Int)<=16)=True:=dy;have ri:i64.wrap (((i+1:Nat):Int)+1)=((i+1+1:Nat):Int):=by rw[aU Z Z];omega
     refine bH ?_;refine aW il ?_;refine dz (α:=List AV×(Nat->Nat)×(Nat->List Bool)) 16 [X8] (λj _=>[Ei ((j+1:Nat):Int)]) (λj=>Q50 h lg (AQ L k (i+1) (j+1))) Z aX ⟨x,rfl,hP6⟩ (λjj x m' g hj hP=>?_) (λx m' g hP=>?_)
     .obtain⟨h7,MX,d7⟩:=m';obtain⟨ws,bs,Ms⟩:=x;obtain⟨k7,M7,f7⟩:=hP;obtain rfl:d7=[]:=k7.aV;simp only at M7 f7;have jl:(((jj+1:Nat):Int)<=16)=True:=dy;have rj:i64.wrap (((jj+1:Nat):Int)+1)=((jj+1+1:Nat):Int):=by rw[aU Z Z];omega
      have zQ:i+1<17:=Z;have j17:jj+1<17:=Z;have QG:k+1<17:=Z;have ob:=λl=>(an l h7 _ (ag M7.o)).trans M7.o
      have Vg:=λl=>(an l h7 _ (ag (M7.r (i+1) zQ))).trans (M7.r (i+1) zQ)
      have or2:=λl=>(an l h7 _ (ag (M7.r (k+1) QG))).trans (M7.r (k+1) QG)
      have o:=bg (ag (M7.r (i+1) zQ));obtain⟨r1,r2⟩:=M7.rw zQ;obtain⟨q1,q2⟩:=M7.rw QG;obtain⟨r3,r4⟩:=r2 (jj+1) j17;obtain⟨r5,_⟩:=r2 (k+1) QG;obtain⟨q3,_⟩:=q2 (jj+1) j17;have x1:=eq_true zQ;have x2:=eq_true j17;have x3:=eq_true QG;have gp:=M7.g.2 (i+1) zQ;have kj:∀v,v=(gt (Ms (i+1)) (jj+1)||(gt (Ms (i+1)) (k+1)&&gt (Ms (k+1)) (jj+1)))->∃a,Q50 h lg (AQ L k (i+1) (jj+1+1)) a ⟨aR (aQ h7 (bs (i+1)) ((aO 1 (((Ms (i+1)).set (jj+1) v).map Nc)))) [],bs (i+1)::MX,[]⟩:=λv Et=>by
       refine⟨(ws,bs,λa=>if a=i+1 then(Ms (i+1)).set (jj+1) v else Ms a),k7.bS gp (ag (M7.r (i+1) zQ)) _ _ (dD.ok (by repeat first|exact dD.nil|refine dD.cons (by first|exact aB|exact bK (k7.len) aB|assumption) ?_)),M7.put zQ _ (by rw[length_set];exact M7.l (i+1) zQ) [],?_⟩;have W:=f7.put hk ⟨Z,zQ⟩ ⟨Z,j17⟩;rw[<-Et]at W;exact W.congr λa b _ _=>QF (M7.l (i+1) zQ) j17 a b
      refine bH ?_;cases b1:gt (Ms (i+1)) (jj+1)with
      |true=>
       rw[b1]at r3;refine aD (yA jl rj ob Vg o x1 x2 r1 r3 r4) ?_;exact kj true (by rw[b1];rfl)
      |false=>
       rw[b1]at r3;cases b2:gt (Ms (i+1)) (k+1)with
       |false=>
        rw[b2]at r5;refine aD (gX jl rj ob Vg o x1 x2 x3 r1 r3 r4 r5) ?_;exact kj false (by rw[b1,b2];rfl)
       |true=>
        rw[b2]at r5;refine aD (gX jl rj ob Vg or2 o x1 x2 x3 r1 r3 (Z4 r4 r5 q1 q3)) ?_;exact kj _ (by rw[b1,b2];simp)
     .obtain⟨h7,MX,d7⟩:=m';obtain⟨k7,M7,f7⟩:=hP;obtain rfl:d7=[]:=k7.aV;refine bH ?_;refine aW ri ?_;exact⟨x,k7,M7,f7.row⟩
    .obtain⟨h6,ux,d6⟩:=m';obtain⟨k6,M6,f6⟩:=hP;obtain rfl:d6=[]:=k6.aV;refine bH ?_;refine aW rk ?_;exact⟨x,k6,M6,f6.next⟩
   .obtain⟨h5,jg,d5⟩:=m';obtain⟨ws,bs,Ms⟩:=x;obtain⟨k5,M5,f5⟩:=hP;obtain rfl:d5=[]:=k5.aV;refine bH ?_;refine aW @mZ ?_;exact⟨k5.sub,ws,bs,Ms,M5,f5⟩
def Av(M:Nat->Nat->Bool)(i:Nat):Nat->List Nat
 |0=>[i]
 |j+1=>if j+1≠i/\M i (j+1)=true/\M (j+1) i=true then Av M i j++[j+1]else Av M i j
def rD(M:Nat->Nat->Bool):Nat->List (List Nat)
 |0=>[]
 |i+1=>if 1<(Av M (i+1) 16).length/\i+1<gt (Av M (i+1) 16) 1 then rD M i++[Av M (i+1) 16]else rD M i
theorem Fi(M:Nat->Nat->Bool)(i:Nat):∀j,1<=(Av M i j).length/\(Av M i j).length<=j+1
 |0=>by simp[Av]
 |j+1=>by
  have:=Fi M i j;rw[Av];split
  .rw[length_append,length_singleton];omega
  .omega
theorem QH:∀(l:List Nat) (x:Int),gh (l.map fy++[[Ei x]])=[]
 |[],_=>rfl
 |a::l,x=>by
  have:=QH l x;rw[map_cons,cons_append];simpa[gh,fy,hH,AV.cj]using this
def KnS(k0:Nat)(hh:aN)(w:AV)(l:List Nat):Prop:=∃b c,w=.slice b 0 l.length c/\k0<=b/\aj hh b=(aO 1 (l.map fy))/\(c=none\/c=some l.length)
def KnP(k0:Nat)(h:aN)(lg:List Nat)(l:List Nat)(w:AV)(m:Mem):Prop:=aY ⟨h,lg,[]⟩ m/\KnS k0 m.ah w l
def K9(h:aN)(x:qb):Prop:=aT h 1 x.v (x.l.map fy)/\1<=x.l.length/\x.l.length<=17/\x.v.cU=true
theorem knv{h:aN}{x:qb}(H:K9 h x):∃b i n c,x.v=.slice b i n c:=by
 rcases H.1 with⟨h1,_⟩|⟨b,i,c,bS,bI,hv,_,_,_⟩
 .rw[map_eq_nil_iff]at h1;have:=H.2.1;rw[h1]at this;simp at this
 .exact⟨b,i,_,c,hv⟩
theorem K9.ne{h:aN}{xs:List qb}{b0:Nat}(hx:∀y∈xs,K9 h y)(hb:aj h b0=(aO 1 (xs.map zb))){y:qb}(H:K9 h y):∀c∈y.v.cj,c≠b0:=λc hc e=>by
 rcases H.1 with⟨h1,_⟩|⟨b,i,k,bS,bI,hv,kJ,hw,_⟩
 .rw[map_eq_nil_iff]at h1;have:=H.2.1;rw[h1]at this;simp at this
 .rw[hv]at hc;simp only[AV.cj,mem_singleton]at hc;rw[<-hc,e,hb]at kJ;simp only[Option.some.injEq,bp.row.injEq,true_and]at kJ;rw[<-kJ.2]at hw;obtain⟨a,ha⟩:∃a,a∈y.l:=exists_mem_of_length_pos H.2.1;have m:fy a∈xs.map zb:=mem_of_mem_drop (mem_of_mem_take (hw▸mem_map.2 ⟨a,ha,rfl⟩));obtain⟨x,uL,ex⟩:=mem_map.1 m;obtain⟨b,i,n,c,hv⟩:=knv (hx x uL);simp only[zb,fy,hv,List.cons.injEq,reduceCtorEq,false_and]at ex
theorem CO(M:Nat->Nat->Bool):∀i,(rD M i).length<=i
 |0=>Nat.le_refl 0
 |i+1=>by
  have:=CO M i;rw[rD];split
  .rw[length_append,length_singleton];omega
  .omega
def KnR(h:aN)(lg:List Nat)(ls:List (List Nat))(x:AV×List qb)(m:Mem):Prop:=aY ⟨h,lg,[]⟩ m/\cG h.length m.ah 1 x.1 (x.2.map zb)/\(∀y∈x.2,K9 m.ah y)/\x.2.map (·.l)=ls
def KtQ(h:aN)(D:kG)(l:List bF)(w:AV)(h':aN):Prop:=∃(u:AV) (xs:List qb) (M:Nat->Nat->Bool),((dU D≠0/\xs=[]/\u=.aF/\w=.tuple [u,Ei (dU D)])\/(dU D=0/\(eA l).1≠0/\xs=[]/\u=.aF/\w=.tuple [u,Ei (eA l).1])\/(dU D=0/\(eA l).1=0/\w=.tuple [u,Ei 0]/\AQ (xF l D.cA D.bu D.bu.length) 16 1 1 M/\xs.map (·.l)=rD M 16))/\cG h.length h' 1 u (xs.map zb)/\∀y∈xs,K9 h' y
theorem La{l:List bF}{D:kG}(hz:dU D=0):∀p∈xF l D.cA D.bu D.bu.length,(1<=p.1/\p.1<=16)/\(1<=p.2/\p.2<=16):=by
 have sn:=(fV hz).2;have rg:∀i,i<D.bu.length->1<=(gt D.bu i).eB.node/\(gt D.bu i).eB.node<=16:=λi hi=>⟨(pU (sn i hi).1).1,(pU (sn i hi).1).2.1⟩
 have row:∀i,i<D.bu.length->∀k,k<=D.bu.length->∀p∈kY l D.cA D.bu i k,(1<=p.1/\p.1<=16)/\(1<=p.2/\p.2<=16):=λi hi k=>by
  induction k with
  |zero=>intro _ p hp;cases hp
  |succ k ih=>
   intro hk p hp;rw[kY]at hp;rcases mem_append.1 hp with hp|hp
   .exact ih Z p hp
   .rw[QD]at hp;split at hp
    .rw[mem_singleton.1 hp];exact⟨rg i hi,rg k Z⟩
    .cases hp
 have all:∀i,i<=D.bu.length->∀p∈xF l D.cA D.bu i,(1<=p.1/\p.1<=16)/\(1<=p.2/\p.2<=16):=λi=>by
  induction i with
  |zero=>intro _ p hp;cases hp
  |succ i ih=>
   intro hi p hp;rw[xF]at hp;rcases mem_append.1 hp with hp|hp
   .exact ih Z p hp
   .exact row i Z _ cB p hp
 exact all _ cB
theorem Zf(lg d:List Nat){s:cE}{l:List bF}{v:AV}(H:bQ h s)(hN:yI s)(hv:aT h 6 v (l.map bY))(hw:l.length<=40)(q_:316<=j:=by omega):
 Wa FT MT (SM j) (n+6000) (.fn 16) [.agg (cJ s),v] ⟨aR h [],lg,d⟩ (Qk ⟨h,lg,d⟩ (KtQ h s.d l)):=by
 refine aI ?_;have c1:=H.v.sc;have c2:=H.l.sc;refine aW (Z3 @cJ.eq_1 c1 c2) ?_;rw[<-fZ];refine fK (N14 j _ (aR h [(aO 3 [cJ s])]) _ _ (s:=s) (H.bx _) hN (hv.bx _) hw) (λw h2 dx k2 og=>?_);have K2:aY ⟨h,lg,[]⟩ ⟨h2,dx,[]⟩:=(aH aL).trans k2;have kk:∀{l bq},dm h2 dx bq->aY ⟨h,lg,d⟩ ⟨aR h2 l,bq,d⟩:=λ{l bq} q=>(K2.trans (aH q)).sub
 obtain⟨u,⟨hz,rfl,rfl⟩|⟨hz,hp,rfl,rfl⟩|⟨hz,hp,rfl,ou⟩⟩:=og
 .refine aW (Z2 hz @mZ) ?_;exact⟨kk aL,.aF,[],λ_ _=>false,.inl ⟨hz,rfl,rfl,rfl⟩,.nil rfl rfl,λy hy=>by cases hy⟩
 .refine aW (Z2 hp @mZ) ?_;exact⟨kk aL,.aF,[],λ_ _=>false,.inr (.inl ⟨hz,hp,rfl,rfl,rfl⟩),.nil rfl rfl,λy hy=>by cases hy⟩
 .have rg:=La (l:=l) hz;have lp:(xF l s.d.cA s.d.bu s.d.bu.length).length<=300:=by
   have a:=v7 l s.d.cA s.d.bu s.d.bu.length;have b:s.d.bu.length*s.d.bu.length<=16*16:=Nat.mul_le_mul (fV hz).1 (fV hz).1;omega
  generalize hLL:xF l s.d.cA s.d.bu s.d.bu.length=L at*;refine aS ?_;rw[<-fZ];refine fK (N50 j _ h2 dx [] ou.sl lp rg) (λw h3 dH k3 LB=>?_);obtain⟨ws,bs,Ms,rfl,M3,W3⟩:=LB;have K3:aY ⟨h,lg,[]⟩ ⟨h3,dH,[]⟩:=K2.trans k3;obtain⟨M,hM⟩:∃M:Nat->Nat->Bool,M=λa b=>gt (Ms a) b:=⟨_,rfl⟩
  refine aS ?_;refine dz (α:=AV×List qb) 16 [BZ,X9] (λi x=>[Ei ((i+1:Nat):Int),x.1]) (λi x=>KnR h3 dH (rD M i) x) Z aX ⟨(.aF,[]),rfl,aY.refl _,.nil rfl rfl,λy hy=>(by cases hy),rfl⟩ (λi x m' g hi hP=>?_) (λx m' g hP=>?_)
  .obtain⟨h4,fi,d4⟩:=m';obtain⟨u,xs⟩:=x;obtain⟨k4,ou,ex,rx⟩:=hP;obtain rfl:d4=[]:=k4.aV;simp only at ou ex rx;have M4:rC h2.length h4 (nb h2 0) ws bs Ms 17:=rC.bw (m:=⟨h3,dH,[]⟩) (m':=⟨h4,fi,[]⟩) M3 k4;have il:(((i+1:Nat):Int)<=16)=True:=dy;have ri:i64.wrap (((i+1:Nat):Int)+1)=((i+1+1:Nat):Int):=by rw[aU Z Z];omega
   have cu:=ou.sl.sc;refine bH ?_;refine aW il ?_;refine dz (α:=AV) 16 [Il,wJ] (λk w=>[Ei ((k+1:Nat):Int),w]) (λk=>KnP h4.length h4 fi (Av M (i+1) k)) Z aX ⟨_,rfl,aH aL,nb h4 0,some 1,rfl,aB,by rw[bj];rfl,.inr rfl⟩ (λk w m' g hk hP=>?_) (λw m' g hP=>?_)
   .obtain⟨h5,jg,d5⟩:=m';obtain⟨k5,b,c,rfl,hb,gb,hc⟩:=hP;obtain rfl:d5=[]:=k5.aV;simp only at gb;have M5:rC h2.length h5 (nb h2 0) ws bs Ms 17:=rC.bw (m:=⟨h4,fi,[]⟩) (m':=⟨h5,jg,[]⟩) M4 k5;have kl:(((k+1:Nat):Int)<=16)=True:=dy;have rk:i64.wrap (((k+1:Nat):Int)+1)=((k+1+1:Nat):Int):=by rw[aU Z Z];omega
    have zQ:i+1<17:=Z;have QG:k+1<17:=Z;have ob:=λl=>(an l h5 _ (ag M5.o)).trans M5.o
    have Vg:=λl=>(an l h5 _ (ag (M5.r (i+1) zQ))).trans (M5.r (i+1) zQ)
    have or2:=λl=>(an l h5 _ (ag (M5.r (k+1) QG))).trans (M5.r (k+1) QG)
    obtain⟨r1,r2⟩:=M5.rw zQ;obtain⟨q1,q2⟩:=M5.rw QG;obtain⟨r3,_⟩:=r2 (k+1) QG;obtain⟨q3,_⟩:=q2 (i+1) zQ;have x1:=eq_true zQ;have x2:=eq_true QG;have st:Av M (i+1) (k+1)=if k+1≠i+1/\M (i+1) (k+1)=true/\M (k+1) (i+1)=true then Av M (i+1) k++[k+1]else Av M (i+1) k:=rfl
    have e1:M (i+1) (k+1)=gt (Ms (i+1)) (k+1):=by rw[hM]
    have e2:M (k+1) (i+1)=gt (Ms (k+1)) (i+1):=by rw[hM]
    have ln:=Fi M (i+1) k;rw[e1,e2]at st;refine bH ?_;by_cases ne:k+1=i+1
    .have y1:(((k+1:Nat):Int)=((i+1:Nat):Int))=True:=dy;rw[aq (λc=>c.1 ne)]at st;refine aW (Z3 kl rk y1) ?_;exact⟨_,rfl,k5,b,c,by rw[st],hb,by rw[st];exact gb,by rw[st];exact hc⟩
    .have y1:(((k+1:Nat):Int)=((i+1:Nat):Int))=False:=cR;cases b1:gt (Ms (i+1)) (k+1)with
     |false=>
      rw[b1,aq (λc=>by cases c.2.1)]at st;rw[b1]at r3;refine aD (Z9 kl rk y1 ob Vg x1 x2 r1 r3) ?_;exact⟨_,rfl,k5,b,c,by rw[st],hb,by rw[st];exact gb,by rw[st];exact hc⟩
     |true=>
      rw[b1]at r3;cases b2:gt (Ms (k+1)) (i+1)with
      |false=>
       rw[b2,aq (λc=>by cases c.2.2)]at st;rw[b2]at q3;refine aD (gX kl rk y1 ob Vg or2 x1 x2 r1 r3 q1 q3) ?_;exact⟨_,rfl,k5,b,c,by rw[st],hb,by rw[st];exact gb,by rw[st];exact hc⟩
      |true=>
       rw[b1,b2,aG ⟨ne,rfl,rfl⟩]at st;rw[b2]at q3;have o:=bg (ag gb);have Ht:=λl=>(an l h5 _ (ag gb)).trans gb
       rw[st];generalize Av M (i+1) k=K at*;have fA:(1000000000000<(K.length+1)*8)=False:=by simp;omega
       have fC:List.take K.length (K.map fy)=K.map fy:=take_of_length_le (by simp);have rf:=QH K ((k+1:Nat):Int);have ap:(K++[k+1]).map fy=K.map fy++[fy (k+1)]:=by rw[map_append];rfl
       rcases hc with rfl|rfl
       .refine aD (gX kl rk y1 ob Vg or2 x1 x2 r1 r3 q1 (Z7 q3 o Ht fA @fB fC rf)) ?_;refine⟨_,rfl,k5.bS hb (ag gb) _ _ (dD.ok (by repeat first|exact dD.nil|refine dD.cons (by first|exact aB|exact bK (k5.len) aB|assumption) ?_)),nb h5 1,none,by rw[length_append];rfl,bK k5.len aB,?_,.inl rfl⟩;rw[ap];exact o.2.1 _ _ 1
       .refine aD (gX kl rk y1 ob Vg or2 x1 x2 r1 r3 q1 (Z6 q3 Ht fA @fB fC rf)) ?_;exact⟨_,rfl,k5.trans (aH aL),nb h5 1,none,by rw[length_append];rfl,bK k5.len aB,by rw[ap,bj];rfl,.inl rfl⟩
   .obtain⟨h5,jg,d5⟩:=m';obtain⟨k5,b,c,rfl,hb,gb,hc⟩:=hP;obtain rfl:d5=[]:=k5.aV;simp only at gb;have ln:=Fi M (i+1) 16;have st:rD M (i+1)=if 1<(Av M (i+1) 16).length/\i+1<gt (Av M (i+1) 16) 1 then rD M i++[Av M (i+1) 16]else rD M i:=rfl
    have Ht:=λl=>(an l h5 _ (ag gb)).trans gb
    have ou5:cG h3.length h5 1 u (xs.map zb):=cG.bw (m:=⟨h4,fi,[]⟩) (m':=⟨h5,jg,[]⟩) ou k5;have IN:∀y∈xs,K9 h5 y:=λy hy=>⟨aT.bw (m:=⟨h4,fi,[]⟩) (m':=⟨h5,jg,[]⟩) (ex y hy).1 k5,(ex y hy).2⟩
    have cu:=ou5.sl.sc;generalize Av M (i+1) 16=K at*;refine bH ?_;by_cases c1:1<K.length
    .have y1:((1:Int)<(K.length:Int))=True:=dy;have z1:=eq_true c1;have r1:=dP.rg (L:=K) (C:=fy) (w:=1) aZ (λ_=>rfl) (i:=1) c1;simp only[fy]at r1;by_cases c2:i+1<gt K 1
     .have y2:(((i+1:Nat):Int)<((gt K 1:Nat):Int))=True:=dy;rw[aG ⟨c1,c2⟩]at st;have kb:K9 h5 ⟨.slice b 0 K.length c,K⟩:=⟨.some b 0 c true _ (by rw[length_map]) gb (by rw[drop_zero,take_length]) (λq hq=>by
       rcases hc with rfl|rfl
       .cases hq
       .cases hq;simp),ln.1,ln.2,rfl⟩
      rcases ou5 with⟨hn,rfl⟩|⟨b0,rfl,Qb,rH⟩
      .obtain rfl:xs=[]:=map_eq_nil_iff.1 hn;refine aD (Z6 ri y1 y2 z1 Ht r1) ?_;refine⟨(_,[⟨.slice b 0 K.length c,K⟩]),rfl,(k4.trans k5).trans (aH aL),.some (nb h5 1) rfl (bK (k4.trans k5).len aB) (by rw[bj];rfl),λy hy=>?_,by rw[st,<-rx];rfl⟩;rw[mem_singleton.1 hy];exact⟨kb.1.bx _,kb.2⟩
      .have o:=bg (ag rH);have g0:=λl=>(an l h5 _ (ag rH)).trans rH
       have xl:xs.length<=16:=by
        have e:xs.length=(rD M i).length:=by rw[<-rx,length_map]
        have:=CO M i;omega
       have fA:(1000000000000<(xs.length+1)*24)=False:=by simp;omega
       have fC:List.take xs.length (xs.map zb)=xs.map zb:=take_of_length_le (by simp);simp only[length_map]at*;refine aD (xq ri y1 y2 z1 Ht g0 o r1 fA @fB fC) ?_;refine⟨(_,xs++[⟨.slice b 0 K.length c,K⟩]),rfl,(k4.trans k5).bS Qb (ag rH) _ _ (dD.ok (by repeat first|exact dD.nil|refine dD.cons (by first|exact aB|exact bK ((k4.trans k5).len) aB|assumption) ?_)),.some (nb h5 1) (by simp) (bK (k4.trans k5).len aB) (by rw[map_append];exact o.2.1 _ _ 1),λy hy=>?_,by rw[st,<-rx,map_append];rfl⟩;have ky:K9 h5 y:=by
        rcases mem_append.1 hy with hy|hy
        .exact IN y hy
        .rw[mem_singleton.1 hy];exact kb
       exact⟨aT.bS ky.1 (ag rH) (K9.ne IN rH ky) _ _,ky.2⟩
     .have y2:(((i+1:Nat):Int)<((gt K 1:Nat):Int))=False:=cR;rw[aq (λc=>c2 c.2)]at st;refine aD (Z6 ri y1 y2 z1 Ht r1) ?_;exact⟨(u,xs),rfl,k4.trans k5,ou5,IN,by rw[st];exact rx⟩
    .have y1:((1:Int)<(K.length:Int))=False:=cR;rw[aq (λc=>c1 c.1)]at st;refine aW (Z2 ri y1) ?_;exact⟨(u,xs),rfl,k4.trans k5,ou5,IN,by rw[st];exact rx⟩
  .obtain⟨h4,fi,d4⟩:=m';obtain⟨u,xs⟩:=x;obtain⟨k4,ou,ex,rx⟩:=hP;obtain rfl:d4=[]:=k4.aV;simp only at ou ex rx;refine bH ?_;refine aW @mZ ?_;exact⟨(K3.trans k4).sub,u,xs,M,.inr (.inr ⟨hz,hp,rfl,by rw[hLL,hM];exact W3,rx⟩),ou.lo K3.len,ex⟩
theorem A6{α:Type}{r:α->α->Prop}(Al7:∀a b,r a b->¬r b a):∀{l m:List α},l.Pairwise r->m.Pairwise r->(∀x,x∈l↔x∈m)->l=m
 |[],[],_,_,_=>rfl
 |[],b::m,_,_,h=>absurd ((h b).2 (.head _)) (by simp)
 |a::l,[],_,_,h=>absurd ((h a).1 (.head _)) (by simp)
 |a::l,b::m,hl,hm,h=>by
  have ab:a=b:=by
   rcases mem_cons.1 ((h a).1 (.head _))with e|e
   .exact e
   .rcases mem_cons.1 ((h b).2 (.head _))with f|f
    .exact f.symm
    .exact absurd ((pairwise_cons.1 hl).1 b f) (Al7 _ _ ((pairwise_cons.1 hm).1 a e))
  subst ab;have Hq:=pairwise_cons.1 hl;have LN:=pairwise_cons.1 hm;congr 1;refine A6 Al7 Hq.2 LN.2 λx=>⟨λhx=>?_,λhx=>?_⟩
  .rcases mem_cons.1 ((h x).1 (.tail _ hx))with e|e
   .have:=Hq.1 x hx;rw[e]at this;exact absurd this (Al7 _ _ this)
   .exact e
  .rcases mem_cons.1 ((h x).2 (.tail _ hx))with e|e
   .have:=LN.1 x hx;rw[e]at this;exact absurd this (Al7 _ _ this)
   .exact e
def Nx(M:Nat->Nat->Bool)(i:Nat):Nat->List Nat
 |0=>[]
 |j+1=>if j+1≠i/\M i (j+1)=true/\M (j+1) i=true then Nx M i j++[j+1]else Nx M i j
theorem Hi(M:Nat->Nat->Bool)(i:Nat):∀j,Av M i j=i::Nx M i j
 |0=>rfl
 |j+1=>by
  rw[Av,Nx,Hi M i j];split<;>rfl
theorem yY{M:Nat->Nat->Bool}{i x:Nat}:∀{j},x∈Nx M i j↔(1<=x/\x<=j)/\x≠i/\M i x=true/\M x i=true
 |0=>by simp[Nx];omega
 |j+1=>by
  have ih:=yY (M:=M) (i:=i) (x:=x) (j:=j);rw[Nx];split
  .rename_i c;rw[mem_append,mem_singleton,ih];constructor
   .rintro (⟨h1,h2⟩|rfl)
    .exact⟨Z,h2⟩
    .exact⟨Z,c⟩
   .rintro ⟨h1,h2⟩;by_cases e:x=j+1
    .exact .inr e
    .exact .inl ⟨Z,h2⟩
  .rename_i c;rw[ih];constructor
   .rintro ⟨h1,h2⟩;exact⟨Z,h2⟩
   .rintro ⟨h1,h2⟩;refine⟨?_,h2⟩;by_cases e:x=j+1
    .rw[e]at h2;exact absurd h2 c
    .omega
theorem A7{M:Nat->Nat->Bool}{i:Nat}:∀j,(Nx M i j).Pairwise (·<·)
 |0=>List.Pairwise.nil
 |j+1=>by
  have ih:=A7 (M:=M) (i:=i) j;rw[Nx];split
  .refine pairwise_append.2 ⟨ih,pairwise_singleton _ _,λa ha b hb=>?_⟩;have:=(yY.1 ha).1;rw[mem_singleton.1 hb];omega
  .exact ih
structure KnL(M:Nat->Nat->Bool)(ys:List (List Nat)):Prop where
 a:∀l∈ys,l.Pairwise (·<·)/\2<=l.length/\(∀x∈l,1<=x/\x<=16)/\∀x∈l,∀y,1<=y->y<=16->(y∈l↔y=x\/(M x y=true/\M y x=true))
 b:∀x y,1<=x->x<=16->1<=y->y<=16->x≠y->M x y=true->M y x=true->∃l∈ys,x∈l
 c:ys.Pairwise λl m=>gr l m<0
theorem yZ{M:Nat->Nat->Bool}{l:List Nat}:∀{k},l∈rD M k↔∃i,1<=i/\i<=k/\l=Av M i 16/\1<l.length/\i<gt l 1
 |0=>by simp[rD];omega
 |k+1=>by
  have ih:=yZ (M:=M) (l:=l) (k:=k);rw[rD];split
  .rename_i c;rw[mem_append,mem_singleton,ih];constructor
   .rintro (⟨i,h1,h2,h3⟩|rfl)
    .exact⟨i,h1,Z,h3⟩
    .exact⟨k+1,Z,Z,rfl,c⟩
   .rintro ⟨i,h1,h2,h3,h4⟩;by_cases e:i=k+1
    .rw[e]at h3;exact .inr h3
    .exact .inl ⟨i,h1,Z,h3,h4⟩
  .rename_i c;rw[ih];constructor
   .rintro ⟨i,h1,h2,h3⟩;exact⟨i,h1,Z,h3⟩
   .rintro ⟨i,h1,h2,h3,h4⟩;refine⟨i,h1,?_,h3,h4⟩;by_cases e:i=k+1
    .rw[e]at h3 h4;rw[h3]at h4;exact absurd h4 c
    .omega
theorem Hj{M:Nat->Nat->Bool}:∀k,(rD M k).Pairwise λl m=>gr l m<0
 |0=>List.Pairwise.nil
 |k+1=>by
  have ih:=Hj (M:=M) k;rw[rD];split
  .refine pairwise_append.2 ⟨ih,pairwise_singleton _ _,λa ha b hb=>?_⟩;obtain⟨i,h1,h2,h3,_⟩:=yZ.1 ha;rw[mem_singleton.1 hb,h3,Hi,Hi,gr,aG Z];omega
  .exact ih
theorem QI{M:Nat->Nat->Bool}{ys:List (List Nat)}(H:KnL M ys):ys=rD M 16:=by
 refine A6 (λl m h=>sI l m h) H.c (Hj 16) λl=>⟨λhl=>?_,λhl=>?_⟩
 .obtain⟨h1,h2,h3,h4⟩:=H.a l hl;cases l with
  |nil=>simp at h2
  |cons i l=>
   obtain⟨a1,a2⟩:=pairwise_cons.1 h1;have ir:=h3 i (.head _);have e:l=Nx M i 16:=by
    refine A6 (r:=λa b:Nat=>a<b) (λa b=>Z) a2 (A7 16) λx=>?_
    rw[yY];constructor
    .intro hx;have xr:=h3 x (.tail _ hx);have:=a1 x hx;have q:=(h4 i (.head _) x xr.1 xr.2).1 (.tail _ hx);exact⟨xr,Z,q.resolve_left Z⟩
    .rintro ⟨xr,ne,m⟩;have:=(h4 i (.head _) x xr.1 xr.2).2 (.inr m);exact(mem_cons.1 this).resolve_left ne
   have lj:i::l=Av M i 16:=by rw[Hi,e]
   refine yZ.2 ⟨i,ir.1,ir.2,lj,Z,?_⟩;cases l with
   |nil=>simp at h2
   |cons b l=>exact a1 b (.head _)
 .obtain⟨i,h1,h2,h3,h4,h5⟩:=yZ.1 hl;rw[Hi]at h3;have asc:l.Pairwise (·<·):=by
   rw[h3];refine pairwise_cons.2 ⟨λx hx=>?_,A7 16⟩;have sa:=A7 (M:=M) (i:=i) 16;rw[h3]at h5;cases ho:Nx M i 16 with
   |nil=>rw[ho]at hx;cases hx
   |cons b o=>
    rw[ho]at hx h5 sa;have h5:i<b:=h5;rcases mem_cons.1 hx with rfl|hx
    .exact h5
    .have:=(pairwise_cons.1 sa).1 x hx;omega
  obtain⟨y,hy⟩:∃y,y∈Nx M i 16:=by
   rw[h3,length_cons]at h4;exact exists_mem_of_length_pos Z
  obtain⟨yr,yn,ym⟩:=yY.1 hy;obtain⟨m,hm,im⟩:=H.b i y h1 h2 yr.1 yr.2 (Ne.symm yn) ym.1 ym.2;obtain⟨q1,q2,q3,q4⟩:=H.a m hm;have:l=m:=by
   refine A6 (r:=λa b:Nat=>a<b) (λa b=>Z) asc q1 λx=>?_
   rw[h3,mem_cons,yY];constructor
   .rintro (rfl|⟨xr,_,xm⟩)
    .exact im
    .exact(q4 i im x xr.1 xr.2).2 (.inr xm)
   .intro hx;have xr:=q3 x hx;rcases(q4 i im x xr.1 xr.2).1 hx with e|e
    .exact .inl e
    .by_cases c:x=i
     .exact .inl c
     .exact .inr ⟨xr,c,e⟩
  rw[this];exact hm
theorem N46(lg d:List Nat){c:Nat}{o:Bool}{v:AV}{ns:List Int}(H:aj h c=some (.row o 1 [[v]]))(hv:aT h 1 v (ns.map cK))(hl:ns.length<=16)(nd:ns.Nodup)(q_:31<=j/\30<=j:=by omega):
 Wa FT MT (SM j) (n+11000) (.fn 46) [.func 100 [] [.ptr c 0 0]] ⟨aR h [],lg,d⟩ (Qk ⟨h,lg,d⟩ (λw h'=>∃L:List Int,cG h.length h' 1 w (L.map cK)/\L.Perm ns/\L.Pairwise (·<·))):=by
 refine aI ?_;refine aS ?_;rw[<-fZ];refine fK (N98 j _ h lg [] (AgU j 1000 Z H hv Z) Z Z) (λw h2 dx k2 hw=>?_);refine aS ?_;rw[<-fZ];refine dE _ _ _ _ _ _ (λw4 m4 Da=>?_) (N99 j _ h2 dx [] hw hl (by rw[List.map_id];exact nd));obtain⟨h4,fi,d4⟩:=m4;obtain⟨kc,L,oL,pm,Al7⟩:=Da;obtain rfl:d4=[]:=kc.aV;refine bH ?_;refine aW @mZ ?_;refine⟨(k2.ko kc λb hb=>hw.At b hb).sub,L,oL,pm,pairwise_iff_getElem.2 λi k hi hk ik=>?_⟩;have e:=pm.length_eq;have:=Al7 i k (Nat.zero_le _) ik Z;simp only[id,bB hi,bB hk]at this;have ne:L[i]≠L[k]:=λq=>by
  have:=(getElem_inj (pm.nodup_iff.2 nd)).1 q;omega
 omega
def Ja(l:List Int)(f:Int->AV):List (AV×AV):=l.map λx=>(Ei x,f x)
def CT(l:List Int)(f:Int->Int):List (AV×AV):=Ja l λx=>Ei (f x)
def rE(f:Int->AV)(k:Int)(v:AV):Int->AV:=λx=>if x=k then v else f x
theorem A8(f:Int->AV)(k:Int)(v:AV):rE f k v k=v:=aG rfl
theorem oS{f:Int->AV}{k x:Int}{v:AV}(h:x≠k):rE f k v x=f x:=aq h
theorem Tz(l:List Int)(f:Int->AV):(Ja l f).length=l.length:=by rw[Ja,length_map]
theorem TA(l:List Int)(f:Int->Int):(CT l f).length=l.length:=Tz ..
theorem Vh(x y:Int):uv false [.i] (Ei x) (Ei y)=some (decide (x=y)):=by
 show some (x==y)=_;congr 1
theorem y7(f:Int->AV)(x:Int):∀l:List Int,gR false [.i] (Ei x) (Ja l f)=some (if x∈l then some (f x)else none)
 |[]=>rfl
 |y::l=>by
  have ih:=y7 f x l;show(match uv false [.i] (Ei x) (Ei y)with|some true=>_|some false=>_|none=>_)=_;rw[Vh];by_cases h:x=y
  .subst h;rw[decide_eq_true rfl,aG (.head _)]
  .rw[decide_eq_false h];refine ih.trans ?_;congr 1;by_cases q:x∈l
   .rw[aG q,aG (.tail _ q)]
   .rw[aq q,aq (λm=>(mem_cons.1 m).elim h q)]
theorem CP(f:Int->AV)(x:Int)(v:AV):∀l:List Int,l.Nodup->wV false [.i] (Ei x) v (Ja l f)=some (Ja (if x∈l then l else l++[x]) (rE f x v))
 |[],_=>by show some [(AV.int .i64 x,v)]=some [(AV.int .i64 x,rE f x v x)];rw[A8]
 |y::l,nd=>by
  obtain⟨n1,n2⟩:=nodup_cons.1 nd;have ih:=CP f x v l n2;show(match uv false [.i] (Ei x) (Ei y)with|some true=>_|some false=>_|none=>_)=_;rw[Vh];by_cases h:x=y
  .subst h;rw[decide_eq_true rfl,aG (.head _)];show some ((AV.int .i64 x,v)::Ja l f)=some ((AV.int .i64 x,rE f x v x)::Ja l (rE f x v));rw[A8];congr 2;exact map_congr_left λz hz=>by rw[oS (x:=z) (λq=>n1 (by rw[<-q];exact hz))]
  .rw[decide_eq_false h];show(wV false [.i] (Ei x) v (Ja l f)).map (((AV.int .i64 y),f y)::·)=_;rw[ih,map_some];congr 1;have e:rE f x v y=f y:=oS (λq=>h q.symm);by_cases q:x∈l
   .rw[aG q,aG (.tail _ q)];show _=(AV.int .i64 y,rE f x v y)::Ja l (rE f x v);rw[e]
   .rw[aq q,aq (λm=>(mem_cons.1 m).elim h q)];show _=(AV.int .i64 y,rE f x v y)::Ja (l++[x]) (rE f x v);rw[e]
theorem Lb(l:List Int)(f:Int->Int)(x y:Int):Ja l (rE (λx=>AV.int .i64 (f x)) x (Ei y))=CT l (vh f x y):=map_congr_left λz _=>by
 by_cases h:z=x
 .subst h;show(_,rE _ _ _ z)=(_,AV.int .i64 (vh f z y z));rw[A8,tE]
 .show(_,rE _ _ _ z)=(_,AV.int .i64 (vh f x y z));rw[oS h,vR h]
theorem qJ{f:Int->Int}{x:Int}{l:List Int}(h:x∈l):gR false [.i] (Ei x) (CT l f)=some (some (Ei (f x))):=by rw[CT,y7,aG h]
theorem Lc{f:Int->Int}{x:Int}{l:List Int}(h:x∉l):gR false [.i] (Ei x) (CT l f)=some none:=by rw[CT,y7,aq h]
theorem QJ{f:Int->Int}{x:Int}{l:List Int}(h:x∈l)(nd:l.Nodup)(y:Int):wV false [.i] (Ei x) (Ei y) (CT l f)=some (CT l (vh f x y)):=by rw[CT,CP _ _ _ _ nd,aG h,Lb]
theorem QK{f:Int->Int}{x:Int}{l:List Int}(h:x∉l)(nd:l.Nodup)(y:Int):wV false [.i] (Ei x) (Ei y) (CT l f)=some (CT (l++[x]) (vh f x y)):=by rw[CT,CP _ _ _ _ nd,aq h,Lb]
inductive zX(k:Nat)(h:aN)(v:AV)(l:List Int):Prop
 |nil (hl:l=[]) (hv:v=.aF)
 |some (b:Nat) (bI:List (List AV)) (hv:v=.slice b 0 l.length none) (hb:aj h b=some (.row true 1 bI)) (ht:bI.take l.length=l.map cK) (hk:k<=b)
theorem dG.at{P:Nat->Prop}{h h':aN}{lg bq d d':List Nat}{c:Nat}{x:bp}(k:dG P ⟨h,lg,d⟩ ⟨h',bq,d'⟩)(e:aj h c=some x)(hn:¬P c):aj h' c=some x:=(k.get c (ag e) hn).trans e
theorem zX.ko{P:Nat->Prop}{k0:Nat}{h h':aN}{lg bq d d':List Nat}{v:AV}{l:List Int}(H:zX k0 h v l)(k:dG P ⟨h,lg,d⟩ ⟨h',bq,d'⟩)(hn:∀b∈v.cj,¬P b):zX k0 h' v l:=by
 rcases H with⟨h1,h2⟩|⟨b,r,rfl,hb,ht,hk⟩
 .exact .nil h1 h2
 .exact .some b r rfl (k.at hb (hn b (by simp[AV.cj]))) ht hk
theorem cG.ko{P:Nat->Prop}{k0 e:Nat}{h h':aN}{lg bq d d':List Nat}{v:AV}{es:List (List AV)}(H:cG k0 h e v es)(k:dG P ⟨h,lg,d⟩ ⟨h',bq,d'⟩)(hn:∀b∈v.cj,¬P b):cG k0 h' e v es:=by
 rcases H with⟨h1,h2⟩|⟨b,rfl,hk,hb⟩
 .exact .nil h1 h2
 .exact .some b rfl hk (k.at hb (hn b (by simp[AV.cj])))
theorem zX.At{k:Nat}{h:aN}{v:AV}{l:List Int}(H:zX k h v l):∀b∈v.cj,k<=b:=by
 rcases H with⟨h1,rfl⟩|⟨b,r,rfl,hb,ht,hk⟩
 .intro b hb;cases hb
 .intro c hc;simp[AV.cj]at hc;omega
theorem zX.lt{k:Nat}{h:aN}{v:AV}{l:List Int}(H:zX k h v l):∀b∈v.cj,b<h.length:=by
 rcases H with⟨h1,rfl⟩|⟨b,r,rfl,hb,ht,hk⟩
 .intro b hb;cases hb
 .intro c hc;simp[AV.cj]at hc;subst hc;exact ag hb
theorem cG.lt{k e:Nat}{h:aN}{v:AV}{es:List (List AV)}(H:cG k h e v es):∀b∈v.cj,b<h.length:=by
 rcases H with⟨h1,rfl⟩|⟨b,rfl,hk,hb⟩
 .intro b hb;cases hb
 .intro c hc;simp[AV.cj]at hc;subst hc;exact ag hb
theorem zX.sl{k:Nat}{h:aN}{v:AV}{l:List Int}(H:zX k h v l):aT h 1 v (l.map cK):=by
 rcases H with⟨rfl,rfl⟩|⟨b,r,rfl,hb,ht,hk⟩
 .exact .none rfl (.inl rfl)
 .exact .some b 0 none true r (by rw[length_map]) hb (by rw[drop_zero,length_map];exact ht) (λ_ h=>by cases h)
structure Eg(h0:aN)(kq:List Nat)(cf:AV)(vn:List Int)(nf:Int->Int)(vl:List Int)(lf:Int->Int)(fP:List Int)(sv ov:AV)(os:List qb)(h:aN)(lg:List Nat):Prop where
 k:aY ⟨h0,kq,[]⟩ ⟨h,lg,[]⟩
 z:nb h0 7<=h.length
 cn:aj h (nb h0 2)=(aO 1 [[.map (nb h0 0)]])
 cl:aj h (nb h0 3)=(aO 1 [[.map (nb h0 1)]])
 cs:aj h (nb h0 4)=(aO 1 [[sv]])
 co:aj h (nb h0 5)=(aO 1 [[ov]])
 cv:aj h (nb h0 6)=(aO 1 [[cf]])
 mn:aj h (nb h0 0)=some (.map (CT vn nf))
 ml:aj h (nb h0 1)=some (.map (CT vl lf))
 st:zX (nb h0 7) h sv fP
 ou:cG (nb h0 7) h 1 ov (os.map zb)
 so:∀b∈sv.cj,b∉ov.cj
 kn:∀y∈os,cG (nb h0 7) h 1 y.v (y.l.map fy)/\∀b∈y.v.cj,b∉sv.cj/\b∉ov.cj
section
variable{h0:aN}{kq:List Nat}{cf:AV}{vn:List Int}{nf:Int->Int}{vl:List Int}{lf:Int->Int}{fP:List Int}{sv ov:AV}{os:List qb}{h:aN}{lg:List Nat}{h':aN}{bq:List Nat}
theorem Fj{a k:Nat}(h:nb h0 7<=a)(hk:k<7):a≠nb h0 k:=by simp only[nb]at*;omega
theorem Ld{a k:Nat}(hk:a≠k):nb h0 a≠nb h0 k:=by simp only[nb];omega
theorem Eg.bw(M:Eg h0 kq cf vn nf vl lf fP sv ov os h lg)(q:aY ⟨h,lg,[]⟩ ⟨h',bq,[]⟩):Eg h0 kq cf vn nf vl lf fP sv ov os h' bq:=by
 have fr:dG (λ_=>False) ⟨h,lg,[]⟩ ⟨h',bq,[]⟩:=q.sy;exact⟨M.k.trans q,bK M.z q.len,fr.at M.cn id,fr.at M.cl id,fr.at M.cs id,fr.at M.co id,fr.at M.cv id,fr.at M.mn id,fr.at M.ml id,M.st.ko fr λ_ _=>id,M.ou.ko fr λ_ _=>id,M.so,λy hy=>⟨(M.kn y hy).1.ko fr λ_ _=>id,(M.kn y hy).2⟩⟩
theorem Eg.rd(M:Eg h0 kq cf vn nf vl lf fP sv ov os h lg):(∀l,aj (aR h l) (nb h0 2)=(aO 1 [[.map (nb h0 0)]]))/\(∀l,aj (aR h l) (nb h0 3)=(aO 1 [[.map (nb h0 1)]]))/\(∀l,aj (aR h l) (nb h0 4)=(aO 1 [[sv]]))/\(∀l,aj (aR h l) (nb h0 5)=(aO 1 [[ov]]))/\(∀l,aj (aR h l) (nb h0 6)=(aO 1 [[cf]]))/\(∀l,aj (aR h l) (nb h0 0)=some (.map (CT vn nf)))/\∀l,aj (aR h l) (nb h0 1)=some (.map (CT vl lf)):=
 ⟨λl=>(an l h _ (ag M.cn)).trans M.cn,λl=>(an l h _ (ag M.cl)).trans M.cl,λl=>(an l h _ (ag M.cs)).trans M.cs,λl=>(an l h _ (ag M.co)).trans M.co,λl=>(an l h _ (ag M.cv)).trans M.cv,λl=>(an l h _ (ag M.mn)).trans M.mn,λl=>(an l h _ (ag M.ml)).trans M.ml⟩
theorem Eg.kc(M:Eg h0 kq cf vn nf vl lf fP sv ov os h lg){P:Nat->Prop}(fr:dG P ⟨h,lg,[]⟩ ⟨h',bq,[]⟩)(hp:∀x,P x->nb h0 0<=x):aY ⟨h0,kq,[]⟩ ⟨h',bq,[]⟩:=M.k.ko fr hp
theorem Eg.fU(M:Eg h0 kq cf vn nf vl lf fP sv ov os h lg)(vn':List Int)(nf':Int->Int):Eg h0 kq cf vn' nf' vl lf fP sv ov os (aQ h (nb h0 0) (some (.map (CT vn' nf')))) (nb h0 0::lg):=by
 have fr:dG (·=nb h0 0) ⟨h,lg,[]⟩ ⟨aQ h (nb h0 0) (some (.map (CT vn' nf'))),nb h0 0::lg,[]⟩:=cD (P:=(·=nb h0 0)) (ag M.mn) rfl _ [] (.cons (.inl rfl) .nil);refine⟨M.kc fr (λx e=>by rw[e];exact cB),bK M.z fr.len,fr.at M.cn (Ld aZ),fr.at M.cl (Ld aZ),fr.at M.cs (Ld aZ),fr.at M.co (Ld aZ),fr.at M.cv (Ld aZ),(bg (ag M.mn)).2.2.2.2.1 [] _,fr.at M.ml (Ld aZ),M.st.ko fr λb hb=>Fj (M.st.At b hb) aZ,M.ou.ko fr λb hb=>Fj (M.ou.At b hb) aZ,M.so,λy hy=>⟨(M.kn y hy).1.ko fr λb hb=>Fj ((M.kn y hy).1.At b hb) aZ,(M.kn y hy).2⟩⟩
theorem Eg.jZ(M:Eg h0 kq cf vn nf vl lf fP sv ov os h lg)(vl':List Int)(lf':Int->Int):Eg h0 kq cf vn nf vl' lf' fP sv ov os (aQ h (nb h0 1) (some (.map (CT vl' lf')))) (nb h0 1::lg):=by
 have fr:dG (·=nb h0 1) ⟨h,lg,[]⟩ ⟨aQ h (nb h0 1) (some (.map (CT vl' lf'))),nb h0 1::lg,[]⟩:=cD (P:=(·=nb h0 1)) (ag M.ml) rfl _ [] (.cons (.inl rfl) .nil);refine⟨M.kc fr (λx e=>by rw[e];simp[nb]),bK M.z fr.len,fr.at M.cn (Ld aZ),fr.at M.cl (Ld aZ),fr.at M.cs (Ld aZ),fr.at M.co (Ld aZ),fr.at M.cv (Ld aZ),fr.at M.mn (Ld aZ),(bg (ag M.ml)).2.2.2.2.1 [] _,M.st.ko fr λb hb=>Fj (M.st.At b hb) aZ,M.ou.ko fr λb hb=>Fj (M.ou.At b hb) aZ,M.so,λy hy=>⟨(M.kn y hy).1.ko fr λb hb=>Fj ((M.kn y hy).1.At b hb) aZ,(M.kn y hy).2⟩⟩
theorem Eg.push(M:Eg h0 kq cf vn nf vl lf fP sv ov os h lg){TB:List Int}{Ny:AV}(fr:dG (λb=>b=nb h0 4\/b∈sv.cj) ⟨h,lg,[]⟩ ⟨h',bq,[]⟩)(cs:aj h' (nb h0 4)=(aO 1 [[Ny]]))(st:zX (nb h0 7) h' Ny TB)(sr:∀b∈Ny.cj,b∈sv.cj\/h.length<=b):Eg h0 kq cf vn nf vl lf TB Ny ov os h' bq:=by
 have nk:∀k,k<7->k≠4->¬(nb h0 k=nb h0 4\/nb h0 k∈sv.cj):=λk hk hn c=>by
  rcases c with c|c
  .exact Ld hn c
  .exact Fj (M.st.At _ c) hk rfl
 refine⟨M.kc fr (λx e=>?_),bK M.z fr.len,fr.at M.cn (nk _ aZ aZ),fr.at M.cl (nk _ aZ aZ),cs,fr.at M.co (nk _ aZ aZ),fr.at M.cv (nk _ aZ aZ),fr.at M.mn (nk _ aZ aZ),fr.at M.ml (nk _ aZ aZ),st,M.ou.ko fr λb hb c=>?_,λb hb q=>?_,λy hy=>⟨(M.kn y hy).1.ko fr λb hb c=>?_,λb hb=>⟨λq=>?_,((M.kn y hy).2 b hb).2⟩⟩⟩
 .rcases e with e|e
  .rw[e];simp[nb]
  .have:=M.st.At x e;simp only[nb]at*;omega
 .rcases c with c|c
  .exact Fj (M.ou.At b hb) aZ c
  .exact M.so b c hb
 .rcases sr b hb with c|c
  .exact M.so b c q
  .have:=M.ou.lt b q;omega
 .rcases c with c|c
  .exact Fj ((M.kn y hy).1.At b hb) aZ c
  .exact((M.kn y hy).2 b hb).1 c
 .rcases sr b q with c|c
  .exact((M.kn y hy).2 b hb).1 c
  .have:=(M.kn y hy).1.lt b hb;omega
theorem Eg.put(M:Eg h0 kq cf vn nf vl lf fP sv ov os h lg){y0:qb}{Zn:AV}(fr:dG (λb=>b=nb h0 5\/b∈ov.cj) ⟨h,lg,[]⟩ ⟨h',bq,[]⟩)(co:aj h' (nb h0 5)=(aO 1 [[Zn]]))(ou:cG (nb h0 7) h' 1 Zn ((os++[y0]).map zb))(sr:∀b∈Zn.cj,h.length<=b)(ky:cG (nb h0 7) h 1 y0.v (y0.l.map fy))(kr:∀b∈y0.v.cj,b∉sv.cj/\b∉ov.cj):Eg h0 kq cf vn nf vl lf fP sv Zn (os++[y0]) h' bq:=by
 have nk:∀k,k<7->k≠5->¬(nb h0 k=nb h0 5\/nb h0 k∈ov.cj):=λk hk hn c=>by
  rcases c with c|c
  .exact Ld hn c
  .exact Fj (M.ou.At _ c) hk rfl
 have all:∀y∈os++[y0],cG (nb h0 7) h 1 y.v (y.l.map fy)/\∀b∈y.v.cj,b∉sv.cj/\b∉ov.cj:=λy hy=>by
  rcases mem_append.1 hy with hy|hy
  .exact M.kn y hy
  .rw[mem_singleton.1 hy];exact⟨ky,kr⟩
 refine⟨M.kc fr (λx e=>?_),bK M.z fr.len,fr.at M.cn (nk _ aZ aZ),fr.at M.cl (nk _ aZ aZ),fr.at M.cs (nk _ aZ aZ),co,fr.at M.cv (nk _ aZ aZ),fr.at M.mn (nk _ aZ aZ),fr.at M.ml (nk _ aZ aZ),M.st.ko fr λb hb c=>?_,ou,λb hb q=>?_,λy hy=>⟨(all y hy).1.ko fr λb hb c=>?_,λb hb=>⟨((all y hy).2 b hb).1,λq=>?_⟩⟩⟩
 .rcases e with e|e
  .rw[e];simp[nb]
  .have:=M.ou.At x e;simp only[nb]at*;omega
 .rcases c with c|c
  .exact Fj (M.st.At b hb) aZ c
  .exact M.so b hb c
 .have:=sr b q;have:=M.st.lt b hb;omega
 .rcases c with c|c
  .exact Fj ((all y hy).1.At b hb) aZ c
  .exact((all y hy).2 b hb).2 c
 .have:=sr b q;have:=(all y hy).1.lt b hb;omega
end
def nI(l:List Nat):List Int:=l.map λx:Nat=>(x:Int)
structure AR(all:List (List Int))(os:List qb):Prop where
 a:∀y∈os,2<=y.l.length/\y.l.Pairwise (·<·)/\∃c∈all,(nI y.l).Perm c
 b:∀c∈all,2<=c.length->∃y∈os,(nI y.l).Perm c
 c:os.Pairwise λy y'=>∀x∈y.l,x∉y'.l
structure SSt(h0:aN)(kq:List Nat)(cf:AV)(s:TS)(sv ov:AV)(os:List qb)(h:aN)(lg:List Nat):Prop where
 m:Eg h0 kq cf s.mH s.fU s.mH s.jZ s.fP sv ov os h lg
 rg:∀x∈s.mH,1<=x/\x<=16
 al:AR s.all os
def TC(h0:aN)(cX:Nat):List AV:=[.ptr (nb h0 2) 0 0,.ptr (nb h0 3) 0 0,.ptr (nb h0 4) 0 0,.ptr cX 0 0,.ptr (nb h0 6) 0 0,.ptr (nb h0 5) 0 0]
structure NxT(e:Int->List Int)(h0:aN)(cX bX:Nat)(fF:List (AV×AV))(oX:Bool):Prop where
 hX:aj h0 cX=some (.row oX 1 [[.map bX]])
 hE:aj h0 bX=some (.map fF)
 he:∀x,1<=x->x<=16->∃r,gR false [.i] (Ei x) fF=some r/\aT h0 1 (r.getD .aF) ((e x).map cK)
 er:∀x,∀y∈e x,1<=y/\y<=16
 el:∀x,(e x).length<=1000
structure V43(e:Int->List Int)(h0:aN)(kq:List Nat)(cX:Nat)(g:List Int)(node:Int)(s0:TS)(i:Nat)(x:TS×AV×AV×List qb)(m:Mem):Prop where
 d:m.aV=[]
 s:SSt h0 kq (.func 43 [] (TC h0 cX)) x.1 x.2.1 x.2.2.1 x.2.2.2 m.ah m.hU
 t:xp e g node s0 ((e node).take i) x.1
theorem CQ{l:List Int}(nd:l.Nodup)(rg:∀x∈l,1<=x/\x<=16):l.length<=16:=by
 have:=ER (m:=(List.range 16).map λi=>((i+1:Nat):Int)) nd λx hx=>by
  have:=rg x hx;exact mem_map.2 ⟨x.toNat-1,by rw[mem_range];omega,Z⟩
 simpa using this
theorem Jb{e:Int->List Int}{g:List Int}{s:TS}(I:Ch e g s)(rg:∀x∈s.mH,1<=x/\x<=16):s.fP.length<=16:=CQ (I.b.imp λ{a b} q c=>by rw[c]at q;omega) λx hx=>rg x ((I.vi x).2 (I.c x hx))
theorem TD{get:Nat->Option bp}{b:Nat}{es:List (AV×AV)}(h:get b=some (.map es)):Gf get .map (.map b)=some (Ei es.length,[]):=by simp[Gf,bG,cP,h]
theorem Le{l:List Int}{bI t:List (List AV)}{x:Int}(ht:bI.take l.length=l.map cK):(bI.take l.length++[[AV.int .i64 x]]++t).take (l++[x]).length=(l++[x]).map cK:=by
 have e:(l++[x]).length=(bI.take l.length++[[AV.int .i64 x]]).length:=by rw[ht];simp
 rw[e,take_append_of_le_length cB,take_length,ht,map_append];rfl
theorem AR.skip{all:List (List Int)}{os:List qb}(H:AR all os){c:List Int}(h:¬2<=c.length):AR (all++[c]) os:=by
 refine⟨λy hy=>?_,λc' hc h2=>?_,H.c⟩
 .obtain⟨h1,h2,c',h3,h4⟩:=H.a y hy;exact⟨h1,h2,c',mem_append_left _ h3,h4⟩
 .rcases mem_append.1 hc with hc|hc
  .exact H.b c' hc h2
  .rw[mem_singleton.1 hc]at h2;exact absurd h2 h
theorem AR.add{all:List (List Int)}{os:List qb}(H:AR all os){c:List Int}(dj:∀c'∈all,∀x∈c',x∉c)(y:qb)(hy:(nI y.l).Perm c)(h:2<=c.length)(hs:y.l.Pairwise (·<·)):AR (all++[c]) (os++[y]):=by
 refine⟨λz hz=>?_,λc' hc h2=>?_,?_⟩
 .rcases mem_append.1 hz with hz|hz
  .obtain⟨h1,h2,c',h3,h4⟩:=H.a z hz;exact⟨h1,h2,c',mem_append_left _ h3,h4⟩
  .rw[mem_singleton.1 hz];have:=hy.length_eq;rw[nI,length_map]at this;exact⟨Z,hs,c,by simp,hy⟩
 .rcases mem_append.1 hc with hc|hc
  .obtain⟨z,h3,h4⟩:=H.b c' hc h2;exact⟨z,mem_append_left _ h3,h4⟩
  .rw[mem_singleton.1 hc];exact⟨y,by simp,hy⟩
 .refine pairwise_append.2 ⟨H.c,pairwise_singleton _ _,λz hz z' Hp x hx uL=>?_⟩;rw[mem_singleton.1 Hp]at uL;obtain⟨_,_,c',h3,h4⟩:=H.a z hz;exact dj c' h3 x (h4.mem_iff.1 (mem_map.2 ⟨x,hx,rfl⟩)) (hy.mem_iff.1 (mem_map.2 ⟨x,uL,rfl⟩))
theorem Vi:∀{os:List qb},(∀y∈os,y.l.Pairwise (·<·))->(os.Pairwise λy y'=>∀x∈y.l,x∉y'.l)->(os.flatMap (·.l)).Nodup
 |[],_,_=>nodup_nil
 |y::os,h,p=>by
  obtain⟨p1,p2⟩:=pairwise_cons.1 p;rw[flatMap_cons];refine nodup_append.2 ⟨(h y (.head _)).imp λ{a b} q c=>Z,Vi (λz hz=>h z (.tail _ hz)) p2,λa ha b hb e=>?_⟩;obtain⟨z,hz,hx⟩:=mem_flatMap.1 hb;subst e;exact p1 z hz a ha hx
theorem QL:∀{os:List qb},(∀y∈os,2<=y.l.length)->2*os.length<=(os.flatMap (·.l)).length
 |[],_=>cB
 |y::os,h=>by
  have:=QL (os:=os) λz hz=>h z (.tail _ hz)
  have:=h y (.head _);rw[flatMap_cons,length_append,length_cons];omega
theorem AR.rg{all:List (List Int)}{os:List qb}(H:AR all os)(rg:∀c∈all,∀x∈c,1<=x/\x<=16):∀y∈os,∀x∈y.l,1<=x/\x<=16:=λy hy x hx=>by
 obtain⟨_,_,c,hc,pm⟩:=H.a y hy;have:=rg c hc x (pm.mem_iff.1 (mem_map.2 ⟨x,hx,rfl⟩));omega
theorem AR.len{all:List (List Int)}{os:List qb}(H:AR all os)(rg:∀c∈all,∀x∈c,1<=x/\x<=16):2*os.length<=16:=by
 have h1:=QL (os:=os) λy hy=>(H.a y hy).1
 have h2:=Vi (os:=os) (λy hy=>(H.a y hy).2.1) H.c;have h3:=CQ (l:=nI (os.flatMap (·.l))) (pairwise_map.2 (h2.imp λ{a b} q c=>q (Int.ofNat_inj.1 c))) λx hx=>by
  obtain⟨a,ha,rfl⟩:=mem_map.1 hx;obtain⟨y,hy,hx⟩:=mem_flatMap.1 ha;have:=H.rg rg y hy a hx;omega
 rw[nI,length_map]at h3;omega
theorem Lf(x:Int):∀(l:List Int) (i k:Nat),l[k]?=some x->(∀j,j<k->l[j]?≠some x)->iP (λy=>decide (x=y)) i l=((i+k:Nat):Int)
 |[],i,k,h,_=>by simp at h
 |a::l,i,k,h,q=>by
  rw[iP];by_cases c:x=a
  .rw[decide_eq_true c];cases k with
   |zero=>rfl
   |succ k=>exact absurd (by rw[c];rfl) (q 0 (Nat.succ_pos k))
  .rw[decide_eq_false c];cases k with
   |zero=>exact absurd (by simpa using h.symm) c
   |succ k=>
    have:=Lf x l (i+1) k (by simpa using h) (λj hj=>by have:=q (j+1) Z;simpa using this);rw[aq aZ,this];congr 1;omega
theorem Yu{wc:gy}{au:bR}{d:Option cO}{os:List cS}{T:Tr}{K:Tr->Mem->Prop}{h:aN}{lg dd:List Nat}{k0 bs:Nat}{u x:AV}{es:List (List AV)}(S:cG k0 h 1 u es)(hk:k0<=h.length)(hl:(es.length+1)*bs<=1000000000000)
 (H:∀u' h' bq,dG (·∈u.cj) ⟨h,lg,dd⟩ ⟨h',bq,dd⟩->cG k0 h' 1 u' (es++[[x]])->(∀b∈u'.cj,h.length<=b)->Wo wc au false os (eU T d u') ⟨aR h' [],bq,dd⟩ K):
 Wp wc au false (eC (aj (aR h [(aO 1 [[x]])])) (nb h 1) 1 bs u (.slice (nb h 0) 0 1 (some 1))) d os T ⟨aR h [(aO 1 [[x]])],nb h 0::lg,dd⟩ K:=by
 rcases S with⟨rfl,rfl⟩|⟨b,rfl,Jm,hb⟩
 .have e:eC (aj (aR h [(aO 1 [[x]])])) (nb h 1) 1 bs .aF (.slice (nb h 0) 0 1 (some 1))=some (.slice (nb h 1) 0 1 none,[⟨nb h 1,(aO 1 [[x]]),gh [[x]]⟩]):=by
   have f1:1*bs<=1000000000000:=by simpa using hl
   simp only[eC,eW,bj,fj,wU,dQ,if_true,length_cons,length_nil];simp;omega
  rw[e,Ma];have:=H (.slice (nb h 1) 0 1 none) (aR h [(aO 1 [[x]]),(aO 1 [[x]])]) (nb h 1::nb h 0::lg) (aH aL).sy (.some (nb h 1) rfl (bK hk aB) (by rw[bj];rfl)) (λc hc=>by simp[AV.cj]at hc;rw[hc];exact aB);refine aS ?_;exact this
 .have gb:∀l,aj (aR h l) b=_:=λl=>(an l h b (ag hb)).trans hb
  have o:=bg (ag hb);have fA:(1000000000000<(es.length+1)*bs)=False:=cR;have fC:List.take es.length es=es:=take_length;have e:eC (aj (aR h [(aO 1 [[x]])])) (nb h 1) 1 bs (.slice b 0 es.length none) (.slice (nb h 0) 0 1 (some 1))=some (.slice (nb h 1) 0 (es.length+1) none,[⟨b,none,[]⟩,⟨nb h 1,(aO 1 (es++[[x]])),gh (es++[[x]])⟩]):=by
   exact aC (Z4 gb fA @fB fC)
  rw[e,Ma];have:=H (.slice (nb h 1) 0 (es.length+1) none) (aR (aQ h b none) [(aO 1 [[x]]),(aO 1 (es++[[x]]))]) (nb h 1::b::nb h 0::lg) (cD (P:=(·∈(AV.slice b 0 es.length none).cj)) (ag hb) (by simp[AV.cj]) _ _ (.cons (.inr aB) (.cons (.inl (by simp[AV.cj])) (.cons (.inr aB) .nil)))) (.some (nb h 1) (by simp) (bK hk aB) (o.2.1 _ _ 1)) (λc hc=>by simp[AV.cj]at hc;rw[hc];exact aB);refine aW o ?_;exact this
theorem Yv{wc:gy}{au:bR}{d:Option cO}{os:List cS}{T:Tr}{K:Tr->Mem->Prop}{h:aN}{lg dd:List Nat}{k0:Nat}{sv:AV}{fP:List Int}{x:Int}(S:zX k0 h sv fP)(hk:k0<=h.length)(hl:fP.length<=1000)
 (H:∀Ny h' bq,dG (·∈sv.cj) ⟨h,lg,dd⟩ ⟨h',bq,dd⟩->zX k0 h' Ny (fP++[x])->(∀b∈Ny.cj,b∈sv.cj\/h.length<=b)->Wo wc au false os (eU T d Ny) ⟨aR h' [],bq,dd⟩ K):
 Wp wc au false (eC (aj (aR h [(aO 1 [[Ei x]])])) (nb h 1) 1 8 sv (.slice (nb h 0) 0 1 (some 1))) d os T ⟨aR h [(aO 1 [[Ei x]])],nb h 0::lg,dd⟩ K:=by
 rcases S with⟨rfl,rfl⟩|⟨b,bI,rfl,hb,ht,Jm⟩
 .have e:eC (aj (aR h [(aO 1 [[Ei x]])])) (nb h 1) 1 8 .aF (.slice (nb h 0) 0 1 (some 1))=some (.slice (nb h 1) 0 1 none,[⟨nb h 1,(aO 1 [[Ei x]]),[]⟩]):=by
   exact aK
  rw[e,Ma];have:=H (.slice (nb h 1) 0 1 none) (aR h [(aO 1 [[Ei x]]),(aO 1 [[Ei x]])]) (nb h 1::nb h 0::lg) (aH aL).sy (.some (nb h 1) _ rfl (by rw[bj];rfl) rfl (bK hk aB)) (λc hc=>.inr (by simp[AV.cj]at hc;rw[hc];exact aB));refine aS ?_;exact this
 .have gb:∀l,aj (aR h l) b=_:=λl=>(an l h b (ag hb)).trans hb
  have o:=bg (ag hb);have fA:(1000000000000<(fP.length+1)*8)=False:=by simp;omega
  have rl:fP.length<=bI.length:=by
   have:=congrArg List.length ht;simp at this;omega
  have f2:(bI.length<0+fP.length)=False:=cR;by_cases c:0+fP.length+1<=bI.length
  .have c1:=eq_true c;have e:eC (aj (aR h [(aO 1 [[Ei x]])])) (nb h 1) 1 8 (.slice b 0 fP.length none) (.slice (nb h 0) 0 1 (some 1))=some (.slice b 0 (fP.length+1) none,[⟨b,(aO 1 (bI.take fP.length++[[Ei x]]++bI.drop (fP.length+1))),[]⟩]):=by
    refine aW (Z2 gb fA) ?_;simp at c1 f2|-;simp[c1,f2]
   rw[e,Ma];have:=H (.slice b 0 (fP.length+1) none) (aR (aQ h b ((aO 1 (bI.take fP.length++[[Ei x]]++bI.drop (fP.length+1))))) [(aO 1 [[Ei x]])]) (b::nb h 0::lg) (cD (P:=(·∈(AV.slice b 0 fP.length none).cj)) (ag hb) (by simp[AV.cj]) _ _ (.cons (.inl (by simp[AV.cj])) (.cons (.inr aB) .nil))) (.some b _ (by simp) (o.2.2.2.2.1 _ _) (Le ht) Jm) (λc hc=>.inl hc);refine aW o ?_;exact this
  .have c1:=eq_false c;have e:eC (aj (aR h [(aO 1 [[Ei x]])])) (nb h 1) 1 8 (.slice b 0 fP.length none) (.slice (nb h 0) 0 1 (some 1))=some (.slice (nb h 1) 0 (fP.length+1) none,[⟨b,none,[]⟩,⟨nb h 1,(aO 1 (bI.take fP.length++[[Ei x]])),gh (bI.take fP.length++[[Ei x]])⟩]):=by
    refine aW (Z2 gb fA) ?_;simp at c1 f2|-;simp[c1,f2]
   rw[e,Ma];have:=H (.slice (nb h 1) 0 (fP.length+1) none) (aR (aQ h b none) [(aO 1 [[Ei x]]),(aO 1 (bI.take fP.length++[[Ei x]]))]) (nb h 1::b::nb h 0::lg) (cD (P:=(·∈(AV.slice b 0 fP.length none).cj)) (ag hb) (by simp[AV.cj]) _ _ (.cons (.inr aB) (.cons (.inl (by simp[AV.cj])) (.cons (.inr aB) .nil)))) (.some (nb h 1) _ (by simp) (o.2.1 _ _ 1) (by have:=Le (x:=x) (t:=[]) ht;rw[append_nil]at this;exact this) (bK hk aB)) (λc hc=>.inr (by simp[AV.cj]at hc;rw[hc];exact aB));refine aW (Z2 o ht) ?_;rw[ht]at this;exact this
theorem AlP{wc:gy}{au:bR}{pu:Bool}{d:Option cO}{os:List cS}{T:Tr}{m:Mem}{K:Tr->Mem->Prop}{A:Option (AV×List j9)}(v:AV)(h:A=some (v,[]))(H:Wo wc au pu os (eU T d v) m K):Wp wc au pu A d os T m K:=by
 rw[h,Wk];exact H
theorem N43{e:Int->List Int}{h0:aN}{kq:List Nat}{cX bX:Nat}{fF:List (AV×AV)}{oX:Bool}(X:NxT e h0 cX bX fF oX)(j:Nat)(q_:31<=j/\30<=j/\23<=j):∀(u N:Nat) (s:TS) (sv ov:AV) (os:List qb) (h:aN) (lg d:List Nat) (g:List Int) (node:Int),13000*(u+1)<=N->SSt h0 kq (.func 43 [] (TC h0 cX)) s sv ov os h lg->Ch e g s->s.fU node=0->(∀x∈g,Rc e x node)->1<=node/\node<=16->16<=s.mH.length+u->
 Wa FT MT (SM j) N (.fn 43) (Ei node::TC h0 cX) ⟨aR h [],lg,d⟩ (λ_ m'=>m'.aV=d/\∃s' Ny Zn os',SSt h0 kq (.func 43 [] (TC h0 cX)) s' Ny Zn os' m'.ah m'.hU/\Tpo e g node s s'):=by
 intro u;induction u with
 |zero=>
  intro N s sv ov os h lg d g node hN S I hn hg hr hu;exfalso;have v0:node∉s.mH:=λc=>(I.vi node).1 c hn
  have:=CQ (l:=node::s.mH) (nodup_cons.2 ⟨v0,I.nd⟩) (λx hx=>by rcases mem_cons.1 hx with rfl|hx;exact hr;exact S.rg x hx);simp at this;omega
 |succ u ih=>
  intro N s sv ov os h lg d g node hN S I hn hg hr hu;obtain⟨n,rfl⟩:∃n,N=n+13000:=⟨N-13000,Z⟩;have v0:node∉s.mH:=λc=>(I.vi node).1 c hn
  have vl:s.mH.length<=16:=CQ I.nd S.rg;have M:=S.m;rw[TC,wi F43 aZ];have gn:=λl=>(an l h _ (ag M.cn)).trans M.cn
  have gm:=λl=>(an l h _ (ag M.mn)).trans M.mn
  have am:=λl=>TD (gm l)
  simp only[TA]at am;have w1:i64.wrap ((s.mH.length:Int)+1)=(s.mH.length:Int)+1:=aU Z Z;have e1:=QK (f:=s.fU) v0 I.nd (s.mH.length+1);have o:=bg (ag M.mn);refine aW (Z6 gn gm am w1 e1 o) ?_;have M1:=M.fU (s.mH++[node]) (vh s.fU node (s.mH.length+1));generalize aQ h (nb h0 0) (some (.map (CT (s.mH++[node]) (vh s.fU node (s.mH.length+1)))))=h1 at M1|-;have r1:=M1.rd;have f1:=qJ (f:=vh s.fU node (s.mH.length+1)) (x:=node) (l:=s.mH++[node]) (by simp);rw[tE]at f1;have e2:=QK (f:=s.jZ) v0 I.nd (s.mH.length+1);have o1:=bg (ag M1.ml);refine aW (Z4 r1 f1 e2 o1) ?_;have M2:=M1.jZ (s.mH++[node]) (vh s.jZ node (s.mH.length+1));generalize aQ h1 (nb h0 1) (some (.map (CT (s.mH++[node]) (vh s.jZ node (s.mH.length+1)))))=h2 at M2|-;have r2:=M2.rd;refine aW r2 ?_;refine Yv M2.st (bK M2.z cB) (by have:=Jb I S.rg;omega) (λNm h3 dH c3 S3 q3=>?_);have b3:=c3.at M2.cs (λq=>Fj (M2.st.At _ q) aZ rfl);have g3:∀l,aj (aR h3 l) (nb h0 4)=_:=λl=>(an l h3 _ (ag b3)).trans b3
  have sc3:=And.intro S3.sl.sc S3.sl.cells;have o3:=bg (ag b3);refine aW (Z3 g3 sc3 o3) ?_;have M3:=M2.push (h':=aQ h3 (nb h0 4) ((aO 1 [[Nm]]))) (bq:=nb h0 4::dH) (Ny:=Nm) (TB:=s.fP++[node]) ((c3.mono (λ_ q=>.inr q)).trans (cD (P:=λb=>b=nb h0 4\/b∈sv.cj) (ag b3) (.inl rfl) _ [] (.cons (.inl (.inl rfl)) .nil)) (λ_ q=>.inl q)) (o3.2.2.2.2.1 [] _) (S3.ko (cD (P:=(·=nb h0 4)) (dx:=nb h0 4::dH) (d:=[]) (ag b3) rfl _ [] (.cons (.inl rfl) .nil)) (λb hb=>Fj (S3.At b hb) aZ)) q3;generalize aQ h3 (nb h0 4) ((aO 1 [[Nm]]))=h4 at M3|-;have kx:=(M3.k.get cX (ag X.hX)).trans X.hX;have ke:=(M3.k.get bX (ag X.hE)).trans X.hE;have gx:∀l,aj (aR h4 l) cX=_:=λl=>(an l h4 _ (ag kx)).trans kx
  have ge:∀l,aj (aR h4 l) bX=_:=λl=>(an l h4 _ (ag ke)).trans ke
  obtain⟨rr,VE,N2⟩:=X.he node hr.1 hr.2;refine aW (Z2 gx ge) ?_;refine AlP (rr.getD .aF) (by rw[VE];cases rr<;>rfl) ?_;generalize rr.getD .aF=ev at N2|-;have e4:aT h4 1 ev _:=aT.bw N2 M3.k;have el:=e4.len;rw[length_map]at el;refine aW el ?_;have el1:=X.el node;refine dz (α:=TS×AV×AV×List qb) (e node).length [X30] (λi _=>[Ei (i:Nat)]) (V43 e h0 kq cX g node s) Z aX ⟨(s.begin node,Nm,ov,os),rfl,rfl,⟨M3,λx hx=>?_,S.al⟩,xp.start I hn hg⟩ (λi x m' G hi hP=>?_) (λx m' G hP=>?_)
  .rcases mem_append.1 hx with hx|hx
   .exact S.rg x hx
   .rw[mem_singleton.1 hx];exact hr
  .obtain⟨h5,jg,d5⟩:=m';obtain⟨s1,QM,Nz,FA⟩:=x;obtain⟨Yw,S5,L⟩:=hP;obtain rfl:d5=[]:=Yw;simp only at S5 L;have M5:=S5.m;have r5:=M5.rd;have e5:=(aT.bw N2 M5.k).el hi;unfold cK at e5;have r:=fh hi Z;have em:gt (e node) i∈e node:=bA hi;have tk:(e node).take (i+1)=(e node).take i++[gt (e node) i]:=by rw[take_add_one,getElem?_eq_getElem hi,toList_some,bB hi]
   have nv:node∈s1.mH:=by
    obtain⟨t,ht⟩:=L.v;rw[ht];simp
   have rm:=X.er node _ em;have vn1:s.mH.length+1<=s1.mH.length:=by
    obtain⟨t,ht⟩:=L.v;rw[ht];simp
   generalize gt (e node) i=m at*;refine bH ?_;by_cases c:s1.fU m=0
   .have fm:=Lc (f:=s1.fU) (x:=m) (l:=s1.mH) (λq=>(L.i.vi m).1 q c);refine aW (Z5 e5 r r5 fm @TC.eq_1) ?_;rw[<-fZ];refine Hc (ih _ s1 QM Nz FA h5 jg [] (node::g) m Z S5 L.i c (xp.pre I L em) rm Z) (λv m' p=>p.1) (λw h6 ux hw=>?_);obtain⟨_,s2,sv6,ov6,os6,S6,P⟩:=hw;simp only at S6;have M6:=S6.m;have r6:=M6.rd;obtain⟨v2,Jw⟩:=P.v;have nv2:node∈s2.mH:=by rw[Jw];exact mem_append_left _ nv
    have mv2:m∈s2.mH:=by rw[Jw];simp
    have f1:=qJ (f:=s2.jZ) nv2;have f2:=qJ (f:=s2.jZ) mv2;have e6:=QJ (f:=s2.jZ) nv2 P.i.nd (min (s2.jZ node) (s2.jZ m));have mi:(if s2.jZ m<s2.jZ node then s2.jZ m else s2.jZ node)=min (s2.jZ node) (s2.jZ m):=Z;have o6:=bg (ag M6.ml);refine aW (Z7 r r6 f1 f2 mi e6 o6) ?_;refine⟨(s2.wN node (s2.jZ m),sv6,ov6,os6),rfl,⟨M6.jZ _ _,S6.rg,S6.al⟩,?_⟩;rw[tk];exact xp.Afq I hn L em c P
   .have mv:m∈s1.mH:=(L.i.vi m).2 c;have fm:=qJ (f:=s1.fU) mv;have c0:=eq_false c;have sk:=Jb L.i S5.rg;have g44:=λl lg d=>E44 j s1.fP QM m ⟨aR h5 l,lg,d⟩ (M5.st.sl.bx l) Z
    by_cases cs:m∈s1.fP
    .have Q4:=decide_eq_true cs;have f1:=qJ (f:=s1.jZ) nv;have e6:=QJ (f:=s1.jZ) nv L.i.nd (min (s1.jZ node) (s1.fU m));have mi:(if s1.fU m<s1.jZ node then s1.fU m else s1.jZ node)=min (s1.jZ node) (s1.fU m):=Z;have o6:=bg (ag M5.ml);refine aW (xq e5 r r5 fm c0 g44 Q4 f1 mi e6 o6) ?_;refine⟨(s1.wN node (s1.fU m),QM,Nz,FA),rfl,⟨M5.jZ _ _,S5.rg,S5.al⟩,?_⟩;rw[tk];exact xp.seen I hn L em c cs
    .have Q4:=decide_eq_false cs;refine aW (Z7 e5 r r5 fm c0 g44 Q4) ?_;refine⟨(s1,QM,Nz,FA),rfl,S5,?_⟩;rw[tk];exact xp.done I L c cs
  .obtain⟨h5,jg,d5⟩:=m';obtain⟨s1,QM,Nz,FA⟩:=x;obtain⟨Yw,S5,L⟩:=hP;obtain rfl:d5=[]:=Yw;simp only[take_length]at S5 L;have M5:=S5.m;have r5:=M5.rd;have nv:node∈s1.mH:=by
    obtain⟨t,ht⟩:=L.v;rw[ht];simp
   have r:=cY (e node).length;have f1:=qJ (f:=s1.jZ) nv;have f2:=qJ (f:=s1.fU) nv;refine bH ?_;by_cases cl:s1.jZ node<s1.fU node
   .have c1:=eq_true cl;refine aW (Z5 r r5 f1 f2 c1) ?_;exact⟨s1,QM,Nz,FA,S5,xp.stay I L cl⟩
   .have c1:=eq_false cl;have sk:=Jb L.i S5.rg;obtain⟨ix1,ix2⟩:=L.index I;have kl:s.fP.length<s1.fP.length:=by
     rcases Nat.lt_or_ge s.fP.length s1.fP.length with q|q
     .exact q
     .rw[getElem?_eq_none q]at ix1;cases ix1
    have g45:=λl lg d=>E45 j s1.fP QM node ⟨aR h5 l,lg,d⟩ (M5.st.sl.bx l) Z
    rw[Lf node s1.fP 0 s.fP.length ix1 ix2,Nat.zero_add]at g45;have Po:=xp.take I L cl;have pn:(s1.fP.drop s.fP.length).Nodup:=Po.i.cn _ (by simp[TS.pop]);have pj:∀c'∈s1.all,∀x∈c',x∉s1.fP.drop s.fP.length:=by
     have:=Po.i.dj;simp only[TS.pop]at this;rw[pairwise_append]at this;exactλc' hc=>this.2.2 c' hc _ (mem_singleton.2 rfl)
    have vc:=M5.st.sl.sc;rcases M5.st with⟨h1,_⟩|⟨b,bI,hsv,hb,ht,hk⟩
    .rw[h1]at kl;exact absurd kl (by simp)
    .have gb:∀l,aj (aR h5 l) b=_:=λl=>(an l h5 b (ag hb)).trans hb
     subst hsv;have k1:(s.fP.length<=s1.fP.length)=True:=dy;have k2:=eq_true (Nat.le_refl s1.fP.length);refine aW (yA r r5 f1 f2 c1 g45 gb k1 k2 (@aJ 47 _ rfl aZ)) ?_;rw[<-fZ];have B5:aT h5 1 (.slice b s.fP.length (s1.fP.length-s.fP.length) none) ((s1.fP.drop s.fP.length).map cK):=by
      refine .some b s.fP.length none true bI (by rw[length_map,length_drop]) hb ?_ (λ_ h=>by cases h);rw[length_map,length_drop,<-drop_take,ht,map_drop]
     refine fK (N46 j _ (aR h5 [(aO 1 [[.slice b s.fP.length (s1.fP.length-s.fP.length) none]])]) (nb h5 0::jg) [] (c:=nb h5 0) (by rw[bj];rfl) (B5.bx _) (by rw[length_drop];omega) pn) (λw h6 ux k6 hw=>?_);obtain⟨Ls,oL,pm,ps⟩:=hw;have M6:=M5.bw ((aH aL).trans k6);have r6:=M6.rd;have wr:∀c∈w.cj,h5.length<=c:=λc hc=>by
      have:=oL.At c hc;rw[bV]at this;omega
     have wc:=And.intro oL.sl.sc oL.sl.cells;have o6:=bg (ag M6.cs);have b6:aj h6 b=(aO 1 bI):=((aH aL).trans k6:aY ⟨h5,jg,[]⟩ ⟨h6,ux,[]⟩).get b (ag hb)|>.trans hb
     have gb6:∀l,aj (aR h6 l) b=_:=λl=>(an l h6 b (ag b6)).trans b6
     refine aW (Z5 r6 gb6 k1 k2 o6) ?_;have M7:=M6.push (h':=aQ h6 (nb h0 4) ((aO 1 [[.slice b 0 s.fP.length none]]))) (bq:=nb h0 4::ux) (Ny:=.slice b 0 s.fP.length none) (TB:=s1.fP.take s.fP.length) (cD (P:=λq=>q=nb h0 4\/q∈(AV.slice b 0 s1.fP.length none).cj) (ag M6.cs) (.inl rfl) _ [] (.cons (.inl (.inl rfl)) .nil)) (o6.2.2.2.2.1 [] _) (.some b bI (by rw[length_take,Nat.min_eq_left Z]) ((bP (ag M6.cs) (ag b6) (Fj hk aZ) [] _).trans b6) (by rw[length_take,Nat.min_eq_left Z,map_take,<-ht,take_take,Nat.min_eq_left Z]) hk) (λq hq=>.inl hq);have oL7:cG (nb h0 7) (aQ h6 (nb h0 4) ((aO 1 [[.slice b 0 s.fP.length none]]))) 1 w (Ls.map cK):=cG.ko (lg:=ux) (bq:=nb h0 4::ux) (d:=[]) (d':=[]) (oL.lo (bK M5.z (by rw[bV];omega))) (cD (P:=(·=nb h0 4)) (ag M6.cs) rfl _ [] (.cons (.inl rfl) .nil)) (λq hq=>Fj (bK M5.z (wr q hq)) aZ);generalize aQ h6 (nb h0 4) ((aO 1 [[.slice b 0 s.fP.length none]]))=h7 at M7 oL7|-;have wl:=oL7.sl.len;rw[length_map]at wl;have r7:=M7.rd;have ll:=pm.length_eq;have Lr:∀x∈Ls,1<=x/\x<=16:=λx hx=>by
      have:=pm.mem_iff.1 hx;exact S5.rg x ((L.i.vi x).2 (L.i.c x (mem_of_mem_drop this)))
     have eL:nI (Ls.map Int.toNat)=Ls:=by
      rw[nI,List.map_map];exact(map_congr_left (λx hx=>by have:=Lr x hx;show((x.toNat:Nat):Int)=x;omega)).trans (List.map_id _)
     by_cases c2:1<Ls.length
     .have c3:((1:Int)<(Ls.length:Int))=True:=dy;have y2:2<=(s1.fP.drop s.fP.length).length:=Z;refine aW (Z4 wl wc r7 c3) ?_;have o8:FA.length<=16:=by
       have:=S5.al.len (λc hc x hx=>S5.rg x ((L.i.vi x).2 (L.i.h c hc x hx).2.1));omega
      refine Yu (bs:=24) M7.ou (bK M7.z cB) (by rw[length_map];omega) (λu8 h8 Vj c8 O8 q8=>?_);have b8:=c8.at M7.co (λq=>Fj (M7.ou.At _ q) aZ rfl);have g8:∀l,aj (aR h8 l) (nb h0 5)=_:=λl=>(an l h8 _ (ag b8)).trans b8
      have UM:=And.intro O8.sl.sc O8.sl.cells;have o9:=bg (ag b8);refine aW (Z3 g8 UM o9) ?_;have ky:cG (nb h0 7) h7 1 w ((Ls.map Int.toNat).map fy):=by
       have:(Ls.map Int.toNat).map fy=Ls.map cK:=by
        rw[List.map_map];exact map_congr_left λx hx=>by have:=Lr x hx;show[AV.int .i64 ((x.toNat:Nat):Int)]=[AV.int .i64 x];congr 2;omega
       rw[this];exact oL7
      refine⟨s1.pop s.fP.length,_,u8,FA++[qb.mk w (Ls.map Int.toNat)],⟨M7.put (h':=aQ h8 (nb h0 5) ((aO 1 [[u8]]))) (bq:=nb h0 5::Vj) (y0:=qb.mk w (Ls.map Int.toNat)) ((c8.mono (λ_ q=>.inr q)).trans (cD (P:=λb=>b=nb h0 5\/b∈Nz.cj) (ag b8) (.inl rfl) _ [] (.cons (.inl (.inl rfl)) .nil)) (λ_ q=>.inl q)) (o9.2.2.2.2.1 [] _) ?_ q8 ky ?_,S5.rg,S5.al.add pj (qb.mk w (Ls.map Int.toNat)) (by rw[eL];exact pm) y2 ?_⟩,Po⟩
      .rw[map_append];exact cG.ko (lg:=Vj) (bq:=nb h0 5::Vj) (d:=[]) (d':=[]) O8 (cD (P:=(·=nb h0 5)) (ag b8) rfl _ [] (.cons (.inl rfl) .nil)) (λq hq=>Fj (O8.At q hq) aZ)
      .exactλq hq=>⟨λz=>by have:=wr q hq;have:=M5.st.lt q z;omega,λz=>by have:=wr q hq;have:=M5.ou.lt q z;omega⟩
      .refine pairwise_map.2 (ps.imp_of_mem λ{x y} hx hy q=>?_);have:=Lr x hx;have:=Lr y hy;omega
     .have c3:((1:Int)<(Ls.length:Int))=False:=cR;refine aW (Z2 wl c3) ?_;exact⟨s1.pop s.fP.length,_,Nz,FA,⟨M7,S5.rg,S5.al.skip Z⟩,Po⟩
def nG(L:List (Int×Int))(x:Int):List Int:=(L.filter λp=>decide (p.1=x)).map (·.2)
theorem vy(L:List (Int×Int))(p:Int×Int)(x:Int):nG (L++[p]) x=if p.1=x then nG L x++[p.2]else nG L x:=by
 rw[nG,filter_append,map_append];by_cases h:p.1=x
 .rw[aG h,filter_cons_of_pos (by simp[h])];rfl
 .rw[aq h,filter_cons_of_neg (by simp[h])];simp[nG]
theorem y8{L:List (Int×Int)}{x y:Int}:y∈nG L x↔(x,y)∈L:=by
 rw[nG,mem_map];constructor
 .rintro ⟨p,hp,rfl⟩;obtain⟨h1,h2⟩:=mem_filter.1 hp;have h2:p.1=x:=of_decide_eq_true h2;rw[<-h2];exact h1
 .intro h;exact⟨(x,y),mem_filter.2 ⟨h,decide_eq_true rfl⟩,rfl⟩
section
variable{L:List (Int×Int)}(hL:∀p∈L,(1<=p.1/\p.1<=16)/\(1<=p.2/\p.2<=16))
include hL
theorem Vk{a b:Int}(h:Rc (nG L) a b):∀x y:Nat,a=x->b=y->x=y\/Pk (Fz L) 16 x y:=by
 induction h with
 |refl a=>intro x y h1 h2;exact .inl Z
 |@step a c b hc _ ih=>
  intro x y h1 h2;have m:=y8.1 hc;have r:=hL _ m;simp only at r;have ec:c=((c.toNat:Nat):Int):=Z;have ed:Fz L x c.toNat:=by rw[Fz,<-ec,<-h1];exact m
  rcases ih c.toNat y ec h2 with e|p
  .exact .inr (.one (e▸ed))
  .exact .inr (.step ed Z p)
omit hL in
theorem Lg {x y:Nat} (h:Pk (Fz L) 16 x y):Rc (nG L) x y:=by
 induction h with
 |one h=>exact Rc.one (y8.2 h)
 |step h _ _ ih=>exact .step (y8.2 h) ih
omit hL in
theorem Yx {x y:Nat} (h:Pk (Fz L) 16 x y):∃p∈L,p.1=x:=by
 cases h with
 |one h=>exact⟨_,h,rfl⟩
 |step h _ _=>exact⟨_,h,rfl⟩
theorem TE{s:TS}{os ys:List qb}{M:Nat->Nat->Bool}(hM:∀a b,1<=a/\a<17->1<=b/\b<17->(M a b=true↔Pk (Fz L) 16 a b))(T:Ch (nG L) [] s)(A:AR s.all os)(rv:∀x∈s.mH,1<=x/\x<=16)(hv:∀p∈L,s.fU p.1≠0)(pm:ys.Perm os)(Al7:mO (Tu (λa b:qb=>gr a.l b.l) os) 0 os.length ys):KnL M (ys.map (·.l)):=by
 have ra:=A.rg (λc hc x hx=>rv x ((T.vi x).2 (T.h c hc x hx).2.1));have set:∀z∈os,∀x∈z.l,∀y:Nat,1<=y->y<=16->(y∈z.l↔y=x\/(M x y=true/\M y x=true)):=λz hz x hx y y1 y2=>by
  obtain⟨_,_,c,hc,pc⟩:=A.a z hz;have xr:=ra z hz x hx;have me:∀q:Nat,q∈z.l↔(q:Int)∈c:=λq=>by
   rw[<-pc.mem_iff,nI,mem_map];exact⟨λh=>⟨q,h,rfl⟩,λ⟨r,h,e⟩=>by rw[<-Int.ofNat_inj.1 e];exact h⟩
  obtain⟨_,_,h3⟩:=T.h c hc (x:Int) ((me x).1 hx);rw[me,h3,hM x y Z Z,hM y x Z Z];constructor
  .rintro ⟨p,q⟩;rcases Vk hL p x y rfl rfl with e|p
   .exact .inl e.symm
   .rcases Vk hL q y x rfl rfl with e|q
    .exact .inl e
    .exact .inr ⟨p,q⟩
  .rintro (rfl|⟨p,q⟩)
   .exact⟨.refl _,.refl _⟩
   .exact⟨Lg p,Lg q⟩
 refine⟨λl hl=>?_,λx y x1 x2 y1 y2 ne m1 m2=>?_,?_⟩
 .obtain⟨z,hz,rfl⟩:=mem_map.1 hl;have hz:=pm.mem_iff.1 hz;exact⟨(A.a z hz).2.1,(A.a z hz).1,ra z hz,set z hz⟩
 .have p1:=(hM x y Z Z).1 m1;have p2:=(hM y x Z Z).1 m2;obtain⟨p,hp,e⟩:=Yx p1;have nx:=hv p hp;rw[e]at nx;rcases T.g (x:Int) nx with h|⟨c,hc,hx⟩
  .rw[T.empty]at h;cases h
  .have hy:(y:Int)∈c:=((T.h c hc _ hx).2.2 y).2 ⟨Lg p1,Lg p2⟩;have c2:2<=c.length:=by
    cases c with
    |nil=>cases hx
    |cons a t=>
     cases t with
     |nil=>
      rw[mem_singleton]at hx hy;exact absurd (Int.ofNat_inj.1 (hx.trans hy.symm)) ne
     |cons b t=>simp
   obtain⟨z,hz,pz⟩:=A.b c hc c2;refine⟨z.l,mem_map.2 ⟨z,pm.mem_iff.2 hz,rfl⟩,?_⟩;have:=pz.mem_iff.2 hx;rw[nI,mem_map]at this;obtain⟨r,h,e⟩:=this;rw[<-Int.ofNat_inj.1 e];exact h
 .have dj:ys.Pairwise λy y'=>∀x∈y.l,x∉y'.l:=(pm.pairwise_iff (λ{a b} h x hx uL=>h x uL hx)).2 A.c
  refine pairwise_map.2 (pairwise_iff_getElem.2 λi k hi hk ik=>?_);have e:=pm.length_eq;have a1:=Al7 i k (Nat.zero_le _) ik Z;rw[bB hi,bB hk]at a1;have m1:ys[i]∈os:=pm.mem_iff.1 (getElem_mem hi);have m2:ys[k]∈os:=pm.mem_iff.1 (getElem_mem hk);have n1:¬gr ys[k].l ys[i].l<0:=λq=>by
   have:=(Fg (c:=λa b:qb=>gr a.l b.l) (λ{a b}=>sI a.l b.l) (λ{a b d}=>p9 a.l b.l d.l) (λ{a b d}=>KY) m2 (y:=ys[i])).1 q;omega
  refine Decidable.byContradiction λn2=>?_
  have el:=yX _ _ n2 n1;have d:=pairwise_iff_getElem.1 dj i k hi hk ik;have l2:=(A.a _ m1).1;obtain⟨x,hx⟩:=exists_mem_of_length_pos (l:=ys[i].l) Z;exact d x hx (by rw[<-el];exact hx)
end
theorem AlQ{L:List (Int×Int)}:∃M:Nat->Nat->Bool,(∀a b,1<=a/\a<17->1<=b/\b<17->(M a b=true↔Pk (Fz L) 16 a b))/\AQ L 16 1 1 M:=by
 classical
 exact⟨λa b=>decide (Pk (Fz L) 16 a b),λa b _ _=>by simp,λa b _ _ h=>by simpa using h,λa b _ _ h=>by simpa using h,λa b ha hb h=>Z⟩
theorem Lh{f:Int->AV}{k x:Int}{v:AV}(h:x=k):rE f k v x=v:=aG h
structure Zo(h0:aN)(kq:List Nat)(w:List AV)(L:List (Int×Int))(x:List Int×(Int->AV))(m:Mem):Prop where
 k:aY ⟨h0,kq,[]⟩ m
 z:nb h0 2<=m.ah.length
 c:aj m.ah (nb h0 1)=(aO 1 [[.map (nb h0 0)]])
 mm:aj m.ah (nb h0 0)=some (.map (Ja x.1 x.2))
 nd:x.1.Nodup
 no:∀a,a∉x.1->x.2 a=.aF/\nG L a=[]
 ye:∀a∈x.1,∃b,x.2 a=.slice b 0 (nG L a).length none/\nb h0 2<=b/\aj m.ah b=(aO 1 ((nG L a).map cK))
 dj:∀a∈x.1,∀b∈x.1,a≠b->∀q∈(x.2 a).cj,q∉(x.2 b).cj
theorem Zo.At{h0:aN}{kq:List Nat}{w:List AV}{L:List (Int×Int)}{ks:List Int}{f:Int->AV}{m:Mem}(I:Zo h0 kq w L (ks,f) m)(a:Int):∀q∈(f a).cj,nb h0 2<=q/\q<m.ah.length:=by
 by_cases c:a∈ks
 .obtain⟨b,e,k,hb⟩:=I.ye a c;have e:f a=_:=e;rw[e];intro q hq;simp[AV.cj]at hq;rw[hq];exact⟨k,ag hb⟩
 .have e:f a=_:=(I.no a c).1;rw[e];intro q hq;cases hq
theorem Zo.put{h0:aN}{kq:List Nat}{w:List AV}{L:List (Int×Int)}{ks:List Int}{f:Int->AV}{h3 h':aN}{dH bq:List Nat}(I:Zo h0 kq w L (ks,f) ⟨h3,dH,[]⟩)(p:Int×Int){nn:Nat}(fr:dG (λq=>q=nb h0 0\/q∈(f p.1).cj) ⟨h3,dH,[]⟩ ⟨h',bq,[]⟩)
 (hm:aj h' (nb h0 0)=some (.map (Ja (if p.1∈ks then ks else ks++[p.1]) (rE f p.1 (.slice nn 0 ((nG L p.1).length+1) none))))) (hn:h3.length<=nn) (hb:aj h' nn=(aO 1 ((nG L p.1).map cK++[cK p.2]))):Zo h0 kq w (L++[p]) (if p.1∈ks then ks else ks++[p.1],rE f p.1 (.slice nn 0 ((nG L p.1).length+1) none)) ⟨h',bq,[]⟩:=by
 have z:=I.z;have rg:=λa=>I.At a
 simp only at z rg;have mem:∀a,a∈(if p.1∈ks then ks else ks++[p.1])↔a=p.1\/a∈ks:=λa=>by
  split
  .rename_i c;exact⟨.inr,λq=>q.elim (λe=>e▸c) id⟩
  .rw[mem_append,mem_singleton];exact Or.comm
 have nP:∀q,q≠nb h0 0->q<nb h0 2->¬(q=nb h0 0\/q∈(f p.1).cj):=λq h1 h2 c=>by
  rcases c with c|c
  .exact h1 c
  .have:=(rg _ q c).1;omega
 refine⟨I.k.ko fr λq c=>?_,bK z fr.len,fr.at I.c (nP _ (by simp[nb]) (by simp[nb])),hm,?_,λa ha=>?_,λa ha=>?_,λa ha b kJ ne=>?_⟩
 .rcases c with c|c
  .rw[c];exact aB
  .have:=(rg _ q c).1;simp only[nb]at*;omega
 .show(if p.1∈ks then ks else ks++[p.1]).Nodup;split
  .exact I.nd
  .rename_i c;exact nodup_append.2 ⟨I.nd,by simp,λa ha b hb e=>by rw[mem_singleton.1 hb]at e;exact c (e▸ha)⟩
 .have ha:¬a∈_:=ha;rw[mem]at ha;have h1:a≠p.1:=λe=>ha (.inl e)
  have h2:a∉ks:=λe=>ha (.inr e)
  obtain⟨n1,n2⟩:=I.no a h2;exact⟨(oS h1).trans n1,by rw[vy,aq (Ne.symm h1)];exact n2⟩
 .have ha:a∈_:=ha;rw[mem]at ha;by_cases e:a=p.1
  .subst e;refine⟨nn,?_,bK z hn,?_⟩
   .show rE f p.1 _ p.1=_;rw[A8,vy,aG rfl,length_append];rfl
   .rw[vy,aG rfl,map_append];exact hb
  .obtain⟨b,e1,e2,e3⟩:=I.ye a (ha.resolve_left e);have e1:f a=_:=e1;refine⟨b,?_,e2,?_⟩
   .show rE f p.1 _ a=_;rw[oS e,vy,aq (Ne.symm e)];exact e1
   .rw[vy,aq (Ne.symm e)];refine fr.at e3 λc=>?_
    rcases c with c|c
    .rw[c]at e2;simp only[nb]at e2;omega
    .by_cases pk:p.1∈ks
     .exact I.dj p.1 pk a (ha.resolve_left e) (Ne.symm e) b c (by show b∈(f a).cj;rw[e1];simp[AV.cj])
     .rw[show f p.1=_ from(I.no p.1 pk).1]at c;cases c
 .have ha:a∈_:=ha;have kJ:b∈_:=kJ;rw[mem]at ha kJ;show∀q∈(rE f p.1 _ a).cj,q∉(rE f p.1 _ b).cj;intro q h1 h2;by_cases e:a=p.1
  .have e':b≠p.1:=λc=>ne (e.trans c.symm)
   rw[Lh e]at h1;rw[oS e']at h2;have:=(rg b q h2).2;simp[AV.cj]at h1;omega
  .by_cases e':b=p.1
   .rw[Lh e']at h2;rw[oS e]at h1;have:=(rg a q h1).2;simp[AV.cj]at h2;omega
   .rw[oS e]at h1;rw[oS e']at h2;exact I.dj a (ha.resolve_left e) b (kJ.resolve_left e') ne q h1 h2
structure W15(L:List (Int×Int))(h0:aN)(kq:List Nat)(cX:Nat)(vs:List VX)(i:Nat)(x:TS×AV×AV×List qb)(m:Mem):Prop where
 d:m.aV=[]
 s:SSt h0 kq (.func 43 [] (TC h0 cX)) x.1 x.2.1 x.2.2.1 x.2.2.2 m.ah m.hU
 t:Ch (nG L) [] x.1
 v:∀q,q<i->x.1.fU (gt vs q).v.eB.node≠0
theorem TF(s:cE)(l:List bF):∀p∈xF l s.d.cA s.d.bu s.d.bu.length,∃i,i<s.vs.length/\(gt s.vs i).v.eB.node=p.1:=by
 have nl:s.d.bu.length=s.vs.length:=by simp[cE.d]
 have row:∀i,i<s.d.bu.length->∀k,∀p∈kY l s.d.cA s.d.bu i k,∃i,i<s.vs.length/\(gt s.vs i).v.eB.node=p.1:=λi hi k=>by
  induction k with
  |zero=>intro p hp;cases hp
  |succ k ih=>
   intro p hp;rw[kY]at hp;rcases mem_append.1 hp with hp|hp
   .exact ih p hp
   .rw[QD]at hp;split at hp
    .have gi:gt s.d.bu i=(gt s.vs i).v:=gY Z;rw[mem_singleton.1 hp,gi];exact⟨i,Z,rfl⟩
    .cases hp
 have all:∀i,i<=s.d.bu.length->∀p∈xF l s.d.cA s.d.bu i,∃i,i<s.vs.length/\(gt s.vs i).v.eB.node=p.1:=λi=>by
  induction i with
  |zero=>intro _ p hp;cases hp
  |succ i ih=>
   intro hi p hp;rw[xF]at hp;rcases mem_append.1 hp with hp|hp
   .exact ih Z p hp
   .exact row i Z _ p hp
 exact all _ cB
theorem Fk{h:aN}{a:Nat}(ha:a<h.length)(k:Nat):a.beq (nb h k)=false:=by
 rw[Bool.eq_false_iff];intro c;have:=Nat.eq_of_beq_eq_true c;simp only[nb]at this;omega
theorem N15(lg d:List Nat){s:cE}{l:List bF}{v:AV}{bS:Bool}(hg:aj h 0=some (.row bS 1 fM))(hO:Cz s)(H:bQ h s)(hN:yI s)(hv:aT h 6 v (l.map bY))(hw:l.length<=40)(q_:262<=j/\31<=j/\30<=j/\23<=j/\15<=j:=by omega):
 Wa FT MT (SM j) (n+300000) (.fn 15) [.agg (cJ s),v] ⟨aR h [],lg,d⟩ (Qk ⟨h,lg,d⟩ (KtQ h s.d l)):=by
 refine aI ?_;have c1:=H.v.sc;have c2:=H.l.sc;refine aW (Z3 @cJ.eq_1 c1 c2) ?_;rw[<-fZ];refine fK (N13 j _ (aR h [(aO 3 [cJ s])]) _ _ (s:=s) ((an _ h 0 (ag hg)).trans hg) hO (H.bx _) hN (hv.bx _) hw) (λw h2 dx k2 og=>?_);have K2:aY ⟨h,lg,[]⟩ ⟨h2,dx,[]⟩:=(aH aL).trans k2;have kk:∀{l bq},dm h2 dx bq->aY ⟨h,lg,d⟩ ⟨aR h2 l,bq,d⟩:=λ{l bq} q=>(K2.trans (aH q)).sub
 obtain⟨u,⟨hz,rfl,rfl⟩|⟨hz,hp,rfl,rfl⟩|⟨hz,hp,rfl,ou⟩⟩:=og
 .refine aW (Z2 hz @mZ) ?_;exact⟨kk aL,.aF,[],λ_ _=>false,.inl ⟨hz,rfl,rfl,rfl⟩,.nil rfl rfl,λy hy=>by cases hy⟩
 .refine aW (Z2 hp @mZ) ?_;exact⟨kk aL,.aF,[],λ_ _=>false,.inr (.inl ⟨hz,hp,rfl,rfl,rfl⟩),.nil rfl rfl,λy hy=>by cases hy⟩
 .have lu:=ou.sl.len;rw[length_map]at lu;have rg:=La (l:=l) hz;have src:=TF s l;have pl:(xF l s.d.cA s.d.bu s.d.bu.length).length<=300:=by
   have:=v7 l s.d.cA s.d.bu s.d.bu.length;have:=(fV hz).1;have:=Nat.mul_le_mul this this;omega
  obtain⟨L,hL⟩:∃L,xF l s.d.cA s.d.bu s.d.bu.length=L:=⟨_,rfl⟩;rw[hL]at rg src pl ou lu;refine aW lu ?_;refine dz (α:=List Int×(Int->AV)) L.length [X30] (λi _=>[Ei (i:Nat)]) (λi x m=>Zo h2 dx (cJ s) (L.take i) x m) Z aX ⟨([],λ_=>.aF),rfl,aH aL,by show _<=(aR h2 _).length;rw[bV];exact cB,by rw[bj];rfl,by rw[bj];rfl,nodup_nil,λa _=>⟨rfl,rfl⟩,λa ha=>(by cases ha),λa ha=>(by cases ha)⟩ (λi x m' g hi hP=>?_) (λx m' g hP=>?_)
  .obtain⟨h3,dH,d3⟩:=m';obtain⟨ks,f⟩:=x;have I:=hP;obtain rfl:d3=[]:=I.k.aV;have e:=(aT.bw (m:=⟨h2,dx,[]⟩) (m':=⟨h3,dH,[]⟩) ou.sl I.k).el hi;unfold I9 at e;have r:=fh hi Z;have tk:L.take (i+1)=L.take i++[gt L i]:=by rw[take_add_one,getElem?_eq_getElem hi,toList_some,bB hi]
   have r2:=rg _ (bA hi);generalize gt L i=p at*;have gc:=λl=>(an l h3 _ (ag I.c)).trans I.c
   have gm:=λl=>(an l h3 _ (ag I.mm)).trans I.mm
   have q0:=Fk (ag I.mm);have q1:=Fk (ag I.c);have fs:=y7 f p.1 ks;refine bH ?_;by_cases c:p.1∈ks
   .rw[aG c]at fs;have se:=λv=>CP f p.1 v ks I.nd
    simp only[aG c]at se;obtain⟨b,fb,kb,hb⟩:=I.ye _ c;have fb:f p.1=_:=fb;rw[fb]at fs;have bn:nb h2 0≠b:=λq=>by simp only[nb]at*;omega
    have gb:∀l,aj (aR h3 l) b=_:=λl=>(an l h3 b (ag hb)).trans hb
    have o:=jY (ag hb) (ag I.mm) bn;have o1:=bg (ag hb);have sl:(nG (L.take i) p.1).length<=i:=by
     rw[nG,length_map];refine bK (length_filter_le _ _) ?_;rw[length_take];omega
    have fA:(1000000000000<((nG (L.take i) p.1).length+1)*8)=False:=by simp;omega
    have fC:List.take (nG (L.take i) p.1).length ((nG (L.take i) p.1).map cK)=(nG (L.take i) p.1).map cK:=take_of_length_le (by simp);have MS:=λl x=>bP (ag hb) (ag I.mm) bn l x
    have q2:=Fk (ag hb);have rf:=I7 (nG (L.take i) p.1);have q3:(nb h3 0).beq b=false:=by
     rw[Bool.eq_false_iff];intro c;have:=Nat.eq_of_beq_eq_true c;have:=ag hb;simp only[nb]at*;omega
    have q4:(nb h2 1).beq b=false:=by
     rw[Bool.eq_false_iff];intro c;have:=Nat.eq_of_beq_eq_true c;simp only[nb]at*;omega
    refine aW (gX e r gc gm gb I.mm MS fs se o o1 (Z9 q0 q1 q2 q3 q4 rf fA @fB fC)) ?_;rw[tk];refine⟨_,I.put p (nn:=nb h3 2) ((cD (P:=λq=>q=nb h2 0\/q∈(f p.1).cj) (ag hb) (.inr (by rw[fb];simp[AV.cj])) none [] .nil).trans (cD (P:=λq=>q=nb h2 0\/q∈(f p.1).cj) (h:=aQ h3 b none) (by rw[bJ (ag hb)];exact ag I.mm) (.inl rfl) _ _ ?_) (λq hq=>.inl hq)) ?_ aB (o.2.1 _ _ _ 2)⟩
    .have l3:(aQ h3 b none).length=h3.length:=bJ (ag hb);rw[l3];exact .cons (.inl (.inl rfl)) (.cons (.inr aB) (.cons (.inl (.inr (by rw[fb];simp[AV.cj]))) (.cons (.inr aB) (.cons (.inr aB) (.cons (.inr aB) .nil)))))
    .rw[aG c];exact o.2.2.2.2.1 _ _ _
   .rw[aq c]at fs;have se:=λv=>CP f p.1 v ks I.nd
    simp only[aq c]at se;have o:=bg (ag I.mm);refine aW (Z9 e r gc gm fs se o q0 q1) ?_;have s0:nG (L.take i) p.1=[]:=(I.no p.1 c).2;rw[tk];refine⟨_,I.put p (nn:=nb h3 2) (cD (P:=λq=>q=nb h2 0\/q∈(f p.1).cj) (ag I.mm) (.inl rfl) _ _ ?_) ?_ aB ?_⟩
    .exact .cons (.inl (.inl rfl)) (.cons (.inr aB) (.cons (.inr aB) (.cons (.inr aB) (.cons (.inr aB) .nil))))
    .rw[aq c,s0];exact o.2.2.2.2.1 _ _
    .rw[s0];exact o.2.1 _ _ 2
  .obtain⟨h3,dH,d3⟩:=m';obtain⟨ks,f⟩:=x;have I:=hP;obtain rfl:d3=[]:=I.k.aV;rw[take_length]at I;have r:=cY L.length;refine bH ?_;have X:NxT (nG L) h3 (nb h2 1) (nb h2 0) (Ja ks f) true:=⟨I.c,I.mm,λa _ _=>⟨_,y7 f a ks,?_⟩,λa b hb=>?_,λa=>?_⟩
   .have b0:aj h3 (nb h 0)=(aO 3 [cJ s]):=(I.k.get _ (gA (show nb h 0<(aR h [(aO 3 [cJ s])]).length by rw[bV];simp[nb]) k2.len)).trans ((k2.get _ (show nb h 0<(aR h [(aO 3 [cJ s])]).length by rw[bV];simp[nb])).trans (by rw[bj];rfl));have g0:=λl=>(an l h3 _ (ag b0)).trans b0
    have H3:bQ h3 s:=bQ.bw (m:=⟨h,lg,[]⟩) (m':=⟨h3,dH,[]⟩) H (K2.trans I.k);have QE:=H3.v.len;rw[length_map]at QE;simp only[cJ]at g0;have Al9:s.vs.length<=16:=by
     have:=(fV hz).1;simpa[cE.d]using this
    have nr:∀i,i<s.vs.length->1<=(gt s.vs i).v.eB.node/\(gt s.vs i).v.eB.node<=16:=λi hi=>by
     have gi:gt s.d.bu i=(gt s.vs i).v:=gY hi;have:=pU ((fV hz).2 i (by simpa[cE.d]using hi)).1;rw[gi]at this;exact⟨this.1,this.2.1⟩
    refine aW (Z3 r g0 QE) ?_;refine dz (α:=TS×AV×AV×List qb) s.vs.length [X52] (λi _=>[Ei (i:Nat)]) (λi x m=>W15 L h3 dH (nb h2 1) s.vs i x m) Z aX ⟨(TS.zero,.aF,.aF,[]),rfl,rfl,⟨⟨?_,?_,?_,?_,?_,?_,?_,?_,?_,.nil rfl rfl,.nil rfl rfl,λb hb=>(by cases hb),λy hy=>(by cases hy)⟩,λx hx=>(by cases hx),⟨λy hy=>(by cases hy),λc hc=>(by cases hc),List.Pairwise.nil⟩⟩,Ch.zero,λq hq=>absurd hq (Nat.not_lt_zero q)⟩ (λi x m' G hi hP=>?_) (λx m' G hP=>?_)
    .exact aH aL
    .rw[bV];exact cB
    .rw[bj];rfl
    .rw[bj];rfl
    .rw[bj];rfl
    .rw[bj];rfl
    .rw[bj];rfl
    .rw[bj];rfl
    .rw[bj];rfl
    .obtain⟨h5,jg,d5⟩:=m';obtain⟨s1,QM,Nz,FA⟩:=x;obtain⟨Yw,S5,T5,v5⟩:=hP;obtain rfl:d5=[]:=Yw;simp only at S5 T5 v5;have M5:=S5.m;have r5:=M5.rd;have H5:bQ h5 s:=bQ.bw (m:=⟨h,lg,[]⟩) (m':=⟨h5,jg,[]⟩) H ((K2.trans I.k).trans M5.k);have e5:=H5.v.el hi;unfold dI at e5;have va5:=H5.va _ (bA hi);have ri:=fh hi Z;have rn:=nr i hi;obtain⟨y,hy⟩:∃y,gt s.vs i=y:=⟨_,rfl⟩;rw[hy]at e5 va5 rn;have y1:=va5.s.b.sc;have y2:=va5.s.m.sc;have y3:=va5.s.p.v.sc;have y4:=va5.q.v.sc;refine bH ?_;by_cases c:s1.fU y.v.eB.node=0
     .have fm:=Lc (f:=s1.fU) (x:=y.v.eB.node) (l:=s1.mH) (λq=>(T5.vi _).1 q c);refine aW (Z9 e5 ri r5 y1 y2 y3 y4 fm @TC.eq_1) ?_;rw[<-fZ];have key:=λK bq (q:dm h5 jg bq)=>N43 X j ⟨Z,Z,Z⟩ 16 (n+299999) s1 QM Nz FA (aR h5 K) bq [] [] y.v.eB.node Z ⟨M5.bw (aH q),S5.rg,S5.al⟩ T5 c (λx hx=>by cases hx) rn Z
      simp only[nN,TC]at key;refine Hc (key _ _ aL) (λv m' p=>p.1) (λw h6 ux hw=>?_);obtain⟨_,s2,sv6,ov6,os6,S6,P⟩:=hw;simp only at S6;refine aW ri ?_;refine⟨(s2,sv6,ov6,os6),rfl,S6,P.i,λq hq=>?_⟩;show s2.fU _≠0;rcases Nat.lt_or_ge q i with c'|c'
      .rw[P.k _ (v5 q c')];exact v5 q c'
      .obtain rfl:q=i:=Z;rw[hy];exact P.nz
     .have fm:=qJ (f:=s1.fU) ((T5.vi _).2 c);have c0:=eq_false c;refine aW (Z9 e5 ri r5 y1 y2 y3 y4 fm c0) ?_;refine⟨(s1,QM,Nz,FA),rfl,⟨M5.bw (aH aL),S5.rg,S5.al⟩,T5,λq hq=>?_⟩;show s1.fU _≠0;rcases Nat.lt_or_ge q i with c'|c'
      .exact v5 q c'
      .obtain rfl:q=i:=Z;rw[hy];exact c
    .obtain⟨h5,jg,d5⟩:=m';obtain⟨s1,QM,Nz,FA⟩:=x;obtain⟨Yw,S5,T5,v5⟩:=hP;obtain rfl:d5=[]:=Yw;simp only at S5 T5 v5;have M5:=S5.m;have r5:=M5.rd;have ri:=cY s.vs.length;refine bH ?_;refine aW (Z2 ri r5) ?_;rw[<-fZ];have o8:2*FA.length<=16:=S5.al.len (λc hc x hx=>S5.rg x ((T5.vi x).2 (T5.h c hc x hx).2.1));obtain⟨M,hM,hW⟩:=AlQ (L:=L);have Rj:∀p∈L,s1.fU p.1≠0:=λp hp=>by
      obtain⟨i,hi,e⟩:=src p hp;rw[<-e];exact v5 i hi
     have yl:∀y∈FA,y.l.length<=17:=λy hy=>by
      have h1:=(S5.al.a y hy).2.1;have h2:=CQ (l:=nI y.l) (pairwise_map.2 (h1.imp λ{a b} q c=>by have:=Int.ofNat_inj.1 c;omega)) λx hx=>by
       obtain⟨a,ha,rfl⟩:=mem_map.1 hx;have:=S5.al.rg (λc hc x hx=>S5.rg x ((T5.vi x).2 (T5.h c hc x hx).2.1)) y hy a ha;omega
      rw[nI,length_map]at h2;omega
     have hK:∀x∈FA,∀y∈FA,(gr x.l y.l<0↔Tu (λa b:qb=>gr a.l b.l) FA x<Tu (λa b:qb=>gr a.l b.l) FA y):=λx hx y hy=>Fg (c:=λa b:qb=>gr a.l b.l) (λ{a b}=>sI a.l b.l) (λ{a b d}=>p9 a.l b.l d.l) (λ{a b d}=>KY) hx
     refine dE _ _ _ _ _ _ (λw m6 hw=>?_) (N48 j _ h5 jg [] M5.ou Z (λx hx b hb=>⟨(M5.kn x hx).1.sl,?_,λc hc e=>((M5.kn x hx).2 c hc).2 (e▸hb)⟩) hK)
     .obtain⟨h6,ux,d6⟩:=m6;obtain⟨k6,ys,oy,pm,Al7⟩:=hw;obtain rfl:d6=[]:=k6.aV;have b6:=k6.at M5.co (λq=>Fj (M5.ou.At _ q) aZ rfl);have g6:∀l,aj (aR h6 l) (nb h3 5)=_:=λl=>(an l h6 _ (ag b6)).trans b6
      refine bH ?_;refine aW (Z2 g6 @mZ) ?_;have K6:aY ⟨h,lg,[]⟩ ⟨h6,ux,[]⟩:=((K2.trans I.k).trans M5.k).ko k6 λb hb=>by
       have:=M5.ou.At b hb;have:=(K2.trans I.k).len;simp only[nb]at*;omega
      refine⟨K6.sub,Nz,ys,M,.inr (.inr ⟨hz,hp,rfl,by rw[hL];exact hW,?_⟩),oy.lo ?_,λy hy=>?_⟩
      .exact TE rg hM T5 S5.al S5.rg Rj pm Al7|>QI
      .have:=(K2.trans I.k).len;simp only[nb]at*;omega
      .have ky:=(M5.kn y (pm.mem_iff.1 hy)).1.ko k6 (λb hb=>((M5.kn y (pm.mem_iff.1 hy)).2 b hb).2);have a1:=(S5.al.a y (pm.mem_iff.1 hy)).1;exact⟨ky.sl,Z,yl y (pm.mem_iff.1 hy),ky.sl.sc⟩
     .have:=yl x hx;omega
   .by_cases c:a∈ks
    .obtain⟨b,e,_,hb⟩:=I.ye a c;have e:f a=_:=e;rw[aG c,getD_some,e];exact .some b 0 none true _ (by rw[length_map]) hb (by rw[drop_zero,take_length]) (λ_ h=>by cases h)
    .rw[aq c,getD_none,(I.no a c).2];exact .none rfl (.inl rfl)
   .have:=rg _ (y8.1 hb);exact this.2
   .rw[nG,length_map];exact bK (length_filter_le _ _) Z
theorem QO{l:List fR}(h:first (gl l) l.length=0):(l.map (·.id)).Nodup:=by
 have step:∀i,i+1<l.length->zI (gt l i).id (gt l (i+1)).id<0:=λi hi=>by
  have hz:=(iE l.length 0).1 (show t7 (gl l) 0 _=0 from h) (i+1) Z Z;rw[gl]at hz;split at hz
  .omega
  .split at hz
   .omega
   .rename_i q;simp only[Nat.add_sub_cancel]at q;omega
 have all:∀k i,i+k+1<l.length->zI (gt l i).id (gt l (i+k+1)).id<0:=λk=>by
  induction k with
  |zero=>intro i hi;exact step i hi
  |succ k ih=>
   intro i hi;exact IA (ih i Z) (step (i+k+1) hi)
 refine pairwise_map.2 (pairwise_iff_getElem.2 λi k hi hk ik e=>?_);have:=all (k-i-1) i Z;rw[show i+(k-i-1)+1=k by omega,bB hi,bB hk,e]at this;have:=Kt.1 this;omega
theorem Li{x:iF}{n:Int}:∀{l:List fR},(l.map (·.id)).Nodup->IC l n x=if ME l x=true then[n]else[]
 |[],_=>rfl
 |b::l,h=>by
  obtain⟨h1,h2⟩:=nodup_cons.1 h;have ih:=Li (x:=x) (n:=n) h2;rw[IC,filterMap_cons,ME,any_cons];by_cases c:b.id=x
  .have:ME l x≠true:=λq=>by
    obtain⟨y,hy,e⟩:=List.any_eq_true.1 q;exact h1 (mem_map.2 ⟨y,hy,(of_decide_eq_true e).trans c.symm⟩)
   rw[aq this]at ih;rw[aG c,decide_eq_true c];show n::IC l n x=_;rw[ih];rfl
  .rw[aq c,decide_eq_false c,Bool.false_or];exact ih
theorem QP{D:kG}(hz:dU D=0)(x:iF):na D.bu x=mT D.bu x:=by
 have key:∀v∈D.bu,(v.st.held.map (·.id)).Nodup:=λv hv=>by
  obtain⟨i,hi,e⟩:=getElem_of_mem hv;have q:=yH ((fV hz).2 i hi).2.1;rw[bB hi,e]at q;have s:=q.1;rw[d8]at s;split at s
  .omega
  .split at s
   .omega
   .split at s
    .omega
    .split at s
     .omega
     .rename_i c;exact QO Z
 rw[na,mT];generalize D.bu=l at key;induction l with
 |nil=>rfl
 |cons v l ih=>
  rw[filterMap_cons,flatMap_cons,<-ih (λu hu=>key u (.tail _ hu)),Li (key v (.head _))];split
  .rename_i h;split at h
   .cases h
   .rename_i c;rw[aq c];rfl
  .rename_i h;split at h
   .rename_i c;cases h;rw[aG c];rfl
   .cases h
theorem N7(lg d:List Nat)(l:List bF)(v:AV)(hv:aT h 6 v (l.map bY))(hw:l.length<=1000)(q_:0<=j:=by omega):Wa FT MT (SM j) (n+1000) (.fn 7) [v] ⟨aR h [],lg,d⟩ (Qk ⟨h,lg,d⟩ λw h'=>nD h.length h' 6 w (l.map bY)):=by
 refine aI ?_;have el:=hv.IH;by_cases hn:l=[]
 .subst hn;have ap:=λq bU=>qE (aj (aR h q)) bU 6 48 v (el q)
  refine aW (Z2 @mZ ap) ?_;exact yJ
 .have ap:=λq bU=>qF (aj (aR h q)) bU 6 48 v _ (el q) (λz=>hn (map_eq_nil_iff.1 z)) (by rw[length_map,show dQ=1000000000000 from rfl];omega)
  refine aW (Z2 @mZ ap) ?_;exact yK bj (by simp) aB
theorem E5(m:Mem)(h0:aj m.ah 0=some (.row false 1 fM))(h1:aj m.ah 1=some (.row false 1 uZ)):SM j 5 [] m=some (.bool true,m):=by
 rw[yy 0 j (Nat.zero_le j) (.inl aZ)];refine aG ⟨rfl,rfl,λb x hx=>?_⟩;match b,hx with
 |0,hx=>cases hx;exact h0
 |1,hx=>cases hx;exact h1
theorem Lj(l:List Nat):l.map fy=(nI l).map n9:=by
 rw[nI,List.map_map];rfl
theorem E17(xs ys:List qb)(v w:AV)(m:Mem)(hv:aT m.ah 1 v (xs.map zb))(hw:aT m.ah 1 w (ys.map zb))(kx:∀x∈xs,K9 m.ah x)(ky:∀x∈ys,K9 m.ah x)(he:xs.map (·.l)=ys.map (·.l))(hl:xs.length<=1000)(q_:335<=j:=by omega):SM j 17 [v,w] m=some (.bool true,m):=by
 obtain⟨h,lg,d⟩:=m;refine aP 1999 q_ λn=>?_
 have lv:=hv.len;have lw:=hw.len;have ll:ys.length=xs.length:=by have:=congrArg List.length he;simpa using this.symm
 rw[length_map]at lv lw;rw[ll]at lw;refine aW (Z2 lv lw) ?_;refine bL xs.length [X5] (λi=>[Ei i]) (λi=>True) Z aX ⟨rfl,trivial⟩ (λi h' bq g hi hP hK=>?_) (λh' bq g hP hK=>?_)
 .have a:=hK.aA lg d;have lV:i<ys.length:=Z;have e:=(hK.sl hv).el hi;have e2:=(hK.sl hw).el lV;have r:=fh hi Z;have x1:=kx _ (bA hi);have y1:=ky _ (bA lV);have el:(gt xs i).l=(gt ys i).l:=by
   have:=congrArg (λl=>gt l i) he;simp only[D4 hi,D4 lV]at this;exact this
  have x3:aT h' 1 (gt xs i).v ((nI (gt xs i).l).map n9):=by rw[<-Lj];exact hK.sl x1.1
  have y3:aT h' 1 (gt ys i).v ((nI (gt xs i).l).map n9):=by rw[el,<-Lj];exact hK.sl y1.1
  have g12:=λl lg d=>E12 (335-1) (nI (gt xs i).l) (gt xs i).v (gt ys i).v ⟨aR h' l,lg,d⟩ (x3.bx l) (y3.bx l) (by rw[nI,length_map];have:=x1.2.2.1;omega)
  unfold zb at e e2;exact aC (Z6 a e e2 r lv g12)
 .have a:=hK.aA lg d;have r:=cY xs.length;exact aC (Z3 a r lv)
end Go.Abs
end
