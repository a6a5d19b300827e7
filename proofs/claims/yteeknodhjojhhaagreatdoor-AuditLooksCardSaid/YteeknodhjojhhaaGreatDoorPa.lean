/- Functions of the program on symbolic values
   Conditions: none. -/
import Derived.Test.YteeknodhjojhhaaGreatDoorTz
set_option linter.unusedSimpArgs false
set_option linter.unusedVariables false
set_option maxRecDepth 100000
set_option maxHeartbeats 16000000
noncomputable section
namespace Go.Abs
open List Option IntKind
variable(j n:Nat)(h:aN)
section
variable{F:FuncId->Option bD}{au:bR}{sm:ct}
def qY(x:Int×Int×Int):Bool:=decide (x.2.1<=x.1)&&decide (x.1<=x.2.2)
theorem E65(l:List (Int×Int×Int))(v:AV)(m:Mem)(hv:aT m.ah 3 v (l.map Su))(hw:l.length<=1000)(q_:19<=j:=by omega):SM j 65 [v] m=some (.bool (decide (l.all qY=true)),m):=by
 obtain⟨h,lg,d⟩:=m;refine aP 1999 q_ λn=>?_
 have lv:=hv.len;refine aW lv ?_;refine bL l.length [.l (.l (.l .z))] (λi=>[Ei i]) (λi=>l.all qY=(l.drop i).all qY) Z aX ⟨rfl,rfl⟩ (λi h' bq g hi hP hK=>?_) (λh' bq g hP hK=>?_)
 .have a:=hK.aA lg d;have e:=(hK.sl hv).Uu hi;have r:=fh hi Z;unfold Su at e;rw[drop_eq_getElem_cons hi,all_cons]at hP;refine aW (Z3 a e r) ?_;exact⟨λc=>by simp[hP,qY];omega,λc=>⟨λc'=>by simp[hP,qY];omega,λc'=>by simp[hP,qY];omega⟩⟩
 .have a:=hK.aA lg d;have r:=cY l.length;refine aW (Z2 a r) ?_;simpa using hP
def xu(x:iF):Int:=if x.n<1\/16<x.n\/1099511627776<x.s\/x.o<0\/20000<=x.o then 2 else 0
theorem Xk(x:iF)(m:Mem)(q_:20<=j:=by omega):SM j 32 [.agg (gQ x)] m=some (Ei (xu x),m):=by
 obtain⟨h,lg,d⟩:=m;refine aP 1999 q_ λn=>?_
 have g:=λl lg d (q:fj l 1=(aO 3 [[Ei x.n,Ei 1,Ei 16],[Ei x.o,Ei 0,Ei 19999]]))=>E65 19 [(x.n,1,16),(x.o,0,19999)] (.slice (nb h 1) 0 2 (some 2)) ⟨aR h l,lg,d⟩ (.some (nb h 1) 0 (some 2) true _ rfl (by rw[bj,q]) rfl (λ_ h=>by cases h;simp)) (by simp)
 simp only[all_cons,all_nil,qY]at g;refine aW (Z2 @gQ.eq_1 g) ?_;(repeat' first|apply And.intro|intro _)<;>(simp only[xu]<;>(repeat' split)<;>first|rfl|omega)
theorem Y0(x:iF)(m:Mem)(q_:87<=j:=by omega):SM j 35 [.agg (gQ x)] m=some (Ei (xu x),m):=by
 obtain⟨h,lg,d⟩:=m;refine aP 1999 q_ λn=>?_
 refine aW @gQ.eq_1 ?_;(repeat' first|apply And.intro|intro _)<;>(simp only[xu]<;>(repeat' split)<;>first|rfl|omega)
theorem DU(x:iF):xu x=0\/xu x=2:=by unfold xu;split<;>simp
def j0(b:fR):Int:=
 if xu b.id≠0 then 2 else if b.jF<1\/16<b.jF\/b.kZ<0\/2<b.kZ\/b.born<0\/1099511627776<b.born\/b.iO<1\/1048576<b.iO\/b.eO<1\/20000<b.eO then 2
 else if b.data.length=0 then 11 else if 1000<(b.data.length:Int)then 4 else if b.eO-b.data.length<b.id.o then 12 else 0
theorem Mn(b:fR)(m:Mem)(w1:b.data.length<=1000000)(w2:I b.eO)(q_:21<=j:=by omega):SM j 107 [.agg (dt b)] m=some (Ei (j0 b),m):=by
 obtain⟨h,lg,d⟩:=m;refine aP 1999 q_ λn=>?_
 have g2:=Xk 20 b.id;unfold gQ at g2;have g:=λl lg d (q:fj l 1=(aO 3 [[Ei b.jF,Ei 1,Ei 16],[Ei b.kZ,Ei 0,Ei 2],[Ei b.born,Ei 0,Ei 1099511627776],[Ei b.iO,Ei 1,Ei 1048576],[Ei b.eO,Ei 1,Ei 20000]]))=>E65 20 [(b.jF,1,16),(b.kZ,0,2),(b.born,0,1099511627776),(b.iO,1,1048576),(b.eO,1,20000)] (.slice (nb h 1) 0 5 (some 5)) ⟨aR h l,lg,d⟩ (.some (nb h 1) 0 (some 5) true _ rfl (by rw[bj,q]) rfl (λ_ h=>by cases h;simp)) (by simp)
 simp only[all_cons,all_nil,qY]at g;have w:=λ(q1:1<=b.eO) (q2:b.eO<=20000)=>(aU (x:=b.eO-b.data.length) Z Z)
 refine aW (Z4 @dt.eq_1 g2 g w) ?_;have z:=DU b.id;(repeat' first|apply And.intro|intro _)<;>(simp only[j0]<;>(repeat' split)<;>first|rfl|omega)
theorem Pw(b:fR)(m:Mem)(w1:b.data.length<=1000000)(w2:I b.eO)(q_:94<=j:=by omega):SM j 136 [.agg (dt b)] m=some (Ei (j0 b),m):=by
 obtain⟨h,lg,d⟩:=m;refine aP 1999 q_ λn=>?_
 have g2:=Y0 93 b.id;unfold gQ at g2;have w:=λ(q1:xu b.id=0)=>(aU (x:=b.id.o+b.data.length) (by simp only[xu]at q1;split at q1<;>omega) (by simp only[xu]at q1;split at q1<;>omega))
 refine aW (Z3 @dt.eq_1 g2 w) ?_;have z:=DU b.id;(repeat' first|apply And.intro|intro _)<;>(simp only[j0]<;>(repeat' split)<;>first|rfl|omega)
def gI(a b:Int):Int:=if a<b then-1 else if b<a then 1 else 0
theorem Aft(a:Int)(m:Mem)(q_:13<=j:=by omega):SM j 166 [Ei a] m=some (.bool false,m):=by
 obtain⟨h,lg,d⟩:=m;refine aP 1999 q_ λn=>?_
 exact aK
theorem Ajg(a:Int)(m:Mem)(q_:69<=j:=by omega):SM j 296 [Eu a] m=some (.bool false,m):=by
 obtain⟨h,lg,d⟩:=m;refine aP 1999 q_ λn=>?_
 exact aK
theorem Px(a b:Int)(m:Mem)(q_:14<=j:=by omega):SM j 103 [Ei a,Ei b] m=some (Ei (gI a b),m):=by
 obtain⟨h,lg,d⟩:=m;refine aP 1999 q_ λn=>?_
 have g:=λa=>Aft 13 a
 refine aW g ?_;(repeat' first|apply And.intro|intro _)<;>(simp only[gI]<;>(repeat' split)<;>first|rfl|omega)
theorem Ajh(a b:Int)(m:Mem)(q_:70<=j:=by omega):SM j 251 [Eu a,Eu b] m=some (Ei (gI a b),m):=by
 obtain⟨h,lg,d⟩:=m;refine aP 1999 q_ λn=>?_
 have g:=λa=>Ajg 69 a
 refine aW g ?_;(repeat' first|apply And.intro|intro _)<;>(simp only[gI]<;>(repeat' split)<;>first|rfl|omega)
theorem Aji(a b:Int)(m:Mem)(q_:95<=j:=by omega):SM j 258 [Ei a,Ei b] m=some (Ei (gI a b),m):=by
 obtain⟨h,lg,d⟩:=m;refine aP 1999 q_ λn=>?_
 refine aS ?_;(repeat' first|apply And.intro|intro _)<;>(simp only[gI]<;>(repeat' split)<;>first|rfl|omega)
def zI(a b:iF):Int:=if gI a.n b.n≠0 then gI a.n b.n else if gI a.s b.s≠0 then gI a.s b.s else gI a.o b.o
theorem Xl(a b:iF)(m:Mem)(q_:96<=j:=by omega):SM j 184 [.agg (gQ a),.agg (gQ b)] m=some (Ei (zI a b),m):=by
 obtain⟨h,lg,d⟩:=m;refine aP 1999 q_ λn=>?_
 have g:=λa b=>Aji 95 a b
 refine aW (Z2 @gQ.eq_1 g) ?_;(repeat' first|apply And.intro|intro _)<;>(simp only[zI,gI]<;>(repeat' split)<;>first|rfl|omega)
def Ra:List Int->Int
 |[]=>0
 |x::l=>if x=0 then Ra l else x
def n9(x:Int):List AV:=[Ei x]
theorem Xm(l:List Int)(v:AV)(m:Mem)(hv:aT m.ah 1 v (l.map n9))(hw:l.length<=1000)(q_:68<=j:=by omega):SM j 139 [v] m=some (Ei (Ra l),m):=by
 obtain⟨h,lg,d⟩:=m;refine aP 1999 q_ λn=>?_
 have lv:=hv.len;refine aW lv ?_;refine bL l.length [.r (.l (.l .z))] (λi=>[Ei i]) (λi=>Ra l=Ra (l.drop i)) Z aX ⟨rfl,rfl⟩ (λi h' bq g hi hP hK=>?_) (λh' bq g hP hK=>?_)
 .have a:=hK.aA lg d;have e:=(hK.sl hv).Uu hi;have r:=fh hi Z;unfold n9 at e;rw[drop_eq_getElem_cons hi,Ra]at hP;refine aW (Z3 a e r) ?_;exact⟨λc=>by rw[hP,aq c],λc=>by rw[hP,aG c]⟩
 .have a:=hK.aA lg d;have r:=cY l.length;refine aW (Z2 a r) ?_;simp[hP,Ra]
end
section
variable{F:FuncId->Option bD}{au:bR}{sm:ct}
theorem Xn(a b:iF)(m:Mem)(q_:71<=j:=by omega):SM j 179 [.agg (gQ a),.agg (gQ b)] m=some (Ei (zI a b),m):=by
 obtain⟨h,lg,d⟩:=m;refine aP 1999 q_ λn=>?_
 have g1:=λa b=>Px 70 a b
 have g2:=λa b=>Ajh 70 a b
 have g:=λl lg d (q:fj l 2=(aO 1 [[Ei (gI a.n b.n)],[Ei (gI a.s b.s)],[Ei (gI a.o b.o)]]))=>Xm 70 [gI a.n b.n,gI a.s b.s,gI a.o b.o] (.slice (nb h 2) 0 3 (some 3)) ⟨aR h l,lg,d⟩ (.some (nb h 2) 0 (some 3) true _ rfl (by rw[bj,q]) rfl (λ_ h=>by cases h;simp)) (by simp)
 refine aW (Z4 @gQ.eq_1 g1 g2 g) ?_;simp only[Ra,zI];repeat' split
 all_goals omega
def Cj(x:rZ):Int:=if xu x.id≠0\/x.Ss<0\/1099512676352<x.Ss then 2 else 0
theorem SK(x:rZ):Cj x=0\/Cj x=2:=by unfold Cj;split<;>simp
def kH(l:List rZ)(i:Nat):Int:=
 if Cj (gt l i)≠0 then 2 else if 0<i/\0<=zI (gt l (i-1)).id (gt l i).id then 19 else 0
theorem Ajj(x:rZ)(m:Mem)(q_:72<=j:=by omega):SM j 248 [.agg (nV x)] m=some (Ei (Cj x),m):=by
 obtain⟨h,lg,d⟩:=m;refine aP 1999 q_ λn=>?_
 have g:=Xk 71 x.id;unfold gQ at g;refine aW (Z2 @nV.eq_1 g) ?_;(repeat' first|apply And.intro|intro _)<;>(simp only[Cj]<;>(repeat' split)<;>first|rfl|omega)
theorem Afu(l:List rZ)(v:AV)(m:Mem)(hv:aT m.ah 4 v (l.map nV))(hw:l.length<=1000)(q_:73<=j:=by omega):SM j 176 [v] m=some (.tuple [Ei (first (kH l) l.length),Ei (jd (kH l) l.length)],m):=by
 obtain⟨h,lg,d⟩:=m;refine aP 1999 q_ λn=>?_
 have lv:=hv.len;refine aW lv ?_;refine bL l.length [X9] (λi=>[Ei i]) (FP (kH l) l.length) Z aX ⟨rfl,FP.zero _ _⟩ (λi h' bq g hi hP hK=>?_) (λh' bq g hP hK=>?_)
 .have a:=hK.aA lg d;have e:=(hK.sl hv).el hi;have p:=(hK.sl hv).pv hi Z;have r:=fh hi Z;have g1:=Ajj 72 (gt l i);have g2:=Xn 72 (gt l (i-1)).id (gt l i).id;unfold nV at e p g1;unfold gQ at g2;refine aW (Z6 a e p r g1 g2) ?_;have z:=SK (gt l i);(repeat' first|apply And.intro|intro _)<;>(first|(refine hP.next hi ?_)|(refine hP.s1 hi ?_)|(refine hP.s2 hi ?_))<;>(simp only[kH]<;>(repeat' split)<;>omega)
 .have a:=hK.aA lg d;have r:=cY l.length;refine aW (Z2 a r) ?_;simp[hP.dF]
theorem Ajk(x:iF)(m:Mem)(q_:97<=j:=by omega):SM j 259 [.agg (gQ x)] m=some (.bool (decide (xu x=0)),m):=by
 obtain⟨h,lg,d⟩:=m;refine aP 1999 q_ λn=>?_
 refine aW @gQ.eq_1 ?_;(repeat' first|apply And.intro|intro _)<;>(simp only[xu]<;>(repeat' split)<;>first|rfl|(simp;done)|(simp;omega)|omega)
theorem Ajl(x:Int)(m:Mem)(q_:98<=j:=by omega):SM j 260 [Ei x] m=some (.bool (decide (0<=x/\x<=1099512676352)),m):=by
 obtain⟨h,lg,d⟩:=m;refine aP 1999 q_ λn=>?_
 exact aK
theorem Afv(l:List rZ)(v:AV)(m:Mem)(hv:aT m.ah 4 v (l.map nV))(hw:l.length<=1000)(q_:99<=j:=by omega):SM j 185 [v] m=some (.tuple [Ei (first (kH l) l.length),Ei (jd (kH l) l.length)],m):=by
 obtain⟨h,lg,d⟩:=m;refine aP 1999 q_ λn=>?_
 refine aS ?_;refine bL l.length [X4] (λi=>[Ei i]) (FP (kH l) l.length) Z aX ⟨rfl,FP.zero _ _⟩ (λi h' bq g hi hP hK=>?_) (λh' bq g hP hK=>?_)
 .have a:=hK.aA lg d;have e:=(hK.sl hv).el hi;have p:=(hK.sl hv).pv hi Z;have r:=fh hi Z;have lv:=hv.len;have g1:=Ajk 98 (gt l i).id;have g2:=Xl 98 (gt l (i-1)).id (gt l i).id;have g3:=Ajl 98 (gt l i).Ss;unfold nV at e p;unfold gQ at g1 g2;refine aW (Z8 a e p r g1 g2 g3 lv) ?_;(repeat' first|apply And.intro|intro _)<;>(first|(refine hP.next hi ?_)|(refine hP.s1 hi ?_)|(refine hP.s2 hi ?_))<;>(simp only[kH,Cj]<;>(repeat' split)<;>omega)
 .have a:=hK.aA lg d;have r:=cY l.length;have lv:=hv.len;refine aW (Z3 a r lv) ?_;simp[hP.dF]
end
section
variable{F:FuncId->Option bD}{au:bR}{sm:ct}
def SL(l:List (Int×Int))(n:Int):Bool:=l.any λx=>decide (x.1<=n/\n<x.2)
theorem Xo(R:iJ)(t k:AV)(m:Mem)(ht:t.cU=true)(hk:k.cU=true)(h1:R.r<=R.g)(h2:0<=R.r)(h3:R.g<=18446744073709551615)(q_:60<=j:=by omega):SM j 256 [.agg (eZ R t k)] m=some (Eu (R.g-R.r),m):=by
 obtain⟨h,lg,d⟩:=m;refine aP 1999 q_ λn=>?_
 have w1:u64.wrap (R.g-R.r)=R.g-R.r:=dB Z Z;exact aC (Z4 @eZ.eq_1 ht hk w1)
theorem Ajm(y:Int×Int)(x:Int)(b:Nat)(bS:Bool)(m:Mem)(hb:aj m.ah b=some (.row bS 1 [[Eu x]]))(q_:61<=j:=by omega):SM j 299 [.agg (lG y),.ptr b 0 0] m=some (.bool (decide (y.1<=x/\x<y.2)),m):=by
 obtain⟨h,lg,d⟩:=m;refine aP 1999 q_ λn=>?_
 have kJ:=λl=>(an l h b (ag hb)).trans hb
 exact aC (Z2 @lG.eq_1 kJ)
def iP{α:Type}(p:α->Bool):Nat->List α->Int
 |_,[]=>-1
 |i,x::l=>if p x=true then i else iP p (i+1) l
theorem Ajn(l:List (Int×Int))(v:AV)(x:Int)(b:Nat)(bS:Bool)(m:Mem)(hv:aT m.ah 2 v (l.map lG))(hw:l.length<=1000)(hb:aj m.ah b=some (.row bS 1 [[Eu x]]))(q_:62<=j:=by omega):SM j 321 [v,.func 299 [] [.ptr b 0 0]] m=some (Ei (iP (λy=>decide (y.1<=x/\x<y.2)) 0 l),m):=by
 obtain⟨h,lg,d⟩:=m;refine aP 1999 q_ λn=>?_
 have lv:=hv.len;refine aW lv ?_;refine bL l.length [X8] (λi=>[Ei i]) (λi=>iP (λy=>decide (y.1<=x/\x<y.2)) 0 l=iP (λy=>decide (y.1<=x/\x<y.2)) i (l.drop i)) Z aX ⟨rfl,rfl⟩ (λi h' bq g hi hP hK=>?_) (λh' bq g hP hK=>?_)
 .have a:=hK.aA lg d;have e:=(hK.sl hv).el hi;have r:=fh hi Z;have g1:=λl' lg d=>Ajm 61 (gt l i) x b bS ⟨aR h' l',lg,d⟩ ((an l' h' b (gA (ag hb) hK.len)).trans ((hK.get b (ag hb)).trans hb))
  unfold lG at e g1;rw[drop_eq_getElem_cons hi,iP,<-bB hi]at hP;refine aW (Z4 a e r g1) ?_;exact⟨λc=>by rw[hP,aG (decide_eq_true c)],λc=>by rw[hP,aq (λq=>c (of_decide_eq_true q))]⟩
 .have a:=hK.aA lg d;have r:=cY l.length;refine aW (Z2 a r) ?_;rw[hP,drop_length];rfl
theorem pQ{α:Type}(p:α->Bool):∀(l:List α) (i:Nat),(0<=iP p i l)↔l.any p=true
 |[],i=>by simp[iP]
 |x::l,i=>by
  rw[iP,any_cons];cases h:p x with
  |true=>simp
  |false=>simpa using pQ p l (i+1)
theorem Ajo(l:List (Int×Int))(v:AV)(x:Int)(b:Nat)(bS:Bool)(m:Mem)(hv:aT m.ah 2 v (l.map lG))(hw:l.length<=1000)(hb:aj m.ah b=some (.row bS 1 [[Eu x]]))(q_:63<=j:=by omega):SM j 298 [v,.func 299 [] [.ptr b 0 0]] m=some (.bool (decide (SL l x=true)),m):=by
 obtain⟨h,lg,d⟩:=m;refine aP 1999 q_ λn=>?_
 have g1:=λl' lg d=>Ajn 62 l v x b bS ⟨aR h l',lg,d⟩ (hv.bx l') hw ((an l' h b (ag hb)).trans hb)
 refine aW g1 ?_;rw[SL,decide_eq_decide];exact pQ _ _ _
theorem Ajp(l:List (Int×Int))(v:AV)(x:Int)(m:Mem)(hv:aT m.ah 2 v (l.map lG))(hw:l.length<=1000)(q_:64<=j:=by omega):SM j 257 [v,Eu x] m=some (.bool (decide (SL l x=true)),m):=by
 obtain⟨h,lg,d⟩:=m;refine aP 1999 q_ λn=>?_
 have g1:=λl' lg d (q:fj l' 0=(aO 1 [[Eu x]]))=>Ajo 63 l v x (nb h 0) true ⟨aR h l',lg,d⟩ (hv.bx l') hw (by rw[bj,q])
 exact aC g1
def mz(R:iJ)(i:Nat):Int:=
 if(gt R.cH i).2<=(gt R.cH i).1\/(gt R.cH i).1<R.f\/(0<i/\(gt R.cH i).1<=(gt R.cH (i-1)).2)then 19 else if R.g-R.r<(gt R.cH i).2 then 14 else 0
def t9(R:iJ)(i:Nat):Int:=
 if 0<i/\gt R.jW i<=gt R.jW (i-1)then 19 else if¬SL R.cH (gt R.jW i)=true then 12 else 0
def ft(R:iJ):Int×Int:=
 if 1125899906842624<R.g then(2,0)else if R.g<R.r\/R.g-R.r<R.f then(14,0)else if 1000<(R.cH.length:Int)\/1000<(R.jW.length:Int)then(5,0)
 else if first (mz R) R.cH.length≠0 then(first (mz R) R.cH.length,jd (mz R) R.cH.length)
 else(first (t9 R) R.jW.length,jd (t9 R) R.jW.length)
structure lx(h:aN)(R:iJ)(t k:AV):Prop where
 t:aT h 2 t (R.cH.map lG)
 k:aT h 1 k (R.jW.map kU)
 g0:0<=R.r
 g1:R.g<=18446744073709551615
theorem lx.bx{h:aN}{R:iJ}{t k:AV}(H:lx h R t k)(l:List (Option bp)):lx (aR h l) R t k:=⟨H.t.bx l,H.k.bx l,H.g0,H.g1⟩
theorem Afw(R:iJ)(t k:AV)(m:Mem)(H:lx m.ah R t k)(q_:65<=j:=by omega):SM j 182 [.agg (eZ R t k)] m=some (.tuple [Ei (ft R).1,Ei (ft R).2],m):=by
 obtain⟨h,lg,d⟩:=m;refine aP 1999 q_ λn=>?_
 obtain⟨ht,hk,w1,w2⟩:=H;have c1:=ht.sc;have c2:=hk.sc;have Xp:=λ(p:¬R.g<R.r) m=>Xo 64 R t k m c1 c2 Z w1 w2
 unfold eZ at Xp;have lt:=ht.len;have lk:=hk.len;refine aW (Z6 @eZ.eq_1 Xp lt lk c1 c2) ?_;refine⟨λq1=>by simp[ft,q1],λq1=>⟨λq2=>by simp[ft,q1,q2],λq2=>⟨λq3=>by simp[ft,q1,q2,q3],λq3=>⟨λq4=>by simp[ft,q1,q2,q3,q4],λq4=>⟨λq5=>by simp[ft,q1,q2,q3,q4,q5],λq5=>?_⟩⟩⟩⟩⟩;have g1:=Xp q2;have e0:ft R=if first (mz R) R.cH.length≠0 then(first (mz R) R.cH.length,jd (mz R) R.cH.length)else(first (t9 R) R.jW.length,jd (t9 R) R.jW.length):=by simp only[ft,q1,q2,q3,q4,q5,if_false,_root_.or_self]
 refine bL R.cH.length [X39] (λi=>[Ei i]) (FP (mz R) R.cH.length) Z aX ⟨rfl,FP.zero _ _⟩ (λi h' bq g hi hP hK=>?_) (λh' bq g hP hK=>?_)
 .have a:=hK.aA lg d;have e:=(hK.sl ht).el hi;have p:=(hK.sl ht).pv hi Z;have r:=fh hi Z;unfold lG at e p;refine aW (Z5 a e p r g1) ?_;have f1:∀x:Int,mz R i=x/\x≠0->(x=(ft R).1/\(i:Int)=(ft R).2):=λx hx=>by
   rw[e0,aG (by rw[<-hP.s1 hi hx];exact hx.2)];exact⟨hP.s1 hi hx,hP.s2 hi (by rw[hx.1];exact hx.2)⟩
  (repeat' first|(refine f1 _ ?_)|apply And.intro|intro _)<;>(try refine hP.next hi ?_)<;>first|omega|(simp only[mz]<;>(repeat' split)<;>omega)
 .have a:=hK.aA lg d;have r:=cY R.cH.length;have lk:=hk.len;refine aW (Z3 a r lk) ?_;refine bL R.jW.length [X85] (λi=>[Ei i]) (FP (t9 R) R.jW.length) Z aX ⟨rfl,FP.zero _ _⟩ (λi h2 dx g2 hi mh iL=>?_) (λh2 dx g2 mh iL=>?_)
  .have a2:=iL.aA bq d;have a:=aY.aA (hK.trans iL) lg d;have e:=(iL.sl (hK.sl hk)).el hi;have p:=(iL.sl (hK.sl hk)).pv hi Z;have r:=fh hi Z;have hz:=hP.dF;have g2:=λl lg d=>Ajp 64 R.cH t (gt R.jW i) ⟨aR h2 l,lg,d⟩ ((iL.sl (hK.sl ht)).bx l) Z
   unfold kU at e p;refine aW (Z6 a a2 e p r g2) ?_;have f1:∀x:Int,t9 R i=x/\x≠0->(x=(ft R).1/\(i:Int)=(ft R).2):=λx hx=>by
    rw[e0,aq (by rw[hz.1];omega)];exact⟨mh.s1 hi hx,mh.s2 hi (by rw[hx.1];exact hx.2)⟩
   (repeat' first|(refine f1 _ ?_)|apply And.intro|intro _)<;>(try refine mh.next hi ?_)<;>first|omega|(simp only[t9]<;>(repeat' split)<;>first|omega|(exfalso;simp_all;omega))
  .have a:=aY.aA (hK.trans iL) lg d;have r:=cY R.jW.length;have hz:=hP.dF;refine aW (Z2 a r) ?_;rw[e0,aq (by rw[hz.1];omega)];simp[mh.dF]
end
section
variable{F:FuncId->Option bD}{au:bR}{sm:ct}
theorem Py(y:Int×Int)(l:List (Int×Int))(x:Int):SL (y::l) x=(decide (y.1<=x/\x<y.2)||SL l x):=rfl
theorem Ajq(l:List (Int×Int))(v:AV)(x:Int)(m:Mem)(hv:aT m.ah 2 v (l.map lG))(hw:l.length<=1000)(q_:90<=j:=by omega):SM j 261 [v,Eu x] m=some (.bool (decide (SL l x=true)),m):=by
 obtain⟨h,lg,d⟩:=m;refine aP 1999 q_ λn=>?_
 have lv:=hv.len;refine aS ?_;refine bL l.length [X5] (λi=>[Ei i]) (λi=>SL l x=SL (l.drop i) x) Z aX ⟨rfl,rfl⟩ (λi h' bq g hi hP hK=>?_) (λh' bq g hP hK=>?_)
 .have a:=hK.aA lg d;have e:=(hK.sl hv).el hi;have r:=fh hi Z;unfold lG at e;rw[drop_eq_getElem_cons hi,Py,<-bB hi]at hP;refine aW (Z4 a e r lv) ?_;refine⟨λc=>⟨λc'=>?_,λc'=>?_⟩,λc=>?_⟩
  .simp[hP,c,c']
  .simp only[c,c',and_false,decide_false,Bool.false_or]at hP;exact hP
  .simp only[c,false_and,decide_false,Bool.false_or]at hP;exact hP
 .have a:=hK.aA lg d;have r:=cY l.length;refine aW (Z3 a r lv) ?_;rw[hP,drop_length];rfl
theorem Afx(R:iJ)(t k:AV)(m:Mem)(H:lx m.ah R t k)(q_:91<=j:=by omega):SM j 187 [.agg (eZ R t k)] m=some (.tuple [Ei (ft R).1,Ei (ft R).2],m):=by
 obtain⟨h,lg,d⟩:=m;refine aP 1999 q_ λn=>?_
 obtain⟨ht,hk,w1,w2⟩:=H;have c1:=ht.sc;have c2:=hk.sc;have lt:=ht.len;have lk:=hk.len;have wr:=λ(p:¬R.g<R.r)=>(dB (x:=R.g-R.r) Z Z)
 refine aW (Z6 @eZ.eq_1 wr lt lk c1 c2) ?_;refine⟨λq1=>by simp[ft,q1],λq1=>⟨λq2=>by simp[ft,q1,q2],λq2=>⟨λq3=>by simp[ft,q1,q2,q3],λq3=>⟨λq4=>by simp[ft,q1,q2,q3,q4],λq4=>⟨λq5=>by simp[ft,q1,q2,q3,q4,q5],λq5=>?_⟩⟩⟩⟩⟩;have wr':=wr q2;have e0:ft R=if first (mz R) R.cH.length≠0 then(first (mz R) R.cH.length,jd (mz R) R.cH.length)else(first (t9 R) R.jW.length,jd (t9 R) R.jW.length):=by simp only[ft,q1,q2,q3,q4,q5,if_false,_root_.or_self]
 refine bL R.cH.length [X4] (λi=>[Ei i]) (FP (mz R) R.cH.length) Z aX ⟨rfl,FP.zero _ _⟩ (λi h' bq g hi hP hK=>?_) (λh' bq g hP hK=>?_)
 .have a:=hK.aA lg d;have e:=(hK.sl ht).el hi;have p:=(hK.sl ht).pv hi Z;have r:=fh hi Z;unfold lG at e p;refine aW (Z6 a e p r wr' lt) ?_;have f1:∀x:Int,mz R i=x/\x≠0->(x=(ft R).1/\(i:Int)=(ft R).2):=λx hx=>by
   rw[e0,aG (by rw[<-hP.s1 hi hx];exact hx.2)];exact⟨hP.s1 hi hx,hP.s2 hi (by rw[hx.1];exact hx.2)⟩
  (repeat' first|(refine f1 _ ?_)|apply And.intro|intro _)<;>(try refine hP.next hi ?_)<;>first|omega|(simp only[mz]<;>(repeat' split)<;>omega)
 .have a:=hK.aA lg d;have r:=cY R.cH.length;refine aW (Z3 a r lt) ?_;refine bL R.jW.length [X6] (λi=>[Ei i]) (FP (t9 R) R.jW.length) Z aX ⟨rfl,FP.zero _ _⟩ (λi h2 dx g2 hi mh iL=>?_) (λh2 dx g2 mh iL=>?_)
  .have a2:=iL.aA bq d;have a:=aY.aA (hK.trans iL) lg d;have e:=(iL.sl (hK.sl hk)).el hi;have p:=(iL.sl (hK.sl hk)).pv hi Z;have r:=fh hi Z;have hz:=hP.dF;have g2:=λl lg d=>Ajq 90 R.cH t (gt R.jW i) ⟨aR h2 l,lg,d⟩ ((iL.sl (hK.sl ht)).bx l) Z
   unfold kU at e p;refine aW (Z7 a a2 e p r g2 lk) ?_;have f1:∀x:Int,t9 R i=x/\x≠0->(x=(ft R).1/\(i:Int)=(ft R).2):=λx hx=>by
    rw[e0,aq (by rw[hz.1];omega)];exact⟨mh.s1 hi hx,mh.s2 hi (by rw[hx.1];exact hx.2)⟩
   (repeat' first|(refine f1 _ ?_)|apply And.intro|intro _)<;>(try refine mh.next hi ?_)<;>first|omega|(simp only[t9]<;>(repeat' split)<;>first|omega|(exfalso;simp_all;omega))
  .have a:=aY.aA (hK.trans iL) lg d;have r:=cY R.jW.length;have hz:=hP.dF;refine aW (Z3 a r lk) ?_;rw[e0,aq (by rw[hz.1];omega)];simp[mh.dF]
end
section
variable{F:FuncId->Option bD}{au:bR}{sm:ct}
structure jS(h:aN)(S:jt)(s:AV):Prop where
 s:aT h 5 s (S.bN.map gW)
 g0:0<=S.r
 n0:0<=S.n
 g1:S.g<=18446744073709551615
 n1:S.n<=18446744073709551615
 u:∀x∈S.bN,0<=x.off/\0<=x.size
def yB(l:List kF)(x:iF):Nat->Bool
 |0=>false
 |i+1=>yB l x i||decide ((gt l i).id=x)
theorem zJ(l:List kF)(x:iF):∀i,yB l x i=true↔∃k,k<i/\(gt l k).id=x
 |0=>by simp[yB]
 |i+1=>by
  rw[yB,Bool.or_eq_true,zJ l x i,decide_eq_true_eq];constructor
  .rintro (⟨k,h1,h2⟩|h)
   .exact⟨k,Z,h2⟩
   .exact⟨i,Z,h⟩
  .rintro ⟨k,h1,h2⟩;rcases Nat.lt_or_ge k i with h|h
   .exact .inl ⟨k,h,h2⟩
   .exact .inr (by rw[show i=k by omega];exact h2)
theorem vj(a b:iF):(a.n=b.n/\a.s=b.s/\a.o=b.o)↔a=b:=by
 cases a;cases b;simp
def kX(S:jt)(i:Nat):Int:=
 if(gt S.bN i).size=0\/xu (gt S.bN i).id≠0 then 2
 else if S.n<(gt S.bN i).off\/S.n-(gt S.bN i).off<(gt S.bN i).size\/(0<i/\(gt S.bN i).off<(gt S.bN (i-1)).off+(gt S.bN (i-1)).size)then 19
 else if yB S.bN (gt S.bN i).id i=true then 9 else 0
def ji(S:jt):Int×Int:=
 if 1125899906842624<S.g then(2,0)else if S.g<S.r\/S.g-S.r<S.n then(14,0)else if 100<(S.bN.length:Int)then(5,0)
 else(first (kX S) S.bN.length,jd (kX S) S.bN.length)
theorem Ajr(S:jt)(s:AV)(i:Nat)(m:Mem)(H:jS m.ah S s)(hi:i<S.bN.length)(hw:S.bN.length<=1000)(hn:S.n<=1125899906842624)(hb:(∀j,j<i->kX S j=0))(q_:88<=j:=by omega):SM j 215 [.agg (eG S s),Ei i] m=some (Ei (kX S i),m):=by
 obtain⟨h,lg,d⟩:=m;refine aP 1999 q_ λn=>?_
 have c1:=H.s.sc;have e:=H.s.el hi;have p:=H.s.pv hi Z;have g:=Y0 87 (gt S.bN i).id;have u1:=H.u (gt S.bN i) (by rw[bB hi];exact getElem_mem hi);have w1:=λ(q:¬S.n<(gt S.bN i).off)=>(dB (x:=S.n-(gt S.bN i).off) Z (by have:=H.n1;omega))
 have w2:0<(i:Int)->u64.wrap ((gt S.bN (i-1)).off+(gt S.bN (i-1)).size)=(gt S.bN (i-1)).off+(gt S.bN (i-1)).size:=λq=>by
  have u2:=H.u (gt S.bN (i-1)) (by rw[bB Z];exact getElem_mem Z);have hz:=hb (i-1) Z;rw[dB Z];simp only[kX]at hz;split at hz
  .omega
  .split at hz
   .omega
   .omega
 unfold gW at e p;unfold gQ at g;refine aW (Z7 @eG.eq_1 c1 e p g w1 w2) ?_;have key:∀x:Int,(¬((gt S.bN i).size=0\/xu (gt S.bN i).id≠0))->(¬(S.n<(gt S.bN i).off\/S.n-(gt S.bN i).off<(gt S.bN i).size\/(0<i/\(gt S.bN i).off<(gt S.bN (i-1)).off+(gt S.bN (i-1)).size)))->x=(if yB S.bN (gt S.bN i).id i=true then 9 else 0)->x=kX S i:=λx q1 q2 q3=>by
  rw[q3,kX,aq q1,aq q2]
 (repeat' first|apply And.intro|intro _)<;>first|(simp only[kX]<;>(repeat' split)<;>omega)|skip
 all_goals
  refine bL i [X6] (λk=>[Ei k]) (λk=>yB S.bN (gt S.bN i).id k=false) Z aX ⟨rfl,rfl⟩ (λk h' bq g2 hk hP hK=>?_) (λh' bq g2 hP hK=>?_)
  .have a:=hK.aA lg d;have e2:=(hK.sl H.s).el (i:=k) Z;have e3:=(hK.sl H.s).el hi;have r:=fh hk Z;unfold gW at e2 e3;refine aW (Z3 a e2 r) ?_;rw[vj];refine⟨λc=>?_,λc=>?_⟩
   .refine key _ Z Z ?_;rw[aG ((zJ _ _ _).2 ⟨k,hk,c⟩)]
   .rw[yB,hP,decide_eq_false c];rfl
  .have a:=hK.aA lg d;have r:=cY i;refine aW (Z2 a r) ?_;refine key _ Z Z ?_;rw[hP];rfl
theorem Xq(S:jt)(s:AV)(m:Mem)(H:jS m.ah S s)(q_:89<=j:=by omega):SM j 145 [.agg (eG S s)] m=some (.tuple [Ei (ji S).1,Ei (ji S).2],m):=by
 obtain⟨h,lg,d⟩:=m;refine aP 1999 q_ λn=>?_
 have c1:=H.s.sc;have ls:=H.s.len;have g0:=H.g0;have g1:=H.g1;have wr:=λ(p:¬S.g<S.r)=>(dB (x:=S.g-S.r) Z Z)
 refine aW (Z4 @eG.eq_1 c1 ls wr) ?_;refine⟨λq1=>by simp[ji,q1],λq1=>⟨λq2=>by simp[ji,q1,q2],λq2=>⟨λq3=>by simp[ji,q1,q2,q3],λq3=>⟨λq4=>by simp[ji,q1,q2,q3,q4],λq4=>?_⟩⟩⟩⟩;have e0:ji S=(first (kX S) S.bN.length,jd (kX S) S.bN.length):=by simp only[ji,q1,q2,q3,q4,if_false,_root_.or_self]
 refine bL S.bN.length [X4] (λi=>[Ei i]) (λi=>FP (kX S) S.bN.length i/\∀j,j<i->kX S j=0) Z aX ⟨rfl,FP.zero _ _,λj hj=>Z⟩ (λi h' bq g hi ⟨hP,hB⟩ hK=>?_) (λh' bq g ⟨hP,hB⟩ hK=>?_)
 .have a:=hK.aA lg d;have r:=fh hi Z;have g2:=λl lg d=>Ajr 88 S s i ⟨aR h' l,lg,d⟩ ⟨(hK.sl H.s).bx l,H.g0,H.n0,H.g1,H.n1,H.u⟩ hi Z Z hB
  unfold eG at g2;refine aW (Z5 a r g2 ls e0) ?_;refine⟨λc=>⟨hP.s1 hi ⟨rfl,c⟩,hP.s2 hi c⟩,λc=>⟨hP.next hi c,λj hj=>?_⟩⟩;rcases Nat.lt_or_ge j i with DH|DH
  .exact hB j DH
  .rw[show j=i by omega];exact c
 .have a:=hK.aA lg d;have r:=cY S.bN.length;refine aW (Z4 a r ls e0) ?_;simp[hP.dF]
end
section
variable{F:FuncId->Option bD}{au:bR}{sm:ct}
theorem Ajs(x:iF)(y:kF)(m:Mem)(q_:56<=j:=by omega):SM j 297 [.agg (gQ x),.agg (gW y)] m=some (.bool (decide (y.id=x)),m):=by
 obtain⟨h,lg,d⟩:=m;refine aP 1999 q_ λn=>?_
 exact aC (Z3 @gQ.eq_1 @gW.eq_1 @vj)
theorem Ajt(l:List kF)(v:AV)(x:iF)(m:Mem)(hv:aT m.ah 5 v (l.map gW))(hw:l.length<=1000)(q_:57<=j:=by omega):SM j 269 [v,.func 297 [.agg (gQ x)] []] m=some (Ei (iP (λy=>decide (y.id=x)) 0 l),m):=by
 obtain⟨h,lg,d⟩:=m;refine aP 1999 q_ λn=>?_
 have lv:=hv.len;refine aW lv ?_;refine bL l.length [X8] (λi=>[Ei i]) (λi=>iP (λy=>decide (y.id=x)) 0 l=iP (λy=>decide (y.id=x)) i (l.drop i)) Z aX ⟨rfl,rfl⟩ (λi h' bq g hi hP hK=>?_) (λh' bq g hP hK=>?_)
 .have a:=hK.aA lg d;have e:=(hK.sl hv).el hi;have r:=fh hi Z;have g1:=Ajs 56 x (gt l i);unfold gW at e g1;rw[drop_eq_getElem_cons hi,iP,<-bB hi]at hP;refine aW (Z4 a e r g1) ?_;exact⟨λc=>by rw[hP,aG (decide_eq_true c)],λc=>by rw[hP,aq (λq=>c (of_decide_eq_true q))]⟩
 .have a:=hK.aA lg d;have r:=cY l.length;refine aW (Z2 a r) ?_;rw[hP,drop_length];rfl
theorem Aju(l:List kF)(v:AV)(a b c:Int)(x:iF)(m:Mem)(hv:aT m.ah 5 v (l.map gW))(hw:l.length<=1000)(q_:58<=j:=by omega):SM j 255 [.agg [Eu a,Eu b,Eu c,v],.agg (gQ x)] m=some (Ei (iP (λy=>decide (y.id=x)) 0 l),m):=by
 obtain⟨h,lg,d⟩:=m;refine aP 1999 q_ λn=>?_
 have c1:=hv.sc;have g:=λl' lg d=>Ajt 57 l v x ⟨aR h l',lg,d⟩ (hv.bx l') hw
 unfold gQ at g;exact aC (Z3 @gQ.eq_1 c1 g)
theorem Ajv(S:jt)(s:AV)(b:Nat)(bS:Bool)(m:Mem)(hb:aj m.ah b=some (.row bS 4 [eG S s]))(q_:52<=j:=by omega):SM j 252 [.ptr b 0 0] m=some (.bool (decide (S.g<=1125899906842624)),m):=by
 obtain⟨h,lg,d⟩:=m;refine aP 1999 q_ λn=>?_
 have kJ:=λl=>(an l h b (ag hb)).trans hb
 unfold eG at kJ;exact aC kJ
theorem Ajw(S:jt)(s:AV)(b:Nat)(bS:Bool)(m:Mem)(w1:0<=S.r)(w2:S.g<=18446744073709551615)(hb:aj m.ah b=some (.row bS 4 [eG S s]))(q_:53<=j:=by omega):SM j 253 [.ptr b 0 0] m=some (.bool (decide (S.r<=S.g/\S.n<=S.g-S.r)),m):=by
 obtain⟨h,lg,d⟩:=m;refine aP 1999 q_ λn=>?_
 have kJ:=λl=>(an l h b (ag hb)).trans hb
 have w:=λ(q:S.r<=S.g)=>(dB (x:=S.g-S.r) Z Z)
 unfold eG at kJ;exact aC (Z2 kJ w)
theorem Ajx(S:jt)(s:AV)(b:Nat)(bS:Bool)(m:Mem)(hs1:aT m.ah 5 s (S.bN.map gW))(hb:aj m.ah b=some (.row bS 4 [eG S s]))(q_:54<=j:=by omega):SM j 254 [.ptr b 0 0] m=some (.bool (decide ((S.bN.length:Int)<=100)),m):=by
 obtain⟨h,lg,d⟩:=m;refine aP 1999 q_ λn=>?_
 have kJ:=λl=>(an l h b (ag hb)).trans hb
 have ls:=hs1.len;unfold eG at kJ;exact aC (Z2 kJ ls)
def Kk(S:jt):Nat->Int
 |0=>0
 |i+1=>(gt S.bN i).off+(gt S.bN i).size
theorem SN(l:List kF)(x:iF)(i:Nat)(hi:i<=l.length):(0<=iP (λy=>decide (y.id=x)) 0 (l.take i))↔yB l x i=true:=by
 rw[pQ,zJ,List.any_eq_true];constructor
 .rintro ⟨y,h1,h2⟩;obtain⟨k,hk⟩:=getElem?_of_mem h1;rw[getElem?_take]at hk;split at hk
  .rename_i jU;refine⟨k,jU,?_⟩;have:=of_decide_eq_true h2;rw[gt,getD_eq_getElem?_getD,hk];exact this
  .cases hk
 .rintro ⟨k,h1,h2⟩;refine⟨gt l k,?_,decide_eq_true h2⟩;rw[bB Z];exact mem_of_getElem? (i:=k) (by rw[getElem?_take,aG h1,getElem?_eq_getElem Z])
theorem Afy(S:jt)(s:AV)(m:Mem)(H:jS m.ah S s)(q_:59<=j:=by omega):SM j 181 [.agg (eG S s)] m=some (.tuple [Ei (ji S).1,Ei (ji S).2],m):=by
 obtain⟨h,lg,d⟩:=m;refine aP 1999 q_ λn=>?_
 have c1:=H.s.sc;refine aW (Z2 @eG.eq_1 c1) ?_;refine bL 3 [Ux] (λi=>[Ei i]) (λi=>(0<i->S.g<=1125899906842624)/\(1<i->S.r<=S.g/\S.n<=S.g-S.r)/\(2<i->(S.bN.length:Int)<=100)) Z aX ⟨rfl,Z⟩ (λi h' bq g hi hP hK=>?_) (λh' bq g hP hK=>?_)
 .have a:=hK.aA lg d;have r:=fh hi Z;have b1:=λl=>a.1 l 0 (by simp only[fY];omega)
  have g1:=λl lg d=>Ajv 58 S s (nb h 0) true ⟨aR h' l,lg,d⟩ (b1 l)
  have g2:=λl lg d=>Ajw 58 S s (nb h 0) true ⟨aR h' l,lg,d⟩ H.g0 H.g1 (b1 l)
  have g3:=λl lg d=>Ajx 58 S s (nb h 0) true ⟨aR h' l,lg,d⟩ ((hK.sl H.s).bx l) (b1 l)
  rcases(by omega:i=0\/i=1\/i=2)with rfl|rfl|rfl
  all_goals
   refine aW (Z4 a g1 g2 g3) ?_;(repeat' first|apply And.intro|intro _)<;>first|contradiction|omega|rfl|(rw[ji];(repeat' split)<;>first|rfl|omega)
 .have a:=hK.aA lg d;have ls:=H.s.len;have q1:=hP.1 Z;have q2:=hP.2.1 Z;have q3:=hP.2.2 Z;refine aW (Z2 a ls) ?_;have e0:ji S=(first (kX S) S.bN.length,jd (kX S) S.bN.length):=by
   rw[ji,aq Z,aq Z,aq Z]
  refine bL S.bN.length [X31,X6] (λi=>[Ei i,Eu (Kk S i)]) (λi=>FP (kX S) S.bN.length i/\∀jj,jj<i->kX S jj=0) Z aX ⟨rfl,FP.zero _ _,λjj hj=>Z⟩ (λi h2 dx g2 hi ⟨mh,hB⟩ iL=>?_) (λh2 dx g2 ⟨mh,hB⟩ iL=>?_)
  .have a2:=iL.aA bq d;have a:=aY.aA (hK.trans iL) lg d;have e:=(iL.sl (hK.sl H.s)).el hi;have r:=fh hi Z;have gi:=Xk 58 (gt S.bN i).id;obtain⟨v',Fp,Jw⟩:=(iL.sl (hK.sl H.s)).pre i (by simpa using hi);rw[<-map_take]at Jw;have gs:=λl lg d=>Aju 58 (S.bN.take i) v' 0 0 0 (gt S.bN i).id ⟨aR h2 l,lg,d⟩ (Jw.bx l) (by simp;omega)
   have u1:=H.u (gt S.bN i) (by rw[bB hi];exact getElem_mem hi);have w1:=λ(q:¬S.n<(gt S.bN i).off)=>(dB (x:=S.n-(gt S.bN i).off) Z (by have:=H.n1;omega))
   have w2:=λ(q:¬S.n<(gt S.bN i).off) (q':¬S.n-(gt S.bN i).off<(gt S.bN i).size)=>(dB (x:=(gt S.bN i).off+(gt S.bN i).size) Z (by have:=H.n1;omega))
   have c4:=Jw.cells;unfold gW at e;unfold gQ at gi gs;refine aW (yA a a2 e r gi gs Fp w1 w2 c4) ?_;rw[SN S.bN _ i Z];have he:(i=0/\Kk S i=0)\/(0<i/\Kk S i=(gt S.bN (i-1)).off+(gt S.bN (i-1)).size):=by
    cases i with
    |zero=>exact .inl ⟨rfl,rfl⟩
    |succ i=>exact .inr ⟨Z,rfl⟩
   have f1:∀x:Int,kX S i=x/\x≠0->(x=(ji S).1/\(i:Int)=(ji S).2):=λx hx=>by
    rw[e0];exact⟨mh.s1 hi hx,mh.s2 hi (by rw[hx.1];exact hx.2)⟩
   have f2:kX S i=0->(gt S.bN i).off+(gt S.bN i).size=Kk S (i+1)/\FP (kX S) S.bN.length (i+1)/\∀(jj:Nat),jj<i+1->kX S jj=0:=λhx=>⟨rfl,mh.next hi hx,λjj hj=>by
    rcases Nat.lt_or_ge jj i with DH|DH
    .exact hB jj DH
    .rw[show jj=i by omega];exact hx⟩
   (repeat' first|(refine f1 _ ?_)|(refine f2 ?_)|apply And.intro|intro _)<;>first|omega|(simp only[kX]<;>(repeat' split)<;>first|omega|contradiction|(exfalso;omega))
  .have a:=aY.aA (hK.trans iL) lg d;have r:=cY S.bN.length;refine aW (Z3 a r e0) ?_;simp[mh.dF]
end
section
variable{F:FuncId->Option bD}{au:bR}{sm:ct}
structure ic(h:aN)(P:dT)(s t k:AV):Prop where
 s:jS h P.send s
 r:lx h P.recv t k
theorem jS.bx{h:aN}{S:jt}{s:AV}(H:jS h S s)(l:List (Option bp)):jS (aR h l) S s:=⟨H.s.bx l,H.g0,H.n0,H.g1,H.n1,H.u⟩
theorem ic.bx{h:aN}{P:dT}{s t k:AV}(H:ic h P s t k)(l:List (Option bp)):ic (aR h l) P s t k:=⟨H.s.bx l,H.r.bx l⟩
def pR(P:dT):Prop:=¬P.Md=true/\P.mX=0/\P.send.g=0/\P.send.n=0/\P.send.r=0/\(P.send.bN.length:Int)=0/\P.recv.g=0/\P.recv.r=0/\P.recv.f=0/\(P.recv.cH.length:Int)=0/\(P.recv.jW.length:Int)=0
instance Amh(P:dT):Decidable (pR P):=by unfold pR;infer_instance
theorem Ajy(P:dT)(s t k:AV)(m:Mem)(H:ic m.ah P s t k)(q_:66<=j:=by omega):SM j 183 [.agg (dc P s t k)] m=some (.bool (decide (pR P)),m):=by
 obtain⟨h,lg,d⟩:=m;refine aP 1999 q_ λn=>?_
 have c1:=H.s.s.sc;have c2:=H.r.t.sc;have c3:=H.r.k.sc;have l1:=H.s.s.len;have l2:=H.r.t.len;have l3:=H.r.k.len;refine aW (Z7 @dc.eq_1 c1 c2 c3 l1 l2 l3) ?_;clear H l1 l2 l3 c1 c2 c3;(repeat' first|apply And.intro|intro _)<;>simp_all [pR]
def vk(S:jt):Prop:=S.g=0/\S.n=0/\S.r=0/\(S.bN.length:Int)=0
instance Ami(S:jt):Decidable (vk S):=by unfold vk;infer_instance
theorem Afz(S:jt)(s:AV)(m:Mem)(H:jS m.ah S s)(q_:74<=j:=by omega):SM j 180 [.agg (eG S s)] m=some (.bool (decide (vk S)),m):=by
 obtain⟨h,lg,d⟩:=m;refine aP 1999 q_ λn=>?_
 have c1:=H.s.sc;have l1:=H.s.len;refine aW (Z3 @eG.eq_1 c1 l1) ?_;clear H l1 c1;(repeat' first|apply And.intro|intro _)<;>simp_all [vk]
theorem AfA(S:jt)(s:AV)(m:Mem)(H:jS m.ah S s)(q_:100<=j:=by omega):SM j 186 [.agg (eG S s)] m=some (.bool (decide (vk S)),m):=by
 obtain⟨h,lg,d⟩:=m;refine aP 1999 q_ λn=>?_
 have c1:=H.s.sc;have l1:=H.s.len;refine aW (Z3 @eG.eq_1 c1 l1) ?_;clear H l1 c1;(repeat' first|apply And.intro|intro _)<;>simp_all [vk]
def jn(P:dT):Int:=
 if P.node<1\/16<P.node\/1099511627776<P.nu\/1125899906842624<P.mX then 2 else if(ji P.send).1≠0 then(ji P.send).1 else if(ft P.recv).1≠0 then(ft P.recv).1
 else if P.nu=0/\¬pR P then 12 else 0
theorem SO(P:dT)(s t k:AV)(m:Mem)(H:ic m.ah P s t k)(q_:67<=j:=by omega):SM j 118 [.agg (dc P s t k)] m=some (Ei (jn P),m):=by
 obtain⟨h,lg,d⟩:=m;refine aP 1999 q_ λn=>?_
 have c1:=H.s.s.sc;have c2:=H.r.t.sc;have c3:=H.r.k.sc;have g1:=λl lg d=>Afy 66 P.send s ⟨aR h l,lg,d⟩ (H.s.bx l)
 have g2:=λl lg d=>Afw 66 P.recv t k ⟨aR h l,lg,d⟩ (H.r.bx l)
 have g3:∀l lg d,SM 66 183 [.agg (dc {P with nu:=0} s t k)] ⟨aR h l,lg,d⟩=some (.bool (decide (pR P)),⟨aR h l,lg,d⟩):=λl lg d=>Ajy 66 {P with nu:=0} s t k ⟨aR h l,lg,d⟩ ⟨H.s.bx l,H.r.bx l⟩
 unfold eG at g1;unfold eZ at g2;unfold dc at g3;refine aW (Z7 @dc.eq_1 c1 c2 c3 g1 g2 g3) ?_;(repeat' first|apply And.intro|intro _)<;>(simp only[jn]<;>(repeat' split)<;>first|omega|simp_all)
theorem Ajz(P:dT)(s t k:AV)(m:Mem)(H:ic m.ah P s t k)(q_:92<=j:=by omega):SM j 188 [.agg (dc P s t k)] m=some (.bool (decide (P.nu=0/\pR P)),m):=by
 obtain⟨h,lg,d⟩:=m;refine aP 1999 q_ λn=>?_
 have c1:=H.s.s.sc;have c2:=H.r.t.sc;have c3:=H.r.k.sc;have l1:=H.s.s.len;have l2:=H.r.t.len;have l3:=H.r.k.len;refine aW (Z7 @dc.eq_1 c1 c2 c3 l1 l2 l3) ?_;clear H l1 l2 l3 c1 c2 c3;(repeat' first|apply And.intro|intro _)<;>simp_all [pR]
theorem SP(P:dT)(s t k:AV)(m:Mem)(H:ic m.ah P s t k)(q_:93<=j:=by omega):SM j 124 [.agg (dc P s t k)] m=some (Ei (jn P),m):=by
 obtain⟨h,lg,d⟩:=m;refine aP 1999 q_ λn=>?_
 have c1:=H.s.s.sc;have c2:=H.r.t.sc;have c3:=H.r.k.sc;have g1:=λl lg d=>Xq 92 P.send s ⟨aR h l,lg,d⟩ (H.s.bx l)
 have g2:=λl lg d=>Afx 92 P.recv t k ⟨aR h l,lg,d⟩ (H.r.bx l)
 have g3:∀l lg d,SM 92 188 [.agg (dc {P with nu:=0} s t k)] ⟨aR h l,lg,d⟩=some (.bool (decide (pR P)),⟨aR h l,lg,d⟩):=λl lg d=>by
  rw[Ajz 92 {P with nu:=0} s t k ⟨aR h l,lg,d⟩ ⟨H.s.bx l,H.r.bx l⟩];simp[pR]
 unfold eG at g1;unfold eZ at g2;unfold dc at g3;refine aW (Z7 @dc.eq_1 c1 c2 c3 g1 g2 g3) ?_;(repeat' first|apply And.intro|intro _)<;>(simp only[jn]<;>(repeat' split)<;>first|omega|simp_all)
end
section
variable{F:FuncId->Option bD}{au:bR}{sm:ct}
structure PX where
 p:dT
 s:AV
 t:AV
 k:AV
 deriving Inhabited
def wh(x:PX):List AV:=dc x.p x.s x.t x.k
structure df(h:aN)(v:AV)(l:List PX):Prop where
 v:aT h 13 v (l.map wh)
 p:∀x∈l,ic h x.p x.s x.t x.k
theorem jS.bw{m m':Mem}{S:jt}{s:AV}(H:jS m.ah S s)(k:aY m m'):jS m'.ah S s:=⟨H.s.bw k,H.g0,H.n0,H.g1,H.n1,H.u⟩
theorem lx.bw{m m':Mem}{R:iJ}{t q:AV}(H:lx m.ah R t q)(k:aY m m'):lx m'.ah R t q:=⟨H.t.bw k,H.k.bw k,H.g0,H.g1⟩
theorem ic.bw{m m':Mem}{P:dT}{s t q:AV}(H:ic m.ah P s t q)(k:aY m m'):ic m'.ah P s t q:=⟨H.s.bw k,H.r.bw k⟩
theorem df.bw{m m':Mem}{v:AV}{l:List PX}(H:df m.ah v l)(k:aY m m'):df m'.ah v l:=⟨H.v.bw k,λx hx=>(H.p x hx).bw k⟩
theorem df.bx{h:aN}{v:AV}{l:List PX}(H:df h v l)(q:List (Option bp)):df (aR h q) v l:=⟨H.v.bx q,λx hx=>(H.p x hx).bx q⟩
theorem aY.ps{h h':aN}{kq bq:List Nat}{l0:List (Option bp)}(k:aY ⟨aR h l0,kq,[]⟩ ⟨h',bq,[]⟩){v:AV}{l:List PX}(H:df h v l):df h' v l:=df.bw (m:=⟨aR h l0,kq,[]⟩) (m':=⟨h',bq,[]⟩) (H.bx l0) k
theorem bA{α:Type}[Inhabited α]{l:List α}{i:Nat}(hi:i<l.length):gt l i∈l:=by rw[bB hi];exact getElem_mem hi
structure mP(h:aN)(S:je)(b m v:AV)(l:List PX):Prop where
 b:aT h 9 b (S.held.map dt)
 m:aT h 4 m (S.seen.map nV)
 p:df h v l
 e:S.bM=l.map (·.p)
 w1:S.held.length<=1000
 w2:S.seen.length<=1000
 w3:l.length<=1000
 d:∀x∈S.held,x.data.length<=1000000/\I x.eO
theorem mP.bx{h:aN}{S:je}{b m v:AV}{l:List PX}(H:mP h S b m v l)(q:List (Option bp)):mP (aR h q) S b m v l:=⟨H.b.bx q,H.m.bx q,H.p.bx q,H.e,H.w1,H.w2,H.w3,H.d⟩
def gl(l:List fR)(i:Nat):Int:=
 if j0 (gt l i)≠0 then j0 (gt l i)else if 0<i/\0<=zI (gt l (i-1)).id (gt l i).id then 19 else 0
def gJ(node:Int)(l:List dT)(i:Nat):Int:=
 if jn (gt l i)≠0 then jn (gt l i)else if(gt l i).node=node\/¬vk (gt l i).send\/(gt l i).Md=true then 3 else if 0<i/\(gt l i).node<=(gt l (i-1)).node then 19 else 0
theorem tF{node:Int}{ps:List dT}{i:Nat}{p q:dT}(x1:gt ps i=p)(x2:gt ps (i-1)=q):gJ node ps i=if jn p≠0 then jn p else if p.node=node\/¬vk p.send\/p.Md=true then 3 else if 0<i/\p.node<=q.node then 19 else 0:=by
 rw[gJ,x1,x2]
def UC:iF:=⟨0,0,0⟩
def d8(S:je):Int:=
 if S.node<1\/16<S.node\/1099511627776<S.C2 then 2 else if S.dF≠UC/\xu S.dF≠0 then 2 else if S.dF≠UC/\S.dF.n≠S.node then 3
 else if first (gl S.held) S.held.length≠0 then first (gl S.held) S.held.length
 else if first (kH S.seen) S.seen.length≠0 then first (kH S.seen) S.seen.length
 else first (gJ S.node S.bM) S.bM.length
def oh(S:je):Int:=
 if first (gl S.held) S.held.length≠0 then first (gl S.held) S.held.length
 else if first (kH S.seen) S.seen.length≠0 then first (kH S.seen) S.seen.length
 else first (gJ S.node S.bM) S.bM.length
theorem mQ{l:List PX}{i:Nat}(hi:i<l.length):gt (l.map (·.p)) i=(gt l i).p:=by
 rw[bB hi,bB (by simpa using hi)];simp
theorem AfB(S:je)(b ms v:AV)(l:List PX)(m:Mem)(H:mP m.ah S b ms v l)(q_:75<=j:=by omega):SM j 117 [.agg (mf S b ms v)] m=some (Ei (d8 S),m):=by
 obtain⟨h,lg,d⟩:=m;refine aP 1999 q_ λn=>?_
 have c1:=H.b.sc;have c2:=H.m.sc;have c3:=H.p.v.sc;have l1:=H.b.len;have g1:=Xk 74 S.dF;unfold gQ at g1;have hq:(S.dF.n=0/\S.dF.s=0/\S.dF.o=0)=(S.dF=UC):=propext (vj S.dF UC);have Rb:=DU S.dF;rcases Classical.em (S.dF=UC)with hz|hz
 .have Hp:=hq.trans (eq_true hz);refine aW (Z6 @mf.eq_1 c1 c2 c3 l1 Hp) ?_;(repeat' first|apply And.intro|intro _)<;>first|(simp only[d8]<;>(repeat' split)<;>first|omega|contradiction|(simp_all;done))|skip
  have e0:d8 S=oh S:=by
   rw[d8,aq Z,aq (λq=>by first|exact q.1 hz|omega),aq (λq=>by first|exact q.1 hz|(apply q.2;assumption))];rfl
  refine bL S.held.length [X44] (λi=>[Ei i]) (FP (gl S.held) S.held.length) (by have:=H.w1;omega) aX ⟨rfl,FP.zero _ _⟩ (λi h' bq g hi hP hK=>?_) (λh' bq g hP hK=>?_)
  .have a:=hK.aA lg d;have e:=(hK.sl H.b).el hi;have p:=(hK.sl H.b).pv hi (by have:=H.w1;omega);have r:=fh hi (by have:=H.w1;omega);have u:=H.d _ (bA hi);have g1:=λm=>Mn 74 (gt S.held i) m u.1 u.2
   have g2:=Xn 74 (gt S.held (i-1)).id (gt S.held i).id;unfold dt at e p g1;unfold gQ at g2;refine aW (Z6 a e p r g1 g2) ?_;have f1:∀x:Int,gl S.held i=x/\x≠0->x=d8 S:=λx hx=>by
    have:=hP.s1 hi hx;rw[e0,oh,aG (by rw[<-this];exact hx.2)];exact this
   (repeat' first|(refine f1 _ ?_)|apply And.intro|intro _)<;>(try refine hP.next hi ?_)<;>first|omega|assumption|(simp only[gl]<;>(repeat' split)<;>first|omega|contradiction)
  .have a:=hK.aA lg d;have r:=cY S.held.length;have gs:=λl lg d=>Afu 74 S.seen ms ⟨aR h' l,lg,d⟩ ((hK.sl H.m).bx l) H.w2
   have lv:=H.p.v.len;refine aW (Z4 a r gs lv) ?_;have tS:=hP.dF;refine⟨λc=>?_,λc=>?_⟩
   .rw[e0,oh,aq (by rw[tS.1];omega),aG c]
   have e1:d8 S=first (gJ S.node S.bM) S.bM.length:=by
    rw[e0,oh,aq (by rw[tS.1];omega),aq Z]
   refine bL l.length [X82] (λi=>[Ei i]) (FP (gJ S.node S.bM) S.bM.length) (by have:=H.w3;omega) aX ⟨rfl,FP.zero _ _⟩ (λi h2 dx g2 hi mh iL=>?_) (λh2 dx g2 mh iL=>?_)
   .have a2:=iL.aA bq d;have a:=aY.aA (hK.trans iL) lg d;have hp:=iL.ps (hK.ps H.p);have e:=hp.v.el hi;have p:=hp.v.pv hi (by have:=H.w3;omega);have r:=fh hi (by have:=H.w3;omega);have hx:=hp.p _ (bA hi);have g3:=λl lg d=>SO 74 _ _ _ _ ⟨aR h2 l,lg,d⟩ (hx.bx l)
    have g4:=λl lg d=>Afz 74 _ _ ⟨aR h2 l,lg,d⟩ (hx.s.bx l)
    have lV:i<S.bM.length:=by rw[H.e];simpa using hi
    have x1:gt S.bM i=(gt l i).p:=by rw[H.e];exact mQ hi
    have x2:gt S.bM (i-1)=(gt l (i-1)).p:=by rw[H.e];exact mQ Z
    have d1:=hx.s.s.sc;have d2:=hx.r.t.sc;have d3:=hx.r.k.sc;unfold wh dc at e p;unfold dc at g3;unfold eG at g4;refine aW (yA a a2 e p r g3 g4 d1 d2 d3) ?_;have f1:∀x:Int,gJ S.node S.bM i=x/\x≠0->x=d8 S:=λx hx=>by
     rw[e1];exact mh.s1 lV hx
    have f3:=tF (node:=S.node) x1 x2;clear a a2 e p r g3 g4 hp hx d1 d2 d3 hK iL hP H g1 gs lv l1 c1 c2 c3 x1 x2 hq Hp e0 e1 tS;(repeat' first|(refine f1 _ ?_)|apply And.intro|intro _)<;>(try refine mh.next lV ?_)<;>first|omega|assumption|(rw[f3];(repeat' split)<;>first|omega|contradiction|(simp_all;done)|(simp_all;omega))
   .have a2:=iL.aA bq d;have a:=aY.aA (hK.trans iL) lg d;have r:=cY l.length;refine aW (Z2 a r) ?_;rw[e1];have:S.bM.length=l.length:=by rw[H.e];simp
    rw[this]at mh|-;simp[mh.dF]
 .have Hp:=hq.trans (eq_false hz);refine aW (Z7 @mf.eq_1 c1 c2 c3 l1 g1 Hp) ?_;(repeat' first|apply And.intro|intro _)<;>first|(simp only[d8]<;>(repeat' split)<;>first|omega|contradiction|(simp_all;done))|skip
  have e0:d8 S=oh S:=by
   rw[d8,aq Z,aq (λq=>by first|exact q.1 hz|omega),aq (λq=>by first|exact q.1 hz|(apply q.2;assumption))];rfl
  refine bL S.held.length [X44] (λi=>[Ei i]) (FP (gl S.held) S.held.length) (by have:=H.w1;omega) aX ⟨rfl,FP.zero _ _⟩ (λi h' bq g hi hP hK=>?_) (λh' bq g hP hK=>?_)
  .have a:=hK.aA lg d;have e:=(hK.sl H.b).el hi;have p:=(hK.sl H.b).pv hi (by have:=H.w1;omega);have r:=fh hi (by have:=H.w1;omega);have u:=H.d _ (bA hi);have g1:=λm=>Mn 74 (gt S.held i) m u.1 u.2
   have g2:=Xn 74 (gt S.held (i-1)).id (gt S.held i).id;unfold dt at e p g1;unfold gQ at g2;refine aW (Z6 a e p r g1 g2) ?_;have f1:∀x:Int,gl S.held i=x/\x≠0->x=d8 S:=λx hx=>by
    have:=hP.s1 hi hx;rw[e0,oh,aG (by rw[<-this];exact hx.2)];exact this
   (repeat' first|(refine f1 _ ?_)|apply And.intro|intro _)<;>(try refine hP.next hi ?_)<;>first|omega|assumption|(simp only[gl]<;>(repeat' split)<;>first|omega|contradiction)
  .have a:=hK.aA lg d;have r:=cY S.held.length;have gs:=λl lg d=>Afu 74 S.seen ms ⟨aR h' l,lg,d⟩ ((hK.sl H.m).bx l) H.w2
   have lv:=H.p.v.len;refine aW (Z4 a r gs lv) ?_;have tS:=hP.dF;refine⟨λc=>?_,λc=>?_⟩
   .rw[e0,oh,aq (by rw[tS.1];omega),aG c]
   have e1:d8 S=first (gJ S.node S.bM) S.bM.length:=by
    rw[e0,oh,aq (by rw[tS.1];omega),aq Z]
   refine bL l.length [X82] (λi=>[Ei i]) (FP (gJ S.node S.bM) S.bM.length) (by have:=H.w3;omega) aX ⟨rfl,FP.zero _ _⟩ (λi h2 dx g2 hi mh iL=>?_) (λh2 dx g2 mh iL=>?_)
   .have a2:=iL.aA bq d;have a:=aY.aA (hK.trans iL) lg d;have hp:=iL.ps (hK.ps H.p);have e:=hp.v.el hi;have p:=hp.v.pv hi (by have:=H.w3;omega);have r:=fh hi (by have:=H.w3;omega);have hx:=hp.p _ (bA hi);have g3:=λl lg d=>SO 74 _ _ _ _ ⟨aR h2 l,lg,d⟩ (hx.bx l)
    have g4:=λl lg d=>Afz 74 _ _ ⟨aR h2 l,lg,d⟩ (hx.s.bx l)
    have lV:i<S.bM.length:=by rw[H.e];simpa using hi
    have x1:gt S.bM i=(gt l i).p:=by rw[H.e];exact mQ hi
    have x2:gt S.bM (i-1)=(gt l (i-1)).p:=by rw[H.e];exact mQ Z
    have d1:=hx.s.s.sc;have d2:=hx.r.t.sc;have d3:=hx.r.k.sc;unfold wh dc at e p;unfold dc at g3;unfold eG at g4;refine aW (yA a a2 e p r g3 g4 d1 d2 d3) ?_;have f1:∀x:Int,gJ S.node S.bM i=x/\x≠0->x=d8 S:=λx hx=>by
     rw[e1];exact mh.s1 lV hx
    have f3:=tF (node:=S.node) x1 x2;clear a a2 e p r g3 g4 hp hx d1 d2 d3 hK iL hP H g1 gs lv l1 c1 c2 c3 x1 x2 hq Hp e0 e1 tS;(repeat' first|(refine f1 _ ?_)|apply And.intro|intro _)<;>(try refine mh.next lV ?_)<;>first|omega|assumption|(rw[f3];(repeat' split)<;>first|omega|contradiction|(simp_all;done)|(simp_all;omega))
   .have a2:=iL.aA bq d;have a:=aY.aA (hK.trans iL) lg d;have r:=cY l.length;refine aW (Z2 a r) ?_;rw[e1];have:S.bM.length=l.length:=by rw[H.e];simp
    rw[this]at mh|-;simp[mh.dF]
end
section
variable{F:FuncId->Option bD}{au:bR}{sm:ct}
theorem AfC(S:je)(b ms v:AV)(l:List PX)(m:Mem)(H:mP m.ah S b ms v l)(q_:101<=j:=by omega):SM j 123 [.agg (mf S b ms v)] m=some (Ei (d8 S),m):=by
 obtain⟨h,lg,d⟩:=m;refine aP 1999 q_ λn=>?_
 have c1:=H.b.sc;have c2:=H.m.sc;have c3:=H.p.v.sc;have l1:=H.b.len;have g1:=Y0 100 S.dF;unfold gQ at g1;have hq:(S.dF.n=0/\S.dF.s=0/\S.dF.o=0)=(S.dF=UC):=propext (vj S.dF UC);have Rb:=DU S.dF;rcases Classical.em (S.dF=UC)with hz|hz
 .have Hp:=hq.trans (eq_true hz);refine aW (Z5 @mf.eq_1 c1 c2 c3 Hp) ?_;(repeat' first|apply And.intro|intro _)<;>first|(simp only[d8]<;>(repeat' split)<;>first|omega|contradiction|(simp_all;done))|skip
  have e0:d8 S=oh S:=by
   rw[d8,aq Z,aq (λq=>by first|exact q.1 hz|omega),aq (λq=>by first|exact q.1 hz|(apply q.2;assumption))];rfl
  refine bL S.held.length [X4] (λi=>[Ei i]) (FP (gl S.held) S.held.length) (by have:=H.w1;omega) aX ⟨rfl,FP.zero _ _⟩ (λi h' bq g hi hP hK=>?_) (λh' bq g hP hK=>?_)
  .have a:=hK.aA lg d;have e:=(hK.sl H.b).el hi;have p:=(hK.sl H.b).pv hi (by have:=H.w1;omega);have r:=fh hi (by have:=H.w1;omega);have u:=H.d _ (bA hi);have g1:=λm=>Pw 100 (gt S.held i) m u.1 u.2
   have g2:=Xl 100 (gt S.held (i-1)).id (gt S.held i).id;unfold dt at e p g1;unfold gQ at g2;refine aW (Z7 a e p r g1 g2 l1) ?_;have f1:∀x:Int,gl S.held i=x/\x≠0->x=d8 S:=λx hx=>by
    have:=hP.s1 hi hx;rw[e0,oh,aG (by rw[<-this];exact hx.2)];exact this
   (repeat' first|(refine f1 _ ?_)|apply And.intro|intro _)<;>(try refine hP.next hi ?_)<;>first|omega|assumption|(simp only[gl]<;>(repeat' split)<;>first|omega|contradiction)
  .have a:=hK.aA lg d;have r:=cY S.held.length;have gs:=λl lg d=>Afv 100 S.seen ms ⟨aR h' l,lg,d⟩ ((hK.sl H.m).bx l) H.w2
   have lv:=H.p.v.len;refine aW (Z4 a r gs l1) ?_;have tS:=hP.dF;refine⟨λc=>?_,λc=>?_⟩
   .rw[e0,oh,aq (by rw[tS.1];omega),aG c]
   have e1:d8 S=first (gJ S.node S.bM) S.bM.length:=by
    rw[e0,oh,aq (by rw[tS.1];omega),aq Z]
   refine bL l.length [X8] (λi=>[Ei i]) (FP (gJ S.node S.bM) S.bM.length) (by have:=H.w3;omega) aX ⟨rfl,FP.zero _ _⟩ (λi h2 dx g2 hi mh iL=>?_) (λh2 dx g2 mh iL=>?_)
   .have a2:=iL.aA bq d;have a:=aY.aA (hK.trans iL) lg d;have hp:=iL.ps (hK.ps H.p);have e:=hp.v.el hi;have p:=hp.v.pv hi (by have:=H.w3;omega);have r:=fh hi (by have:=H.w3;omega);have hx:=hp.p _ (bA hi);have g3:=λl lg d=>SP 100 _ _ _ _ ⟨aR h2 l,lg,d⟩ (hx.bx l)
    have g4:=λl lg d=>AfA 100 _ _ ⟨aR h2 l,lg,d⟩ (hx.s.bx l)
    have lV:i<S.bM.length:=by rw[H.e];simpa using hi
    have x1:gt S.bM i=(gt l i).p:=by rw[H.e];exact mQ hi
    have x2:gt S.bM (i-1)=(gt l (i-1)).p:=by rw[H.e];exact mQ Z
    have d1:=hx.s.s.sc;have d2:=hx.r.t.sc;have d3:=hx.r.k.sc;unfold wh dc at e p;unfold dc at g3;unfold eG at g4;refine aW (xq a a2 e p r g3 g4 d1 d2 d3 lv) ?_;have f1:∀x:Int,gJ S.node S.bM i=x/\x≠0->x=d8 S:=λx hx=>by
     rw[e1];exact mh.s1 lV hx
    have f3:=tF (node:=S.node) x1 x2;clear a a2 e p r g3 g4 hp hx d1 d2 d3 hK iL hP H g1 gs lv l1 c1 c2 c3 x1 x2 hq Hp e0 e1 tS;(repeat' first|(refine f1 _ ?_)|apply And.intro|intro _)<;>(try refine mh.next lV ?_)<;>first|omega|assumption|(rw[f3];(repeat' split)<;>first|omega|contradiction|(simp_all;done)|(simp_all;omega))
   .have a2:=iL.aA bq d;have a:=aY.aA (hK.trans iL) lg d;have r:=cY l.length;refine aW (Z3 a r lv) ?_;rw[e1];have:S.bM.length=l.length:=by rw[H.e];simp
    rw[this]at mh|-;simp[mh.dF]
 .have Hp:=hq.trans (eq_false hz);refine aW (Z6 @mf.eq_1 c1 c2 c3 g1 Hp) ?_;(repeat' first|apply And.intro|intro _)<;>first|(simp only[d8]<;>(repeat' split)<;>first|omega|contradiction|(simp_all;done))|skip
  have e0:d8 S=oh S:=by
   rw[d8,aq Z,aq (λq=>by first|exact q.1 hz|omega),aq (λq=>by first|exact q.1 hz|(apply q.2;assumption))];rfl
  refine bL S.held.length [X4] (λi=>[Ei i]) (FP (gl S.held) S.held.length) (by have:=H.w1;omega) aX ⟨rfl,FP.zero _ _⟩ (λi h' bq g hi hP hK=>?_) (λh' bq g hP hK=>?_)
  .have a:=hK.aA lg d;have e:=(hK.sl H.b).el hi;have p:=(hK.sl H.b).pv hi (by have:=H.w1;omega);have r:=fh hi (by have:=H.w1;omega);have u:=H.d _ (bA hi);have g1:=λm=>Pw 100 (gt S.held i) m u.1 u.2
   have g2:=Xl 100 (gt S.held (i-1)).id (gt S.held i).id;unfold dt at e p g1;unfold gQ at g2;refine aW (Z7 a e p r g1 g2 l1) ?_;have f1:∀x:Int,gl S.held i=x/\x≠0->x=d8 S:=λx hx=>by
    have:=hP.s1 hi hx;rw[e0,oh,aG (by rw[<-this];exact hx.2)];exact this
   (repeat' first|(refine f1 _ ?_)|apply And.intro|intro _)<;>(try refine hP.next hi ?_)<;>first|omega|assumption|(simp only[gl]<;>(repeat' split)<;>first|omega|contradiction)
  .have a:=hK.aA lg d;have r:=cY S.held.length;have gs:=λl lg d=>Afv 100 S.seen ms ⟨aR h' l,lg,d⟩ ((hK.sl H.m).bx l) H.w2
   have lv:=H.p.v.len;refine aW (Z4 a r gs l1) ?_;have tS:=hP.dF;refine⟨λc=>?_,λc=>?_⟩
   .rw[e0,oh,aq (by rw[tS.1];omega),aG c]
   have e1:d8 S=first (gJ S.node S.bM) S.bM.length:=by
    rw[e0,oh,aq (by rw[tS.1];omega),aq Z]
   refine bL l.length [X8] (λi=>[Ei i]) (FP (gJ S.node S.bM) S.bM.length) (by have:=H.w3;omega) aX ⟨rfl,FP.zero _ _⟩ (λi h2 dx g2 hi mh iL=>?_) (λh2 dx g2 mh iL=>?_)
   .have a2:=iL.aA bq d;have a:=aY.aA (hK.trans iL) lg d;have hp:=iL.ps (hK.ps H.p);have e:=hp.v.el hi;have p:=hp.v.pv hi (by have:=H.w3;omega);have r:=fh hi (by have:=H.w3;omega);have hx:=hp.p _ (bA hi);have g3:=λl lg d=>SP 100 _ _ _ _ ⟨aR h2 l,lg,d⟩ (hx.bx l)
    have g4:=λl lg d=>AfA 100 _ _ ⟨aR h2 l,lg,d⟩ (hx.s.bx l)
    have lV:i<S.bM.length:=by rw[H.e];simpa using hi
    have x1:gt S.bM i=(gt l i).p:=by rw[H.e];exact mQ hi
    have x2:gt S.bM (i-1)=(gt l (i-1)).p:=by rw[H.e];exact mQ Z
    have d1:=hx.s.s.sc;have d2:=hx.r.t.sc;have d3:=hx.r.k.sc;unfold wh dc at e p;unfold dc at g3;unfold eG at g4;refine aW (xq a a2 e p r g3 g4 d1 d2 d3 lv) ?_;have f1:∀x:Int,gJ S.node S.bM i=x/\x≠0->x=d8 S:=λx hx=>by
     rw[e1];exact mh.s1 lV hx
    have f3:=tF (node:=S.node) x1 x2;clear a a2 e p r g3 g4 hp hx d1 d2 d3 hK iL hP H g1 gs lv l1 c1 c2 c3 x1 x2 hq Hp e0 e1 tS;(repeat' first|(refine f1 _ ?_)|apply And.intro|intro _)<;>(try refine mh.next lV ?_)<;>first|omega|assumption|(rw[f3];(repeat' split)<;>first|omega|contradiction|(simp_all;done)|(simp_all;omega))
   .have a2:=iL.aA bq d;have a:=aY.aA (hK.trans iL) lg d;have r:=cY l.length;refine aW (Z3 a r lv) ?_;rw[e1];have:S.bM.length=l.length:=by rw[H.e];simp
    rw[this]at mh|-;simp[mh.dF]
end
section
variable{F:FuncId->Option bD}{au:bR}{sm:ct}
def AfD(x:Int×Int×Int):List AV:=[Eu x.1,Eu x.2.1,Eu x.2.2]
theorem AjA(l:List (Int×Int×Int))(v:AV)(m:Mem)(hv:aT m.ah 3 v (l.map Su))(hw:l.length<=1000)(q_:16<=j:=by omega):SM j 115 [v] m=some (.bool (decide (l.all qY=true)),m):=by
 obtain⟨h,lg,d⟩:=m;refine aP 1999 q_ λn=>?_
 have lv:=hv.len;refine aW lv ?_;refine bL l.length [X7] (λi=>[Ei i]) (λi=>l.all qY=(l.drop i).all qY) Z aX ⟨rfl,rfl⟩ (λi h' bq g hi hP hK=>?_) (λh' bq g hP hK=>?_)
 .have a:=hK.aA lg d;have e:=(hK.sl hv).Uu hi;have r:=fh hi Z;unfold Su at e;rw[drop_eq_getElem_cons hi,all_cons]at hP;refine aW (Z3 a e r) ?_;exact⟨λc=>by simp[hP,qY];omega,λc=>⟨λc'=>by simp[hP,qY];omega,λc'=>by simp[hP,qY];omega⟩⟩
 .have a:=hK.aA lg d;have r:=cY l.length;refine aW (Z2 a r) ?_;simpa using hP
theorem AjB(l:List (Int×Int×Int))(v:AV)(m:Mem)(hv:aT m.ah 3 v (l.map AfD))(hw:l.length<=1000)(q_:17<=j:=by omega):SM j 116 [v] m=some (.bool (decide (l.all qY=true)),m):=by
 obtain⟨h,lg,d⟩:=m;refine aP 1999 q_ λn=>?_
 have lv:=hv.len;refine aW lv ?_;refine bL l.length [X7] (λi=>[Ei i]) (λi=>l.all qY=(l.drop i).all qY) Z aX ⟨rfl,rfl⟩ (λi h' bq g hi hP hK=>?_) (λh' bq g hP hK=>?_)
 .have a:=hK.aA lg d;have e:=(hK.sl hv).Uu hi;have r:=fh hi Z;unfold AfD at e;rw[drop_eq_getElem_cons hi,all_cons]at hP;refine aW (Z3 a e r) ?_;exact⟨λc=>by simp[hP,qY];omega,λc=>⟨λc'=>by simp[hP,qY];omega,λc'=>by simp[hP,qY];omega⟩⟩
 .have a:=hK.aA lg d;have r:=cY l.length;refine aW (Z2 a r) ?_;simpa using hP
def wm(c:Ij):Int:=
 if(1<=c.node/\c.node<=16)/\(1<=c.iK/\c.iK<=1099511627776)/\(1<=c.vM/\c.vM<=1200)/\c.uX<=c.iK/\c.jZ<=c.iK/\(1<=c.yi/\c.yi<=1000)/\(c.yi<=c.sg/\c.sg<=100000)/\(0<=c.zC/\c.zC<=100)/\
  (1<=c.w1/\c.w1<=100)/\(1<=c.w2/\c.w2<=100)/\(1<=c.w3/\c.w3<=100)/\(0<=c.DM/\c.DM<=1048576)/\(1<=c.DN/\c.DN<=1048576)/\(1<=c.DO/\c.DO<=1099511627776)/\(8<=c.zD/\c.zD<=4096)/\(0<=c.Me/\c.Me<=1048576)then 0 else 2
theorem E59(c:Ij)(m:Mem)(w1:0<=c.uX)(w2:0<=c.jZ)(q_:18<=j:=by omega):SM j 59 [.agg (Mf c)] m=some (Ei (wm c),m):=by
 obtain⟨h,lg,d⟩:=m;refine aP 1999 q_ λn=>?_
 refine aW @Mf.eq_1 ?_;refine yg 3 Z ?_;have g1:=λl lg d (q:fj l 7=(aO 3 [[Ei c.node,Ei 1,Ei 16],[Ei c.yi,Ei 1,Ei 1000],[Ei c.sg,Ei c.yi,Ei 100000],[Ei c.zC,Ei 0,Ei 100],[Ei c.DM,Ei 0,Ei 1048576],[Ei c.DN,Ei 1,Ei 1048576],[Ei c.DO,Ei 1,Ei 1099511627776],[Ei c.zD,Ei 8,Ei 4096],[Ei c.Me,Ei 0,Ei 1048576],[Ei c.w1,Ei 1,Ei 100],[Ei c.w2,Ei 1,Ei 100],[Ei c.w3,Ei 1,Ei 100]]))=>AjA 17 [(c.node,1,16),(c.yi,1,1000),(c.sg,c.yi,100000),(c.zC,0,100),(c.DM,0,1048576),(c.DN,1,1048576),(c.DO,1,1099511627776),(c.zD,8,4096),(c.Me,0,1048576),(c.w1,1,100),(c.w2,1,100),(c.w3,1,100)] (.slice (nb h 7) 0 12 none) ⟨aR h l,lg,d⟩ (.some (nb h 7) 0 none true _ rfl (by rw[bj,q]) rfl (λ_ h=>by cases h)) (by simp)
 have g2:=λl lg d (q:fj l 8=(aO 3 [[Eu c.iK,Eu 1,Eu 1099511627776],[Eu c.vM,Eu 1,Eu 1200],[Eu c.uX,Eu 0,Eu c.iK],[Eu c.jZ,Eu 0,Eu c.iK]]))=>AjB 17 [(c.iK,1,1099511627776),(c.vM,1,1200),(c.uX,0,c.iK),(c.jZ,0,c.iK)] (.slice (nb h 8) 0 4 (some 4)) ⟨aR h l,lg,d⟩ (.some (nb h 8) 0 (some 4) true _ rfl (by rw[bj,q]) rfl (λ_ h=>by cases h;simp)) (by simp)
 simp only[all_cons,all_nil,qY]at g1 g2;refine aW (Z2 g1 g2) ?_;refine⟨λc1=>?_,λc1=>⟨λc2=>?_,λc2=>?_⟩⟩
 .rw[wm,aq];rintro ⟨a1,a2,a3,a4,a5,a6,a7,a8,a9,Nl,SH,a12,a13,a14,a15,YX⟩;exact c1 ⟨a1,a6,a7,a8,a12,a13,a14,a15,YX,a9,Nl,SH⟩
 .rw[wm,aq];rintro ⟨a1,a2,a3,a4,a5,a6,a7,a8,a9,Nl,SH,a12,a13,a14,a15,YX⟩;exact c2 ⟨a2,a3,⟨w1,a4⟩,w2,a5⟩
 .rw[wm,aG];obtain⟨b1,b2,b3,b4,b5,b6,b7,b8,b9,b10,b11,b12⟩:=c1;obtain⟨d1,d2,d3,d4⟩:=c2;exact⟨b1,d1,d2,d3.2,d4.2,b2,b3,b4,b10,b11,b12,b5,b6,b7,b8,b9⟩
theorem AjC(a b c:Int)(m:Mem)(q_:85<=j:=by omega):SM j 122 [Ei a,Ei b,Ei c] m=some (.bool (decide (b<=a/\a<=c)),m):=by
 obtain⟨h,lg,d⟩:=m;refine aP 1999 q_ λn=>?_
 exact aK
theorem E68(c:Ij)(m:Mem)(q_:86<=j:=by omega):SM j 68 [.agg (Mf c)] m=some (Ei (wm c),m):=by
 obtain⟨h,lg,d⟩:=m;refine aP 1999 q_ λn=>?_
 have g:=λa b c=>AjC 85 a b c
 refine aW (Z2 @Mf.eq_1 g) ?_;repeat' first|apply And.intro|intro _
 all_goals
  refine yg 3 Z ?_;refine aW g ?_;(repeat' first|apply And.intro|intro _)<;>first|(rw[wm,aq];rintro ⟨a1,a2,a3,a4,a5,a6,a7,a8,a9,Nl,SH,a12,a13,a14,a15,YX⟩;first|contradiction|omega)|(rw[wm,aG];omega)
end
section
variable{F:FuncId->Option bD}{au:bR}{sm:ct}
structure VX where
 v:jh
 b:AV
 m:AV
 p:AV
 lp:List PX
 q:AV
 lq:List PX
 deriving Inhabited
def dI(x:VX):List AV:=[Ei x.v.eB.node,Eu x.v.eB.iK,Eu x.v.eB.vM,Eu x.v.eB.uX,Eu x.v.eB.jZ,Ei x.v.eB.yi,Ei x.v.eB.sg,Ei x.v.eB.zC,Ei x.v.eB.w1,Ei x.v.eB.w2,Ei x.v.eB.w3,Ei x.v.eB.DM,Ei x.v.eB.DN,Ei x.v.eB.DO,Ei x.v.eB.zD,Ei x.v.eB.Me,.bool (decide (x.v.up=true)),
 Ei x.v.st.node,Eu x.v.st.C2,Ei x.v.st.dF.n,Eu x.v.st.dF.s,Ei x.v.st.dF.o,x.b,x.m,x.p,x.q]
structure jA(h:aN)(x:VX):Prop where
 s:mP h x.v.st x.b x.m x.p x.lp
 q:df h x.q x.lq
 e:x.v.bM=x.lq.map (·.p)
 w:x.lq.length<=1000
 w1:0<=x.v.eB.uX
 w2:0<=x.v.eB.jZ
theorem mP.bw{mm m':Mem}{S:je}{b m v:AV}{l:List PX}(H:mP mm.ah S b m v l)(k:aY mm m'):mP m'.ah S b m v l:=⟨H.b.bw k,H.m.bw k,H.p.bw k,H.e,H.w1,H.w2,H.w3,H.d⟩
theorem jA.bw{m m':Mem}{x:VX}(H:jA m.ah x)(k:aY m m'):jA m'.ah x:=⟨H.s.bw k,H.q.bw k,H.e,H.w,H.w1,H.w2⟩
theorem jA.bx{h:aN}{x:VX}(H:jA h x)(l:List (Option bp)):jA (aR h l) x:=⟨H.s.bx l,H.q.bx l,H.e,H.w,H.w1,H.w2⟩
structure LX where
 l:JU
 f:AV
 deriving Inhabited
def oI(s:List UInt8):List AV:=[.fN s]
def jB(x:LX):List AV:=[Ei x.l.src,Ei x.l.dst,x.f]
structure cE where
 cA:Int
 nv:AV
 vs:List VX
 lv:AV
 ls:List LX
def cJ(s:cE):List AV:=[Ei s.cA,s.nv,s.lv]
structure bQ(h:aN)(s:cE):Prop where
 v:aT h 26 s.nv (s.vs.map dI)
 l:aT h 3 s.lv (s.ls.map jB)
 va:∀x∈s.vs,jA h x
 la:∀x∈s.ls,aT h 1 x.f (x.l.dh.map oI)/\x.l.dh.length<=1000
 w1:s.vs.length<=1000
 w2:s.ls.length<=1000
theorem bQ.bw{m m':Mem}{s:cE}(H:bQ m.ah s)(k:aY m m'):bQ m'.ah s:=⟨H.v.bw k,H.l.bw k,λx hx=>(H.va x hx).bw k,λx hx=>⟨(H.la x hx).1.bw k,(H.la x hx).2⟩,H.w1,H.w2⟩
theorem bQ.bx{h:aN}{s:cE}(H:bQ h s)(l:List (Option bp)):bQ (aR h l) s:=⟨H.v.bx l,H.l.bx l,λx hx=>(H.va x hx).bx l,λx hx=>⟨(H.la x hx).1.bx l,(H.la x hx).2⟩,H.w1,H.w2⟩
theorem aY.sn{h h':aN}{kq bq:List Nat}{l0:List (Option bp)}(k:aY ⟨aR h l0,kq,[]⟩ ⟨h',bq,[]⟩){s:cE}(H:bQ h s):bQ h' s:=bQ.bw (m:=⟨aR h l0,kq,[]⟩) (m':=⟨h',bq,[]⟩) (H.bx l0) k
def j3(node:Int)(l:List dT)(i:Nat):Int:=
 if jn (gt l i)≠0 then jn (gt l i)else if(gt l i).node=node then 3 else if 0<i/\(gt l i).node<=(gt l (i-1)).node then 19 else 0
theorem Ck{node:Int}{ps:List dT}{i:Nat}{p q:dT}(x1:gt ps i=p)(x2:gt ps (i-1)=q):j3 node ps i=if jn p≠0 then jn p else if p.node=node then 3 else if 0<i/\p.node<=q.node then 19 else 0:=by
 rw[j3,x1,x2]
def kR(v:jh):Int:=
 if d8 v.st≠0 then d8 v.st else if v.st.node≠v.eB.node\/v.st.C2<1 then 3 else first (j3 v.eB.node v.bM) v.bM.length
theorem E60(x:VX)(m:Mem)(H:jA m.ah x)(q_:76<=j:=by omega):SM j 60 [.agg (dI x)] m=some (Ei (kR x.v),m):=by
 obtain⟨h,lg,d⟩:=m;refine aP 1999 q_ λn=>?_
 have c1:=H.s.b.sc;have c2:=H.s.m.sc;have c3:=H.s.p.v.sc;have c4:=H.q.v.sc;have lv:=H.q.v.len;have g1:=λl lg d=>AfB 75 x.v.st x.b x.m x.p x.lp ⟨aR h l,lg,d⟩ (H.s.bx l)
 unfold mf at g1;refine aW (Z7 @dI.eq_1 c1 c2 c3 c4 g1 lv) ?_;refine⟨λq1=>by rw[kR,aG q1],λq1=>⟨λq2=>by rw[kR,aq Z,aG (.inl q2)],λq2=>⟨λq3=>by rw[kR,aq Z,aG (.inr q3)],λq3=>?_⟩⟩⟩;have e0:kR x.v=first (j3 x.v.eB.node x.v.bM) x.v.bM.length:=by rw[kR,aq Z,aq Z]
 have el:x.v.bM.length=x.lq.length:=by rw[H.e];simp
 refine bL x.lq.length [X29] (λi=>[Ei i]) (FP (j3 x.v.eB.node x.v.bM) x.v.bM.length) (by have:=H.w;omega) aX ⟨rfl,FP.zero _ _⟩ (λi h' bq g hi hP hK=>?_) (λh' bq g hP hK=>?_)
 .have a:=hK.aA lg d;have hp:=hK.ps H.q;have e:=hp.v.el hi;have p:=hp.v.pv hi (by have:=H.w;omega);have r:=fh hi (by have:=H.w;omega);have hx:=hp.p _ (bA hi);have g3:=λl lg d=>SO 75 _ _ _ _ ⟨aR h' l,lg,d⟩ (hx.bx l)
  have x1:gt x.v.bM i=(gt x.lq i).p:=by rw[H.e];exact mQ hi
  have x2:gt x.v.bM (i-1)=(gt x.lq (i-1)).p:=by rw[H.e];exact mQ Z
  have d1:=hx.s.s.sc;have d2:=hx.r.t.sc;have d3:=hx.r.k.sc;unfold wh dc at e p;unfold dc at g3;refine aW (Z8 a e p r g3 d1 d2 d3) ?_;have f1:∀y:Int,j3 x.v.eB.node x.v.bM i=y/\y≠0->y=kR x.v:=λy hx=>by
   rw[e0];exact hP.s1 Z hx
  have f3:=Ck (node:=x.v.eB.node) x1 x2;(repeat' first|(refine f1 _ ?_)|apply And.intro|intro _)<;>(try refine hP.next Z ?_)<;>first|omega|assumption|(rw[f3];(repeat' split)<;>first|omega|contradiction)
 .have a:=hK.aA lg d;have r:=cY x.lq.length;refine aW (Z2 a r) ?_;rw[e0];rw[el]at hP|-;simp[hP.dF]
end
section
variable{F:FuncId->Option bD}{au:bR}{sm:ct}
theorem E69(x:VX)(m:Mem)(H:jA m.ah x)(q_:102<=j:=by omega):SM j 69 [.agg (dI x)] m=some (Ei (kR x.v),m):=by
 obtain⟨h,lg,d⟩:=m;refine aP 1999 q_ λn=>?_
 have c1:=H.s.b.sc;have c2:=H.s.m.sc;have c3:=H.s.p.v.sc;have c4:=H.q.v.sc;have lv:=H.q.v.len;have g1:=λl lg d=>AfC 101 x.v.st x.b x.m x.p x.lp ⟨aR h l,lg,d⟩ (H.s.bx l)
 unfold mf at g1;refine aW (Z6 @dI.eq_1 c1 c2 c3 c4 g1) ?_;refine⟨λq1=>by rw[kR,aG q1],λq1=>⟨λq2=>by rw[kR,aq Z,aG (.inl q2)],λq2=>⟨λq3=>by rw[kR,aq Z,aG (.inr q3)],λq3=>?_⟩⟩⟩;have e0:kR x.v=first (j3 x.v.eB.node x.v.bM) x.v.bM.length:=by rw[kR,aq Z,aq Z]
 have el:x.v.bM.length=x.lq.length:=by rw[H.e];simp
 refine bL x.lq.length [X4] (λi=>[Ei i]) (FP (j3 x.v.eB.node x.v.bM) x.v.bM.length) (by have:=H.w;omega) aX ⟨rfl,FP.zero _ _⟩ (λi h' bq g hi hP hK=>?_) (λh' bq g hP hK=>?_)
 .have a:=hK.aA lg d;have hp:=hK.ps H.q;have e:=hp.v.el hi;have p:=hp.v.pv hi (by have:=H.w;omega);have r:=fh hi (by have:=H.w;omega);have hx:=hp.p _ (bA hi);have g3:=λl lg d=>SP 101 _ _ _ _ ⟨aR h' l,lg,d⟩ (hx.bx l)
  have x1:gt x.v.bM i=(gt x.lq i).p:=by rw[H.e];exact mQ hi
  have x2:gt x.v.bM (i-1)=(gt x.lq (i-1)).p:=by rw[H.e];exact mQ Z
  unfold wh dc at e p;unfold dc at g3;refine aW (Z6 a e p r g3 lv) ?_;have f1:∀y:Int,j3 x.v.eB.node x.v.bM i=y/\y≠0->y=kR x.v:=λy hx=>by
   rw[e0];exact hP.s1 Z hx
  have f3:=Ck (node:=x.v.eB.node) x1 x2;(repeat' first|(refine f1 _ ?_)|apply And.intro|intro _)<;>(try refine hP.next Z ?_)<;>first|omega|assumption|(rw[f3];(repeat' split)<;>first|omega|contradiction)
 .have a:=hK.aA lg d;have r:=cY x.lq.length;refine aW (Z3 a r lv) ?_;rw[e0];rw[el]at hP|-;simp[hP.dF]
def yC(x:JU):Int:=if x.src<1\/16<x.src\/x.dst<1\/16<x.dst\/x.src=x.dst then 2 else if 64<(x.dh.length:Int)then 5 else 0
theorem E61(x:LX)(m:Mem)(H:aT m.ah 1 x.f (x.l.dh.map oI))(q_:77<=j:=by omega):SM j 61 [.agg (jB x)] m=some (Ei (yC x.l),m):=by
 obtain⟨h,lg,d⟩:=m;refine aP 1999 q_ λn=>?_
 have c1:=H.sc;have l1:=H.len;refine aW (Z3 @jB.eq_1 c1 l1) ?_;(repeat' first|apply And.intro|intro _)<;>(simp only[yC]<;>(repeat' split)<;>first|rfl|omega)
theorem E49(a b c e:Int)(v w:AV)(m:Mem)(hv:aT m.ah 1 v ([a,b].map n9))(hw:aT m.ah 1 w ([c,e].map n9))(q_:15<=j:=by omega):SM j 49 [v,w] m=some (Ei (if gI a c≠0 then gI a c else gI b e),m):=by
 obtain⟨h,lg,d⟩:=m;refine aP 1999 q_ λn=>?_
 have lv:=hv.len;have lw:=hw.len;have g:=λa b=>Px 14 a b
 refine aW lv ?_;refine bL 2 [wJ] (λi=>[Ei i]) (λi=>(0<i->gI a c=0)/\(1<i->gI b e=0)) Z aX ⟨rfl,Z⟩ (λi h' bq g' hi hP hK=>?_) (λh' bq g' hP hK=>?_)
 .have aa:=hK.aA lg d;have e1:=(hK.sl hv).Uu (i:=i) (by simpa using hi);have e2:=(hK.sl hw).Uu (i:=i) (by simpa using hi);have r:=fh hi Z;have t1:(((2:Nat):Int)<=(i:Int))=False:=by simp;omega
  rcases(by omega:i=0\/i=1)with rfl|rfl
  .simp only[n9,getElem_cons_zero,Nat.add_zero,show((0:Nat):Int)=0 from rfl]at e1 e2;refine aW (Z5 aa e1 e2 lw g) ?_;exactλ_ q=>q.elim
  .simp only[n9,getElem_cons_succ,getElem_cons_zero,show((1:Nat):Int)=1 from rfl]at e1 e2;refine aW (Z5 aa e1 e2 lw g) ?_;have q0:=hP.1 Z;exact⟨λc=>by rw[aq Z],λc=>q0⟩
 .have aa:=hK.aA lg d;refine aW (Z3 aa lv lw) ?_;have q0:=hP.1 Z;have q1:=hP.2 Z;rw[aq Z,q1]
def kW(l:List JU)(i:Nat):Int:=
 if yC (gt l i)≠0 then yC (gt l i)else if 0<i/\((gt l i).src<(gt l (i-1)).src\/((gt l i).src=(gt l (i-1)).src/\(gt l i).dst<=(gt l (i-1)).dst))then 19 else 0
def jq(l:List jh)(i:Nat):Int:=
 if wm (gt l i).eB≠0 then wm (gt l i).eB else if 0<i/\(gt l i).eB.node<=(gt l (i-1)).eB.node then 19 else kR (gt l i)
def cE.d(s:cE):kG:=⟨s.cA,s.vs.map (·.v),s.ls.map (·.l)⟩
def dU(s:kG):Int:=
 if s.cA<0\/1099511627776<s.cA then 2 else if 16<(s.bu.length:Int)then 5
 else if first (jq s.bu) s.bu.length≠0 then first (jq s.bu) s.bu.length
 else if 240<(s.gV.length:Int)then 5 else first (kW s.gV) s.gV.length
theorem gY{l:List VX}{i:Nat}(hi:i<l.length):gt (l.map (·.v)) i=(gt l i).v:=by
 rw[bB hi,bB (by simpa using hi)];simp
theorem A1{l:List LX}{i:Nat}(hi:i<l.length):gt (l.map (·.l)) i=(gt l i).l:=by
 rw[bB hi,bB (by simpa using hi)];simp
theorem E24(s:cE)(m:Mem)(H:bQ m.ah s)(q_:78<=j:=by omega):SM j 24 [.agg (cJ s)] m=some (Ei (dU s.d),m):=by
 obtain⟨h,lg,d⟩:=m;refine aP 1999 q_ λn=>?_
 have c1:=H.v.sc;have c2:=H.l.sc;have l1:=H.v.len;have l2:=H.l.len;refine aW (Z4 @cJ.eq_1 c1 c2 l1) ?_;refine⟨λq1=>by rw[dU,aG (.inl q1)],λq1=>⟨λq2=>by rw[dU,aG (.inr q2)],λq2=>⟨λq3=>by rw[dU,aq (by simp only[cE.d];omega),aG (by simp only[cE.d,length_map];exact q3)],λq3=>?_⟩⟩⟩;have n1:s.d.bu.length=s.vs.length:=by simp[cE.d]
 have n2:s.d.gV.length=s.ls.length:=by simp[cE.d]
 have e0:dU s.d=if first (jq s.d.bu) s.d.bu.length≠0 then first (jq s.d.bu) s.d.bu.length
  else if 240<(s.d.gV.length:Int)then 5 else first (kW s.d.gV) s.d.gV.length:=by
  rw[dU,aq (by simp only[cE.d];omega),aq (by rw[n1];exact q3)]
 refine bL s.vs.length [X26] (λi=>[Ei i]) (FP (jq s.d.bu) s.d.bu.length) Z aX ⟨rfl,FP.zero _ _⟩ (λi h' bq g hi hP hK=>?_) (λh' bq g hP hK=>?_)
 .have a:=hK.aA lg d;have hv:=hK.sn H;have e:=hv.v.el hi;have p:=hv.v.pv hi Z;have r:=fh hi Z;have hx:=hv.va _ (bA hi);have g1:=λm=>E59 77 (gt s.vs i).v.eB m hx.w1 hx.w2
  have g2:=λl lg d=>E60 77 (gt s.vs i) ⟨aR h' l,lg,d⟩ (hx.bx l)
  have d1:=hx.s.b.sc;have d2:=hx.s.m.sc;have d3:=hx.s.p.v.sc;have d4:=hx.q.v.sc;unfold dI at e p g2;unfold Mf at g1;refine aW (yA a e p r g1 g2 d1 d2 d3 d4) ?_;have uL:i<s.d.bu.length:=Z;have x1:gt s.d.bu i=(gt s.vs i).v:=gY hi;have x2:gt s.d.bu (i-1)=(gt s.vs (i-1)).v:=gY Z;have f1:∀y:Int,jq s.d.bu i=y/\y≠0->y=dU s.d:=λy hy=>by
   have:=hP.s1 uL hy;rw[e0,aG (by rw[<-this];exact hy.2)];exact this
  have f3:jq s.d.bu i=if wm (gt s.vs i).v.eB≠0 then wm (gt s.vs i).v.eB else if 0<i/\(gt s.vs i).v.eB.node<=(gt s.vs (i-1)).v.eB.node then 19 else kR (gt s.vs i).v:=by rw[jq,x1,x2]
  (repeat' first|(refine f1 _ ?_)|apply And.intro|intro _)<;>(try refine hP.next uL ?_)<;>first|omega|assumption|(rw[f3];(repeat' split)<;>first|omega|contradiction|rfl)
 .have a:=hK.aA lg d;have r:=cY s.vs.length;refine aW (Z3 a r l2) ?_;rw[n1]at hP;have hz:=hP.dF;rw[n1]at e0;refine⟨λq4=>by rw[e0,aq (by rw[hz.1];omega),aG (by rw[n2];exact q4)],λq4=>?_⟩;have e1:dU s.d=first (kW s.d.gV) s.d.gV.length:=by rw[e0,aq (by rw[hz.1];omega),aq (by rw[n2];exact q4)]
  refine bL s.ls.length [X69] (λi=>[Ei i]) (FP (kW s.d.gV) s.d.gV.length) Z aX ⟨rfl,FP.zero _ _⟩ (λi h2 dx g2 hi mh iL=>?_) (λh2 dx g2 mh iL=>?_)
  .have a2:=iL.aA bq d;have a:=aY.aA (hK.trans iL) lg d;have hv:=iL.sn (hK.sn H);have e:=hv.l.el hi;have p:=hv.l.pv hi Z;have r:=fh hi Z;have hx:=hv.la _ (bA hi);have g1:=λl lg d=>E61 77 (gt s.ls i) ⟨aR h2 l,lg,d⟩ (hx.1.bx l)
   have d1:=hx.1.sc;have tp:=hv.l.rM;have nq:=aY.WS (hK.trans iL);have tq:=hv.l.sbn (i:=i) (by simpa using hi);have g3:=λl lg d (q1:fj l 1=(aO 1 [[Ei (gt s.ls (i-1)).l.src],[Ei (gt s.ls (i-1)).l.dst]])) (q2:fj l 2=(aO 1 [[Ei (gt s.ls i).l.src],[Ei (gt s.ls i).l.dst]]))=>
    E49 77 (gt s.ls (i-1)).l.src (gt s.ls (i-1)).l.dst (gt s.ls i).l.src (gt s.ls i).l.dst (.slice (nb h2 1) 0 2 (some 2)) (.slice (nb h2 2) 0 2 (some 2)) ⟨aR h2 l,lg,d⟩ (.some (nb h2 1) 0 (some 2) true _ rfl (by rw[bj,q1]) rfl (λ_ h=>by cases h;simp)) (.some (nb h2 2) 0 (some 2) true _ rfl (by rw[bj,q2]) rfl (λ_ h=>by cases h;simp))
   unfold jB at e p g1;refine aW (xq a a2 e p r g1 d1 tp tq nq g3) ?_;have uL:i<s.d.gV.length:=Z;have x1:gt s.d.gV i=(gt s.ls i).l:=A1 hi;have x2:gt s.d.gV (i-1)=(gt s.ls (i-1)).l:=A1 Z;have f1:∀y:Int,kW s.d.gV i=y/\y≠0->y=dU s.d:=λy hy=>by
    rw[e1];exact mh.s1 uL hy
   have f3:kW s.d.gV i=if yC (gt s.ls i).l≠0 then yC (gt s.ls i).l else if 0<i/\((gt s.ls i).l.src<(gt s.ls (i-1)).l.src\/((gt s.ls i).l.src=(gt s.ls (i-1)).l.src/\(gt s.ls i).l.dst<=(gt s.ls (i-1)).l.dst))then 19 else 0:=by rw[kW,x1,x2]
   simp only[gI];(repeat' first|(refine f1 _ ?_)|apply And.intro|intro _)<;>(try refine mh.next uL ?_)<;>first|omega|assumption|(rw[f3];(repeat' split)<;>first|omega|contradiction|rfl|((repeat' split at*)<;>omega))
  .have a2:=iL.aA bq d;have a:=aY.aA (hK.trans iL) lg d;have r:=cY s.ls.length;refine aW (Z2 a r) ?_;rw[e1];rw[n2]at mh|-;simp[mh.dF]
end
section
variable{F:FuncId->Option bD}{au:bR}{sm:ct}
theorem E34(s:cE)(m:Mem)(H:bQ m.ah s)(q_:103<=j:=by omega):SM j 34 [.agg (cJ s)] m=some (Ei (dU s.d),m):=by
 obtain⟨h,lg,d⟩:=m;refine aP 1999 q_ λn=>?_
 have c1:=H.v.sc;have c2:=H.l.sc;have l1:=H.v.len;have l2:=H.l.len;refine aW (Z4 @cJ.eq_1 c1 c2 l1) ?_;refine⟨λq1=>by rw[dU,aG (.inl q1)],λq1=>⟨λq2=>by rw[dU,aG (.inr q2)],λq2=>⟨λq3=>by rw[dU,aq (by simp only[cE.d];omega),aG (by simp only[cE.d,length_map];exact q3)],λq3=>?_⟩⟩⟩;have n1:s.d.bu.length=s.vs.length:=by simp[cE.d]
 have n2:s.d.gV.length=s.ls.length:=by simp[cE.d]
 have e0:dU s.d=if first (jq s.d.bu) s.d.bu.length≠0 then first (jq s.d.bu) s.d.bu.length
  else if 240<(s.d.gV.length:Int)then 5 else first (kW s.d.gV) s.d.gV.length:=by
  rw[dU,aq (by simp only[cE.d];omega),aq (by rw[n1];exact q3)]
 refine bL s.vs.length [X3] (λi=>[Ei i]) (FP (jq s.d.bu) s.d.bu.length) Z aX ⟨rfl,FP.zero _ _⟩ (λi h' bq g hi hP hK=>?_) (λh' bq g hP hK=>?_)
 .have a:=hK.aA lg d;have hv:=hK.sn H;have e:=hv.v.el hi;have p:=hv.v.pv hi Z;have r:=fh hi Z;have hx:=hv.va _ (bA hi);have g1:=λm=>E68 102 (gt s.vs i).v.eB m
  have g2:=λl lg d=>E69 102 (gt s.vs i) ⟨aR h' l,lg,d⟩ (hx.bx l)
  unfold dI at e p g2;unfold Mf at g1;refine aW (Z7 a e p r g1 g2 l1) ?_;have uL:i<s.d.bu.length:=Z;have x1:gt s.d.bu i=(gt s.vs i).v:=gY hi;have x2:gt s.d.bu (i-1)=(gt s.vs (i-1)).v:=gY Z;have f1:∀y:Int,jq s.d.bu i=y/\y≠0->y=dU s.d:=λy hy=>by
   have:=hP.s1 uL hy;rw[e0,aG (by rw[<-this];exact hy.2)];exact this
  have f3:jq s.d.bu i=if wm (gt s.vs i).v.eB≠0 then wm (gt s.vs i).v.eB else if 0<i/\(gt s.vs i).v.eB.node<=(gt s.vs (i-1)).v.eB.node then 19 else kR (gt s.vs i).v:=by rw[jq,x1,x2]
  (repeat' first|(refine f1 _ ?_)|apply And.intro|intro _)<;>(try refine hP.next uL ?_)<;>first|omega|assumption|(rw[f3];(repeat' split)<;>first|omega|contradiction|rfl)
 .have a:=hK.aA lg d;have r:=cY s.vs.length;refine aW (Z4 a r l1 l2) ?_;rw[n1]at hP;have hz:=hP.dF;rw[n1]at e0;refine⟨λq4=>by rw[e0,aq (by rw[hz.1];omega),aG (by rw[n2];exact q4)],λq4=>?_⟩;have e1:dU s.d=first (kW s.d.gV) s.d.gV.length:=by rw[e0,aq (by rw[hz.1];omega),aq (by rw[n2];exact q4)]
  refine bL s.ls.length [X5] (λi=>[Ei i]) (FP (kW s.d.gV) s.d.gV.length) Z aX ⟨rfl,FP.zero _ _⟩ (λi h2 dx g2 hi mh iL=>?_) (λh2 dx g2 mh iL=>?_)
  .have a2:=iL.aA bq d;have a:=aY.aA (hK.trans iL) lg d;have hv:=iL.sn (hK.sn H);have e:=hv.l.el hi;have p:=hv.l.pv hi Z;have r:=fh hi Z;have hx:=hv.la _ (bA hi);have lf:=hx.1.len;have d1:=hx.1.sc;unfold jB at e p;refine aW (Z8 a a2 e p r lf d1 l2) ?_;have uL:i<s.d.gV.length:=Z;have x1:gt s.d.gV i=(gt s.ls i).l:=A1 hi;have x2:gt s.d.gV (i-1)=(gt s.ls (i-1)).l:=A1 Z;have f1:∀y:Int,kW s.d.gV i=y/\y≠0->y=dU s.d:=λy hy=>by
    rw[e1];exact mh.s1 uL hy
   have f3:kW s.d.gV i=if yC (gt s.ls i).l≠0 then yC (gt s.ls i).l else if 0<i/\((gt s.ls i).l.src<(gt s.ls (i-1)).l.src\/((gt s.ls i).l.src=(gt s.ls (i-1)).l.src/\(gt s.ls i).l.dst<=(gt s.ls (i-1)).l.dst))then 19 else 0:=by rw[kW,x1,x2]
   (repeat' first|(refine f1 _ ?_)|apply And.intro|intro _)<;>(try refine mh.next uL ?_)<;>first|omega|assumption|(rw[f3];simp only[yC];(repeat' split)<;>first|omega|contradiction|rfl)
  .have a2:=iL.aA bq d;have a:=aY.aA (hK.trans iL) lg d;have r:=cY s.ls.length;refine aW (Z3 a r l2) ?_;rw[e1];rw[n2]at mh|-;simp[mh.dF]
end
section
variable{F:FuncId->Option bD}{au:bR}{sm:ct}
def wO(b:fR)(cA:Int):Int×Int:=if j0 b≠0 then(0,j0 b)else if cA<0\/1099511627776<cA then(0,2)else(b.born+b.iO-cA,0)
theorem tG{b:fR}(h:j0 b=0):0<=b.born/\b.born<=1099511627776/\1<=b.iO/\b.iO<=1048576/\1<=b.eO/\b.eO<=20000/\1<=b.jF/\b.jF<=16/\0<=b.kZ/\b.kZ<=2/\(b.data.length:Int)<=1000/\0<(b.data.length:Int)/\b.id.o<=b.eO-b.data.length/\xu b.id=0:=by
 rw[j0]at h;split at h
 .cases h
 .split at h
  .cases h
  .split at h
   .cases h
   .split at h
    .cases h
    .split at h
     .cases h
     .refine⟨?_,?_,?_,?_,?_,?_,?_,?_,?_,?_,?_,?_,?_,?_⟩<;>omega
theorem AjD(b:fR)(cA:Int)(m:Mem)(w1:b.data.length<=1000000)(w2:I b.eO)(q_:168<=j:=by omega):SM j 175 [.agg (dt b),Ei cA] m=some (.tuple [Ei (wO b cA).1,Ei (wO b cA).2],m):=by
 obtain⟨h,lg,d⟩:=m;refine aP 1999 q_ λn=>?_
 have g:=λm=>Mn 167 b m w1 w2
 have wa:j0 b=0->i64.wrap (b.born+b.iO)=b.born+b.iO:=λq=>by have:=tG q;exact aU Z Z
 have wb:j0 b=0->¬cA<0->¬1099511627776<cA->i64.wrap (b.born+b.iO-cA)=b.born+b.iO-cA:=λq q1 q2=>by have:=tG q;exact aU Z Z
 unfold dt at g;refine aW (Z4 @dt.eq_1 g wa wb) ?_;(repeat' first|apply And.intro|intro _)<;>(simp only[wO]<;>(repeat' split)<;>first|rfl|omega)
theorem AjE(b:fR)(cA:Int)(m:Mem)(w1:b.data.length<=1000000)(w2:I b.eO)(q_:169<=j:=by omega):SM j 112 [.agg (dt b),Ei cA] m=some (.tuple [.bool (decide ((wO b cA).1<=0/\(wO b cA).2=0)),Ei (wO b cA).2],m):=by
 obtain⟨h,lg,d⟩:=m;refine aP 1999 q_ λn=>?_
 have g:=λm=>AjD 168 b cA m w1 w2
 unfold dt at g;exact aC (Z2 @dt.eq_1 g)
def Cm(l:List (Int×Int))(i:Nat):Int:=if(gt l i).2<=(gt l i).1 then 2 else if 0<i/\(gt l i).1<=(gt l (i-1)).2 then 19 else 0
def Re(l:List (Int×Int)):Int×Int:=if 1000<(l.length:Int)then(5,0)else(first (Cm l) l.length,jd (Cm l) l.length)
theorem AjF(l:List (Int×Int))(v:AV)(m:Mem)(hv:aT m.ah 2 v (l.map lG))(hw:l.length<=1000000)(q_:251<=j:=by omega):SM j 329 [v] m=some (.tuple [Ei (Re l).1,Ei (Re l).2],m):=by
 obtain⟨h,lg,d⟩:=m;refine aP 1999 q_ λn=>?_
 have lv:=hv.len;refine aW lv ?_;refine⟨λq=>by simp[Re,q],λq=>?_⟩;have e0:Re l=(first (Cm l) l.length,jd (Cm l) l.length):=by rw[Re,aq q]
 refine bL l.length [wJ] (λi=>[Ei i]) (FP (Cm l) l.length) Z aX ⟨rfl,FP.zero _ _⟩ (λi h' bq g hi hP hK=>?_) (λh' bq g hP hK=>?_)
 .have a:=hK.aA lg d;have e:=(hK.sl hv).el hi;have p:=(hK.sl hv).pv hi Z;have r:=fh hi Z;unfold lG at e p;refine aW (Z5 a e p r e0) ?_;(repeat' first|apply And.intro|intro _)<;>(first|(refine hP.next hi ?_)|(refine hP.s1 hi ?_)|(refine hP.s2 hi ?_))<;>(simp only[Cm]<;>(repeat' split)<;>omega)
 .have a:=hK.aA lg d;have r:=cY l.length;refine aW (Z3 a r e0) ?_;simp[hP.dF]
def mR:List (Int×Int)->Int
 |[]=>0
 |x::l=>(x.2-x.1)+mR l
theorem iw(x:Int):u64.wrap x=x%18446744073709551616:=by
 simp only[wrap,IntKind.bits,signed];simp
theorem zK{l:List (Int×Int)}{i:Nat}(hi:i<l.length):mR (l.take (i+1))=mR (l.take i)+((gt l i).2-(gt l i).1):=by
 have key:∀(l:List (Int×Int)) (x:Int×Int),mR (l++[x])=mR l+(x.2-x.1):=λl x=>by
  induction l with
  |nil=>simp[mR]
  |cons y l ih=>rw[cons_append,mR,ih,mR];omega
 rw[take_add_one,getElem?_eq_getElem hi,toList_some,key,bB hi]
theorem Mo(l:List (Int×Int))(v:AV)(m:Mem)(hv:aT m.ah 2 v (l.map lG))(hw:l.length<=1000)(q_:252<=j:=by omega):SM j 320 [v] m=some (.tuple [Eu (if(Re l).1≠0 then 0 else u64.wrap (mR l)),Ei (Re l).1],m):=by
 obtain⟨h,lg,d⟩:=m;refine aP 1999 q_ λn=>?_
 have lv:=hv.len;have g:=λq lg d=>AjF 251 l v ⟨aR h q,lg,d⟩ (hv.bx q) Z
 refine aW (Z2 lv g) ?_;intro q;refine bL l.length [WV,X6] (λi=>[Ei i,Eu (u64.wrap (mR (l.take i)))]) (λ_=>True) Z aX ⟨rfl,trivial⟩ (λi h' bq g hi hP hK=>?_) (λh' bq g hP hK=>?_)
 .have a:=hK.aA lg d;have e:=(hK.sl hv).el hi;have r:=fh hi Z;have w:u64.wrap (u64.wrap (mR (l.take i))+u64.wrap ((gt l i).2-(gt l i).1))=u64.wrap (mR (l.take (i+1))):=by
   rw[zK hi];simp only[iw];omega
  unfold lG at e;exact aC (Z4 a e r w)
 .have a:=hK.aA lg d;have r:=cY l.length;exact aC (Z2 a r)
def xw(R:iJ):Int:=u64.wrap (R.g-R.r-R.f-mR R.cH)
theorem AjG(R:iJ)(t k:AV)(m:Mem)(H:lx m.ah R t k)(hw:R.cH.length<=1000)(q_:278<=j:=by omega):SM j 279 [.agg (eZ R t k)] m=some (Eu (xw R),m):=by
 obtain⟨h,lg,d⟩:=m;refine aP 1999 q_ λn=>?_
 have c1:=H.t.sc;have c2:=H.k.sc;have lt:=H.t.len;refine aW (Z3 @eZ.eq_1 c1 c2) ?_;have w0:u64.wrap (u64.wrap (R.g-R.r)-R.f)=u64.wrap (R.g-R.r-R.f-mR (R.cH.take 0)):=by
  simp only[iw,take_zero,mR];omega
 refine bL R.cH.length [X4,X3] (λi=>[Ei i,Eu (u64.wrap (R.g-R.r-R.f-mR (R.cH.take i)))]) (λ_=>True) Z aX ⟨by simp only[map_cons,map_nil,Ul,Um,Un,w0];rfl,trivial⟩ (λi h' bq g hi hP hK=>?_) (λh' bq g hP hK=>?_)
 .have a:=hK.aA lg d;have e:=(hK.sl H.t).el hi;have r:=fh hi Z;have w:u64.wrap (u64.wrap (R.g-R.r-R.f-mR (R.cH.take i))-u64.wrap ((gt R.cH i).2-(gt R.cH i).1))=u64.wrap (R.g-R.r-R.f-mR (R.cH.take (i+1))):=by
   rw[zK hi];simp only[iw];omega
  unfold lG at e;exact aC (Z5 a e r w lt)
 .have a:=hK.aA lg d;have r:=cY R.cH.length;refine aW (Z3 a r lt) ?_;rfl
theorem AjH(R:iJ)(t k:AV)(m:Mem)(H:lx m.ah R t k)(hw:R.cH.length<=1000)(q_:279<=j:=by omega):SM j 216 [.agg (eZ R t k)] m=some (.tuple [Eu (if(ft R).1≠0 then 0 else xw R),Ei (ft R).1],m):=by
 obtain⟨h,lg,d⟩:=m;refine aP 1999 q_ λn=>?_
 have c1:=H.t.sc;have c2:=H.k.sc;have g1:=λl lg d=>Afx 278 R t k ⟨aR h l,lg,d⟩ (H.bx l)
 have g2:=λl lg d=>AjG 278 R t k ⟨aR h l,lg,d⟩ (H.bx l) hw
 unfold eZ at g1 g2;exact aC (Z5 @eZ.eq_1 c1 c2 g1 g2)
end
section
variable{F:FuncId->Option bD}{au:bR}{sm:ct}
theorem aT.Pz{α:Type}{h:aN}{e:Nat}{v:AV}{f:α->List AV}{l:List α}(H:aT h e v (l.map f))(Dl:∀n,v≠.Hl n):
 (l=[]/\v=.aF)\/(l=[]/\v=.fg)\/(l=[]/\∃b i c,v=.slice b i 0 c)\/(∃y ys b i c bS bI,l=y::ys/\v=.slice b i (ys.length+1) c/\(∀q,aj (aR h q) b=Option.some (.row bS e bI))/\i+(ys.length+1)<=bI.length/\(bI.drop i).take (ys.length+1)=f y::ys.map f):=by
 rcases H with⟨hn,hv⟩|⟨b,i,c,bS,bI,rfl,hb,hw,hc⟩
 .have hl:l=[]:=by simpa using hn
  rcases hv with rfl|rfl|rfl
  .exact .inl ⟨hl,rfl⟩
  .exact .inr (.inl ⟨hl,rfl⟩)
  .exact absurd rfl (Dl 0)
 .cases l with
  |nil=>exact .inr (.inr (.inl ⟨rfl,b,i,c,rfl⟩))
  |cons y ys=>
   refine .inr (.inr (.inr ⟨y,ys,b,i,c,bS,bI,rfl,by simp,λq=>(an q h b (ag hb)).trans hb,?_⟩));have hl:(bI.drop i).take (ys.length+1)=f y::ys.map f:=by simpa using hw
   have eV:i+(ys.length+1)<=bI.length:=by
    have:=congrArg List.length hl;simp only[length_take,length_drop,length_cons,length_map]at this;omega
   exact⟨eV,hl⟩
def kS(v:AV):Prop:=∀n,v≠.Hl n
theorem UD{R:iJ}(h:(ft R).1=0):(Re R.cH).1=0/\R.r<=R.g/\R.f<=R.g-R.r/\R.g<=1125899906842624/\R.cH.length<=1000/\R.jW.length<=1000/\first (mz R) R.cH.length=0:=by
 rw[ft]at h;split at h
 .cases h
 .split at h
  .cases h
  .split at h
   .cases h
   .split at h
    .omega
    .rename_i q1 q2 q3 q4;have q4:first (mz R) R.cH.length=0:=Z
     refine⟨?_,Z,Z,Z,Z,Z,q4⟩;have hz:=(iE R.cH.length 0).1 q4;rw[Re,aq Z];refine(iE R.cH.length 0).2 λj h1 h2=>?_
     have:=hz j h1 h2;rw[mz]at this;rw[Cm];split at this
     .omega
     .rename_i q5;rw[aq (λq=>q5 (.inl q)),aq (λq=>q5 (.inr (.inr q)))]
theorem yD(y:Int):hH (kU y)=[]:=rfl
theorem yE(y:Int×Int):hH (lG y)=[]:=rfl
theorem vS(l:List Int):gh (l.map kU)=[]:=by
 induction l with
 |nil=>rfl
 |cons y l ih=>rw[map_cons,gh,ih];rfl
theorem vT(l:List (Int×Int)):gh (l.map lG)=[]:=by
 induction l with
 |nil=>rfl
 |cons y l ih=>rw[map_cons,gh,ih];rfl
theorem AjI(R:iJ)(t k:AV)(m:Mem)(H:lx m.ah R t k)(ot:kS t)(ok:kS k)(hw:R.cH.length<=1000)(q_:254<=j:=by omega):SM j 246 [.agg (eZ R t k)] m=some (.tuple [Eu (if(ft R).1≠0 then 0 else xw R),Ei (ft R).1],m):=by
 obtain⟨h,lg,d⟩:=m;refine aP 1999 q_ λn=>?_
 have c1:=H.t.sc;have c2:=H.k.sc;have g1:=λl lg d=>Afw 253 R t k ⟨aR h l,lg,d⟩ (H.bx l)
 have z1:=λ(l:List (Option bp)) lg d=>Mo 253 [] .aF ⟨aR h l,lg,d⟩ (.none rfl (.inl rfl)) (by simp)
 have z2:=λm=>Xo 253 ⟨0,0,0,[],[]⟩ .aF .aF m rfl rfl (by simp) (by simp) (by simp)
 unfold eZ at g1 z2;have z3:u64.wrap 0=0:=by simp only[iw];rfl
 have z4:(Re []).1=0:=rfl;have z5:mR []=0:=rfl;rcases Classical.em ((ft R).1=0)with hr|hr
 .have hq:=UD hr;rcases H.t.Pz ot with⟨ht,rfl⟩|⟨ht,rfl⟩|⟨ht,b,i,c,rfl⟩|⟨y,ys,b,i,c,bS,bI,ht,rfl,hb,Y1,Za⟩<;>rcases H.k.Pz ok with⟨hk,rfl⟩|⟨hk,rfl⟩|⟨hk,b2,i2,cc2,rfl⟩|⟨y2,ys2,b2,i2,cc2,uW,qC,hk,rfl,rF,SQ,SR⟩
  all_goals
   have y1:=λ(l:List (Option bp)) lg d=>Mo 253 [] .fg ⟨aR h l,lg,d⟩ (.none rfl (.inr (.inl rfl))) (by simp)
   have y2:=λt' k' m (q1:AV.cU t'=true) (q2:AV.cU k'=true)=>Xo 253 R t' k' m q1 q2 hq.2.1 H.g0 H.g1
   have w0:R.cH=[]->u64.wrap (u64.wrap (R.g-R.r-R.f)-0)=xw R:=λq=>by rw[xw,q];simp only[iw,mR];omega
   have w1:u64.wrap (u64.wrap (R.g-R.r-R.f)-u64.wrap (mR R.cH))=xw R:=by rw[xw];simp only[iw];omega
   unfold eZ at y2
  .exact aC (gX @eZ.eq_1 g1 hr z1 y2 z3 z4 z5 w0 ht (@aJ 293 _ rfl aZ) (Z3 (@aJ 295 _ rfl aZ) (@aJ 318 _ rfl aZ) (@aJ 319 _ rfl aZ)))
  .exact aC (gX @eZ.eq_1 g1 hr z1 y2 z3 z4 z5 w0 ht (@aJ 293 _ rfl aZ) (Z3 (@aJ 295 _ rfl aZ) (@aJ 318 _ rfl aZ) (@aJ 319 _ rfl aZ)))
  .exact aC (gX @eZ.eq_1 g1 hr z1 y2 z3 z4 z5 w0 ht (@aJ 293 _ rfl aZ) (Z3 (@aJ 295 _ rfl aZ) (@aJ 318 _ rfl aZ) (@aJ 319 _ rfl aZ)))
  .have Xr:(ys2.length+1)*8<=1000000000000:=by have:=hq.2.2.2.2.2.1;rw[hk,length_cons]at this;omega
   exact aC (gX @eZ.eq_1 g1 hr z1 y2 z3 z4 z5 w0 ht rF (Z9 SQ SR Xr @yD @vS (@aJ 293 _ rfl aZ) (@aJ 295 _ rfl aZ) (@aJ 318 _ rfl aZ) (@aJ 319 _ rfl aZ)))
  .exact aC (gX @eZ.eq_1 g1 hr y1 y2 z3 z4 z5 w0 ht (@aJ 293 _ rfl aZ) (Z3 (@aJ 295 _ rfl aZ) (@aJ 318 _ rfl aZ) (@aJ 319 _ rfl aZ)))
  .exact aC (gX @eZ.eq_1 g1 hr y1 y2 z3 z4 z5 w0 ht (@aJ 293 _ rfl aZ) (Z3 (@aJ 295 _ rfl aZ) (@aJ 318 _ rfl aZ) (@aJ 319 _ rfl aZ)))
  .exact aC (gX @eZ.eq_1 g1 hr y1 y2 z3 z4 z5 w0 ht (@aJ 293 _ rfl aZ) (Z3 (@aJ 295 _ rfl aZ) (@aJ 318 _ rfl aZ) (@aJ 319 _ rfl aZ)))
  .have Xr:(ys2.length+1)*8<=1000000000000:=by have:=hq.2.2.2.2.2.1;rw[hk,length_cons]at this;omega
   exact aC (gX @eZ.eq_1 g1 hr y1 y2 z3 z4 z5 w0 ht rF (Z9 SQ SR Xr @yD @vS (@aJ 293 _ rfl aZ) (@aJ 295 _ rfl aZ) (@aJ 318 _ rfl aZ) (@aJ 319 _ rfl aZ)))
  .exact aC (gX @eZ.eq_1 g1 hr y1 y2 z3 z4 z5 w0 ht (@aJ 293 _ rfl aZ) (Z3 (@aJ 295 _ rfl aZ) (@aJ 318 _ rfl aZ) (@aJ 319 _ rfl aZ)))
  .exact aC (gX @eZ.eq_1 g1 hr y1 y2 z3 z4 z5 w0 ht (@aJ 293 _ rfl aZ) (Z3 (@aJ 295 _ rfl aZ) (@aJ 318 _ rfl aZ) (@aJ 319 _ rfl aZ)))
  .exact aC (gX @eZ.eq_1 g1 hr y1 y2 z3 z4 z5 w0 ht (@aJ 293 _ rfl aZ) (Z3 (@aJ 295 _ rfl aZ) (@aJ 318 _ rfl aZ) (@aJ 319 _ rfl aZ)))
  .have Xr:(ys2.length+1)*8<=1000000000000:=by have:=hq.2.2.2.2.2.1;rw[hk,length_cons]at this;omega
   exact aC (gX @eZ.eq_1 g1 hr y1 y2 z3 z4 z5 w0 ht rF (Z9 SQ SR Xr @yD @vS (@aJ 293 _ rfl aZ) (@aJ 295 _ rfl aZ) (@aJ 318 _ rfl aZ) (@aJ 319 _ rfl aZ)))
  .have x1:=λl lg d (q:fj l 3=(aO 2 (lG y::ys.map lG)))=>Mo 253 R.cH (.slice (nb h 3) 0 (ys.length+1) none) ⟨aR h l,lg,d⟩ (by rw[ht];exact .some (nb h 3) 0 none true _ (by simp) (by rw[bj,q]) (by simp[take_of_length_le]) (λ_ h=>by cases h)) hw
   have q0:=hq.1;rw[ht]at q0 w1;have Xs:(ys.length+1)*16<=1000000000000:=by have:=hw;rw[ht,length_cons]at this;omega
   exact aC (gX @eZ.eq_1 g1 hr y2 w1 ht hb Y1 Za Xs q0 (Z7 @yE @vT x1 (@aJ 293 _ rfl aZ) (@aJ 295 _ rfl aZ) (@aJ 318 _ rfl aZ) (@aJ 319 _ rfl aZ)))
  .have x1:=λl lg d (q:fj l 3=(aO 2 (lG y::ys.map lG)))=>Mo 253 R.cH (.slice (nb h 3) 0 (ys.length+1) none) ⟨aR h l,lg,d⟩ (by rw[ht];exact .some (nb h 3) 0 none true _ (by simp) (by rw[bj,q]) (by simp[take_of_length_le]) (λ_ h=>by cases h)) hw
   have q0:=hq.1;rw[ht]at q0 w1;have Xs:(ys.length+1)*16<=1000000000000:=by have:=hw;rw[ht,length_cons]at this;omega
   exact aC (gX @eZ.eq_1 g1 hr y2 w1 ht hb Y1 Za Xs q0 (Z7 @yE @vT x1 (@aJ 293 _ rfl aZ) (@aJ 295 _ rfl aZ) (@aJ 318 _ rfl aZ) (@aJ 319 _ rfl aZ)))
  .have x1:=λl lg d (q:fj l 3=(aO 2 (lG y::ys.map lG)))=>Mo 253 R.cH (.slice (nb h 3) 0 (ys.length+1) none) ⟨aR h l,lg,d⟩ (by rw[ht];exact .some (nb h 3) 0 none true _ (by simp) (by rw[bj,q]) (by simp[take_of_length_le]) (λ_ h=>by cases h)) hw
   have q0:=hq.1;rw[ht]at q0 w1;have Xs:(ys.length+1)*16<=1000000000000:=by have:=hw;rw[ht,length_cons]at this;omega
   exact aC (gX @eZ.eq_1 g1 hr y2 w1 ht hb Y1 Za Xs q0 (Z7 @yE @vT x1 (@aJ 293 _ rfl aZ) (@aJ 295 _ rfl aZ) (@aJ 318 _ rfl aZ) (@aJ 319 _ rfl aZ)))
  .have x1:=λl lg d (q:fj l 3=(aO 2 (lG y::ys.map lG)))=>Mo 253 R.cH (.slice (nb h 3) 0 (ys.length+1) none) ⟨aR h l,lg,d⟩ (by rw[ht];exact .some (nb h 3) 0 none true _ (by simp) (by rw[bj,q]) (by simp[take_of_length_le]) (λ_ h=>by cases h)) hw
   have Xr:(ys2.length+1)*8<=1000000000000:=by have:=hq.2.2.2.2.2.1;rw[hk,length_cons]at this;omega
   have q0:=hq.1;rw[ht]at q0 w1;have Xs:(ys.length+1)*16<=1000000000000:=by have:=hw;rw[ht,length_cons]at this;omega
   exact aC (gX @eZ.eq_1 g1 hr y2 w1 ht hb Y1 Za Xs q0 (gX @yE @vT x1 rF SQ SR Xr @yD @vS (@aJ 293 _ rfl aZ) (@aJ 295 _ rfl aZ) (Z2 (@aJ 318 _ rfl aZ) (@aJ 319 _ rfl aZ))))
 .exact aC (gX @eZ.eq_1 c1 c2 g1 hr z1 z2 z3 z4 z5 (@aJ 293 _ rfl aZ) (@aJ 295 _ rfl aZ))
end
section
variable{F:FuncId->Option bD}{au:bR}{sm:ct}
theorem Mp{R:iJ}(h:first (mz R) R.cH.length=0)(h0:R.f<=R.g-R.r):0<=mR R.cH/\mR R.cH<=R.g-R.r-R.f:=by
 have hz:=(iE R.cH.length 0).1 h;have key:∀i,i<=R.cH.length->0<=mR (R.cH.take i)/\(i=0->mR (R.cH.take i)=0)/\(0<i->mR (R.cH.take i)<=(gt R.cH (i-1)).2-R.f/\(gt R.cH (i-1)).2<=R.g-R.r):=λi=>by
  induction i with
  |zero=>intro _;exact⟨by simp[mR],λ_=>by simp[mR],λq=>absurd q Z⟩
  |succ i ih=>
   intro hi;have ih:=ih Z;have hb:=hz i Z Z;rw[mz]at hb;have ht:=zK (l:=R.cH) (i:=i) Z;split at hb
   .omega
   .split at hb
    .omega
    .rename_i q1 q2;rw[ht];simp only[Nat.add_sub_cancel];rcases Nat.eq_zero_or_pos i with h1|h1
     .have:=ih.2.1 h1;refine⟨Z,λq=>Z,λ_=>⟨Z,Z⟩⟩
     .have:=ih.2.2 h1;refine⟨Z,λq=>Z,λ_=>⟨Z,Z⟩⟩
 have h1:=key R.cH.length cB;rw[take_length]at h1;refine⟨h1.1,?_⟩;rcases Nat.eq_zero_or_pos R.cH.length with h2|h2
 .have:=h1.2.1 h2;omega
 .have:=h1.2.2 h2;omega
theorem Kl{R:iJ}(h:(ft R).1=0)(h0:0<=R.r)(h1:0<=R.f):0<=xw R/\xw R<=R.g-R.r-R.f/\R.g-R.r-R.f<=1125899906842624-R.f/\xw R=R.g-R.r-R.f-mR R.cH:=by
 obtain⟨q1,q2,q3,q4,q5,q6,q7⟩:=UD h;have:=Mp q7 q3;rw[xw,iw];omega
theorem Xt{R:iJ}(h:(ft R).1=0)(q:0<=R.f)(h0:0<=R.r):xw R<=1125899906842624:=by
 have:=Kl h h0 q;omega
def AK(R:iJ):Int:=if(ft R).1≠0 then 0 else xw R
theorem E6{R:iJ}(q:0<=R.f)(h0:0<=R.r):0<=AK R/\AK R<=1125899906842624:=by
 rw[AK];split
 .omega
 .rename_i h;have h:(ft R).1=0:=Z;exact⟨(Kl h h0 q).1,Xt h q h0⟩
theorem AjJ(P:dT)(s t k:AV)(m:Mem)(H:ic m.ah P s t k)(ot:kS t)(ok:kS k)(hw:P.recv.cH.length<=1000)(w1:0<=P.recv.f)(w2:0<=P.mX)(w3:P.mX<=1125899906842624)(q_:255<=j:=by omega):SM j 174 [.agg (dc P s t k)] m=some (.tuple [Eu (P.mX+AK P.recv),.bool true],m):=by
 obtain⟨h,lg,d⟩:=m;refine aP 1999 q_ λn=>?_
 have c1:=H.s.s.sc;have c2:=H.r.t.sc;have c3:=H.r.k.sc;have g1:=λl lg d=>AjI 254 P.recv t k ⟨aR h l,lg,d⟩ (H.r.bx l) ot ok hw
 have e0:(if(ft P.recv).1≠0 then 0 else xw P.recv)=AK P.recv:=rfl;rw[e0]at g1;have b:=E6 w1 H.r.g0;have m1:(P.mX+AK P.recv)%18446744073709551616=P.mX+AK P.recv:=Z;have m2:(P.mX+AK P.recv)/18446744073709551616=0:=Z;unfold eZ at g1;exact aC (yA @dc.eq_1 c1 c2 c3 g1 b w2 m1 m2 Int.add_zero)
def jC(P:dT):Int×Int:=if jn P≠0 then(0,jn P)else(P.mX+AK P.recv,0)
theorem lH{P:dT}(h:jn P=0):P.mX<=1125899906842624/\1<=P.node/\P.node<=16/\(ji P.send).1=0/\(ft P.recv).1=0:=by
 rw[jn]at h;split at h
 .cases h
 .split at h
  .omega
  .split at h
   .omega
   .refine⟨Z,Z,Z,Z,Z⟩
theorem AjK(P:dT)(s t k:AV)(m:Mem)(H:ic m.ah P s t k)(ot:kS t)(ok:kS k)(hw:P.recv.cH.length<=1000)(w1:0<=P.recv.f)(w2:0<=P.mX)(q_:256<=j:=by omega):SM j 171 [.agg (dc P s t k)] m=some (.tuple [Eu (jC P).1,Ei (jC P).2],m):=by
 obtain⟨h,lg,d⟩:=m;refine aP 1999 q_ λn=>?_
 have c1:=H.s.s.sc;have c2:=H.r.t.sc;have c3:=H.r.k.sc;have g1:=λl lg d=>SO 255 P s t k ⟨aR h l,lg,d⟩ (H.bx l)
 have g2:=λ(q:jn P=0) l lg d=>AjJ 255 P s t k ⟨aR h l,lg,d⟩ (H.bx l) ot ok hw w1 w2 (lH q).1
 unfold dc at g1 g2;refine aW (Z6 @dc.eq_1 c1 c2 c3 g1 g2) ?_;(repeat' first|apply And.intro|intro _)<;>simp_all [jC]
theorem AjL(P:dT)(s t k:AV)(m:Mem)(H:ic m.ah P s t k)(hw:P.recv.cH.length<=1000)(w1:0<=P.recv.f)(w2:0<=P.mX)(q_:280<=j:=by omega):SM j 148 [.agg (dc P s t k)] m=some (.tuple [Eu (jC P).1,Ei (jC P).2],m):=by
 obtain⟨h,lg,d⟩:=m;refine aP 1999 q_ λn=>?_
 have c1:=H.s.s.sc;have c2:=H.r.t.sc;have c3:=H.r.k.sc;have g1:=λl lg d=>SP 279 P s t k ⟨aR h l,lg,d⟩ (H.bx l)
 have g2:=λl lg d=>AjH 279 P.recv t k ⟨aR h l,lg,d⟩ (H.r.bx l) hw
 have e0:(if(ft P.recv).1≠0 then 0 else xw P.recv)=AK P.recv:=rfl;rw[e0]at g2;have b:=E6 w1 H.r.g0;have m1:jn P=0->u64.wrap (P.mX+AK P.recv)=P.mX+AK P.recv:=λq=>by
  have:=(lH q).1;rw[iw];omega
 unfold dc at g1;unfold eZ at g2;refine aW (Z7 @dc.eq_1 c1 c2 c3 g1 g2 m1) ?_;(repeat' first|apply And.intro|intro _)<;>simp_all [jC]
end
section
variable{F:FuncId->Option bD}{au:bR}{sm:ct}
def nl:Nat->Int->Nat
 |0,_=>1
 |f+1,x=>if x<128 then 1 else nl f (x/128)+1
def gN(x:Int):Nat:=nl 10 x
structure It(x:Int)(i:Nat)(q:Int):Prop where
 a:0<=q
 b:q*128^i<=18446744073709551615
 c:gN x=i+nl (10-i) q
 d:0<i->1<=q
theorem It.le{x:Int}{i:Nat}{q:Int}(H:It x i q):q<=18446744073709551615:=by
 have h1:(1:Int)<=128^i:=Int.pow_pos (n:=128) (m:=i) Z;have h2:=Int.mul_le_mul_of_nonneg_left h1 H.a;have h3:=H.b;omega
theorem It.step{x:Int}{i:Nat}{q:Int}(H:It x i q)(hi:i<10)(hq:128<=q):It x (i+1) (q/128):=by
 refine⟨Z,?_,?_,Z⟩
 .have h1:q/128*128<=q:=Z;have h2:(0:Int)<=128^i:=by exact Int.pow_nonneg Z
  have h3:=Int.mul_le_mul_of_nonneg_right h1 h2;rw[Int.pow_succ,Int.mul_comm (128^i) 128,<-Int.mul_assoc];exact Int.le_trans h3 H.b
 .have h1:=H.c;rw[show 10-i=(10-(i+1))+1 by omega,nl,aq Z]at h1;omega
theorem It.stop{x:Int}{i:Nat}{q:Int}(H:It x i q)(hi:i<10)(hq:¬128<=q):gN x=i+1:=by
 have h1:=H.c;rw[show 10-i=(10-(i+1))+1 by omega,nl,aG Z]at h1;exact h1
theorem It.dF{x:Int}{q:Int}(H:It x 10 q):False:=by
 have h1:=H.b;have h2:=H.d Z;have:(128:Int)^10=1180591620717411303424:=aZ;rw[this]at h1;omega
theorem It.zero{x:Int}(hx:U x):It x 0 x:=⟨hx.1,by simpa using hx.2,by rw[gN];simp,Z⟩
theorem AjM(x:Int)(m:Mem)(hx:U x)(q_:184<=j:=by omega):SM j 212 [Eu x] m=some (Ei (gN x),m):=by
 obtain⟨h,lg,d⟩:=m;refine aP 1999 q_ λn=>?_
 refine aW (@aJ 272 _ rfl aZ) ?_;refine Ph rfl (λT1 hT=>?_) (by simp only[Mem.apply,jR,fY];rw[tA (by rfl),jR];rfl);refine aW (@aJ 304 _ rfl aZ) ?_;refine dV 10 [X3] (λi=>[Ei i]) (λi m'=>∃q bq,It x i q/\dm h lg bq/\m'=⟨aR h [(aO 1 [[Ei i]]),(aO 1 [[Eu q]]),some .nZ,some (.loop ⟨.ready,none,T1,[.l (.l (.l .z)),.r (.l (.l .z))],.region false 0 [⟨some (.r (.l .z)),.mv (.t (.l (.l (.l .z)))),none,none,[]⟩],.block 1 (.region false 0 [⟨some (.l (.r (.l .z))),.mv (.t (.r (.l .z))),none,none,[]⟩,⟨some (.r (.r (.l .z))),.bin .add (.t (.l (.r (.l .z)))) (.c (Ei 1)),none,none,[]⟩,⟨none,.store 1 (.t (.l (.l .z))) (.t (.r (.r (.l .z)))),none,none,[]⟩])⟩)],bq,[]⟩) Z aX ⟨rfl,x,_,It.zero hx,aL,rfl⟩ (λi m' g hi hP=>?_) (λm' g hP=>?_)
 .obtain⟨q,bq,hq,hl,rfl⟩:=hP;have q0:=hq.a;have r:=fh (n:=10) hi Z;have w1:128<=q->u64.wrap (q.tdiv 128)=q/128:=λh1=>by
   rw[Int.tdiv_eq_ediv_of_nonneg q0,iw];have:=hq.le;omega
  refine aS ?_;refine w_y (bj.trans (AaD _ _ _ _ _)) rfl rfl rfl (oH.round hT _ _) ?_;refine aW (Z2 r w1) ?_;refine⟨λh1=>⟨q/128,_,hq.step hi h1,by repeat first|exact hl|apply dm.cons,rfl⟩,λh1=>⟨?_,aH (by repeat first|exact hl|apply dm.cons)⟩⟩;rw[hq.stop hi h1]
 .obtain⟨q,bq,hq,hl,rfl⟩:=hP;exact hq.dF.elim
end
section
variable{F:FuncId->Option bD}{au:bR}{sm:ct}
def Rf(x:Int):List AV:=[.int .u8 x]
def sC(i:Nat)(bs:List Int):List (List AV):=replicate (10-i) [.int .u8 0]++bs.map Rf
theorem PB{i:Nat}{bs:List Int}(hi:i<10)(hb:bs.length=i):(sC i bs)[9-i]?=some [.int .u8 0]:=by
 rw[sC,getElem?_append_left (by simp;omega),getElem?_replicate,aG Z]
theorem PC{i:Nat}{bs:List Int}(hi:i<10)(hb:bs.length=i)(w:Int):(sC i bs).set (9-i) [.int .u8 w]=sC (i+1) (w::bs):=by
 rw[sC,sC,show 10-i=(9-i)+1 by omega,replicate_succ',append_assoc,set_append_right _ _ (by simp),show 10-(i+1)=9-i by omega];simp[Rf]
theorem Mq{i:Nat}{bs:List Int}(hi:i<10)(w:Int):(sC (i+1) (w::bs))[9-i]?=some [.int .u8 w]:=by
 rw[sC,show 10-(i+1)=9-i by omega,getElem?_append_right (by simp)];simp[Rf]
theorem Mr{i:Nat}{bs:List Int}(hi:i<10)(w w':Int):(sC (i+1) (w::bs)).set (9-i) [.int .u8 w']=sC (i+1) (w'::bs):=by
 rw[sC,sC,show 10-(i+1)=9-i by omega,set_append_right _ _ (by simp)];simp[Rf]
theorem Gy{i:Nat}{bs:List Int}(hi:i<=10)(hb:bs.length=i):(sC i bs).length=10:=by
 simp[sC,hb];omega
theorem Mu{i:Nat}{bs:List Int}(hi:i<10):(sC (i+1) bs).drop (9-i)=bs.map Rf:=by
 rw[sC,show 10-(i+1)=9-i by omega,drop_append_of_le_length (by simp)];simp
theorem Cn:∀l:List Int,bytesOf (l.map Rf)=some (l.map λx=>UInt8.ofNat x.toNat)
 |[]=>rfl
 |x::l=>by
  rw[map_cons];show(bytesOf (l.map Rf)).map _=_;rw[Cn l];rfl
def byteOf(i:Nat)(q:Int):Int:=if 0<(i:Int)then u8.wrap ((BitVec.ofInt u8.bits (u8.wrap (q.tmod 128))|||BitVec.ofInt u8.bits 128).toNat:Int)else u8.wrap (q.tmod 128)
def pq(x:Int):Nat->Int×List Int
 |0=>(x,[])
 |i+1=>((pq x i).1/128,byteOf i (pq x i).1::(pq x i).2)
theorem Iu(x:Int):∀i,(pq x i).2.length=i
 |0=>rfl
 |i+1=>by rw[pq,length_cons,Iu x i]
def wq(x:Int):List UInt8:=(pq x (gN x)).2.map λy=>UInt8.ofNat y.toNat
theorem pS(x:Int):(wq x).length=gN x:=by rw[wq,length_map,Iu]
theorem AfE(x:Int)(m:Mem)(hx:U x)(q_:181<=j:=by omega):SM j 271 [Eu x] m=some (.fN (wq x),m):=by
 obtain⟨h,lg,d⟩:=m;refine aP 1999 q_ λn=>?_
 refine aW (@aJ 272 _ rfl aZ) ?_;refine Ph rfl (λT1 hT=>?_) (by simp only[Mem.apply,jR,fY];rw[tA (by rfl),jR];rfl);refine aW (@aJ 304 _ rfl aZ) ?_;refine dV 10 [X3] (λi=>[Ei i]) (λi m'=>∃bq,It x i (pq x i).1/\dm h lg bq/\m'=⟨aR h [(aO 1 (sC i (pq x i).2)),(aO 1 [[Ei ((10-i:Nat):Int)]]),(aO 1 [[Eu (pq x i).1]]),some .nZ,some (.loop ⟨.ready,none,T1,[X9,BZ],(.seq (oR [oM X5 Y9]) (oR [oM X6 YR])),(.block 1 (.seq (oR [oP wJ (.load false 1 Y4),oP Il (.bin .sub YS (cI 1)),oN (.store 1 Y4 Y12)]) (.seq (oR [oP JX (.load false 1 Y4),oM Uv Y6,oP Q7 (.Bb 1 10 Y3 Y13),oN (.store 1 Y15 Y14)]) (.seq (oR [oM Uw Y5,oP Ux (.bin .gtr Y16 Iz)]) (.cond Y17 (oR [oP X18 (.load false 1 Y4),oP WV (.Bb 1 10 Y3 Y18),oP X20 (.load false 1 Y19),oP X21 (.bin .or Y20 (.c (.int .u8 128))),oP X22 (.Bb 1 10 Y3 Y18),oN (.store 1 Y22 Y21)]) .skip)))))⟩)],bq,[]⟩) Z aX ⟨rfl,_,It.zero hx,aL,rfl⟩ (λi m' g hi hP=>?_) (λm' g hP=>?_)
 .obtain⟨bq,hq,hl,rfl⟩:=hP;have Ot:=Iu x i;have hn:pq x (i+1)=((pq x i).1/128,byteOf i (pq x i).1::(pq x i).2):=rfl;generalize pq x i=pr at hq Ot hn|-;obtain⟨q,bs⟩:=pr;simp only at hq Ot hn|-;have q0:=hq.a;have r:=fh (n:=10) hi Z;have w1:128<=q->u64.wrap (q.tdiv 128)=q/128:=λh1=>by
   rw[Int.tdiv_eq_ediv_of_nonneg q0,iw];have:=hq.le;omega
  have wr:i64.wrap (((10-i:Nat):Int)-1)=((9-i:Nat):Int):=by rw[aU Z Z];omega
  have e9:10-(i+1)=9-i:=Z;have l9:9-i<10:=Z;have b1:=PB hi Ot;have b2:=PC hi Ot;have b3:=λw=>Mq (bs:=bs) hi w
  have b4:=λw w'=>Mr (bs:=bs) hi w w'
  have b5:∀w,((sC (i+1) (w::bs)).length<10)=False:=λw=>by rw[Gy Z (by simp[Ot])];simp
  have e11:10-(9-i)=i+1:=Z;have b6:∀w,(9-i+(i+1)<=(sC (i+1) (w::bs)).length)=True:=λw=>by rw[Gy Z (by simp[Ot])];simp;omega
  have b7:∀w,List.take (i+1) (drop (9-i) (sC (i+1) (w::bs)))=(w::bs).map Rf:=λw=>by rw[Mu hi,take_of_length_le (by simp[Ot])]
  have b8:∀w:Int,bytesOf (Rf w::bs.map Rf)=some ((w::bs).map λx=>UInt8.ofNat x.toNat):=λw=>Cn (w::bs)
  have e10:9-i<=10:=Z;refine aS ?_;refine w_y (bj.trans (AaE _ _ _ _ _ _)) rfl rfl rfl (oH.round hT _ _) ?_;refine aW (gX hn r w1 wr l9 b1 b2 b3 b4 b5 e10 (Z4 e11 b6 b7 b8)) ?_;have kj:¬128<=q->wq x=(byteOf i q::bs).map λy=>UInt8.ofNat y.toNat:=λh1=>by rw[wq,hq.stop hi h1,hn]
  refine⟨λh0=>⟨λh1=>?_,λh1=>⟨?_,aH (by repeat first|exact hl|apply dm.cons)⟩⟩,λh0=>⟨λh1=>?_,λh1=>⟨?_,aH (by repeat first|exact hl|apply dm.cons)⟩⟩⟩
  .refine⟨_,hq.step hi h1,?_,by rw[byteOf,aG h0];rfl⟩;repeat first|exact hl|apply dm.cons
  .rw[kj h1,byteOf,aG h0];rfl
  .refine⟨_,hq.step hi h1,?_,by rw[byteOf,aq h0]⟩;repeat first|exact hl|apply dm.cons
  .rw[kj h1,byteOf,aq h0];rfl
 .obtain⟨bq,hq,hl,rfl⟩:=hP;exact hq.dF.elim
end
section
variable{F:FuncId->Option bD}{au:bR}{sm:ct}
structure Co where
 b:Nat
 o:Nat
 x:Int
 deriving Inhabited
def AfF(p:Co):List AV:=[.ptr p.b 0 p.o]
def ud(h:aN)(p:Co):Prop:=(∃bS e bI r,aj h p.b=some (.row bS e bI)/\bI[0]?=some r/\(r.drop p.o).take 1=[Ei p.x]/\p.o+1<=e)/\0<=p.x/\p.x<=9223372036854775807
theorem ud.bw{m m':Mem}{p:Co}(H:ud m.ah p)(k:aY m m'):ud m'.ah p:=by
 obtain⟨⟨bS,e,bI,r,h1,h2,h3,h4⟩,h5⟩:=H;exact⟨⟨bS,e,bI,r,(k.get p.b (ag h1)).trans h1,h2,h3,h4⟩,h5⟩
theorem ud.bx{h:aN}{p:Co}(H:ud h p)(q:List (Option bp)):ud (aR h q) p:=by
 obtain⟨⟨bS,e,bI,r,h1,h2,h3,h4⟩,h5⟩:=H;exact⟨⟨bS,e,bI,r,(an q h p.b (ag h1)).trans h1,h2,h3,h4⟩,h5⟩
theorem ud.ld{h:aN}{p:Co}(H:ud h p)(q:List (Option bp)):H8 (aj (aR h q)) false 1 (.ptr p.b 0 p.o)=some (Ei p.x,[]):=by
 obtain⟨⟨bS,e,bI,r,h1,h2,h3,h4⟩,h5⟩:=H;have h1:=(an q h p.b (ag h1)).trans h1;rw[DL,h1,JQ];have jU:Nat.ble e p.o=false:=by
  cases hq:Nat.ble e p.o with
  |false=>rfl
  |true=>have:=Nat.le_of_ble_eq_true hq;omega
 simp only[fG,jU,cond_false,iT,aG h4,h2,h3];rfl
def zL:List Co->Nat
 |[]=>0
 |p::l=>gN p.x+zL l
def xy:List Co->List UInt8
 |[]=>[]
 |p::l=>wq p.x++xy l
theorem Gz:∀l,(xy l).length=zL l
 |[]=>rfl
 |p::l=>by rw[xy,length_append,pS,Gz l,zL]
theorem Mw{l:List Co}{i:Nat}(hi:i<l.length):xy (l.take (i+1))=xy (l.take i)++wq (gt l i).x:=by
 have key:∀(l:List Co) (p:Co),xy (l++[p])=xy l++wq p.x:=λl p=>by
  induction l with
  |nil=>simp[xy]
  |cons y l ih=>rw[cons_append,xy,ih,xy,append_assoc]
 rw[take_add_one,getElem?_eq_getElem hi,toList_some,key,bB hi]
theorem UE:∀f x,nl f x<=f+1
 |0,_=>by rw[nl];omega
 |f+1,x=>by
  rw[nl];split
  .omega
  .have:=UE f (x/128);omega
theorem dg(x:Int):gN x<=11:=UE 10 x
theorem DV:∀l,zL l<=11*l.length
 |[]=>by simp[zL]
 |p::l=>by
  have:=DV l;have:=dg p.x;rw[zL,length_cons];omega
theorem AjN(l:List Co)(v:AV)(m:Mem)(hv:aT m.ah 1 v (l.map AfF))(hp:(∀p∈l,ud m.ah p))(hw:l.length<=1000)(q_:182<=j:=by omega):SM j 270 [v] m=some (.fN (xy l),m):=by
 obtain⟨h,lg,d⟩:=m;refine aP 1999 q_ λn=>?_
 have lv:=hv.len;refine aW lv ?_;refine bL l.length [X8,X3] (λi=>[Ei i,.fN (xy (l.take i))]) (λ_=>True) Z aX ⟨rfl,trivial⟩ (λi h' bq g hi hP hK=>?_) (λh' bq g hP hK=>?_)
 .have a:=hK.aA lg d;have e:=(hK.sl hv).el hi;have r:=fh hi Z;have po:ud h (gt l i):=hp _ (by rw[bB hi];exact getElem_mem hi);have po':ud h' (gt l i):=ud.bw (m:=⟨aR h [],lg,[]⟩) (m':=⟨h',bq,[]⟩) (po.bx []) hK;have pl:=po'.ld;have w:=dB po.2.1 (by have:=po.2.2;omega);have g1:=λm=>AfE 181 (gt l i).x m ⟨po.2.1,by have:=po.2.2;omega⟩
  have st:=Mw hi;have sz:(xy (l.take i)).length+(wq (gt l i).x).length<=1000000000000:=by
   rw[Gz,pS];have h1:=DV (l.take i);have h2:=dg (gt l i).x;rw[length_take]at h1;omega
  unfold AfF at e;simp+contextual-implicitDefEqProofs (maxSteps:=1000000) (maxDischargeDepth:=20) only[go_sem,simprocAttr,a,e,r,pl,w,g1,st,o7,sz]
 .have a:=hK.aA lg d;have r:=cY l.length;exact aC (Z2 a r)
end
section
variable{F:FuncId->Option bD}{au:bR}{sm:ct}
def nA(b:fR):Prop:=b.id.o=0/\b.eO=b.data.length
instance Al8(b:fR):Decidable (nA b):=by unfold nA;infer_instance
theorem AfG(b:fR)(m:Mem)(q_:130<=j:=by omega):SM j 198 [.agg (dt b)] m=some (.bool (decide (nA b)),m):=by
 obtain⟨h,lg,d⟩:=m;refine aP 1999 q_ λn=>?_
 refine aW @dt.eq_1 ?_;(repeat' first|apply And.intro|intro _)<;>simp_all [nA]
def Km(b:fR):Int:=if nA b then(if b.kZ=0 then 180 else if b.kZ=1 then 181 else 182)else(if b.kZ=0 then 176 else if b.kZ=1 then 177 else 178)
def ly(b:fR):List UInt8:=(([UInt8.ofNat (Km b).toNat]++wq b.id.n++wq b.id.s)++(wq b.jF++(wq b.born++wq b.iO)))++(if nA b then[]else wq b.id.o++wq b.eO)
theorem Xu{h:aN}{r:List AV}(k:Nat)(ps:List (Nat×Int))(l:List (Option bp))(lg d:List Nat)(q0:fj l 0=(aO 9 [r]))(q1:fj l k=(aO 1 (ps.map λp=>[.ptr (nb h 0) 0 p.1])))(hp:∀p∈ps,(r.drop p.1).take 1=[Ei p.2]/\p.1+1<=9/\0<=p.2/\p.2<=9223372036854775807)(hl:ps.length<=1000)(q_:182<=j:=by omega):SM j 270 [.slice (nb h k) 0 ps.length (some ps.length)] ⟨aR h l,lg,d⟩=some (.fN (xy (ps.map λp=>⟨nb h 0,p.1,p.2⟩)),⟨aR h l,lg,d⟩):=by
 refine AjN j _ _ _ ?_ ?_ (by simpa using hl)
 .refine .some (nb h k) 0 (some ps.length) true _ (by simp) (by rw[bj,q1]) ?_ (λq hq=>by cases hq;simp);simp only[List.map_map,drop_zero];exact take_of_length_le (by simp)
 .intro p hm;obtain⟨x,hx,rfl⟩:=mem_map.1 hm;have hx:=hp x hx;exact⟨⟨true,9,_,r,by rw[bj,q0],rfl,hx.1,hx.2.1⟩,hx.2.2⟩
theorem AjO(b:fR)(bS:Bool)(m:Mem)(hg:aj m.ah 0=some (.row bS 1 fM))(hb:j0 b=0)(hq:0<=b.id.s)(q_:183<=j:=by omega):SM j 211 [.agg (dt b)] m=some (.fN (ly b),m):=by
 obtain⟨h,lg,d⟩:=m;refine aP 1999 q_ λn=>?_
 have ok:=tG hb;have g0:∀q,aj (aR h q) 0=some (.row bS 1 fM):=λq=>(an q h 0 (ag hg)).trans hg
 have g1:=λm=>AfG 182 b m
 have g3:=λm=>AfE 182 b.id.s m ⟨hq,by have:=ok.2.2.2.2.2.2.2.2.2.2.2.2.2;rw[xu]at this;split at this<;>omega⟩
 have pr:b.kZ=0\/b.kZ=1\/b.kZ=2:=Z;unfold dt at g1;have n0:∀k,Nat.beq 0 (nb h k)=false:=λk=>iv (ag hg)
 have n1:∀k,Nat.beq (nb h k) 0=false:=λk=>iD (ag hg)
 have so:=ok.2.2.2.2.2.2.2.2.2.2.2.2.2;have on:1<=b.id.n/\b.id.n<=16/\0<=b.id.o/\b.id.o<=20000:=by rw[xu]at so;split at so<;>omega
 have x1:=λ(w:Int) l lg d (q0:fj l 0=(aO 9 [[Ei b.id.n,Eu b.id.s,Ei b.id.o,Ei b.jF,Ei w,Ei b.born,Ei b.iO,Ei b.eO,.fN b.data]])) q1=>Xu 182 (h:=h) 1 [(0,b.id.n)] l lg d q0 q1 (by simp;omega) (by simp)
 have x2:=λ(w:Int) l lg d (q0:fj l 0=(aO 9 [[Ei b.id.n,Eu b.id.s,Ei b.id.o,Ei b.jF,Ei w,Ei b.born,Ei b.iO,Ei b.eO,.fN b.data]])) q1=>Xu 182 (h:=h) 2 [(3,b.jF),(5,b.born),(6,b.iO)] l lg d q0 q1 (by simp;omega) (by simp)
 have x3:=λ(w:Int) l lg d (q0:fj l 0=(aO 9 [[Ei b.id.n,Eu b.id.s,Ei b.id.o,Ei b.jF,Ei w,Ei b.born,Ei b.iO,Ei b.eO,.fN b.data]])) q1=>Xu 182 (h:=h) 3 [(2,b.id.o),(7,b.eO)] l lg d q0 q1 (by simp;omega) (by simp)
 simp only[length_cons,length_nil,map_cons,map_nil,xy,append_nil,Nat.zero_add,Nat.reduceAdd]at x1 x2 x3;have z1:=dg b.id.n;have z2:=dg b.id.s;have z3:=dg b.jF;have z4:=dg b.born;have z5:=dg b.iO;have z6:=dg b.id.o;have z7:=dg b.eO;rcases pr with e1|e1|e1
 .rw[e1]at g1;have x1:=x1 0;have x2:=x2 0;have x3:=x3 0;simp+contextual-implicitDefEqProofs (maxSteps:=1000000) (maxDischargeDepth:=20) only[go_sem,simprocAttr,dt,g1,g3,e1,g0,fM,x1,x2,x3,Ii,WT,o7,bytesOf,n0];(repeat' first|apply And.intro|intro _)<;>first|(simp only[length_append,pS];omega)|simp_all [ly,Km]
 .rw[e1]at g1;have x1:=x1 1;have x2:=x2 1;have x3:=x3 1;simp+contextual-implicitDefEqProofs (maxSteps:=1000000) (maxDischargeDepth:=20) only[go_sem,simprocAttr,dt,g1,g3,e1,g0,fM,x1,x2,x3,Ii,WT,o7,bytesOf,n0];(repeat' first|apply And.intro|intro _)<;>first|(simp only[length_append,pS];omega)|simp_all [ly,Km]
 .rw[e1]at g1;have x1:=x1 2;have x2:=x2 2;have x3:=x3 2;simp+contextual-implicitDefEqProofs (maxSteps:=1000000) (maxDischargeDepth:=20) only[go_sem,simprocAttr,dt,g1,g3,e1,g0,fM,x1,x2,x3,Ii,WT,o7,bytesOf,n0];(repeat' first|apply And.intro|intro _)<;>first|(simp only[length_append,pS];omega)|simp_all [ly,Km]
end
section
variable{F:FuncId->Option bD}{au:bR}{sm:ct}
theorem yF(b:fR):(ly b).length<=78:=by
 have z1:=dg b.id.n;have z2:=dg b.id.s;have z3:=dg b.jF;have z4:=dg b.born;have z5:=dg b.iO;have z6:=dg b.id.o;have z7:=dg b.eO;rw[ly];split<;>simp only[length_append,pS,length_cons,length_nil]<;>omega
def eS(b:fR):Int:=if j0 b≠0 then 0 else(ly b).length+gN (b.data.length:Int)+b.data.length+4
theorem sD(b:fR):0<=eS b/\eS b<=2000:=by
 rw[eS];split
 .omega
 .rename_i h;have h:j0 b=0:=Z;have ok:=tG h;have:=yF b;have:=dg (b.data.length:Int);omega
theorem AfH(b:fR)(bS:Bool)(m:Mem)(hg:aj m.ah 0=some (.row bS 1 fM))(hq:0<=b.id.s)(w1:b.data.length<=1000000)(w2:I b.eO)(q_:185<=j:=by omega):SM j 142 [.agg (dt b)] m=some (.tuple [Ei (eS b),Ei (j0 b)],m):=by
 obtain⟨h,lg,d⟩:=m;refine aP 1999 q_ λn=>?_
 have g0:∀q,aj (aR h q) 0=some (.row bS 1 fM):=λq=>(an q h 0 (ag hg)).trans hg
 have g1:=λm=>Mn 184 b m w1 w2
 have g2:=λ(q:j0 b=0) l lg d=>AjO 184 b bS ⟨aR h l,lg,d⟩ (g0 l) q hq
 have g3:=λm=>AjM 184 (b.data.length:Int) m ⟨Z,Z⟩
 have u1:u64.wrap (b.data.length:Int)=b.data.length:=dB Z Z;have f1:=yF b;have f2:=dg (b.data.length:Int);have u2:i64.wrap (((ly b).length:Int)+(gN (b.data.length:Int):Int))=((ly b).length:Int)+(gN (b.data.length:Int):Int):=aU Z Z;have u3:i64.wrap (((ly b).length:Int)+(gN (b.data.length:Int):Int)+(b.data.length:Int))=((ly b).length:Int)+(gN (b.data.length:Int):Int)+(b.data.length:Int):=aU Z Z;have u4:i64.wrap (((ly b).length:Int)+(gN (b.data.length:Int):Int)+(b.data.length:Int)+4)=((ly b).length:Int)+(gN (b.data.length:Int):Int)+(b.data.length:Int)+4:=aU Z Z;unfold dt at g1 g2;simp+contextual-implicitDefEqProofs (maxSteps:=1000000) (maxDischargeDepth:=20) only[go_sem,simprocAttr,dt,g1,g2,g3,u1,u2,u3,u4];(repeat' first|apply And.intro|intro _)<;>simp_all [eS]
end
section
variable{F:FuncId->Option bD}{au:bR}{sm:ct}
def rq(x:Int):Nat->Int×List UInt8
 |0=>(x/128,[UInt8.ofNat (u8.wrap (x%128)).toNat])
 |i+1=>((rq x i).1/128,UInt8.ofNat (u8.wrap (128+(rq x i).1%128)).toNat::(rq x i).2)
theorem Iv(x:Int):∀i,(rq x i).2.length=i+1
 |0=>rfl
 |i+1=>by rw[rq,length_cons,Iv x i]
def xz(x:Int):List UInt8:=(rq x (gN x-1)).2
theorem Iw:∀f x,1<=nl f x
 |0,_=>by rw[nl];omega
 |f+1,x=>by rw[nl];split<;>omega
theorem sE(x:Int):(xz x).length=gN x:=by
 have:=Iw 10 x;rw[xz,Iv,gN];omega
structure Ix(x:Int)(i:Nat)(q:Int):Prop where
 a:0<=q
 b:q*128^(i+1)<=18446744073709551615
 c:gN x=i+1+(if q=0 then 0 else nl (9-i) q)
theorem Ix.zero{x:Int}(hx:U x):Ix x 0 (x/128):=by
 obtain⟨h0,h1⟩:=hx;refine⟨Z,by simp;omega,?_⟩;rw[gN,nl];split
 .rename_i q;rw[aG Z]
 .rename_i q;rw[aq Z];show nl 9 (x/128)+1=0+1+nl 9 (x/128);omega
theorem Ix.le{x:Int}{i:Nat}{q:Int}(H:Ix x i q):q<=18446744073709551615:=by
 have h1:(1:Int)<=128^(i+1):=Int.pow_pos (n:=128) (m:=i+1) Z;have h2:=Int.mul_le_mul_of_nonneg_left h1 H.a;have h3:=H.b;omega
theorem Ix.small{x:Int}{i:Nat}{q:Int}(H:Ix x i q)(hq:q≠0):i<=8:=by
 rcases Nat.lt_or_ge 8 i with h|h
 .exfalso;have h1:=H.b;have h0:=H.a;have h2:(128:Int)^10<=128^(i+1):=by
   rw[show i+1=10+(i+1-10) by omega,Int.pow_add];have h5:(1:Int)<=128^(i+1-10):=Int.pow_pos (n:=128) (m:=i+1-10) Z;omega
  have h4:(1:Int)*128^(i+1)<=q*128^(i+1):=Int.mul_le_mul_of_nonneg_right Z Z;omega
 .exact h
theorem Ix.step{x:Int}{i:Nat}{q:Int}(H:Ix x i q)(hq:q≠0):Ix x (i+1) (q/128):=by
 have h8:=H.small hq;have h0:=H.a;refine⟨Z,?_,?_⟩
 .have h1:q/128*128<=q:=Z;have h2:(0:Int)<=128^(i+1):=by exact Int.pow_nonneg Z
  have h3:=Int.mul_le_mul_of_nonneg_right h1 h2;rw[Int.pow_succ,Int.mul_comm (128^(i+1)) 128,<-Int.mul_assoc];exact Int.le_trans h3 H.b
 .have h1:=H.c;rw[aq hq,show 9-i=(9-(i+1))+1 by omega,nl]at h1;split at h1
  .rw[aG Z];omega
  .rw[aq Z];omega
theorem Ix.om{x:Int}{i:Nat}{q:Int}(H:Ix x i q)(hi:i<gN x-1):q≠0:=λh=>by
 have:=H.c;rw[aG h]at this;omega
theorem Ix.dF{x:Int}{q:Int}(H:Ix x (gN x-1) q):q=0:=by
 have h1:=H.c;have h2:=Iw 10 x;have h3:=Iw (9-(gN x-1)) q;by_cases h:q=0
 .exact h
 .rw[aq h]at h1;rw[<-gN]at h2;omega
theorem GA(x:Int)(m:Mem)(hx:U x)(q_:272<=j:=by omega):SM j 280 [Eu x] m=some (.fN (xz x),m):=by
 obtain⟨h,lg,d⟩:=m;refine aP 1999 q_ λn=>?_
 have u0:x.tmod 128=x%128:=Int.tmod_eq_emod_of_nonneg hx.1;have u1:u64.wrap (x%128)=x%128:=dB Z Z;have u2:u64.wrap (x.tdiv 128)=x/128:=by
  have:=hx.2;have:=hx.1;rw[Int.tdiv_eq_ediv_of_nonneg hx.1];exact dB Z Z
 have nn:=dg x;simp+contextual-implicitDefEqProofs (maxSteps:=1000000) (maxDischargeDepth:=20) only[go_sem,simprocAttr,u0,u2,bytesOf];refine bL (gN x-1) [X0,X3] (λi=>[Eu (rq x i).1,.fN (rq x i).2]) (λi=>Ix x i (rq x i).1) Z aX ⟨rfl,Ix.zero hx⟩ (λi h' bq g hi hP hK=>?_) (λh' bq g hP hK=>?_)
 .have a:=hK.aA lg d;have hn:rq x (i+1)=((rq x i).1/128,UInt8.ofNat (u8.wrap (128+(rq x i).1%128)).toNat::(rq x i).2):=rfl;have hl:=Iv x i;generalize rq x i=pr at hP hn hl|-;obtain⟨q,s⟩:=pr;simp only at hP hn hl|-;have q0:=hP.a;have q1:=hP.om hi;have q2:=hP.le;have qp:0<q:=Z;have v0:q.tmod 128=q%128:=Int.tmod_eq_emod_of_nonneg q0;have v1:u64.wrap (q%128)=q%128:=dB Z Z;have v2:u64.wrap (q.tdiv 128)=q/128:=by rw[Int.tdiv_eq_ediv_of_nonneg q0];exact dB Z Z
  have v3:u64.wrap (128+q%128)=128+q%128:=dB Z Z;simp+contextual-implicitDefEqProofs (maxSteps:=1000000) (maxDischargeDepth:=20) only[go_sem,simprocAttr,a,qp,v0,v2,v3,hn,Ii,o7,bytesOf];exact⟨Z,hP.step q1⟩
 .have a:=hK.aA lg d;have z:=hP.dF;simp+contextual-implicitDefEqProofs (maxSteps:=1000000) (maxDischargeDepth:=20) only[go_sem,simprocAttr,a,z];rfl
end
end Go.Abs
end
