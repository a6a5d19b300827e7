/- Functions of the program on symbolic values
   Conditions: none. -/
import Derived.Test.YteeknodhjojhhaaGreatDoorPd
set_option linter.unusedSimpArgs false
set_option linter.unusedVariables false
set_option maxRecDepth 100000
set_option maxHeartbeats 16000000
noncomputable section
namespace Go.Abs
open List Option IntKind
variable(j n:Nat)(h:aN)
section
variable{F:FuncId->Option bD}{au:bR}{sm:ct}
def nF(x:Int):Int:=if 1099511627776<x then 1099511627777 else x
theorem Agp{x:GW}{a b:Int}:CF {x with f:=nF a,t:=nF b}=CF {x with f:=a,t:=b}:=by
 obtain⟨a',ea⟩:∃a',a'=nF a:=⟨_,rfl⟩;obtain⟨b',eb⟩:∃b',b'=nF b:=⟨_,rfl⟩;rw[<-ea,<-eb];unfold nF at ea eb;by_cases c:a<1\/16<a\/b<1\/16<b
 .have c':a'<1\/16<a'\/b'<1\/16<b':=by split at ea<;>split at eb<;>omega
  have st:∀(y:GW),(y.f<1\/16<y.f\/y.t<1\/16<y.t)->CF y=if¬(1<=y.k/\y.k<=7)then 7 else 2:=λy hy=>by
   rw[CF];split
   .rfl
   .rw[aG Z]
  rw[st _ c',st _ c]
 .rw[ea,eb,aq Z,aq Z]
theorem IQ{s:List UInt8}(h:3<=s.length):CR CS 2 s=0↔((gt s (s.length-2)).toNat:Int)=u8.wrap ((Q8 (s.take (s.length-2)):Int).fdiv (2^min 8 16))/\((gt s (s.length-1)).toNat:Int)=u8.wrap (Q8 (s.take (s.length-2)):Int):=by
 obtain⟨x,hx⟩:∃x,x=Q8 (s.take (s.length-2)):=⟨_,rfl⟩;have w:∀y:Nat,u8.wrap (y:Int)=((y%256:Nat):Int):=λy=>by
  simp only[wrap,IntKind.bits,signed,Bool.false_and,Bool.false_eq_true,if_false];omega
 have f:(x:Int).fdiv (2^min 8 16)=((x/256:Nat):Int):=fd x 256;have dr:s.drop (s.length-2)=[gt s (s.length-2),gt s (s.length-1)]:=by
  rw[drop_eq_getElem_cons Z,show s.length-2+1=s.length-1 by omega,drop_eq_getElem_cons Z,show s.length-1+1=s.length by omega,drop_length,bB Z,bB Z]
 have e:∀(b:UInt8) (y:Nat),UInt8.ofNat y=b↔(b.toNat:Int)=((y%256:Nat):Int):=λb y=>by
  rw[<-UInt8.toNat_inj,UInt8.toNat_ofNat'];omega
 unfold CR CS two;rw[<-hx,dr,f,w,w];rw[show(if[UInt8.ofNat (x/256),UInt8.ofNat x]=[gt s (s.length-2),gt s (s.length-1)]then(0:Int)else 10)=0↔[UInt8.ofNat (x/256),UInt8.ofNat x]=[gt s (s.length-2),gt s (s.length-1)] by split<;>simp_all];rw[List.cons.injEq,List.cons.injEq,e,e];simp
end
section
variable{F:FuncId->Option bD}{au:bR}{sm:ct}
def Yb(j:Nat):Prop:=∀(k f t xC qH a b i1 i2 i3 b1 b2 b3 b4 b5 b6 b7 b8:Int) (d:List UInt8) (m:Mem),0<=b->d.length<=1000000->I b8->SM j 83 [.agg [Ei k,Ei f,Ei t,Eu xC,Eu qH,Eu a,Eu b,Ei i1,Eu i2,Ei i3,Ei b1,Eu b2,Ei b3,Ei b4,Ei b5,Ei b6,Ei b7,Ei b8,.fN d]] m=some (Ei (CF ⟨k,f,t,xC,qH,a,b,⟨i1,i2,i3⟩,⟨⟨b1,b2,b3⟩,b4,b5,b6,b7,b8,d⟩⟩),m)
theorem Agq(q_:158<=j:=by omega):Yb j:=λk f t xC qH a b i1 i2 i3 b1 b2 b3 b4 b5 b6 b7 b8 d m h0 h1 h2=>E83 j ⟨k,f,t,xC,qH,a,b,⟨i1,i2,i3⟩,⟨⟨b1,b2,b3⟩,b4,b5,b6,b7,b8,d⟩⟩ m h0 h1 h2
section
theorem Agr(lg d:List Nat){s b:List UInt8}(hl:3<=s.length/\s.length<=1200)(hb:b=s.take (s.length-2))(rF:CR CS 2 s=0)(hk:(gt b 0).toNat=3)(q_:158<=j:=by omega):Wa FT MT (SM j) (n+2000) (.fn 38) [.fN s] ⟨aR h [],lg,d⟩ (Qk ⟨h,lg,d⟩ (λv _=>GY (DB b) (wB (qt b).1).id v)):=by
 refine aI ?_;have sZ:(1200<(s.length:Int))=False/\((s.length:Int)<3)=False:=⟨cR,cR⟩;have bl:b.length=s.length-2:=by rw[hb,length_take];omega
 have KH:1<=b.length:=Z;have C5:b.length<=1300:=Z;have g0:gt s 0=gt b 0:=by
  rw[bB (show 0<s.length by omega),bB (show 0<b.length by omega)];simp only[hb,getElem_take]
 have i0:s[0]?=some (gt b 0):=by rw[<-g0,bB (show 0<s.length by omega),getElem?_eq_getElem]
 have F1:((gt b 0).toNat:Int)=3:=Z;have UW:i64.wrap ((s.length:Int)-2)=((s.length-2:Nat):Int):=by rw[aU Z Z];omega
 have Yc:i64.wrap ((s.length:Int)-1)=((s.length-1:Nat):Int):=by rw[aU Z Z];omega
 have UX:s[s.length-2]?=some (gt s (s.length-2)):=by rw[bB (show s.length-2<s.length by omega),getElem?_eq_getElem]
 have Yd:s[s.length-1]?=some (gt s (s.length-1)):=by rw[bB (show s.length-1<s.length by omega),getElem?_eq_getElem]
 have Fu:s.length-2<=s.length:=Nat.sub_le _ _;have UY:=(IQ (s:=s) Z).1 rF;rw[<-hb]at UY;have UZ:=λm=>E77 j b m Z
 obtain⟨k1,k2,k3,k4,k5,k6,k7,k8,k9⟩:=XZ KH;have g:∀(a:Int) (x:Int×Int×Int),jv b a=x->1<=a->a<=b.length->∀m,SM j 132 [.fN b,Ei a] m=some (.tuple [Eu x.1,Ei x.2.1,Ei x.2.2],m):=λa x e p1 p2 m=>e▸XY j b a m Z p2 C5
 have g1:=g 1 (q1 b) rfl Z Z;have g2:=g _ (q2 b) rfl k1.c k1.d;have g3:=g _ (q3 b) rfl k2.c k2.d;have g4:=g _ (q4 b) rfl k3.c k3.d;have g5:=g _ (q5 b) rfl k4.c k4.d;have g6:=g _ (q6 b) rfl k5.c k5.d;have gT:∀m,SM j 133 [.fN b,Ei (q6 b).2.1,Ei 1200] m=some (.tuple [.fN (qt b).1,Ei (qt b).2.1,Ei (qt b).2.2],m):=λm=>Agf j b _ 1200 m (by have:=k6.c;omega) k6.d C5 Z
 have tk:=yo (s:=b) (a:=(q6 b).2.1) (cC:=1200) (by have:=k6.c;omega) k6.d Z;rw[<-qt]at tk;have gD:=λl lg d=>Ak3 j (qt b).1 ⟨aR h l,lg,d⟩ Z
 unfold dt at gD;have Qj:∀m,SM j 80 [Ei 3] m=some (.bool true,m):=λm=>E80 j 3 m
 have Ql:∀m,SM j 82 [Ei 3] m=some (.bool false,m):=λm=>E82 j 3 m
 have w3:i64.wrap 3=3:=aU Z Z;have f83:=Agq j;unfold Yb at f83;have dk:=Qi (qt b).1;clear g;generalize e1:q1 b=x1 at k1 g1 g2;generalize e2:q2 b=x2 at k2 g2 g3;generalize e3:q3 b=x3 at k3 g3 g4;generalize e4:q4 b=x4 at k4 g4 g5;generalize e5:q5 b=x5 at k5 g5 g6;generalize e6:q6 b=x6 at k6 g6 gT tk;generalize e7:qt b=x7 at gT tk gD dk|-;generalize e8:wE x7.1=x8 at gD;generalize e9:wR x7.1=x9 at gD dk;have ol:(x7.2.1<(b.length:Int))=¬x7.2.1=b.length:=propext Z;have p6:0<=x6.1:=k6.a;have ws1:=λ(q:¬1099511627776<x1.1)=>(aU (x:=x1.1) (by have:=k1.a;omega) Z)
 have ws2:=λ(q:¬1099511627776<x2.1)=>(aU (x:=x2.1) (by have:=k2.a;omega) Z)
 have kJ:=hb.symm;rcases@em9 (x1.2.2=0) (x2.2.2=0) (x3.2.2=0) (x4.2.2=0) (x5.2.2=0) (x6.2.2=0) (x7.2.2=0) (x8.1=0)with z|z|z|z|z|z|z|z|z
 rotate_left 8
 .refine aW (gX sZ i0 F1 w3 UW Yc UX Yd Fu UY kJ (gX UZ Qj Ql g1 g2 g3 g4 g5 g6 gT gD (yA f83 dk p6 ws1 ws2 z ol (@aJ 78 _ rfl aZ) (@aJ 79 _ rfl aZ) (@aJ 81 _ rfl aZ)))) ?_;have w9:wB x7.1=x9:=by rw[<-e9,wR,aG (by rw[e8];exact z.2.2.2.2.2.2.2)]
  have ep:Tj b=⟨3,x1.1,x2.1,x3.1,x4.1,x5.1,x6.1,Qa,x9⟩:=by rw[Tj,e1,e2,e3,e4,e5,e6,e7,w9]
  have ef:CF ⟨3,nF x1.1,nF x2.1,x3.1,x4.1,x5.1,x6.1,⟨0,0,0⟩,x9⟩=CF (Tj b):=by
   have:=Agp (x:=Tj b) (a:=x1.1) (b:=x2.1);rw[ep]at this|-;exact this
  have db:∀y1 y2,y1=nF x1.1->y2=nF x2.1->(DB b↔x7.2.1=b.length/\CF ⟨3,y1,y2,x3.1,x4.1,x5.1,x6.1,⟨0,0,0⟩,x9⟩=0):=λy1 y2 q1 q2=>by
   subst q1;subst q2;unfold DB;rw[e1,e2,e3,e4,e5,e6,e7,e8,ef];simp only[hk,z,true_and]
  have sp1:1099511627776<x1.1->1099511627777=nF x1.1:=λq=>(aG q).symm
  have sn1:¬1099511627776<x1.1->x1.1=nF x1.1:=λq=>(aq q).symm
  have sp2:1099511627776<x2.1->1099511627777=nF x2.1:=λq=>(aG q).symm
  have Ye:¬1099511627776<x2.1->x2.1=nF x2.1:=λq=>(aq q).symm
  (repeat' first|refine⟨λ_=>?_,λ_=>?_⟩|intro _)<;>refine⟨aH aL,?_⟩;all_goals first
   |exact GZ (λq=>‹¬x7.2.1=(b.length:Int)› ((db _ _ rfl rfl).1 q).1) _ _
   |exact GZ (λq=>absurd ((db _ _ (sp1 ‹_›) (sp2 ‹_›)).1 q).2 ‹_›) _ _
   |exact GZ (λq=>absurd ((db _ _ (sp1 ‹_›) (Ye ‹_›)).1 q).2 ‹_›) _ _
   |exact GZ (λq=>absurd ((db _ _ (sn1 ‹_›) (sp2 ‹_›)).1 q).2 ‹_›) _ _
   |exact GZ (λq=>absurd ((db _ _ (sn1 ‹_›) (Ye ‹_›)).1 q).2 ‹_›) _ _
   |exact⟨⟨3,_,_,x3.1,x4.1,x5.1,x6.1,⟨0,0,0⟩,x9⟩,0,0,rfl,⟨λ_=>(db _ _ (sp1 ‹_›) (sp2 ‹_›)).2 ⟨‹_›,‹_›⟩,λ_=>⟨rfl,rfl⟩⟩,λ_=>by rw[w9]⟩
   |exact⟨⟨3,_,_,x3.1,x4.1,x5.1,x6.1,⟨0,0,0⟩,x9⟩,0,0,rfl,⟨λ_=>(db _ _ (sp1 ‹_›) (Ye ‹_›)).2 ⟨‹_›,‹_›⟩,λ_=>⟨rfl,rfl⟩⟩,λ_=>by rw[w9]⟩
   |exact⟨⟨3,_,_,x3.1,x4.1,x5.1,x6.1,⟨0,0,0⟩,x9⟩,0,0,rfl,⟨λ_=>(db _ _ (sn1 ‹_›) (sp2 ‹_›)).2 ⟨‹_›,‹_›⟩,λ_=>⟨rfl,rfl⟩⟩,λ_=>by rw[w9]⟩
   |exact⟨⟨3,_,_,x3.1,x4.1,x5.1,x6.1,⟨0,0,0⟩,x9⟩,0,0,rfl,⟨λ_=>(db _ _ (sn1 ‹_›) (Ye ‹_›)).2 ⟨‹_›,‹_›⟩,λ_=>⟨rfl,rfl⟩⟩,λ_=>by rw[w9]⟩
 all_goals
  refine aW (gX sZ i0 F1 w3 UW Yc UX Yd Fu UY kJ (gX UZ Qj Ql g1 g2 g3 g4 g5 g6 gT gD (Z9 f83 @I0 p6 ws1 ws2 z (@aJ 78 _ rfl aZ) (@aJ 79 _ rfl aZ) (@aJ 81 _ rfl aZ)))) ?_;have nd:¬DB b:=λh=>by
   unfold DB at h;rw[e1,e2,e3,e4,e5,e6,e7]at h;simp only[e8,z,and_false,false_and]at h
  (repeat' first|refine⟨λ_=>?_,λ_=>?_⟩|intro _)<;>exact⟨aH aL,⟨⟨0,0,0,0,0,0,0,⟨0,0,0⟩,⟨⟨0,0,0⟩,0,0,0,0,0,[]⟩⟩,_,_,rfl,⟨λh=>absurd h.2 (show¬(0:Int)=3 by decide),λh=>absurd h nd⟩,λh=>absurd h nd⟩⟩
end
end
def Tk(h:aN)(s:List UInt8)(b:Nat)(lg d:List Nat)(V:Int->AV):AV->Mem->Prop:=λv m'=>∃(x:Nat) (p' e' q':Int) (bq:List Nat),v=V x/\(0<=p'/\p'<=s.length)/\m'=⟨aQ h b ((aO 4 [[.fN s,Ei p',Ei e',Ei q']])),bq,d⟩/\(bq=lg\/bq=b::lg)
theorem Tk.mk{h:aN}{s:List UInt8}{b:Nat}{lg d:List Nat}{V:Int->AV}(x p' e' q':Int){bq:List Nat}{v:AV}{h':aN}(a1:v=V x)(a2:0<=p'/\p'<=s.length)(a3:0<=x)(a4:h'=aQ h b ((aO 4 [[.fN s,Ei p',Ei e',Ei q']])))(a5:bq=lg\/bq=b::lg):Tk h s b lg d V v ⟨h',bq,d⟩:=by
 subst a4;exact⟨x.toNat,p',e',q',bq,by rw[Int.toNat_of_nonneg a3];exact a1,a2,rfl,a5⟩
theorem Ags{h:aN}{k:Nat}{lg a b:List Nat}(H:dm h lg a)(c:b=a\/b=nb h k::a):dm h lg b:=by
 rcases c with rfl|rfl
 .exact H
 .exact .cons H
theorem N79(lg d:List Nat){s:List UInt8}{b:Nat}{p e q:Int}(hb:aj h b=(aO 4 [[.fN s,Ei p,Ei e,Ei q]]))(hp:0<=p/\p<=s.length)(hw:s.length<=1300)(q_:140<=j:=by omega):
 Wa FT MT (SM j) (n+300) (.fn 79) [.ptr b 0 0] ⟨h,lg,d⟩ (Tk h s b lg d λx=>Eu x):=by
 show Wa FT MT (SM j) (n+300) (.fn 79) [.ptr b 0 0] ⟨aR h [],lg,d⟩ _;refine aI ?_;have o:=bg (ag hb);have b0:∀l,aj (aR h l) b=(aO 4 [[.fN s,Ei p,Ei e,Ei q]]):=λl=>(an l h b (ag hb)).trans hb
 have g:=λm=>XY j s p m hp.1 hp.2 hw
 have k:=yk hp.1 hp.2;refine aW (Z3 b0 o g) ?_;refine⟨λc=>?_,λc=>⟨λc2=>?_,λc2=>?_⟩⟩
 .exact Tk.mk 0 p e q rfl hp Z (MJ hb).symm (.inl rfl)
 all_goals first|exact Tk.mk _ _ _ _ rfl ⟨Z,Z⟩ k.1 rfl (.inr rfl)|exact Tk.mk 0 _ _ _ rfl hp Z rfl (.inr rfl)
theorem N78(lg d:List Nat){s:List UInt8}{b:Nat}{p e q:Int}(hb:aj h b=(aO 4 [[.fN s,Ei p,Ei e,Ei q]]))(hp:0<=p/\p<=s.length)(hw:s.length<=1300)(q_:140<=j:=by omega):
 Wa FT MT (SM j) (n+400) (.fn 78) [.ptr b 0 0] ⟨h,lg,d⟩ (Tk h s b lg d λx=>Ei x):=by
 show Wa FT MT (SM j) (n+400) (.fn 78) [.ptr b 0 0] ⟨aR h [],lg,d⟩ _;refine aI ?_;refine aS ?_;rw[<-fZ];refine dE _ _ _ _ _ _ (λv m' R=>?_) (N79 j (n+99) h lg [] hb hp hw);obtain⟨x,p',e',q',bq,rfl,Aa,rfl,hl⟩:=R;have w:¬1099511627776<(x:Int)->i64.wrap x=x:=λc=>aU Z Z
 refine aW w ?_;exact⟨λ_=>Tk.mk _ _ _ _ rfl Aa Z rfl hl,λ_=>Tk.mk _ _ _ _ rfl Aa Z rfl hl⟩
theorem Agt(lg d:List Nat){s b:List UInt8}{k:Int}{ua ub ui:Bool}(hl:3<=s.length/\s.length<=1200)(hb:b=s.take (s.length-2))(rF:CR CS 2 s=0)(F1:((gt b 0).toNat:Int)=k)(hk:k≠3)(Qb:i64.wrap k=k)(hkf:((k<1)=False/\(7<k)=False/\(k=3)=False)/\(k=1)=(ua=false))
 (Qj:∀m,SM j 80 [Ei k] m=some (.bool ub,m)) (Ql:∀m,SM j 82 [Ei k] m=some (.bool ui,m)) (hu:(ua=false/\ub=false/\ui=false)\/(ua=true/\ub=false/\ui=false)\/(ua=true/\ub=true/\ui=false)\/(ua=true/\ub=false/\ui=true)\/(ua=true/\ub=true/\ui=true)) (id:iF) (q_:158<=j:=by omega):
 Wa FT MT (SM j) (n+2000) (.fn 38) [.fN s] ⟨aR h [],lg,d⟩ (Qk ⟨h,lg,d⟩ (λv _=>GY False id v)):=by
 refine aI ?_;have sZ:(1200<(s.length:Int))=False/\((s.length:Int)<3)=False:=⟨cR,cR⟩;have bl:b.length=s.length-2:=by rw[hb,length_take];omega
 have KH:1<=b.length:=Z;have C5:b.length<=1300:=Z;have g0:gt s 0=gt b 0:=by
  rw[bB (show 0<s.length by omega),bB (show 0<b.length by omega)];simp only[hb,getElem_take]
 have i0:s[0]?=some (gt b 0):=by rw[<-g0,bB (show 0<s.length by omega),getElem?_eq_getElem]
 have UW:i64.wrap ((s.length:Int)-2)=((s.length-2:Nat):Int):=by rw[aU Z Z];omega
 have Yc:i64.wrap ((s.length:Int)-1)=((s.length-1:Nat):Int):=by rw[aU Z Z];omega
 have UX:s[s.length-2]?=some (gt s (s.length-2)):=by rw[bB (show s.length-2<s.length by omega),getElem?_eq_getElem]
 have Yd:s[s.length-1]?=some (gt s (s.length-1)):=by rw[bB (show s.length-1<s.length by omega),getElem?_eq_getElem]
 have Fu:s.length-2<=s.length:=Nat.sub_le _ _;have UY:=(IQ (s:=s) Z).1 rF;rw[<-hb]at UY;have UZ:=λm=>E77 j b m Z
 have f83:=Agq j;unfold Yb at f83;have kJ:=hb.symm;have kfr:∀(a1 a2 a3 a4 a5 a6 a7 a8 a9 b1 b2 b3 b4 b5 b6 b7 b8 e p:Int) (da:List UInt8),GY False id (.tuple [.agg [Ei k,Ei a1,Ei a2,Eu a3,Eu a4,Eu a5,Eu a6,Ei a7,Eu a8,Ei a9,Ei b1,Eu b2,Ei b3,Ei b4,Ei b5,Ei b6,Ei b7,Ei b8,.fN da],.agg [Ei e,Ei p]]):=λa1 a2 a3 a4 a5 a6 a7 a8 a9 b1 b2 b3 b4 b5 b6 b7 b8 e p da=>⟨⟨k,a1,a2,a3,a4,a5,a6,⟨a7,a8,a9⟩,⟨⟨b1,b2,b3⟩,b4,b5,b6,b7,b8,da⟩⟩,e,p,rfl,⟨λh=>absurd h.2 hk,λh=>h.elim⟩,λh=>h.elim⟩
 have nf:¬False:=λh=>h
 have YL:0<=(1:Int)/\(1:Int)<=b.length:=Z;rcases hu with⟨rfl,rfl,rfl⟩|⟨rfl,rfl,rfl⟩|⟨rfl,rfl,rfl⟩|⟨rfl,rfl,rfl⟩|⟨rfl,rfl,rfl⟩
 all_goals
  refine aW (gX sZ i0 F1 Qb hkf UW Yc UX Yd Fu UY (Z2 kJ UZ)) ?_;repeat first
   |(rw[<-fZ];refine dE _ _ _ _ _ _ (λv m' R=>?_) (N78 j _ (aR h _) _ _ (by rw[bj];rfl) (by assumption) Z);obtain⟨x,p',e',q',bq,rfl,Aa,rfl,Hq⟩:=R;have hq:=Ags (h:=h) (lg:=lg) (by repeat first|exact dm.nil|assumption|apply dm.cons) Hq;clear Hq;simp+contextual-implicitDefEqProofs (maxSteps:=1000000) (maxDischargeDepth:=20) only[go_sem,simprocAttr,f83,I0])
   |(rw[<-fZ];refine dE _ _ _ _ _ _ (λv m' R=>?_) (N79 j _ (aR h _) _ _ (by rw[bj];rfl) (by assumption) Z);obtain⟨x,p',e',q',bq,rfl,Aa,rfl,Hq⟩:=R;have hq:=Ags (h:=h) (lg:=lg) (by repeat first|exact dm.nil|assumption|apply dm.cons) Hq;clear Hq;simp+contextual-implicitDefEqProofs (maxSteps:=1000000) (maxDischargeDepth:=20) only[go_sem,simprocAttr,f83,hkf,Qj,Ql,I0])
  (repeat' first|refine⟨λ_=>?_,λ_=>?_⟩|intro _)<;>first|exact⟨aH (by repeat first|exact dm.nil|assumption|apply dm.cons),GZ nf _ _⟩|exact⟨aH (by repeat first|exact dm.nil|assumption|apply dm.cons),kfr _ _ _ _ _ _ _ _ _ _ _ _ _ _ _ _ _ _ _ _⟩
theorem N38(lg d:List Nat){s:List UInt8}(hw:s.length<=1300)(q_:158<=j:=by omega):Wa FT MT (SM j) (n+2000) (.fn 38) [.fN s] ⟨aR h [],lg,d⟩ (Qk ⟨h,lg,d⟩ (λv _=>GY (Qg s) (Qh s) v)):=by
 by_cases c1:1200<s.length
 .have c:(1200<(s.length:Int))=True:=dy;refine aI ?_;refine aW c ?_;exact⟨aH aL,GZ (λh=>by have:=h.1;omega) _ _⟩
 by_cases c2:s.length<3
 .have A4:(1200<(s.length:Int))=False:=cR;have c:((s.length:Int)<3)=True:=dy;refine aI ?_;refine aW (Z2 A4 c) ?_;exact⟨aH aL,GZ (λh=>by have:=h.2.1;omega) _ _⟩
 have hl:3<=s.length/\s.length<=1200:=⟨Z,Z⟩;obtain⟨b,hb⟩:∃b,b=s.take (s.length-2):=⟨_,rfl⟩;have sZ:(1200<(s.length:Int))=False/\((s.length:Int)<3)=False:=⟨cR,cR⟩;have bl:b.length=s.length-2:=by rw[hb,length_take];omega
 have KH:1<=b.length:=Z;have C5:b.length<=1300:=Z;have g0:gt s 0=gt b 0:=by
  rw[bB (show 0<s.length by omega),bB (show 0<b.length by omega)];simp only[hb,getElem_take]
 have i0:s[0]?=some (gt b 0):=by rw[<-g0,bB (show 0<s.length by omega),getElem?_eq_getElem]
 have UW:i64.wrap ((s.length:Int)-2)=((s.length-2:Nat):Int):=by rw[aU Z Z];omega
 have Yc:i64.wrap ((s.length:Int)-1)=((s.length-1:Nat):Int):=by rw[aU Z Z];omega
 have UX:s[s.length-2]?=some (gt s (s.length-2)):=by rw[bB (show s.length-2<s.length by omega),getElem?_eq_getElem]
 have Yd:s[s.length-1]?=some (gt s (s.length-1)):=by rw[bB (show s.length-1<s.length by omega),getElem?_eq_getElem]
 have Fu:s.length-2<=s.length:=Nat.sub_le _ _;have kJ:=hb.symm;have UZ:=λm=>E77 j b m Z
 have tk:=IQ (s:=s) Z;rw[kJ]at tk;by_cases c3:CR CS 2 s=0;rotate_left
 .by_cases a:((gt s (s.length-2)).toNat:Int)=u8.wrap ((Q8 b:Int).fdiv (2^min 8 16))
  .have a2:¬((gt s (s.length-1)).toNat:Int)=u8.wrap (Q8 b:Int):=λq=>c3 (tk.2 ⟨a,q⟩)
   refine aI ?_;refine aW (yA sZ UW Yc UX Yd Fu kJ UZ a a2) ?_;exact⟨aH aL,GZ (λh=>c3 h.2.2.1) _ _⟩
  .refine aI ?_;refine aW (Z7 sZ UW UX Fu kJ UZ a) ?_;exact⟨aH aL,GZ (λh=>c3 h.2.2.1) _ _⟩
 have bo:KL CS 2 s=b:=by
  unfold CR at c3;unfold KL;by_cases q:CS (s.take (s.length-2))=s.drop (s.length-2)
  .rw[aG q,hb]
  .rw[aq q]at c3;exact absurd c3 aZ
 have iff:DB b↔Qg s:=⟨λh=>⟨Z,Z,c3,bo.symm▸h⟩,λh=>bo▸h.2.2.2⟩;have k8:=(gt b 0).toNat_lt;have wk:i64.wrap ((gt b 0).toNat:Int)=((gt b 0).toNat:Int):=aU Z Z;have UY:=tk.1 c3;rcases D9 ((gt b 0).toNat:Int)with hk|hk
 rotate_left
 .have kf:(((gt b 0).toNat:Int)<1)=True\/(((gt b 0).toNat:Int)<1)=False/\(7<((gt b 0).toNat:Int))=True:=by simp;omega
  rcases kf with kf|kf
  all_goals
   refine aI ?_;refine aW (gX sZ i0 UW Yc UX Yd Fu UY kJ UZ wk kf) ?_;exact⟨aH aL,GZ (λh=>by have:=(iff.2 h).1;omega) _ _⟩
 by_cases k3:((gt b 0).toNat:Int)=3
 .refine dE _ _ _ _ _ _ (λv m' q=>?_) (Agr j n h lg d hl hb c3 Z);exact⟨q.1,by rw[Qh,bo];exact q.2.of iff⟩
 .have nd:¬Qg s:=λh=>k3 (by have:=(iff.2 h).1;omega)
  have kj:∀{ua ub ui:Bool},((((gt b 0).toNat:Int)<1)=False/\(7<((gt b 0).toNat:Int))=False/\(((gt b 0).toNat:Int)=3)=False)/\(((gt b 0).toNat:Int)=1)=(ua=false)->(∀m,SM j 80 [Ei ((gt b 0).toNat:Int)] m=some (.bool ub,m))->(∀m,SM j 82 [Ei ((gt b 0).toNat:Int)] m=some (.bool ui,m))->((ua=false/\ub=false/\ui=false)\/(ua=true/\ub=false/\ui=false)\/(ua=true/\ub=true/\ui=false)\/(ua=true/\ub=false/\ui=true)\/(ua=true/\ub=true/\ui=true))->
   Wa FT MT (SM j) (n+2000) (.fn 38) [.fN s] ⟨aR h [],lg,d⟩ (Qk ⟨h,lg,d⟩ (λv _=>GY (Qg s) (Qh s) v)):=λf1 Qj Ql hu=>by
   refine dE _ _ _ _ _ _ (λv m' q=>?_) (Agt j n h lg d hl hb c3 rfl k3 wk f1 Qj Ql hu (Qh s));exact⟨q.1,q.2.of ⟨λh=>h.elim,λh=>absurd h nd⟩⟩
  have Qj:=λm=>E80 j ((gt b 0).toNat:Int) m
  have Ql:=λm=>E82 j ((gt b 0).toNat:Int) m
  rcases hk with hk|hk|hk|hk|hk|hk|hk
  rotate_left 2
  .exact absurd hk k3
  all_goals
   rw[hk]at Qj Ql kj;simp[uB,uI]at Qj Ql;first|(refine kj (ua:=false) ?_ Qj Ql (by simp);simp;done)|(refine kj (ua:=true) ?_ Qj Ql (by simp);simp;done)
def AN(s:cE)(x:iF):Int:=if dU s.d=0 then xu x else dU s.d
def AO(s:cE)(x:iF)(L:List Int)(w:AV)(h:aN):Prop:=∃v,w=.tuple [v,Ei (AN s x)]/\aT h 1 v ((if AN s x=0 then L else[]).map n9)
theorem AO.err{s:cE}{x:iF}{L:List Int}{h:aN}(he:AN s x≠0):AO s x L (.tuple [.aF,Ei (AN s x)]) h:=⟨.aF,rfl,by rw[aq he];exact .none rfl (.inl rfl)⟩
theorem AO.ok{s:cE}{x:iF}{L:List Int}{v:AV}{h:aN}(he:AN s x=0)(H:aT h 1 v (L.map n9)):AO s x L (.tuple [v,Ei 0]) h:=⟨v,by rw[he],by rw[aG he];exact H⟩
theorem N8(lg d:List Nat){s:cE}{x:iF}(H:bQ h s)(q_:83<=j:=by omega):Wa FT MT (SM j) (n+3000) (.fn 8) [.agg (cJ s),.agg (gQ x)] ⟨aR h [],lg,d⟩ (Qk ⟨h,lg,d⟩ (AO s x (na s.d.bu x))):=by
 refine aI ?_;have c1:=H.v.sc;have c2:=H.l.sc;have g1:=λm=>Xk j x m
 unfold gQ at g1;refine aW (Z4 @cJ.eq_1 @gQ.eq_1 c1 c2) ?_;rw[<-fZ];refine fK (N31 j (n+999) (aR h [(aO 3 [[Ei s.cA,s.nv,s.lv]]),(aO 3 [[Ei x.n,Eu x.s,Ei x.o]])]) _ _ s (H.bx _)) (λw h2 dx k2 og=>?_);have kk:aY ⟨h,lg,d⟩ ⟨h2,dx,d⟩:=(aH aL).trans k2.sub;have QX:bQ h2 s:=bQ.bw (m:=⟨h,lg,d⟩) (m':=⟨h2,dx,d⟩) H kk;have k1:=k2.at;by_cases hz:dU s.d=0
 .rw[aG hz]at og;obtain⟨b,rfl,hb⟩:=og;have z1:=λl=>k1 l 1 (by simp only[fY];omega)
  refine aW (Z5 @cJ.eq_1 c1 c2 g1 z1) ?_;refine⟨λhi=>?_,λhi=>?_⟩
  .have hc:AN s x=xu x:=aG hz;exact⟨kk.trans (aH aL),hc▸AO.err (by rw[hc];exact hi)⟩
  .rw[<-fZ];refine fK (N33 j _ (aR h2 [(aO 4 [[Ei s.cA,s.nv,s.lv,.map b]])]) _ _ s (.map b) x (QX.bx _) rfl) (λw h3 dH k3 LB=>?_);refine aS ?_;exact⟨(kk.trans (aH aL)).trans k3.sub,AO.ok ((aG hz).trans hi) LB⟩
 .rw[aq hz]at og;subst og;have hc:AN s x=dU s.d:=aq hz;refine aW hz ?_;exact⟨kk.trans (aH aL),hc▸AO.err (by rw[hc];exact hz)⟩
theorem N9(lg d:List Nat){s:cE}{x:iF}(H:bQ h s)(q_:103<=j/\87<=j:=by omega):Wa FT MT (SM j) (n+3000) (.fn 9) [.agg (cJ s),.agg (gQ x)] ⟨aR h [],lg,d⟩ (Qk ⟨h,lg,d⟩ (AO s x (mT s.d.bu x))):=by
 refine aI ?_;have c1:=H.v.sc;have c2:=H.l.sc;have g1:=λm=>Y0 j x m
 have g0:=λl lg d=>E34 j s ⟨aR h l,lg,d⟩ (H.bx l)
 unfold gQ at g1;unfold cJ at g0;by_cases hz:dU s.d=0
 .rw[hz]at g0;refine aW (Z6 @cJ.eq_1 @gQ.eq_1 c1 c2 g0 g1) ?_;refine⟨λhi=>?_,λhi=>?_⟩
  .have hc:AN s x=xu x:=aG hz;refine⟨aH aL,?_⟩;rw[<-hc];exact AO.err (by rw[hc];exact hi)
  .rw[<-fZ];refine fK (N36 j _ (aR h [(aO 3 [[Ei s.cA,s.nv,s.lv]]),(aO 3 [[Ei x.n,Eu x.s,Ei x.o]])]) _ _ s x (H.bx _)) (λw h3 dH k3 LB=>?_);refine aS ?_;exact⟨(aH aL).trans k3.sub,AO.ok ((aG hz).trans hi) LB⟩
 .have hc:AN s x=dU s.d:=aq hz;refine aW (Z6 @cJ.eq_1 @gQ.eq_1 c1 c2 g0 hz) ?_;refine⟨aH aL,?_⟩;rw[<-hc];exact AO.err (by rw[hc];exact hz)
theorem E12(l:List Int)(v w:AV)(m:Mem)(hv:aT m.ah 1 v (l.map n9))(hu:aT m.ah 1 w (l.map n9))(hw:l.length<=1000)(q_:161<=j:=by omega):SM j 12 [v,w] m=some (.bool true,m):=by
 obtain⟨h,lg,d⟩:=m;refine aP 1999 q_ λn=>?_
 have lv:=hv.len;have lw:=hu.len;refine aW (Z2 lv lw) ?_;refine bL l.length [X5] (λi=>[Ei i]) (λi=>True) Z aX ⟨rfl,trivial⟩ (λi h' bq g hi hP hK=>?_) (λh' bq g hP hK=>?_)
 .have a:=hK.aA lg d;have e:=(hK.sl hv).el hi;have e2:=(hK.sl hu).el hi;have r:=fh hi Z;unfold n9 at e e2;exact aC (Z5 a e e2 r lv)
 .have a:=hK.aA lg d;have r:=cY l.length;exact aC (Z3 a r lv)
def fl(x:iF)(f:List UInt8):Bool:=by classical exact decide (Qg f/\Qh f=x)
def KQ(x:iF)(l:List (List UInt8)):Nat:=(l.filter (fl x)).length
def za(x:iF):List LX->Nat
 |[]=>0
 |y::l=>KQ x y.l.dh+za x l
theorem G0{x:iF}{l:List (List UInt8)}{i:Nat}(hi:i<l.length):KQ x (l.take (i+1))=KQ x (l.take i)+(if fl x (gt l i)=true then 1 else 0):=by
 rw[take_add_one,getElem?_eq_getElem hi,toList_some,KQ,KQ,filter_append,length_append,bB hi];split<;>simp_all
theorem IS{x:iF}{l:List (List UInt8)}:KQ x l<=l.length:=length_filter_le _ _
theorem KR{x:iF}{y:LX}:∀l,za x (l++[y])=za x l+KQ x y.l.dh
 |[]=>by simp[za]
 |z::l=>by rw[cons_append,za,za,KR l];omega
theorem G1{x:iF}{l:List LX}{i:Nat}(hi:i<l.length):za x (l.take (i+1))=za x (l.take i)+KQ x (gt l i).l.dh:=by
 rw[take_add_one,getElem?_eq_getElem hi,toList_some,KR,bB hi]
theorem IT{x:iF}:∀{l:List LX},(∀y∈l,y.l.dh.length<=1000)->za x l<=1000*l.length
 |[],_=>Nat.zero_le _
 |y::l,H=>by
  have a:=IT (x:=x) (l:=l) λz hz=>H z (mem_cons_of_mem _ hz)
  have b:=IS (x:=x) (l:=y.l.dh);have c:=H y (by simp);rw[za,length_cons];omega
theorem GY.by4{f:List UInt8}{v:AV}(H:GY (Qg f) (Qh f) v)(x:iF):∃(y:GW) (e p:Int),v=.tuple [.agg (C8 y),.agg [Ei e,Ei p]]/\
 ((e=0/\y.k=3/\(y.mU.id.n=x.n/\y.mU.id.s=x.s/\y.mU.id.o=x.o)/\fl x f=true)\/(¬e=0/\fl x f=false)\/(e=0/\¬y.k=3/\fl x f=false)\/(e=0/\y.k=3/\¬(y.mU.id.n=x.n/\y.mU.id.s=x.s/\y.mU.id.o=x.o)/\fl x f=false)):=by
 obtain⟨y,e,p,rfl,h1,h2⟩:=H.q;refine⟨y,e,p,rfl,?_⟩;have ie:∀a b:iF,a=b↔(a.n=b.n/\a.s=b.s/\a.o=b.o):=λa b=>by
  obtain⟨_,_,_⟩:=a;obtain⟨_,_,_⟩:=b;simp
 by_cases c:Qg f
 .obtain⟨c1,c2⟩:=h1.2 c;by_cases c3:Qh f=x
  .exact .inl ⟨c1,c2,(ie _ _).1 ((h2 c).trans c3),by simp[fl,c,c3]⟩
  .exact .inr (.inr (.inr ⟨c1,c2,λq=>c3 ((h2 c).symm.trans ((ie _ _).2 q)),by simp[fl,c3]⟩))
 .have q:fl x f=false:=by simp[fl,c]
  by_cases c1:e=0
  .exact .inr (.inr (.inl ⟨c1,λc2=>c (h1.1 ⟨c1,c2⟩),q⟩))
  .exact .inr (.inl ⟨c1,q⟩)
theorem vv.up{h h':aN}{lg bq d d':List Nat}(H:vv h)(k:aY ⟨h,lg,d⟩ ⟨h',bq,d'⟩):vv h':=by
 obtain⟨o,q⟩:=H;exact⟨o,(k.get 0 (ag q)).trans q⟩
theorem pY.up{h h':aN}{lg bq d d':List Nat}(H:pY h)(k:aY ⟨h,lg,d⟩ ⟨h',bq,d'⟩):pY h':=by
 obtain⟨o,q⟩:=H;exact⟨o,(k.get 1 (ag q)).trans q⟩
theorem E10(s:cE)(x:iF)(m:Mem)(hh:vv m.ah)(hc:pY m.ah)(H:bQ m.ah s)(hf:∀y∈s.ls,∀f∈y.l.dh,f.length<=1300)(q_:136<=j:=by omega):
 SM j 10 [.agg (cJ s),.agg (gQ x)] m=some (.tuple [Ei (if AN s x=0 then(za x s.ls:Nat)else 0),Ei (AN s x)],m):=by
 obtain⟨h,lg,d⟩:=m;refine aP 5999 q_ λn=>?_
 have c1:=H.v.sc;have c2:=H.l.sc;have g1:=λm=>Xk (136-1) x m
 unfold gQ at g1;refine aW (Z4 @cJ.eq_1 @gQ.eq_1 c1 c2) ?_;rw[<-fZ];refine fK (N31 _ _ (aR h [(aO 3 [[Ei s.cA,s.nv,s.lv]]),(aO 3 [[Ei x.n,Eu x.s,Ei x.o]])]) _ _ s (H.bx _)) (λw h2 dx k2 og=>?_);have kk:aY ⟨h,lg,d⟩ ⟨h2,dx,d⟩:=(aH aL).trans k2.sub;have QX:bQ h2 s:=bQ.bw (m:=⟨h,lg,d⟩) (m':=⟨h2,dx,d⟩) H kk;by_cases hz:dU s.d=0
 .rw[aG hz]at og;obtain⟨b,rfl,hb⟩:=og;have z1:=λl=>k2.at l 1 (by simp only[fY];omega)
  have ll:=QX.l.len;have ca:AN s x=xu x:=aG hz;by_cases hi:xu x=0
  .rw[hi]at g1;refine aW (Z6 @cJ.eq_1 c1 c2 g1 z1 ll) ?_;have zz:aj h2 (nb h 1)=(aO 3 [[Ei x.n,Eu x.s,Ei x.o]]):=z1 [];have w2:=H.w2;have cb:∀i,za x (s.ls.take i)<=1000000:=λi=>by
    have:=IT (x:=x) (l:=s.ls.take i) λy hy=>(H.la y (mem_of_mem_take hy)).2
    rw[length_take]at this;omega
   refine bL s.ls.length [X31,X8] (λi=>[Ei i,Ei (za x (s.ls.take i):Nat)]) (λ_=>True) Z aX ⟨rfl,trivial⟩ (λi h3 dH g hi _ hK=>?_) (λh3 dH g _ hK=>?_)
   .have KG:bQ h3 s:=bQ.bw (QX.bx _) hK;have e:=KG.l.el hi;unfold jB at e;have r:=fh hi Z;have fa:=KG.la _ (bA hi);have lf:=fa.1.len;have cx:=fa.1.sc;refine aW (Z4 e r lf cx) ?_;refine bL (gt s.ls i).l.dh.length [X38,X8] (λk=>[Ei k,Ei ((za x (s.ls.take i)+KQ x ((gt s.ls i).l.dh.take k):Nat))]) (λ_=>True) Z aX ⟨rfl,trivial⟩ (λk h4 fi g4 hk _ Nr=>?_) (λh4 fi g4 _ Nr=>?_)
    .have Yf:bQ h4 s:=bQ.bw (KG.bx _) Nr;have wz:aY ⟨h3,dH,[]⟩ ⟨h4,fi,[]⟩:=(aH aL).trans Nr;have Ns:aY ⟨h2,dx,[]⟩ ⟨h4,fi,[]⟩:=((aH aL).trans hK).trans wz;have fa4:=Yf.la _ (bA hi);have e4:=fa4.1.el hk;unfold oI at e4;have r4:=fh hk Z;refine aW (Z2 e4 r4) ?_;rw[<-fZ];have z4:aj h4 (nb h 1)=(aO 3 [[Ei x.n,Eu x.s,Ei x.o]]):=(Ns.get _ (ag zz)).trans zz;refine fK (N37 _ _ h4 _ _ ((hh.up kk).up Ns) ((hc.up kk).up Ns) (hf _ (bA hi) _ (bA hk))) (λw h5 jg k5 IU=>?_);have z5:∀l,aj (aR h5 l) (nb h 1)=(aO 3 [[Ei x.n,Eu x.s,Ei x.o]]):=λl=>(an l h5 _ (gA (ag z4) k5.len)).trans ((k5.get _ (ag z4)).trans z4)
     obtain⟨y,e,p,rfl,hy⟩:=IU.by4 x;have tk:=G0 (x:=x) hk;have cb1:=cb i;have cb2:=IS (x:=x) (l:=(gt s.ls i).l.dh.take k);rw[length_take]at cb2;have wc:i64.wrap (((za x (s.ls.take i)+KQ x ((gt s.ls i).l.dh.take k):Nat):Int)+1)=((za x (s.ls.take i)+(KQ x ((gt s.ls i).l.dh.take k)+1):Nat):Int):=by rw[aU Z Z];omega
     have k25:aY ⟨aR h3 [(aO 3 [[Ei (gt s.ls i).l.src,Ei (gt s.ls i).l.dst,(gt s.ls i).f]])],nb h3 0::nb h3 0::dH,[]⟩ ⟨h5,jg,[]⟩:=Nr.trans k5;have y2:=True.intro;have y3:=True.intro;rcases hy with⟨y1,y2,y3,y4⟩|⟨y1,y4⟩|⟨y1,y2,y4⟩|⟨y1,y2,y3,y4⟩
     all_goals
      rw[y4]at tk;refine aW (Z7 @C8.eq_1 z5 r4 wc y1 y2 y3) ?_;simp at tk;exact⟨by rw[tk],k25.trans (aH aL)⟩
    .have r4:=cY (gt s.ls i).l.dh.length;refine aW (Z2 r4 r) ?_;exact⟨by rw[G1 hi],(hK.trans (aH aL)).trans Nr⟩
   .have r:=cY s.ls.length;refine aW r ?_;rw[ca,hi,aG rfl];exact⟨⟨rfl,rfl⟩,kk.trans ((aH aL).trans hK).sub⟩
  .refine aW (Z6 @cJ.eq_1 c1 c2 g1 z1 hi) ?_;rw[ca,aq hi];refine⟨by simp,kk.trans (aH aL)⟩
 .rw[aq hz]at og;subst og;have ca:AN s x=dU s.d:=aq hz;refine aW hz ?_;rw[ca,aq hz];refine⟨by simp,kk.trans (aH aL)⟩
theorem E11(s:cE)(x:iF)(m:Mem)(H:bQ m.ah s)(hf:∀y∈s.ls,∀f∈y.l.dh,f.length<=1300)(q_:160<=j:=by omega):
 SM j 11 [.agg (cJ s),.agg (gQ x)] m=some (.tuple [Ei (if AN s x=0 then(za x s.ls:Nat)else 0),Ei (AN s x)],m):=by
 obtain⟨h,lg,d⟩:=m;refine aP 5999 q_ λn=>?_
 have c1:=H.v.sc;have c2:=H.l.sc;refine aW (Z4 @cJ.eq_1 @gQ.eq_1 c1 c2) ?_;rw[<-fZ];refine fK (N9 _ _ (aR h [(aO 3 [[Ei s.cA,s.nv,s.lv]]),(aO 3 [[Ei x.n,Eu x.s,Ei x.o]])]) _ _ (s:=s) (x:=x) (H.bx _)) (λw h2 dx k2 og=>?_);have kk:aY ⟨h,lg,d⟩ ⟨h2,dx,d⟩:=(aH aL).trans k2.sub;have QX:bQ h2 s:=bQ.bw (m:=⟨h,lg,d⟩) (m':=⟨h2,dx,d⟩) H kk;obtain⟨v,rfl,hv⟩:=og;have Nt:aj h2 (nb h 0)=(aO 3 [[Ei s.cA,s.nv,s.lv]]):=k2.at [] 0 (by simp only[fY];omega);have zz1:aj h2 (nb h 1)=(aO 3 [[Ei x.n,Eu x.s,Ei x.o]]):=k2.at [] 1 (by simp only[fY];omega);by_cases hi:AN s x=0
 .rw[hi];refine aS ?_;have w2:=H.w2;have cb:∀i,za x (s.ls.take i)<=1000000:=λi=>by
   have:=IT (x:=x) (l:=s.ls.take i) λy hy=>(H.la y (mem_of_mem_take hy)).2
   rw[length_take]at this;omega
  rw[<-nN h2];refine bL s.ls.length [X9,X8] (λi=>[Ei i,Ei (za x (s.ls.take i):Nat)]) (λ_=>True) Z aX ⟨rfl,trivial⟩ (λi h3 dH g hi _ hK=>?_) (λh3 dH g _ hK=>?_)
  .have U0:aY ⟨h2,dx,[]⟩ ⟨h3,dH,[]⟩:=hK;have z0:∀l,aj (aR h3 l) (nb h 0)=(aO 3 [[Ei s.cA,s.nv,s.lv]]):=λl=>(an l h3 _ (gA (ag Nt) U0.len)).trans ((U0.get _ (ag Nt)).trans Nt)
   have KG:bQ h3 s:=bQ.bw (QX.bx []) hK;have ll:=KG.l.len;have e:=KG.l.el hi;unfold jB at e;have r:=fh hi Z;refine aW (Z3 r z0 ll) ?_;rw[<-nN h3];refine bL (gt s.ls i).l.dh.length [BZ,X8] (λk=>[Ei k,Ei ((za x (s.ls.take i)+KQ x ((gt s.ls i).l.dh.take k):Nat))]) (λ_=>True) (by have:=(H.la _ (bA hi)).2;omega) aX ⟨rfl,trivial⟩ (λk h4 fi g4 hk _ Nr=>?_) (λh4 fi g4 _ Nr=>?_)
   .have Yf:bQ h4 s:=bQ.bw (KG.bx []) Nr;have Ns:aY ⟨h2,dx,[]⟩ ⟨h4,fi,[]⟩:=U0.trans Nr;have z0:∀l,aj (aR h4 l) (nb h 0)=(aO 3 [[Ei s.cA,s.nv,s.lv]]):=λl=>(an l h4 _ (gA (ag Nt) Ns.len)).trans ((Ns.get _ (ag Nt)).trans Nt)
    have fa4:=Yf.la _ (bA hi);have lf:=fa4.1.len;have e4:=fa4.1.el hk;unfold oI at e4;have r4:=fh hk Z;have e:=Yf.l.el hi;unfold jB at e;refine aW (Z5 e e4 r4 lf z0) ?_;rw[<-fZ];refine fK (N38 _ _ h4 _ _ (hf _ (bA hi) _ (bA hk))) (λw h5 jg k5 IU=>?_);have z5:∀l,aj (aR h5 l) (nb h 1)=(aO 3 [[Ei x.n,Eu x.s,Ei x.o]]):=λl=>(an l h5 _ (gA (ag zz1) (Ns.trans k5).len)).trans (((Ns.trans k5).get _ (ag zz1)).trans zz1)
    obtain⟨y,e,p,rfl,hy⟩:=IU.by4 x;have tk:=G0 (x:=x) hk;have cb1:=cb i;have cb2:=IS (x:=x) (l:=(gt s.ls i).l.dh.take k);rw[length_take]at cb2;have wc:i64.wrap (((za x (s.ls.take i)+KQ x ((gt s.ls i).l.dh.take k):Nat):Int)+1)=((za x (s.ls.take i)+(KQ x ((gt s.ls i).l.dh.take k)+1):Nat):Int):=by rw[aU Z Z];omega
    have y2:=True.intro;have y3:=True.intro;rcases hy with⟨y1,y2,y3,y4⟩|⟨y1,y4⟩|⟨y1,y2,y4⟩|⟨y1,y2,y3,y4⟩
    all_goals
     rw[y4]at tk;refine aW (Z7 @C8.eq_1 z5 r4 wc y1 y2 y3) ?_;simp at tk;exact⟨by rw[tk],(Nr.trans k5).trans (aH aL)⟩
   .have r4:=cY (gt s.ls i).l.dh.length;have Ns:aY ⟨h2,dx,[]⟩ ⟨h4,fi,[]⟩:=U0.trans Nr;have Yf:bQ h4 s:=bQ.bw (KG.bx []) Nr;have z0:∀l,aj (aR h4 l) (nb h 0)=(aO 3 [[Ei s.cA,s.nv,s.lv]]):=λl=>(an l h4 _ (gA (ag Nt) Ns.len)).trans ((Ns.get _ (ag Nt)).trans Nt)
    have lf:=(Yf.la _ (bA hi)).1.len;have e:=Yf.l.el hi;unfold jB at e;refine aW (Z5 r4 r e z0 lf) ?_;exact⟨by rw[G1 hi],Ns⟩
  .have z0:∀l,aj (aR h3 l) (nb h 0)=(aO 3 [[Ei s.cA,s.nv,s.lv]]):=λl=>(an l h3 _ (gA (ag Nt) hK.len)).trans ((hK.get _ (ag Nt)).trans Nt)
   have ll:=(bQ.bw (QX.bx []) hK).l.len;have r:=cY s.ls.length;refine aW (Z3 r z0 ll) ?_;exact kk.trans hK.sub
 .refine aW hi ?_;exact kk
def yP(l:List kF)(x:iF):Bool:=l.any λy=>decide (y.id=x)
def yQ(l:List dT)(x:iF):Bool:=l.any λp=>yP p.send.bN x
theorem Ak4(y:kF)(x:iF)(b:Nat)(bS:Bool)(m:Mem)(hb:aj m.ah b=some (.row bS 3 [gQ x]))(q_:55<=j:=by omega):SM j 210 [.agg (gW y),.ptr b 0 0] m=some (.bool (decide (y.id=x)),m):=by
 obtain⟨h,lg,d⟩:=m;refine aP 1999 q_ λn=>?_
 have kJ:=λl=>(an l h b (ag hb)).trans hb
 unfold gQ at kJ;exact aC (Z3 @gW.eq_1 kJ @vj)
theorem Agu(l:List kF)(v:AV)(x:iF)(b:Nat)(bS:Bool)(m:Mem)(hv:aT m.ah 5 v (l.map gW))(hw:l.length<=1000)(hb:aj m.ah b=some (.row bS 3 [gQ x]))(q_:57<=j:=by omega):SM j 269 [v,.func 210 [] [.ptr b 0 0]] m=some (Ei (iP (λy=>decide (y.id=x)) 0 l),m):=by
 obtain⟨h,lg,d⟩:=m;refine aP 1999 q_ λn=>?_
 have lv:=hv.len;refine aW lv ?_;refine bL l.length [X8] (λi=>[Ei i]) (λi=>iP (λy=>decide (y.id=x)) 0 l=iP (λy=>decide (y.id=x)) i (l.drop i)) Z aX ⟨rfl,rfl⟩ (λi h' bq g hi hP hK=>?_) (λh' bq g hP hK=>?_)
 .have a:=hK.aA lg d;have e:=(hK.sl hv).el hi;have r:=fh hi Z;have g1:=λl' lg d=>Ak4 (57-1) (gt l i) x b bS ⟨aR h' l',lg,d⟩ ((an l' h' b (gA (ag hb) hK.len)).trans ((hK.get b (ag hb)).trans hb))
  unfold gW at e g1;rw[drop_eq_getElem_cons hi,iP,<-bB hi]at hP;refine aW (Z4 a e r g1) ?_;exact⟨λc=>by rw[hP,aG (decide_eq_true c)],λc=>by rw[hP,aq (λq=>c (of_decide_eq_true q))]⟩
 .have a:=hK.aA lg d;have r:=cY l.length;refine aW (Z2 a r) ?_;rw[hP,drop_length];rfl
theorem Ak5(l:List kF)(v:AV)(x:iF)(b:Nat)(bS:Bool)(m:Mem)(hv:aT m.ah 5 v (l.map gW))(hw:l.length<=1000)(hb:aj m.ah b=some (.row bS 3 [gQ x]))(q_:174<=j:=by omega):SM j 209 [v,.func 210 [] [.ptr b 0 0]] m=some (.bool (decide (yP l x=true)),m):=by
 obtain⟨h,lg,d⟩:=m;refine aP 1999 q_ λn=>?_
 have g1:=λl' lg d=>Agu (174-1) l v x b bS ⟨aR h l',lg,d⟩ (hv.bx l') hw ((an l' h b (ag hb)).trans hb)
 refine aW g1 ?_;exact decide_eq_decide.2 (pQ _ _ _)
theorem Ak6(p:PX)(x:iF)(b:Nat)(bS:Bool)(m:Mem)(H:ic m.ah p.p p.s p.t p.k)(hw:p.p.send.bN.length<=1000)(hb:aj m.ah b=some (.row bS 3 [gQ x]))(q_:175<=j:=by omega):SM j 208 [.agg (wh p),.ptr b 0 0] m=some (.bool (decide (yP p.p.send.bN x=true)),m):=by
 obtain⟨h,lg,d⟩:=m;refine aP 1999 q_ λn=>?_
 have d1:=H.s.s.sc;have d2:=H.r.t.sc;have d3:=H.r.k.sc;have g1:=λl' lg d=>Ak5 (175-1) _ _ x b bS ⟨aR h l',lg,d⟩ (H.s.s.bx l') hw ((an l' h b (ag hb)).trans hb)
 exact aC (Z6 @wh.eq_1 @dc.eq_1 d1 d2 d3 g1)
theorem Ak7(l:List PX)(v:AV)(x:iF)(b:Nat)(bS:Bool)(m:Mem)(H:df m.ah v l)(hw:l.length<=1000)(hs:∀p∈l,p.p.send.bN.length<=1000)(hb:aj m.ah b=some (.row bS 3 [gQ x]))(q_:176<=j:=by omega):SM j 268 [v,.func 208 [] [.ptr b 0 0]] m=some (Ei (iP (λp:PX=>yP p.p.send.bN x) 0 l),m):=by
 obtain⟨h,lg,d⟩:=m;refine aP 1999 q_ λn=>?_
 have lv:=H.v.len;refine aW lv ?_;refine bL l.length [X8] (λi=>[Ei i]) (λi=>iP (λp:PX=>yP p.p.send.bN x) 0 l=iP (λp:PX=>yP p.p.send.bN x) i (l.drop i)) Z aX ⟨rfl,rfl⟩ (λi h' bq g hi hP hK=>?_) (λh' bq g hP hK=>?_)
 .have a:=hK.aA lg d;have H':df h' v l:=df.bw (H.bx _) hK;have e:=H'.v.el hi;have r:=fh hi Z;have g1:=λl' lg d=>Ak6 (176-1) (gt l i) x b bS ⟨aR h' l',lg,d⟩ ((H'.p _ (bA hi)).bx l') (hs _ (bA hi)) ((an l' h' b (gA (ag hb) hK.len)).trans ((hK.get b (ag hb)).trans hb))
  unfold wh dc at e g1;rw[drop_eq_getElem_cons hi,iP,<-bB hi]at hP;refine aW (Z4 a e r g1) ?_;exact⟨λc=>by rw[hP,aG c],λc=>by rw[hP,aq (by simpa using c)]⟩
 .have a:=hK.aA lg d;have r:=cY l.length;refine aW (Z2 a r) ?_;rw[hP,drop_length];rfl
theorem Ak8(l:List PX)(v:AV)(x:iF)(b:Nat)(bS:Bool)(m:Mem)(H:df m.ah v l)(hw:l.length<=1000)(hs:∀p∈l,p.p.send.bN.length<=1000)(hb:aj m.ah b=some (.row bS 3 [gQ x]))(q_:177<=j:=by omega):SM j 207 [v,.func 208 [] [.ptr b 0 0]] m=some (.bool (decide (yQ (l.map (·.p)) x=true)),m):=by
 obtain⟨h,lg,d⟩:=m;refine aP 1999 q_ λn=>?_
 have g1:=λl' lg d=>Ak7 (177-1) l v x b bS ⟨aR h l',lg,d⟩ (H.bx l') hw hs ((an l' h b (ag hb)).trans hb)
 refine aW g1 ?_;rw[yQ,List.any_map];exact decide_eq_decide.2 (pQ _ _ _)
theorem Ak9(s:cE)(i:Nat)(x:iF)(m:Mem)(H:bQ m.ah s)(hi:i<s.vs.length)(hs:∀p∈(gt s.vs i).lq,p.p.send.bN.length<=1000)(q_:178<=j:=by omega):SM j 141 [.ptr (sb s.nv) (si s.nv+i) 0,.agg (gQ x)] m=some (.bool (decide (yQ (gt s.vs i).v.bM x=true)),m):=by
 obtain⟨h,lg,d⟩:=m;refine aP 1999 q_ λn=>?_
 have V:=H.va _ (bA hi);have e:=H.v.el hi;unfold dI at e;have g1:=λl' lg d (hb:fj l' 0=(aO 3 [[Ei x.n,Eu x.s,Ei x.o]]))=>Ak8 (178-1) _ _ x (nb h 0) true ⟨aR h l',lg,d⟩ (V.q.bx l') V.w hs (by rw[bj,hb];rfl)
 rw[<-V.e]at g1;exact aC (Z3 @gQ.eq_1 e g1)
theorem Ala(S:jt)(s:AV)(x:iF)(m:Mem)(hv:aT m.ah 5 s (S.bN.map gW))(hw:S.bN.length<=1000)(q_:285<=j:=by omega):SM j 219 [.agg (eG S s),.agg (gQ x)] m=some (Ei (iP (λy=>decide (y.id=x)) 0 S.bN),m):=by
 obtain⟨h,lg,d⟩:=m;refine aP 1999 q_ λn=>?_
 have c1:=hv.sc;refine aW (Z3 @eG.eq_1 @gQ.eq_1 c1) ?_;refine bL S.bN.length [X5] (λi=>[Ei i]) (λi=>iP (λy=>decide (y.id=x)) 0 S.bN=iP (λy=>decide (y.id=x)) i (S.bN.drop i)) Z aX ⟨rfl,rfl⟩ (λi h' bq g hi hP hK=>?_) (λh' bq g hP hK=>?_)
 .have a:=hK.aA lg d;have e:=(hK.sl hv).el hi;have l2:=(hK.sl hv).len;have r:=fh hi Z;have z0:=λl=>hK.at l 0 (by simp only[fY];omega)
  have z1:=λl=>hK.at l 1 (by simp only[fY];omega)
  unfold gW at e;rw[drop_eq_getElem_cons hi,iP,<-bB hi]at hP;have id3:((gt S.bN i).id.n=x.n/\(gt S.bN i).id.s=x.s/\(gt S.bN i).id.o=x.o)=((gt S.bN i).id=x):=by
   generalize (gt S.bN i).id=y;obtain⟨_,_,_⟩:=y;obtain⟨_,_,_⟩:=x;simp
  refine aW (Z5 a e r l2 id3) ?_;exact⟨λc=>by rw[hP,aG (decide_eq_true c)],λc=>by rw[hP,aq (λq=>c (of_decide_eq_true q))]⟩
 .have a:=hK.aA lg d;have r:=cY S.bN.length;have l2:=(hK.sl hv).len;refine aW (Z3 a r l2) ?_;rw[hP,drop_length];rfl
theorem G2{α:Type}(p:α->Bool):∀(l:List α) (i:Nat),0<=iP p i l->∃k,k<l.length/\iP p i l=((i+k:Nat):Int)
 |[],i,h=>by simp[iP]at h
 |x::l,i,h=>by
  rw[iP]at h|-;by_cases c:p x=true
  .exact⟨0,by simp,by rw[aG c];simp⟩
  .rw[aq c]at h|-;obtain⟨k,h1,h2⟩:=G2 p l (i+1) h;exact⟨k+1,by simpa using h1,by rw[h2];congr 1;omega⟩
def fS(l:List kF)(x:iF):kF:=if yP l x=true then gt l (iP (λy=>decide (y.id=x)) 0 l).toNat else⟨0,0,⟨0,0,0⟩⟩
theorem Alb(S:jt)(s:AV)(x:iF)(m:Mem)(H:jS m.ah S s)(hw:S.bN.length<=1000)(he:(ji S).1=0)(hi:xu x=0)(q_:286<=j:=by omega):SM j 152 [.agg (eG S s),.agg (gQ x)] m=some (.tuple [.agg (gW (fS S.bN x)),.bool (decide (yP S.bN x=true)),Ei 0],m):=by
 obtain⟨h,lg,d⟩:=m;refine Pu 1999 Ajd aZ q_ (by simp[AV.cj,hH,gW]) λn=>?_
 have c1:=H.s.sc;have g1:=λl lg d=>Xq (286-1) S s ⟨aR h l,lg,d⟩ (H.bx l)
 have g2:=λm=>Y0 (286-1) x m
 have g3:=λl lg d=>Ala (286-1) S s x ⟨aR h l,lg,d⟩ (H.s.bx l) hw
 unfold eG at g1 g3;unfold gQ at g2 g3;rw[he]at g1;rw[hi]at g2;have ia:=pQ (λy:kF=>decide (y.id=x)) S.bN 0;by_cases ho:yP S.bN x=true
 .obtain⟨k,hk,ek⟩:=G2 _ _ _ (ia.2 ho);rw[Nat.zero_add]at ek;rw[ek]at g3;have e:=H.s.el hk;have kn:((k:Int)<0)=False:=cR;unfold gW at e;have ef:fS S.bN x=gt S.bN k:=by rw[fS,aG ho,ek,Int.toNat_natCast]
  exact aC (xq @eG.eq_1 @gQ.eq_1 c1 g1 g2 g3 e ef @gW.eq_1 ho kn)
 .have hn:iP (λy:kF=>decide (y.id=x)) 0 S.bN<0:=Int.not_le.1 λq=>ho (ia.1 q)
  have ef:fS S.bN x=⟨0,0,⟨0,0,0⟩⟩:=aq ho;exact aC (yA @eG.eq_1 @gQ.eq_1 c1 g1 g2 g3 hn ef @gW.eq_1 ho)
theorem E96(v:VX)(x:iF)(m:Mem)(V:jA m.ah v)(hs:∀p∈v.lq,p.p.send.bN.length<=1000/\(ji p.p.send).1=0)(hi:xu x=0)(q_:287<=j:=by omega):SM j 96 [.agg (dI v),.agg (gQ x)] m=some (.bool (decide (yQ v.v.bM x=true)),m):=by
 obtain⟨h,lg,d⟩:=m;refine aP 1999 q_ λn=>?_
 have c1:=V.s.b.sc;have c2:=V.s.m.sc;have c3:=V.s.p.v.sc;have c4:=V.q.v.sc;refine aW (Z6 @dI.eq_1 @gQ.eq_1 c1 c2 c3 c4) ?_;refine bL v.lq.length [X5] (λi=>[Ei i]) (λi=>(v.lq.take i).any (λp:PX=>yP p.p.send.bN x)=false) (by have:=V.w;omega) aX ⟨rfl,rfl⟩ (λi h' bq g lV hP hK=>?_) (λh' bq g hP hK=>?_)
 .have a:=hK.aA lg d;have H':df h' v.q v.lq:=df.bw (V.q.bx _) hK;have lv:=H'.v.len;have e:=H'.v.el lV;have r:=fh lV (by have:=V.w;omega);have g1:=λl lg d=>Alb (287-1) _ _ x ⟨aR h' l,lg,d⟩ ((H'.p _ (bA lV)).s.bx l) (hs _ (bA lV)).1 (hs _ (bA lV)).2 hi
  unfold eG gQ at g1;unfold wh dc at e;have tk:(v.lq.take (i+1)).any (λp:PX=>yP p.p.send.bN x)=((v.lq.take i).any (λp:PX=>yP p.p.send.bN x)||yP (gt v.lq i).p.send.bN x):=by
   rw[take_add_one,getElem?_eq_getElem lV,toList_some,any_append,any_cons,any_nil,Bool.or_false,bB lV]
  rw[hP,Bool.false_or]at tk;have nq0:=λk=>hK.WS 0 k (by simp only[fY];omega)
  have nq1:=λk=>hK.WS 1 k (by simp only[fY];omega)
  have sn:=λk=>H'.v.sbn (i:=i) (by simpa using lV) k
  have tp:=H'.v.rM;refine aW (yA a e r lv g1 @gW.eq_1 nq0 nq1 sn tp) ?_;refine⟨λc=>?_,λc=>by rw[tk];simpa using c⟩;refine(decide_eq_true ?_).symm;rw[V.e,yQ,List.any_map,List.any_eq_true];exact⟨_,bA lV,c⟩
 .have a:=hK.aA lg d;have H':df h' v.q v.lq:=df.bw (V.q.bx _) hK;have lv:=H'.v.len;have r:=cY v.lq.length;have z0:=λl=>hK.at l 0 (by simp only[fY];omega)
  refine aW (Z3 a r lv) ?_;rw[take_length]at hP;rw[V.e,yQ,List.any_map];show false=decide (v.lq.any (λp:PX=>yP p.p.send.bN x)=true);rw[hP];rfl
theorem IV{l:List Int}{i:Nat}(hi:i<l.length):dS (l.take (i+1))=dS (l.take i)+gt l i:=nB hi|>.trans (by rw[bB hi])
theorem Alc(q s:Int)(v:AV)(R:List Int)(m:Mem)(hv:aT m.ah 1 v (R.map kU))(hl:R.length=16)(h0:∀x∈R,0<=x)(s0:0<=s)(hm:s+dS R<=q)(hq:q<=1099511627776)(q_:283<=j:=by omega):SM j 150 [.agg [Eu q,Eu s,v]] m=some (.tuple [Eu (dS R),Ei 0],m):=by
 obtain⟨h,lg,d⟩:=m;refine aP 1999 q_ λn=>?_
 have c1:=hv.sc;have g1:=λl lg d=>AfL (283-1) q s v R ⟨aR h l,lg,d⟩ (hv.bx l) hl h0 s0 hq
 rw[aq Z]at g1;refine aW (Z2 c1 g1) ?_;refine bL R.length [X6,X5] (λi=>[Ei i,Eu (dS (R.take i))]) (λ_=>True) Z aX ⟨rfl,trivial⟩ (λi h' bq g hi _ hK=>?_) (λh' bq g _ hK=>?_)
 .have a:=hK.aA lg d;have e:=(hK.sl hv).el hi;have l2:=(hK.sl hv).len;have r:=fh hi Z;have t:=IV hi;have p1:=iW (l:=R.take (i+1)) λx hx=>h0 x (mem_of_mem_take hx)
  have p2:=tH h0 (i+1);have w:u64.wrap (dS (R.take i)+gt R i)=dS (R.take (i+1)):=by rw[<-t];exact dB Z Z
  unfold kU at e;exact aC (Z5 a e r l2 w)
 .have a:=hK.aA lg d;have r:=cY R.length;have l2:=(hK.sl hv).len;exact aC (Z3 a r l2)
theorem E94(q s:Int)(v:AV)(R:List Int)(m:Mem)(hv:aT m.ah 1 v (R.map kU))(hl:R.length=16)(h0:∀x∈R,0<=x)(s0:0<=s)(hm:s+dS R<=q)(hq:q<=1099511627776)(q_:284<=j:=by omega):SM j 94 [.agg [Eu q,Eu s,v]] m=some (.tuple [Eu (q-s-dS R),Ei 0],m):=by
 obtain⟨h,lg,d⟩:=m;refine aP 1999 q_ λn=>?_
 have c1:=hv.sc;have g1:=λl lg d=>Alc (284-1) q s v R ⟨aR h l,lg,d⟩ (hv.bx l) hl h0 s0 hm hq
 have p:=iW h0;have w1:u64.wrap (q-s)=q-s:=dB Z Z;have w2:u64.wrap (q-s-dS R)=q-s-dS R:=dB Z Z;exact aC (Z4 c1 g1 w1 w2)
theorem Agv(m:Mem)(q_:260<=j:=by omega):SM j 214 [.agg [Eu 0,Eu 0,.aF]] m=some (.tuple [Eu 0,Ei 3],m):=by
 obtain⟨h,lg,d⟩:=m;refine aP 1999 q_ λn=>?_
 exact aC (@aJ 241 _ rfl aZ)
theorem Ald(q s:Int)(v:AV)(R:List Int)(m:Mem)(hv:aT m.ah 1 v (R.map kU))(hl:R.length=16)(h0:∀x∈R,0<=x)(s0:0<=s)(hm:s+dS R<=q)(hq:q<=1099511627776)(q_:260<=j:=by omega):SM j 214 [.agg [Eu q,Eu s,v]] m=some (.tuple [Eu (q-s-dS R),Ei 0],m):=by
 obtain⟨h,lg,d⟩:=m;refine aP 1999 q_ λn=>?_
 obtain⟨b,i,c,rfl,EG,ld⟩:=hv.gP hl;have e:=PD hl;have hp:=iW h0;generalize hT:dS R=T at hm hp|-;generalize gt R 0=r0,gt R 1=r1,gt R 2=r2,gt R 3=r3,gt R 4=r4,gt R 5=r5,gt R 6=r6,gt R 7=r7,gt R 8=r8,gt R 9=r9,gt R 10=DW,gt R 11=DX,gt R 12=DY,gt R 13=DZ,gt R 14=Fw,gt R 15=D0 at e;subst e;simp only[map_cons,map_nil]at ld;have q1:(1099511627776<q)=False:=by simp;omega
 have WS:∀k,Nat.beq b (nb h k)=false:=λk=>iv EG
 have nbp:∀k,Nat.beq (nb h k) b=false:=λk=>iD EG
 have i16:((16:Nat):Int)=16:=rfl;have GC:=λl lg d (p:fj l 4=(aO 1 [[Eu s],[Eu r0],[Eu r1],[Eu r2],[Eu r3],[Eu r4],[Eu r5],[Eu r6],[Eu r7],[Eu r8],[Eu r9],[Eu DW],[Eu DX],[Eu DY],[Eu DZ],[Eu Fw],[Eu D0]]))=>SU (260-1) (s::[r0,r1,r2,r3,r4,r5,r6,r7,r8,r9,DW,DX,DY,DZ,Fw,D0]) (.slice (nb h 4) 0 17 none) ⟨aR h l,lg,d⟩ (.some (nb h 4) 0 none true _ rfl (by rw[bj,p]) rfl (λ_ h=>by cases h)) (λy hy=>by rcases mem_cons.1 hy with rfl|hy;exact s0;exact h0 y hy) (by rw[dS,hT];omega) (by simp)
 rw[dS,hT]at GC;have Cr:=λl lg d (p:fj l 2=(aO 1 [[Eu q],[Eu s],[.slice b i 16 c],[Eu r0],[Eu r1],[Eu r2],[Eu r3],[Eu r4],[Eu r5],[Eu r6],[Eu r7],[Eu r8],[Eu r9],[Eu DW],[Eu DX],[Eu DY],[Eu DZ],[Eu Fw],[Eu D0]]))=>Xv (260-1) (nb h 2) true q s (.slice b i 16 c) [r0,r1,r2,r3,r4,r5,r6,r7,r8,r9,DW,DX,DY,DZ,Fw,D0] ⟨aR h l,lg,d⟩ (by rw[bj,p];rfl) rfl h0 (by rw[hT];omega)
 rw[hT]at Cr;have fr:u64.wrap (u64.wrap (q-s)-T)=q-s-T:=by simp only[iw];omega
 rw[fr]at Cr;have c1:(q<s+T)=False:=by simp;omega
 simp+contextual-implicitDefEqProofs (maxSteps:=1000000) (maxDischargeDepth:=20) only[go_sem,simprocAttr,ld,q1,i16,GC,Cr,c1,wi Xj aZ]
def qI(v:jh):Int:=if jf v.st v.eB.iK=0 then v.eB.iK-pT v.st else 0
def vw(v:jh):Int:=if qI v<=v.eB.jZ then 0 else qI v-v.eB.jZ
theorem zS{S:je}{q:Int}(h:jf S q=0):d8 S=0/\q<=1099511627776/\pT S<=q:=by
 rw[jf]at h;split at h
 .omega
 .split at h
  .omega
  .split at h
   .omega
   .exact⟨Z,Z,Z⟩
theorem Ale(s:cE)(i:Nat)(bS:Bool)(m:Mem)(hg:aj m.ah 0=some (.row bS 1 fM))(H:bQ m.ah s)(hN:yI s)(hO:Cz s)(hi:i<s.vs.length)(q_:261<=j:=by omega):SM j 144 [.ptr (sb s.nv) (si s.nv+i) 0] m=some (Eu (vw (gt s.vs i).v),m):=by
 obtain⟨h,lg,d⟩:=m;refine aP 3999 q_ λn=>?_
 have V:=H.va _ (bA hi);have e:=H.v.el hi;have w2:=V.w2;have YG:∀y∈(gt s.vs i).lp,kS y.t/\kS y.k/\PN y.p:=λy hy=>⟨(hO.p _ (bA hi) y hy).2.1,(hO.p _ (bA hi) y hy).2.2,hN.p _ (bA hi) y hy⟩
 have YZ:∀l,aj (aR h l) 0=some (.row bS 1 fM):=λl=>(an l h 0 (ag hg)).trans hg
 unfold dI at e;have sn:=λk=>H.v.sbn (i:=i) (by simpa using hi) k
 refine aW e ?_;rw[<-fZ];refine fK (AjZ _ _ (aR h [none]) _ _ bS (gt s.vs i).v.st (gt s.vs i).b (gt s.vs i).m (gt s.vs i).p (gt s.vs i).lp (gt s.vs i).v.eB.iK (YZ _) (V.s.bx _) (hN.q _ (bA hi)) (hN.h _ (bA hi)) YG) (λw h2 dx k2 og=>?_);obtain⟨x,y,z,rfl,sz,he0,JD⟩:=og;have k1:aY ⟨h,[],[]⟩ ⟨h2,dx,[]⟩:=(aH (h:=h) (l:=[none]) (lg:=[]) (bq:=[]) (d:=[]) .nil).trans k2;have il:ins dx (nb h 0)=false:=by
  obtain⟨q,e1,e2⟩:=k2.hU;rw[append_nil]at e1;simp only at e1 e2;rw[<-e1]at e2;cases hx:ins dx (nb h 0)with
  |false=>rfl
  |true=>
   have:=e2 _ ((oG _ _).1 hx);rw[bV]at this;simp only[length_cons,length_nil,nb]at this;omega
 have n0:aj h2 (nb h 0)=none:=k2.at [] 0 (by simp only[fY];omega);have l2:nb h 0<h2.length:=by have:=k2.len;simp only[bV,length_cons,length_nil]at this;simp only[nb];omega
 have bl:Nat.blt (nb h 0) (nb h2 0)=true:=by rw[Nat.blt_eq];simp only[nb]at l2|-;omega
 have o:=bg l2;have H2:bQ h2 s:=bQ.bw (m:=⟨h,[],[]⟩) (m':=⟨h2,dx,[]⟩) H k1;have nn:∀{e':Nat} {v:AV} {es:List (List AV)},aT h2 e' v es->∀c∈v.cj,c≠nb h 0:=λS=>by
  rcases S with⟨_,rfl|rfl|rfl⟩|⟨b,i,k,bS,bI,rfl,hc,hw,hk⟩
  .intro c hc;cases hc
  .intro c hc;cases hc
  .intro c hc;cases hc
  .intro c hx hq;simp only[AV.cj,mem_singleton]at hx;rw[<-hx,hq,n0]at hc;cases hc
 have S2:∀x,aT (aQ h2 (nb h 0) x) 26 s.nv (s.vs.map dI):=λx=>H2.v.bS l2 (nn H2.v) x []
 have e2:=λx=>(S2 x).el hi
 unfold dI at e2;have Ye:∀k,Nat.beq (sb s.nv) (nb h k)=false:=sn;have kj:∀f:Int,0<=f->f<=1099511627776->qI (gt s.vs i).v=f->u64.wrap ((if f<(gt s.vs i).v.eB.jZ then(gt s.vs i).v.eB.jZ else f)-(gt s.vs i).v.eB.jZ)=vw (gt s.vs i).v:=λf f0 f1 q=>by
  rw[vw,q];split<;>split<;>rw[dB Z Z]<;>omega
 have kl:∀(l:List (Option bp)) (x:Option bp) (bq:List Nat),(∃q,bq=q++(dx++lg)/\∀y∈q,h.length<=y)->aY ⟨h,lg,d⟩ ⟨aR (aQ h2 (nb h 0) x) l,bq,d⟩:=λl x bq hq=>
  aY.bS (h:=h) (h':=h2) (lg:=lg) (bq:=dx++lg) (d:=d) (d':=d) ⟨k1.len,k1.get,rfl,by obtain⟨q,e1,e2⟩:=k1.hU;rw[append_nil]at e1;exact⟨dx,rfl,λy hy=>e2 y (e1▸hy)⟩⟩ aB l2 x l hq
 by_cases hz:jf (gt s.vs i).v.st (gt s.vs i).v.eB.iK=0
 .obtain⟨R,rfl,rfl,zl,Yg,r0,rt⟩:=JD hz;have ok:=zS hz;have s0:=(vW (gt s.vs i).v.st.held).1;have g:=λx l lg d=>Ald (261-1) (gt s.vs i).v.eB.iK (du (gt s.vs i).v.st.held) z R ⟨aR (aQ h2 (nb h 0) x) l,lg,d⟩ (zl.bS l2 (nn zl) x l) Yg r0 s0 Z ok.2.1
  have rp:=iW r0;have f1:=kj ((gt s.vs i).v.eB.iK-du (gt s.vs i).v.st.held-dS R) Z Z (by rw[qI,aG hz];omega);refine aW (Z8 sz il o bl Ye g e2 f1) ?_;exact kl _ _ _ ⟨[nb h 0,nb h 0],rfl,λy hy=>by simp at hy;rw[hy];exact aB⟩
 .obtain⟨rfl,rfl,rfl⟩:=he0 hz;have g:=λm=>Agv (261-1) m
  have f1:=kj 0 Z Z (by rw[qI,aq hz]);refine aW (Z8 sz il o bl Ye g e2 f1) ?_;exact kl _ _ _ ⟨[nb h 0,nb h 0],rfl,λy hy=>by simp at hy;rw[hy];exact aB⟩
def Nu(a:Int):Int:=if a<0\/1099511627776<a then 2 else 0
section
variable(j:Nat)(l:List bF)(v:AV)(a z:Int)
theorem U1(ns:List Int)(w:AV)(m:Mem)(hv:aT m.ah 6 v (l.map bY))(hw:l.length<=1000000)(hp:(eA l).1=0)(hz:1<=z/\z<=1200)(hn:aT m.ah 1 w (ns.map iC))(hl:ns.length<=10)(ho:∀x∈ns,1<=x/\x<=16)(q_:196<=j:=by omega):SM j 330 [v,Ei a,Ei z,w] m=some (Ei (Nu a),m):=by
 obtain⟨h,lg,d⟩:=m;refine aP 1999 q_ λn=>?_
 have g1:=λl' lg d=>E39 (196-1) l v ⟨aR h l',lg,d⟩ (hv.bx l') hw
 have g2:=λl' lg d=>AkG (196-1) ns w ⟨aR h l',lg,d⟩ (hn.bx l') hl ho
 have z1:(z<1)=False:=cR;have z2:(1200<z)=False:=cR;refine aW (Z5 g1 g2 hp z1 z2) ?_;(repeat' first|apply And.intro|intro _)<;>(simp only[Nu]<;>(repeat' split)<;>first|rfl|omega)
theorem Alf(i:Nat)(m:Mem)(hv:aT m.ah 6 v (l.map bY))(hw:l.length<=1000000)(hp:(eA l).1=0)(hc:cF (gt l i))(hz:1<=z/\z<=1200)(ha:0<=a)(hi:i<l.length)(q_:207<=j:=by omega):
 SM j 323 [v,Ei i,Ei a,Ei z] m=some (.tuple [Ei (if 1099511627776<a then 0 else(gE (gt l i) z a).getD 0),Ei (if 1099511627776<a then 2 else if(gE (gt l i) z a).isSome=true then 0 else 15)],m):=by
 obtain⟨h,lg,d⟩:=m;refine aP 1999 q_ λn=>?_
 have g1:=λl' lg d=>U1 (207-1) l v a z [] .aF ⟨aR h l',lg,d⟩ (hv.bx l') hw hp hz (.none rfl (.inl rfl)) (by simp) (λx hx=>by cases hx)
 by_cases ht:1099511627776<a
 .rw[Nu,aG (.inr ht)]at g1;exact aC (Z2 g1 ht)
 .rw[Nu,aq Z]at g1;have e:=hv.el hi;have lv:=hv.len;have g2:=λm=>Te (207-1) (gt l i) z a m hc hz ⟨ha,by show a<=2199024304128;omega⟩
  have i0:((i:Int)<0)=False:=cR;have i1:((l.length:Int)<=(i:Int))=False:=cR;unfold bY at e g2;rcases ho:gE (gt l i) z a with _|t
  .rw[ho]at g2;exact aC (Z7 g1 g2 e lv ht i0 i1)
  .rw[IJ,ho]at g2;exact aC (Z7 g1 g2 e lv ht i0 i1)
theorem Alg(m:Mem)(q_:291<=j:=by omega):SM j 312 [Ei a] m=some (.bool (decide (1<=a/\a<=16)),m):=by
 obtain⟨h,lg,d⟩:=m;refine aP 1999 q_ λn=>?_
 exact aK
theorem Agw(m:Mem)(hv:aT m.ah 6 v (l.map bY))(hw:l.length<=1000000)(hp:(eA l).1=0)(hz:1<=z/\z<=1200)(q_:300<=j:=by omega):SM j 343 [v,Ei a,Ei z] m=some (Ei (Nu a),m):=by
 obtain⟨h,lg,d⟩:=m;refine aP 1999 q_ λn=>?_
 have g1:=λl' lg d=>E41 (300-1) l v ⟨aR h l',lg,d⟩ (hv.bx l') hw
 have z1:(z<1)=False:=cR;have z2:(1200<z)=False:=cR;refine aW (Z4 g1 hp z1 z2) ?_;(repeat' first|apply And.intro|intro _)<;>(simp only[Nu]<;>(repeat' split)<;>first|rfl|omega)
theorem Agx(s t:Int)(m:Mem)(hv:aT m.ah 6 v (l.map bY))(hw:l.length<=1000000)(hp:(eA l).1=0)(vp:1<=s/\s<=16)(ht0:1<=t/\t<=16)(hz:1<=z/\z<=1200)(q_:302<=j:=by omega):SM j 327 [v,Ei s,Ei t,Ei a,Ei z] m=some (Ei (Nu a),m):=by
 obtain⟨h,lg,d⟩:=m;refine aP 1999 q_ λn=>?_
 have g1:=λl' lg d=>Agw (302-1) l v a z ⟨aR h l',lg,d⟩ (hv.bx l') hw hp hz
 have g2:=λm=>Af9 (302-1) s m
 have g3:=λm=>Af9 (302-1) t m
 rw[decide_eq_true vp]at g2;rw[decide_eq_true ht0]at g3;by_cases h0:Nu a=0
 .rw[h0]at g1;exact aC (Z4 g1 g2 g3 h0)
 .exact aC (Z2 g1 h0)
theorem Alh(ns:List Int)(w:AV)(m:Mem)(hv:aT m.ah 6 v (l.map bY))(hw:l.length<=1000000)(hp:(eA l).1=0)(hz:1<=z/\z<=1200)(ha:0<=a/\a<=1099511627776)(hn:aT m.ah 1 w (ns.map iC))(hl:ns.length<=10)(ho:∀x∈ns,1<=x/\x<=16)(q_:189<=j:=by omega):SM j 307 [v,Ei a,Ei z,w] m=some (Ei 0,m):=by
 obtain⟨h,lg,d⟩:=m;refine aP 1999 q_ λn=>?_
 have g1:=λl' lg d=>E39 (189-1) l v ⟨aR h l',lg,d⟩ (hv.bx l') hw
 have z1:(z<1)=False:=cR;have z2:(1200<z)=False:=cR;have z3:(a<0)=False:=cR;have z4:(1099511627776<a)=False:=cR;have lw:=hn.len;refine aW (Z7 g1 hp z1 z2 z3 z4 lw) ?_;refine bL ns.length [X37] (λi=>[Ei i]) (λ_=>True) Z aX ⟨rfl,trivial⟩ (λi h' bq g hi _ hK=>?_) (λh' bq g _ hK=>?_)
 .have A:=hK.aA lg d;have e:=(hK.sl hn).el hi;have r:=fh hi Z;have b:=ho _ (bA hi);have b1:(gt ns i<1)=False:=cR;have b2:(16<gt ns i)=False:=cR;unfold iC at e;exact aC (Z5 A e r b1 b2)
 .have A:=hK.aA lg d;have r:=cY ns.length;exact aC (Z2 A r)
theorem Ali(ns:List Int)(w:AV)(m:Mem)(hv:aT m.ah 6 v (l.map bY))(hw:l.length<=1000000)(hp:(eA l).1=0)(hz:1<=z/\z<=1200)(ha:0<=a/\a<=1099511627776)(hn:aT m.ah 1 w (ns.map iC))(hl:ns.length<=10)(ho:∀x∈ns,1<=x/\x<=16)(q_:292<=j:=by omega):SM j 283 [v,Ei a,Ei z,w] m=some (Ei 0,m):=by
 obtain⟨h,lg,d⟩:=m;refine aP 1999 q_ λn=>?_
 have g1:=λl' lg d=>E41 (292-1) l v ⟨aR h l',lg,d⟩ (hv.bx l') hw
 have z1:(z<1)=False:=cR;have z2:(1200<z)=False:=cR;have z3:(a<0)=False:=cR;have z4:(1099511627776<a)=False:=cR;have lw:=hn.len;refine aW (Z6 g1 hp z1 z2 z3 z4) ?_;refine bL ns.length [wJ] (λi=>[Ei i]) (λ_=>True) Z aX ⟨rfl,trivial⟩ (λi h' bq g hi _ hK=>?_) (λh' bq g _ hK=>?_)
 .have A:=hK.aA lg d;have e:=(hK.sl hn).el hi;have r:=fh hi Z;have g2:=λm=>Alg (292-1) (gt ns i) m
  have b:=decide_eq_true (ho _ (bA hi));rw[b]at g2;unfold iC at e;exact aC (Z5 A e r g2 lw)
 .have A:=hK.aA lg d;have r:=cY ns.length;exact aC (Z3 A r lw)
end
def fy(n:Nat):List AV:=[Ei (n:Int)]
theorem Agy(a b:Nat):gI (a:Int) (b:Int)=if a<b then-1 else if b<a then 1 else 0:=by
 unfold gI;split<;>split<;>first|rfl|omega|(split<;>first|rfl|omega)
theorem Ea{a b:List Nat}{i:Nat}(hi:i<a.length):gr (a.drop i) (b.drop i)=if b.length<=i then 1 else if gI ((gt a i:Nat):Int) ((gt b i:Nat):Int)≠0 then gI ((gt a i:Nat):Int) ((gt b i:Nat):Int)else gr (a.drop (i+1)) (b.drop (i+1)):=by
 rw[drop_eq_getElem_cons hi];by_cases c:b.length<=i
 .rw[aG c,drop_eq_nil_of_le c,gr]
 .rw[aq c,drop_eq_getElem_cons (show i<b.length by omega),gr,bB hi,bB (show i<b.length by omega),Agy];split
  .rw[aG aZ]
  .split
   .rw[aG aZ]
   .rw[aq aZ]
theorem G3{a b:List Nat}:gr (a.drop a.length) (b.drop a.length)=if a.length<b.length then-1 else 0:=by
 rw[drop_length];by_cases c:a.length<b.length
 .rw[drop_eq_getElem_cons c,gr,aG c]
 .rw[drop_eq_nil_of_le Z,gr,aq c]
theorem Agz(a b:List Nat)(v w:AV)(m:Mem)(hv:aT m.ah 1 v (a.map fy))(hw:aT m.ah 1 w (b.map fy))(la:a.length<=1000)(lb:b.length<=1000)(q_:15<=j:=by omega):SM j 49 [v,w] m=some (Ei (gr a b),m):=by
 obtain⟨h,lg,d⟩:=m;refine aP 1999 q_ λn=>?_
 have lv:=hv.len;have lw:=hw.len;refine aW lv ?_;refine bL a.length [wJ] (λi=>[Ei i]) (λi=>gr a b=gr (a.drop i) (b.drop i)) Z aX ⟨rfl,rfl⟩ (λi h' bq g' hi hP hK=>?_) (λh' bq g' hP hK=>?_)
 .have A:=hK.aA lg d;have e1:=(hK.sl hv).el hi;have r:=fh hi Z;rw[Ea hi]at hP;unfold fy at e1;by_cases c:b.length<=i
  .have t1:((b.length:Int)<=(i:Int))=True:=dy;rw[aG c]at hP;refine aW (Z5 A e1 r t1 lw) ?_;exact hP.symm
  .have t1:((b.length:Int)<=(i:Int))=False:=cR;have e2:=(hK.sl hw).el (show i<b.length by omega);have g:=λm=>Px (15-1) ((gt a i:Nat):Int) ((gt b i:Nat):Int) m
   unfold fy at e2;rw[aq c]at hP;refine aW (Z7 A e1 e2 r t1 lw g) ?_;exact⟨λc2=>by rw[hP,aG c2],λc2=>by rw[hP,aq Z]⟩
 .have A:=hK.aA lg d;have r:=cY a.length;rw[G3]at hP;by_cases c:a.length<b.length
  .have t1:((a.length:Int)<(b.length:Int))=True:=dy;rw[aG c]at hP;refine aW (Z5 A r t1 lv lw) ?_;exact hP.symm
  .have t1:((a.length:Int)<(b.length:Int))=False:=cR;rw[aq c]at hP;refine aW (Z5 A r t1 lv lw) ?_;exact hP.symm
structure kT where
 v:AV
 r:qX
 deriving Inhabited
def dW(x:kT):List AV:=[x.v,Ei x.r.2]
structure ig(h:aN)(x:kT):Prop where
 s:aT h 1 x.v (x.r.1.map fy)
 l:x.r.1.length<=1000
theorem ig.bx{h:aN}{x:kT}(H:ig h x)(l:List (Option bp)):ig (aR h l) x:=⟨H.s.bx l,H.l⟩
theorem ig.bw{m m':Mem}{x:kT}(H:ig m.ah x)(k:aY m m'):ig m'.ah x:=⟨H.s.bw k,H.l⟩
theorem Qm(a b:qX):Ra [gI a.2 b.2,gI a.1.length b.1.length,gr a.1 b.1]=eF a b:=by
 simp only[Ra,eF,gI];repeat' split
 all_goals first|omega|rfl
theorem C9(a b:kT)(m:Mem)(A:ig m.ah a)(B:ig m.ah b)(q_:190<=j:=by omega):SM j 310 [.agg (dW a),.agg (dW b)] m=some (Ei (eF a.r b.r),m):=by
 obtain⟨h,lg,d⟩:=m;refine aP 1999 q_ λn=>?_
 have c1:=A.s.sc;have c2:=B.s.sc;have l1:=A.s.len;have l2:=B.s.len;have g1:=λx y m=>Px (190-1) x y m
 have g2:=λl lg d=>Agz (190-1) a.r.1 b.r.1 a.v b.v ⟨aR h l,lg,d⟩ (A.s.bx l) (B.s.bx l) A.l B.l
 have g:=λl lg d (q:fj l 2=(aO 1 [[Ei (gI a.r.2 b.r.2)],[Ei (gI a.r.1.length b.r.1.length)],[Ei (gr a.r.1 b.r.1)]]))=>Xm (190-1) [gI a.r.2 b.r.2,gI a.r.1.length b.r.1.length,gr a.r.1 b.r.1] (.slice (nb h 2) 0 3 (some 3)) ⟨aR h l,lg,d⟩ (.some (nb h 2) 0 (some 3) true _ rfl (by rw[bj,q]) rfl (λ_ h=>by cases h;simp)) (by simp)
 exact aC (Z9 @dW.eq_1 c1 c2 l1 l2 g1 g2 g @Qm)
theorem Tl(a b:kT)(m:Mem)(A:ig m.ah a)(B:ig m.ah b)(q_:307<=j:=by omega):SM j 316 [.agg (dW a),.agg (dW b)] m=some (Ei (eF a.r b.r),m):=by
 obtain⟨h,lg,d⟩:=m;refine aP 1999 q_ λn=>?_
 have c1:=A.s.sc;have c2:=B.s.sc;have l1:=A.s.len;have l2:=B.s.len;have lb:=B.l;by_cases e1:a.r.2=b.r.2;rotate_left
 .by_cases e2:a.r.2<b.r.2
  .refine aW (Z5 @dW.eq_1 c1 c2 e1 e2) ?_;rw[eF,aG e2]
  .refine aW (Z5 @dW.eq_1 c1 c2 e1 e2) ?_;rw[eF,aq e2,aG Z]
 have q0:eF a.r b.r=if a.r.1.length<b.r.1.length then-1 else if b.r.1.length<a.r.1.length then 1 else gr a.r.1 b.r.1:=by rw[eF,aq Z,aq Z]
 by_cases e3:a.r.1.length<b.r.1.length
 .have t:((a.r.1.length:Int)<(b.r.1.length:Int))=True:=dy;rw[aG e3]at q0;refine aW (Z7 @dW.eq_1 c1 c2 e1 l1 l2 t) ?_;exact q0.symm
 have t3:((a.r.1.length:Int)<(b.r.1.length:Int))=False:=cR;rw[aq e3]at q0;by_cases e4:b.r.1.length<a.r.1.length
 .have t:((b.r.1.length:Int)<(a.r.1.length:Int))=True:=dy;rw[aG e4]at q0;refine aW (Z8 @dW.eq_1 c1 c2 e1 l1 l2 t3 t) ?_;exact q0.symm
 have t4:((b.r.1.length:Int)<(a.r.1.length:Int))=False:=cR;rw[aq e4]at q0;refine aW (Z8 @dW.eq_1 c1 c2 e1 l1 l2 t3 t4) ?_;refine bL a.r.1.length [X5] (λi=>[Ei i]) (λi=>eF a.r b.r=gr (a.r.1.drop i) (b.r.1.drop i)) Z aX ⟨rfl,q0⟩ (λi h' bq g' hi hP hK=>?_) (λh' bq g' hP hK=>?_)
 .have A':=hK.aA lg d;have e1:=(hK.sl A.s).el hi;have e2:=(hK.sl B.s).el (show i<b.r.1.length by omega);have l1:=(hK.sl A.s).len;have r:=fh hi Z;have z0:=λl=>hK.at l 0 (by simp only[fY];omega)
  have z1:=λl=>hK.at l 1 (by simp only[fY];omega)
  rw[Ea hi,aq Z]at hP;have cm:=Agy (gt a.r.1 i) (gt b.r.1 i);unfold fy at e1 e2;by_cases x1:gt a.r.1 i<gt b.r.1 i
  .have t:(((gt a.r.1 i:Nat):Int)<((gt b.r.1 i:Nat):Int))=True:=dy;rw[aG x1]at cm;rw[cm,aG aZ]at hP;refine aW (Z6 A' e1 e2 r l1 t) ?_;exact hP.symm
  .have t:(((gt a.r.1 i:Nat):Int)<((gt b.r.1 i:Nat):Int))=False:=cR;rw[aq x1]at cm;by_cases x2:gt b.r.1 i<gt a.r.1 i
   .have t2:(((gt b.r.1 i:Nat):Int)<((gt a.r.1 i:Nat):Int))=True:=dy;rw[aG x2]at cm;rw[cm,aG aZ]at hP;refine aW (Z7 A' e1 e2 r l1 t t2) ?_;exact hP.symm
   .have t2:(((gt b.r.1 i:Nat):Int)<((gt a.r.1 i:Nat):Int))=False:=cR;rw[aq x2]at cm;rw[cm,aq aZ]at hP;refine aW (Z7 A' e1 e2 r l1 t t2) ?_;exact hP
 .have A':=hK.aA lg d;have r:=cY a.r.1.length;have l1:=(hK.sl A.s).len;have z0:=λl=>hK.at l 0 (by simp only[fY];omega)
  rw[G3,aq e3]at hP;refine aW (Z3 A' r l1) ?_;exact hP.symm
theorem Alj(c:bF)(z b:Int)(m:Mem)(hc:cF c)(hz:1<=z/\z<=1200)(hb:-1<=b/\b<=2199024304128)(q_:218<=j:=by omega):SM j 333 [.agg (bY c),Ei z,Ei b] m=some (Ei (Cb c z b),m):=by
 obtain⟨h,lg,d⟩:=m;refine aP 1999 q_ λn=>?_
 obtain⟨_,_,_,h1,h2,h3,h4,h5,h6,h7⟩:=hc;have r0:(c.r=0)=False:=cR;have n0:0<=jK c z/\jK c z<=2000:=by
  unfold jK;have:=Int.ediv_le_self (b:=c.r) (show 0<=z+c.r-1 by omega);refine⟨Int.ediv_nonneg Z Z,?_⟩;have:(z+c.r-1)/c.r<=(z-1)/c.r+1:=by
   rw[show z+c.r-1=z-1+c.r*1 by omega,Int.add_mul_ediv_left _ _ Z];omega
  have:=Int.ediv_le_self (b:=c.r) (show 0<=z-1 by omega);omega
 have w1:i64.wrap (z+c.r)=z+c.r:=aU Z Z;have w2:i64.wrap (z+c.r-1)=z+c.r-1:=aU Z Z;have w3:i64.wrap (Int.tdiv (z+c.r-1) c.r)=jK c z:=by rw[Int.tdiv_eq_ediv_of_nonneg Z];exact aU (by unfold jK at n0;omega) (by unfold jK at n0;omega)
 have w4:i64.wrap (b-c.d)=b-c.d:=aU Z Z;have mn:(if c.e<b-c.d then c.e else b-c.d)=min (b-c.d) c.e:=by rw[Int.min_def];split<;>split<;>omega
 have w5:i64.wrap (min (b-c.d) c.e-jK c z)=min (b-c.d) c.e-jK c z:=aU Z Z;refine aW (Z8 @bY.eq_1 r0 w1 w2 w3 w4 mn w5) ?_;(repeat' first|apply And.intro|intro _)<;>(simp only[Cb]<;>(repeat' split)<;>first|rfl|omega)
def AwQ(l:List bF)(x:Int)(w:AV)(h:aN):Prop:=∃a b,w=.tuple [a,b]/\aT h 6 a ((gH l x).map bY)/\aT h 1 b ((de l x l.length).map fy)
def AwI(h:aN)(lg:List Nat)(l:List bF)(x:Int)(i:Nat)(a:AV×AV)(m:Mem):Prop:=aY ⟨h,lg,[]⟩ m/\cG h.length m.ah 6 a.1 (((de l x i).map (gt l)).map bY)/\cG h.length m.ah 1 a.2 ((de l x i).map fy)/\(a.1=.aF)=(a.2=.aF)
theorem Alk(lg d:List Nat){l:List bF}{v:AV}{x:Int}(hv:aT h 6 v (l.map bY))(hw:l.length<=1000):Wa FT MT (SM j) (n+2000) (.fn 322) [v,Ei x] ⟨aR h [],lg,d⟩ (Qk ⟨h,lg,d⟩ (AwQ l x)):=by
 refine aI ?_;have lv:=hv.len;refine aW lv ?_;refine dz (α:=AV×AV) l.length [Il,X6,X7] (λi a=>[Ei i,a.1,a.2]) (AwI h lg l x) Z aX ⟨(.aF,.aF),rfl,aH aL,.nil rfl rfl,.nil rfl rfl,rfl⟩ (λi a m' g hi hP=>?_) (λa m' g hP=>?_)
 .obtain⟨h',bq,d'⟩:=m';obtain⟨a,b⟩:=a;obtain⟨k,oa,ob,nn⟩:=hP;obtain rfl:d'=[]:=k.aV;simp only at oa ob nn;have Et:aT h' 6 v (l.map bY):=aT.bw (m:=⟨h,lg,[]⟩) (m':=⟨h',bq,[]⟩) hv k;have e:=Et.el hi;have lv:=Et.len;have r:=fh hi Z;have aw:de l x (i+1)=if Cg x (gt l i)=true then de l x i++[i]else de l x i:=rfl
  have al:=o0 l x i;have ca:=oa.sl.sc;have cb:=ob.sl.sc;unfold bY at e;refine bH ?_;by_cases c:(gt l i).f=x\/(gt l i).t=x
  .have Yh:¬Cg x (gt l i)=true:=by simp only[Cg,ne_eq,Bool.and_eq_true,decide_eq_true_eq];omega
   rw[aq Yh]at aw;rcases c with c|c
   .refine aW (Z3 e r c) ?_;exact⟨(a,b),⟨rfl,rfl⟩,k.trans (aH aL),by rw[aw];exact oa.bx _,by rw[aw];exact ob.bx _,nn⟩
   .by_cases c':(gt l i).f=x
    .refine aW (Z3 e r c') ?_;exact⟨(a,b),⟨rfl,rfl⟩,k.trans (aH aL),by rw[aw];exact oa.bx _,by rw[aw];exact ob.bx _,nn⟩
    .refine aW (Z4 e r c c') ?_;exact⟨(a,b),⟨rfl,rfl⟩,k.trans (aH aL),by rw[aw];exact oa.bx _,by rw[aw];exact ob.bx _,nn⟩
  .have Yh:Cg x (gt l i)=true:=by simp only[Cg,ne_eq,Bool.and_eq_true,decide_eq_true_eq];omega
   rw[aG Yh]at aw;have c1:¬(gt l i).f=x:=λq=>c (.inl q)
   have c2:¬(gt l i).t=x:=λq=>c (.inr q)
   rcases oa with⟨ha,rfl⟩|⟨a0,rfl,ka,Fc⟩
   .rcases ob with⟨hb,rfl⟩|⟨b0,rfl,kb,sK⟩
    .have n0:de l x i=[]:=by simpa using hb
     rw[n0,nil_append]at aw;refine aW (Z4 e r c1 c2) ?_;refine⟨(_,_),⟨rfl,rfl⟩,k.trans (aH aL),?_,?_,by simp⟩
     .rw[aw];exact .some _ rfl (bK k.len aB) bj
     .rw[aw];exact .some _ rfl (bK k.len aB) bj
    .simp at nn
   .rcases ob with⟨hb,rfl⟩|⟨b0,rfl,kb,sK⟩
    .simp at nn
    .simp only[length_map]at*;have nab:b0≠a0:=λq=>by rw[q,Fc]at sK;cases sK
     have o:=jY (ag Fc) (ag sK) nab;have o1:=bg (ag Fc);have ga:∀l,aj (aR h' l) a0=_:=λl=>(an l h' _ (ag Fc)).trans Fc
     have fA:(1000000000000<((de l x i).length+1)*8)=False:=by simp;omega
     have fB':(1000000000000<((de l x i).length+1)*48)=False:=by simp;omega
     have fC:List.take (de l x i).length ((de l x i).map fy)=(de l x i).map fy:=take_of_length_le (by simp);have fD:List.take (de l x i).length (((de l x i).map (gt l)).map bY)=((de l x i).map (gt l)).map bY:=take_of_length_le (by simp);refine aW (gX e r c1 c2 o o1 ga sK fA fB' @fB (Z2 fC fD)) ?_;refine⟨(_,_),⟨rfl,rfl⟩,k.uW ka (ag Fc) kb (ag sK) _ _ _ (dD.ok (by repeat first|exact dD.nil|refine dD.cons (by first|exact aB|exact bK (k.len) aB|assumption) ?_)),?_,?_,by simp⟩
     .rw[aw,map_append,map_append];exact .some (nb h' 2) (by simp) (bK k.len aB) (o.2.1 _ _ _ _)
     .rw[aw,map_append];exact .some (nb h' 4) (by simp) (bK k.len aB) (o.2.1 _ _ _ _)
 .obtain⟨h',bq,d'⟩:=m';obtain⟨a,b⟩:=a;obtain⟨k,oa,ob,nn⟩:=hP;obtain rfl:d'=[]:=k.aV;simp only at oa ob nn;have r:=cY l.length;refine bH ?_;refine aW r ?_;exact⟨k.sub,a,b,rfl,oa.sl,ob.sl⟩
theorem All(lg d:List Nat){l:List bF}{v:AV}{x:Int}(hv:aT h 6 v (l.map bY))(hw:l.length<=1000):Wa FT MT (SM j) (n+2000) (.fn 313) [v,Ei x] ⟨aR h [],lg,d⟩ (Qk ⟨h,lg,d⟩ (AwQ l x)):=by
 refine aI ?_;have lv:=hv.len;refine aS ?_;refine dz (α:=AV×AV) l.length [X8,X6,X7] (λi a=>[Ei i,a.1,a.2]) (AwI h lg l x) Z aX ⟨(.aF,.aF),rfl,aH aL,.nil rfl rfl,.nil rfl rfl,rfl⟩ (λi a m' g hi hP=>?_) (λa m' g hP=>?_)
 .obtain⟨h',bq,d'⟩:=m';obtain⟨a,b⟩:=a;obtain⟨k,oa,ob,nn⟩:=hP;obtain rfl:d'=[]:=k.aV;simp only at oa ob nn;have Et:aT h' 6 v (l.map bY):=aT.bw (m:=⟨h,lg,[]⟩) (m':=⟨h',bq,[]⟩) hv k;have e:=Et.el hi;have lv:=Et.len;have r:=fh hi Z;have aw:de l x (i+1)=if Cg x (gt l i)=true then de l x i++[i]else de l x i:=rfl
  have al:=o0 l x i;have ca:=oa.sl.sc;have cb:=ob.sl.sc;unfold bY at e;refine bH ?_;by_cases c:(gt l i).f=x\/(gt l i).t=x
  .have Yh:¬Cg x (gt l i)=true:=by simp only[Cg,ne_eq,Bool.and_eq_true,decide_eq_true_eq];omega
   rw[aq Yh]at aw;rcases c with c|c
   .refine aW (Z4 e r c lv) ?_;exact⟨(a,b),⟨rfl,rfl⟩,k.trans (aH aL),by rw[aw];exact oa.bx _,by rw[aw];exact ob.bx _,nn⟩
   .by_cases c':(gt l i).f=x
    .refine aW (Z4 e r c' lv) ?_;exact⟨(a,b),⟨rfl,rfl⟩,k.trans (aH aL),by rw[aw];exact oa.bx _,by rw[aw];exact ob.bx _,nn⟩
    .refine aW (Z5 e r c c' lv) ?_;exact⟨(a,b),⟨rfl,rfl⟩,k.trans (aH aL),by rw[aw];exact oa.bx _,by rw[aw];exact ob.bx _,nn⟩
  .have Yh:Cg x (gt l i)=true:=by simp only[Cg,ne_eq,Bool.and_eq_true,decide_eq_true_eq];omega
   rw[aG Yh]at aw;have c1:¬(gt l i).f=x:=λq=>c (.inl q)
   have c2:¬(gt l i).t=x:=λq=>c (.inr q)
   rcases oa with⟨ha,rfl⟩|⟨a0,rfl,ka,Fc⟩
   .rcases ob with⟨hb,rfl⟩|⟨b0,rfl,kb,sK⟩
    .have n0:de l x i=[]:=by simpa using hb
     rw[n0,nil_append]at aw;refine aW (Z5 e r c1 c2 lv) ?_;refine⟨(_,_),⟨rfl,rfl⟩,k.trans (aH aL),?_,?_,by simp⟩
     .rw[aw];exact .some _ rfl (bK k.len aB) bj
     .rw[aw];exact .some _ rfl (bK k.len aB) bj
    .simp at nn
   .rcases ob with⟨hb,rfl⟩|⟨b0,rfl,kb,sK⟩
    .simp at nn
    .simp only[length_map]at*;have nab:b0≠a0:=λq=>by rw[q,Fc]at sK;cases sK
     have o:=jY (ag Fc) (ag sK) nab;have o1:=bg (ag Fc);have ga:∀l,aj (aR h' l) a0=_:=λl=>(an l h' _ (ag Fc)).trans Fc
     have fA:(1000000000000<((de l x i).length+1)*8)=False:=by simp;omega
     have fB':(1000000000000<((de l x i).length+1)*48)=False:=by simp;omega
     have fC:List.take (de l x i).length ((de l x i).map fy)=(de l x i).map fy:=take_of_length_le (by simp);have fD:List.take (de l x i).length (((de l x i).map (gt l)).map bY)=((de l x i).map (gt l)).map bY:=take_of_length_le (by simp);refine aW (gX e r c1 c2 lv o o1 ga sK fA fB' (Z3 @fB fC fD)) ?_;refine⟨(_,_),⟨rfl,rfl⟩,k.uW ka (ag Fc) kb (ag sK) _ _ _ (dD.ok (by repeat first|exact dD.nil|refine dD.cons (by first|exact aB|exact bK (k.len) aB|assumption) ?_)),?_,?_,by simp⟩
     .rw[aw,map_append,map_append];exact .some (nb h' 1) (by simp) (bK k.len aB) (o.2.1 _ _ _ _)
     .rw[aw,map_append];exact .some (nb h' 3) (by simp) (bK k.len aB) (o.2.1 _ _ _ _)
 .obtain⟨h',bq,d'⟩:=m';obtain⟨a,b⟩:=a;obtain⟨k,oa,ob,nn⟩:=hP;obtain rfl:d'=[]:=k.aV;simp only at oa ob nn;have r:=cY l.length;have lv:=(aT.bw (m:=⟨h,lg,[]⟩) (m':=⟨h',bq,[]⟩) hv k).len;refine bH ?_;refine aW (Z2 r lv) ?_;exact⟨k.sub,a,b,rfl,oa.sl,ob.sl⟩
def CG(l:List bF)(z a:Int)(s to:Nat):Int:=if yv l z a s to<0 then-1 else(((Iq l z a s to).getD 0:Nat):Int)
def IW(l:List bF)(z a:Int)(s to:Nat):Int:=if yv l z a s to<0 then-1 else yv l z a s to
theorem Alm(l:List bF)(v:AV)(s to:Nat)(a z:Int)(m:Mem)(hv:aT m.ah 6 v (l.map bY))(hw:l.length<=1000)(hc:∀c∈l,cF c)(vp:1<=s/\s<=16)(ht:to<=16)(ha:0<=a/\a<=kv)(hz:1<=z/\z<=1200)(q_:304<=j:=by omega):SM j 345 [v,Ei s,Ei to,Ei a,Ei z] m=some (.tuple [Ei (CG l z a s to),Ei (IW l z a s to)],m):=by
 obtain⟨h,lg,d⟩:=m;refine aP 5999 q_ λn=>?_
 refine aS ?_;rw[<-fZ];refine fK (P0 _ _ (aR h []) _ _ (K:=16) hv hw hc vp ha hz Z) (λw h2 dx k2 og=>?_);have kk:aY ⟨h,lg,[]⟩ ⟨h2,dx,[]⟩:=k2;have e:=aT.el (i:=to) og (by rw[fo];omega);obtain⟨b,hb⟩:∃b,b=gt (dA l z a s 16) to:=⟨_,rfl⟩;have ar:yv l z a s to=b:=hb.symm;rw[<-hb]at e;unfold iC at e;by_cases b0:b<0
 .have c:(0<=b)=False:=cR;have fv:CG l z a s to=-1:=by rw[CG,ar,aG b0]
  have av:IW l z a s to=-1:=by rw[IW,ar,aG b0]
  refine aW e ?_;rw[<-nN h2];refine bL 0 [JX] (λi=>[Ei i]) (λ_=>True) Z aX ⟨rfl,trivial⟩ (λi h' bq g hi _ hK=>Z) (λh' bq g _ hK=>?_);refine aW (Z3 c fv av) ?_;exact((kk.trans hK).sub)
 .have c:(0<=b)=True:=dy;have av:IW l z a s to=b:=by rw[IW,ar,aq b0]
  refine aW e ?_;rw[<-nN h2];refine bL 16 [JX] (λi=>[Ei i]) (λi=>∀k,k<i->gt (dA l z a s k) to≠b) Z aX ⟨rfl,λk hk=>Z⟩ (λi h' bq g hi hP hK=>?_) (λh' bq g hP hK=>?_)
  .have r:=fh hi Z;have i16:((i:Int)<=16)=True:=dy;have k3:aY ⟨h,lg,[]⟩ ⟨h',bq,[]⟩:=kk.trans hK;refine aW (Z2 c i16) ?_;rw[<-fZ];refine fK (P0 _ _ (aR h' []) _ _ (K:=i) (aT.bw (m:=⟨h,lg,[]⟩) (m':=⟨h',bq,[]⟩) hv k3) hw hc vp ha hz Z) (λw h4 fi k4 Da=>?_);have e4:=aT.el (i:=to) Da (by rw[fo];omega);have wc4:=Da.sc;unfold iC at e4;by_cases q:gt (dA l z a s i) to=b
   .have fv:CG l z a s to=i:=by rw[CG,ar,aq b0,Ce (K:=i) Z (by rw[q,ar]) (λk hk=>by rw[ar];exact hP k hk)];rfl
    rw[q]at e4;refine aW (Z3 e4 fv av) ?_;exact(k3.trans k4).sub
   .refine aW (Z3 e4 q r) ?_;exact⟨hK.trans k4,λk hk=>by rcases Nat.lt_or_ge k i with p|p;exact hP k p;rw[show k=i by omega];exact q⟩
  .have k3:aY ⟨h,lg,[]⟩ ⟨h',bq,[]⟩:=kk.trans hK;refine aW c ?_;rw[<-fZ];refine fK (P0 _ _ (aR h' []) _ _ (K:=16) (aT.bw (m:=⟨h,lg,[]⟩) (m':=⟨h',bq,[]⟩) hv k3) hw hc vp ha hz Z) (λw h4 fi k4 Da=>?_);have e4:=aT.el (i:=to) Da (by rw[fo];omega);have wc4:=Da.sc;rw[<-hb]at e4;unfold iC at e4;have fv:CG l z a s to=16:=by rw[CG,ar,aq b0,Ce (K:=16) Z (by rw[<-hb,ar]) (λk hk=>by rw[ar];exact hP k hk)];rfl
   refine aW (Z3 e4 fv av) ?_;exact(k3.trans k4).sub
def Zi(o:Option qX)(w:AV)(h:aN):Prop:=∃x:kT,w=.tuple [.agg (dW x),.bool o.isSome]/\x.v.cU=true/\∀r,o=some r->x.r=r/\ig h x
theorem Zi.no{h:aN}:Zi none (.tuple [.agg [.aF,Ei 0],.bool false]) h:=⟨⟨.aF,([],0)⟩,rfl,rfl,λr q=>by cases q⟩
def MdI(h:aN)(lg:List Nat)(l:List bF)(z b:Int)(to K:Nat)(R:qX)(i:Nat)(x:AV×Nat×Int×List Nat)(m:Mem):Prop:=
 aY ⟨h,lg,[]⟩ m/\aj m.ah (nb h 0)=(aO 2 [[.aF,Ei 0]])/\aj m.ah (nb h 1)=(aO 2 [[x.1,Ei b]])/\cG h.length m.ah 1 x.1 (x.2.2.2.map fy)/\(1<=x.2.1/\x.2.1<=16)/\(0<=x.2.2.1/\x.2.2.1<=kv)/\
  x.2.2.2++(jx l z (Ka l z to b) (K-i) x.2.1 x.2.2.1).1=R.1/\x.2.2.2.length=i/\(jx l z (Ka l z to b) (K-i) x.2.1 x.2.2.1).1.length=K-i
theorem Aln(lg d:List Nat){l:List bF}{v:AV}{s to:Nat}{a z:Int}(hv:aT h 6 v (l.map bY))(hw:l.length<=1000)(hc:∀c∈l,cF c)(vp:1<=s/\s<=16)(ht:to<=16)(ha:0<=a/\a<=kv)(hz:1<=z/\z<=1200)(q_:304<=j:=by omega):
 Wa FT MT (SM j) (n+5000) (.fn 328) [v,Ei s,Ei to,Ei a,Ei z] ⟨aR h [],lg,d⟩ (Qk ⟨h,lg,d⟩ (Zi (nW l z a s to))):=by
 refine aI ?_;have g:=λq lg d=>Alm j l v s to a z ⟨aR h q,lg,d⟩ (hv.bx q) hw hc vp ht ha hz
 obtain⟨b,hb⟩:∃b,b=yv l z a s to:=⟨_,rfl⟩;by_cases b0:b<0
 .have fv:CG l z a s to=-1:=by rw[CG,<-hb,aG b0]
  have bn:nW l z a s to=none:=by rw[nW,<-hb,aG b0]
  rw[fv]at g;rw[bn];refine aW g ?_;exact⟨aH aL,Zi.no⟩
 obtain⟨K,k1,k2,k3,k4,k5,m1,m2,m3,m4⟩:=EX (l:=l) (z:=z) (a:=a) hc hz.1 (show s<17 by omega) ha.1 (show to<17 by omega) hb.symm Z;rw[m1]at m2 m3 m4;have fw:Iq l z a s to=some K:=Ce k1 (by rw[k4,hb]) (λj hj=>by rw[<-hb];exact k5 j hj);have fv:CG l z a s to=K:=by rw[CG,<-hb,aq b0,fw];rfl
 have av:IW l z a s to=b:=by rw[IW,<-hb,aq b0]
 have bs:nW l z a s to=some (jx l z (Ka l z to b) K s a):=by rw[nW,<-hb,aq b0,fw];rfl
 have kn:((K:Int)<0)=False:=cR;rw[fv,av]at g;rw[bs];obtain⟨R,hR⟩:∃R,R=jx l z (Ka l z to b) K s a:=⟨_,rfl⟩;rw[<-hR]at m2 m3 m4|-;refine aW (Z2 g kn) ?_;refine dz (α:=AV×Nat×Int×List Nat) K [Il,X3,X1] (λi x=>[Ei ((K-i:Nat):Int),Ei x.2.2.1,Ei x.2.1]) (MdI h lg l z b to K R) Z aX ⟨(.aF,s,a,[]),rfl,aH aL,bj,bj,.nil rfl rfl,vp,ha,by rw[hR];rfl,rfl,by rw[Nat.sub_zero,<-hR];exact m3⟩ (λi x m' g' hi hP=>?_) (λx m' g' hP=>?_)
 .obtain⟨h3,dH,d3⟩:=m';obtain⟨sl,eP,cA,p⟩:=x;obtain⟨k,AB,AF,ho,hh,hn,hp,pl,ml⟩:=hP;obtain rfl:d3=[]:=k.aV;simp only at AB AF ho hh hn hp pl ml;have ki:K-i=(K-(i+1))+1:=Z;have gK:(0<((K-i:Nat):Int))=True:=dy;have wK:i64.wrap (((K-i:Nat):Int)-1)=((K-(i+1):Nat):Int):=by rw[aU Z Z];omega
  rw[ki,jx]at hp ml;rcases pk:yw l z eP cA (Ka l z to b (K-(i+1)))with _|u
  .rw[pk]at ml;simp at ml
  rw[pk]at hp ml;simp only[length_cons]at hp ml;refine bH ?_;refine aW (Z2 gK wK) ?_;unfold yw at pk;rw[find?_eq_some_iff_getElem]at pk;obtain⟨pu,ui,uh,ug,uk⟩:=pk;rw[length_range]at uh;rw[getElem_range]at ug;obtain rfl:ui=u:=ug;have pf:∀k,k<ui->pP l z eP cA (Ka l z to b (K-(i+1))) k=false:=λk hk=>by
   have:=uk k hk;rw[getElem_range]at this;simpa using this
  have L:∀k,k<l.length->cF (gt l k):=λk hk=>hc _ (bA hk)
  refine bL ui [Q7,X3,X1] (λk=>[Ei k,Ei cA,Ei eP]) (λ_=>True) Z aX ⟨rfl,trivial⟩ (λk h4 fi g4 hk _ hK=>?_) (λh4 fi g4 _ hK=>?_)
  .have kl:k<l.length:=Z;have wz:aY ⟨h3,dH,[]⟩ ⟨h4,fi,[]⟩:=hK;have k04:aY ⟨h,lg,[]⟩ ⟨h4,fi,[]⟩:=aY.trans ‹aY ⟨h,lg,[]⟩ ⟨h3,dH,[]⟩› wz;have MP:aT h4 6 v (l.map bY):=aT.bw (m:=⟨h,lg,[]⟩) (m':=⟨h4,fi,[]⟩) hv k04;have e:=MP.el kl;have lv:=MP.len;have r:=fh kl Z;have ck:=L k kl;have g1:=λm=>Th j (gt l k) z cA m ck hz hn
   have fk:=pf k hk;unfold pP at fk;obtain⟨tn,A5⟩:∃tn:Nat,(gt l k).t=tn:=⟨(gt l k).t.toNat,by have:=ck.2.1;omega⟩;obtain⟨fn,rI⟩:∃fn:Nat,(gt l k).f=fn:=⟨(gt l k).f.toNat,by have:=ck.1;omega⟩;rw[A5,rI,Int.toNat_natCast,Int.toNat_natCast]at fk;unfold bY at e g1;rw[A5,rI]at e g1;by_cases c1:fn=eP
   .have A4:((fn:Int)=(eP:Int))=True:=dy;rw[c1,decide_eq_true rfl,Bool.true_and]at fk;rcases eh:gE (gt l k) z cA with _|t
    .rw[eh]at g1;refine aW (Z5 e lv r g1 A4) ?_;exact hK
    .rw[D7,eh]at g1;rw[eh]at fk;simp only[Ka]at fk;have fk:=of_decide_eq_false fk;have hl:=qU ck hz.1 eh;refine aW (Z5 e lv r g1 A4) ?_;rw[<-fZ];refine fK (P0 _ _ (aR h4 []) _ _ (s:=tn) (K:=K-(i+1)) MP hw hc (by have:=ck.2.1;omega) hl hz Z) (λw h5 jg k5 IU=>?_);have e5:=aT.el (i:=to) IU (by rw[fo];omega);unfold iC at e5;refine aW (Z3 e5 fk r) ?_;exact hK.trans k5
   .have A4:((fn:Int)=(eP:Int))=False:=cR;refine aW (Z5 e lv r g1 A4) ?_;exact hK
  .have wz:aY ⟨h3,dH,[]⟩ ⟨h4,fi,[]⟩:=hK;have k04:aY ⟨h,lg,[]⟩ ⟨h4,fi,[]⟩:=aY.trans ‹aY ⟨h,lg,[]⟩ ⟨h3,dH,[]⟩› wz;have MP:aT h4 6 v (l.map bY):=aT.bw (m:=⟨h,lg,[]⟩) (m':=⟨h4,fi,[]⟩) hv k04;have e:=MP.el uh;have lv:=MP.len;have r:=fh uh Z;have ck:=L ui uh;have g1:=λm=>Th j (gt l ui) z cA m ck hz hn
   unfold pP at pu;obtain⟨tn,A5⟩:∃tn:Nat,(gt l ui).t=tn:=⟨(gt l ui).t.toNat,by have:=ck.2.1;omega⟩;obtain⟨fn,rI⟩:∃fn:Nat,(gt l ui).f=fn:=⟨(gt l ui).f.toNat,by have:=ck.1;omega⟩;rw[A5,rI,Int.toNat_natCast,Int.toNat_natCast,Bool.and_eq_true]at pu;unfold bY at e g1;rw[A5,rI]at e g1;rw[A5,Int.toNat_natCast]at hp ml;have c1:fn=eP:=of_decide_eq_true pu.1;have A4:((fn:Int)=(eP:Int))=True:=dy;have pu:=pu.2;rcases eh:gE (gt l ui) z cA with _|t
   .rw[eh]at pu;cases pu
   rw[D7,eh]at g1;rw[eh]at pu hp ml;simp only[Ka,getD_some]at pu hp ml;have fk:=of_decide_eq_true pu;have hl:=qU ck hz.1 eh;refine aW (Z5 e lv r g1 A4) ?_;rw[<-fZ];refine fK (P0 _ _ (aR h4 []) _ _ (s:=tn) (K:=K-(i+1)) MP hw hc (by have:=ck.2.1;omega) hl hz Z) (λw h5 jg k5 IU=>?_);have wQ:aY ⟨h,lg,[]⟩ ⟨h5,jg,[]⟩:=k04.trans k5;have k35:aY ⟨h3,dH,[]⟩ ⟨h5,jg,[]⟩:=wz.trans k5;have e5:=aT.el (i:=to) IU (by rw[fo];omega);have wc5:=IU.sc;rw[fk]at e5;unfold iC at e5;have Rj:aT h5 6 v (l.map bY):=aT.bw (m:=⟨h,lg,[]⟩) (m':=⟨h5,jg,[]⟩) hv wQ;have e6:=Rj.el uh;unfold bY at e6;rw[A5,rI]at e6;have G4:aj h5 (nb h 1)=(aO 2 [[sl,Ei b]]):=(k35.get _ (ag AF)).trans AF;have Zd:cG h.length h5 1 sl (p.map fy):=cG.bw (m:=⟨h3,dH,[]⟩) (m':=⟨h5,jg,[]⟩) ho k35;have z5:aj h5 (nb h 0)=(aO 2 [[.aF,Ei 0]]):=(k35.get _ (ag AB)).trans AB;have n01:nb h 0≠nb h 1:=by rw[ne_eq,gG];omega
   have gb:∀q,aj (aR h5 q) (nb h 1)=_:=λq=>(an q h5 _ (ag G4)).trans G4
   have cs:=Zd.sl.sc;have o1:=bg (ag G4);have ne1:∀c∈v.cj,c≠nb h 1:=λc hcx q=>by have:=hv.cj c hcx;rw[q,nb]at this;omega
   rcases Zd with⟨hn5,rfl⟩|⟨b5,rfl,kb5,sK⟩
   .have p0:p=[]:=by simpa using hn5
    have e7:=λx=>(show aT (aQ h5 (nb h 1) x) 6 v (l.map bY)from Rj.bS (ag G4) ne1 x []).el uh
    unfold bY at e7;rw[A5,rI]at e7;refine aW (Z4 e5 e7 gb o1) ?_;exact⟨(.slice (nb h5 1) 0 1 none,tn,t,p++[ui]),⟨rfl,rfl⟩,wQ.bS aB (ag G4) _ _ (dD.ok (by repeat first|exact dD.nil|refine dD.cons (by first|exact aB|exact bK (wQ.len) aB|assumption) ?_)),(bP (ag G4) (ag z5) n01 _ _).trans z5,o1.2.2.2.2.1 _ _,by rw[p0];exact .some _ rfl (bK wQ.len aB) (o1.2.1 _ _ _),by have:=ck.2.1;simp only;omega,hl,by simpa using hp,by simp[pl],by simp only;omega⟩
   .simp only[length_map]at G4 gb;have ne5:∀c∈v.cj,c≠b5:=λc hcx q=>by have:=hv.cj c hcx;omega
    have e7:=λx y=>(show aT (aQ (aQ h5 b5 x) (nb h 1) y) 6 v (l.map bY)from Rj.uW (ag sK) (ag G4) ne5 ne1 x y []).el uh
    unfold bY at e7;rw[A5,rI]at e7;have nbb:b5≠nb h 1:=λq=>by rw[q,G4]at sK;cases sK
    have o2:=jY (ag sK) (ag G4) (Ne.symm nbb);have o3:=bg (ag sK);have g5:∀q,aj (aR h5 q) b5=_:=λq=>(an q h5 _ (ag sK)).trans sK
    have g6:=λq x=>(bP (ag sK) (ag G4) (Ne.symm nbb) q x).trans G4
    have fA:(1000000000000<(p.length+1)*8)=False:=by simp;omega
    have fC:List.take p.length (p.map fy)=p.map fy:=take_of_length_le (by simp);refine aW (yA e5 e7 gb G4 o2 o3 g5 fA @fB fC) ?_;refine⟨(.slice (nb h5 1) 0 (p.length+1) none,tn,t,p++[ui]),⟨rfl,rfl⟩,wQ.uW kb5 (ag sK) aB (ag G4) _ _ _ (dD.ok (by repeat first|exact dD.nil|refine dD.cons (by first|exact aB|exact bK (wQ.len) aB|assumption) ?_)),(kP (ag sK) (ag G4) (ag z5) (λq=>by rw[<-q,z5]at sK;cases sK) n01 _ _ _).trans z5,o2.2.2.2.2.1 _ _ _,?_,by have:=ck.2.1;simp only;omega,hl,by simpa using hp,by simp[pl],by simp only;omega⟩;rw[map_append];exact .some (nb h5 1) (by simp) (bK wQ.len aB) (o2.2.1 _ _ _ _)
 .obtain⟨h3,dH,d3⟩:=m';obtain⟨sl,eP,cA,p⟩:=x;obtain⟨k,AB,AF,ho,hh,hn,hp,pl,ml⟩:=hP;obtain rfl:d3=[]:=k.aV;simp only at AB AF ho hh hn hp pl ml;rw[Nat.sub_self,jx,append_nil]at hp;have k0:=k;have gK:(0<((K-K:Nat):Int))=False:=cR;have gb:∀q,aj (aR h3 q) (nb h 1)=_:=λq=>(an q h3 _ (ag AF)).trans AF
  have cs:=ho.sl.sc;refine bH ?_;have o1:=bg (ag AB);have g0:∀q,aj (aR h3 q) (nb h 0)=_:=λq=>(an q h3 _ (ag AB)).trans AB
  refine aW (Z5 gK gb g0 o1 cs) ?_;refine⟨k0.sub.bS aB (ag AB) _ _ (dD.ok (by repeat first|exact dD.nil|refine dD.cons (by first|exact aB|exact bK (k0.len) aB|assumption) ?_)),⟨sl,R⟩,?_,cs,λr q=>?_⟩
  .rw[dW,m2];rfl
  .cases q;refine⟨rfl,?_,by show R.1.length<=1000;omega⟩;show aT _ 1 sl (R.1.map fy);rw[<-hp];exact ho.sl.bS (ag AB) (ho.sl.gz AB aZ) _ _
def U2(o:Option qX)(w:AV)(h:aN):Prop:=∃(x:kT) (e:Int),w=.tuple [.agg (dW x),Ei e]/\x.v.cU=true/\(e=0↔o.isSome=true)/\∀r,o=some r->x.r=r/\ig h x
theorem U2.no{h:aN}{e:Int}(h0:e≠0):U2 none (.tuple [.agg [.aF,Ei 0],Ei e]) h:=⟨⟨.aF,([],0)⟩,e,rfl,rfl,⟨λq=>absurd q h0,λq=>by cases q⟩,λr q=>by cases q⟩
def vx(l:List bF)(z a:Int)(s to:Nat):Option qX:=if 1099511627776<a then none else nW l z a s to
theorem Alo(lg d:List Nat){l:List bF}{v:AV}{s to:Nat}{a z:Int}(hv:aT h 6 v (l.map bY))(hw:l.length<=1000)(hp:(eA l).1=0)(hc:∀c∈l,cF c)(vp:1<=s/\s<=16)(ht:1<=to/\to<=16)(ha:0<=a/\a<=kv)(hz:1<=z/\z<=1200)(q_:304<=j:=by omega):
 Wa FT MT (SM j) (n+6000) (.fn 315) [v,Ei s,Ei to,Ei a,Ei z] ⟨aR h [],lg,d⟩ (Qk ⟨h,lg,d⟩ (U2 (vx l z a s to))):=by
 refine aI ?_;have g:=λq lg d=>Agx j l v a z s to ⟨aR h q,lg,d⟩ (hv.bx q) Z hp Z Z hz
 by_cases c:1099511627776<a
 .rw[Nu,aG (.inr c)]at g;rw[vx,aG c];refine aW g ?_;exact⟨aH aL,U2.no aZ⟩
 rw[Nu,aq Z]at g;rw[vx,aq c];refine aW g ?_;rw[<-fZ];refine fK (Aln j _ (aR h [(aO 2 [[.aF,Ei 0]])]) _ _ (hv.bx _) hw hc vp ht.2 ha hz) (λw h2 dx k2 og=>?_);obtain⟨x,rfl,sx,hx⟩:=og;have z0:aj h2 (nb h 0)=(aO 2 [[.aF,Ei 0]]):=k2.at [] 0 (by simp only[fY];omega);have g0:∀q,aj (aR h2 q) (nb h 0)=_:=λq=>(an q h2 _ (ag z0)).trans z0
 have o1:=bg (ag z0);have kk:aY ⟨h,lg,d⟩ ⟨h2,dx,d⟩:=(aH aL).trans k2.sub;rcases hb:nW l z a s to with _|r
 .refine aW (Z4 @dW.eq_1 sx g0 o1) ?_;exact⟨kk.bS aB (ag z0) _ _ (dD.ok (by repeat first|exact dD.nil|refine dD.cons (by first|exact aB|exact bK (kk.len) aB|assumption) ?_)),U2.no aZ⟩
 .obtain⟨rfl,hx⟩:=hx r hb;refine aW (Z4 @dW.eq_1 sx g0 o1) ?_;refine⟨kk.bS aB (ag z0) _ _ (dD.ok (by repeat first|exact dD.nil|refine dD.cons (by first|exact aB|exact bK (kk.len) aB|assumption) ?_)),x,0,rfl,sx,⟨λ_=>rfl,λ_=>rfl⟩,λr q=>?_⟩;cases q;exact⟨rfl,hx.s.bS (ag z0) (hx.s.gz z0 aZ) _ _,hx.l⟩
theorem MQ{bI:List (List AV)}{k u:Nat}{R:List Int}(hk:bI[k]?=some (R.map iV)) (hl:R.length=17) (hu:u<17):fG 17 bI k u 1=some [Ei (gt R u)]/\(∀t,iX 17 bI k u [Ei t]=some (bI.set k ((R.set u t).map iV)))/\fG 17 bI k 0 17=some (R.map iV):=by
 have u17:Nat.ble 17 u=false:=by rw[Bool.eq_false_iff,ne_eq,Nat.ble_eq];omega
 have hu':u<R.length:=Z;refine⟨?_,λt=>?_,?_⟩
 .simp only[fG,u17,cond_false,iT,hk];rw[aG Z,drop_eq_getElem_cons (by rw[length_map];omega),take_succ_cons,take_zero,getElem_map,bB hu'];rfl
 .simp only[iX,u17,cond_false,nJ,hk,length_cons,length_nil];have e:(R.map iV).take u++[Ei t]++(R.map iV).drop (u+(0+1))=(R.set u t).map iV:=by
   rw[map_set,set_eq_take_append_cons_drop,aG (by rw[length_map];omega)];simp[iV]
  rw[aG Z,e]
 .simp only[fG,Nat.ble,cond_false,iT,hk];rw[aG Z,drop_zero,take_of_length_le (by rw[length_map,hl];exact cB)]
theorem Tm{c:bF}(h:cF c){z b:Int}(hz:1<=z):Cb c z b<=1099511627776:=by
 have n1:0<=jK c z:=by
  have h7:=h.2.2.2.2.2.2.1;unfold jK;exact Int.ediv_nonneg Z Z
 have h6:=h.2.2.2.2.2.1;unfold Cb;split<;>omega
theorem G5{l:List bF}(hv:∀c∈l,cF c){z:Int}(hz:1<=z)(dF:List Int):∀i,i<=l.length->∀n,n<17->gt (qW l z dF i) n<=1099511627776
 |0,_,n,hn=>by rw[qW,Cc hn];omega
 |i+1,hi,n,hn=>by
  have v:=hv (gt l i) (bA Z);have hf:(gt l i).f.toNat<(qW l z dF i).length:=by rw[sA];have:=v.1;omega
  rw[qW,ju hf];have p:=G5 hv hz dF i Z;split
  .have:=p (gt l i).f.toNat (by have:=v.1;omega);have:=Tm (b:=gt dF (gt l i).t.toNat) v hz;omega
  .exact p n hn
theorem Qo{l:List bF}(hv:∀c∈l,cF c){z:Int}(hz:1<=z){to:Nat}{b:Int}(hb:b<=kv)(ht:to<17):∀k n,n<17->gt (kV l z to b k) n<=2199024304128
 |0,n,hn=>by
  rw[kV,ju (by rw[length_replicate];exact ht)];split
  .exact hb
  .rw[Cc hn];omega
 |k+1,n,hn=>by
  have:=G5 hv hz (kV l z to b k) l.length cB n hn;rw[kV];omega
def xD(l:List bF)(z:Int)(to:Nat)(b:Int)(k:Nat):List (List AV):=(List.range (k+1)).map λj=>(kV l z to b j).map iV
theorem yS{l:List bF}{z b:Int}{to k j:Nat}(hj:j<=k):(xD l z to b k)[j]?=some ((kV l z to b j).map iV):=by
 rw[xD,getElem?_map,getElem?_range Z];rfl
theorem Qp{l:List bF}{z b:Int}{to k:Nat}:(xD l z to b k).length=k+1:=by rw[xD,length_map,length_range]
theorem Qq{l:List bF}{z b:Int}{to k:Nat}:xD l z to b (k+1)=xD l z to b k++[(kV l z to b (k+1)).map iV]:=by
 rw[xD,xD,range_succ (n:=k+1),map_append];rfl
def BkI(h:aN)(lg:List Nat)(l:List bF)(z b:Int)(to:Nat)(i:Nat)(x:Nat×Option Nat)(m:Mem):Prop:=
 aY ⟨h,lg,[]⟩ m/\aj m.ah (nb h 0)=(aO 2 [[.aF,Ei 0]])/\aj m.ah x.1=(aO 17 (xD l z to b i))/\h.length<=x.1/\(x.2=none\/x.2=some (i+1))
def kD(K i:Nat):Int:=(K:Int)-1-i
def BdI(h:aN)(lg:List Nat)(l:List bF)(z b:Int)(to K:Nat)(R:qX)(bb c:Nat)(i:Nat)(x:AV×Nat×Int×List Nat)(m:Mem):Prop:=
 aY ⟨h,lg,[]⟩ m/\aj m.ah (nb h 0)=(aO 2 [[.aF,Ei 0]])/\aj m.ah bb=(aO 17 (xD l z to b K))/\aj m.ah c=(aO 2 [[x.1,Ei x.2.2.1]])/\cG h.length m.ah 1 x.1 (x.2.2.2.map fy)/\(1<=x.2.1/\x.2.1<=16)/\(0<=x.2.2.1/\x.2.2.1<=kv)/\
  x.2.2.2++(jx l z (okB l z to b) (K-i) x.2.1 x.2.2.1).1=R.1/\(jx l z (okB l z to b) (K-i) x.2.1 x.2.2.1).2=R.2/\x.2.2.2.length=i/\(jx l z (okB l z to b) (K-i) x.2.1 x.2.2.1).1.length=K-i
theorem Alp(lg d:List Nat){l:List bF}{v:AV}{s to:Nat}{a z:Int}(hv:aT h 6 v (l.map bY))(hw:l.length<=40)(hp:(eA l).1=0)(hc:∀c∈l,cF c)(vp:1<=s/\s<=16)(ht:1<=to/\to<=16)(ha:0<=a/\a<=kv)(hz:1<=z/\z<=1200)(q_:217<=j/\218<=j:=by omega):
 Wa FT MT (SM j) (n+4000) (.fn 324) [v,Ei s,Ei to,Ei a,Ei z] ⟨aR h [],lg,d⟩ (Qk ⟨h,lg,d⟩ (U2 (vx l z a s to))):=by
 refine aI ?_;have g1:=λl' lg d (q:fj l' 1=(aO 1 [[Ei s],[Ei to]]))=>U1 j l v a z [(s:Int),(to:Int)] (.slice (nb h 1) 0 2 (some 2)) ⟨aR h l',lg,d⟩ (hv.bx l') Z hp hz (.some (nb h 1) 0 (some 2) true _ rfl (by rw[bj,q]) rfl (λ_ h=>by cases h;simp)) (by simp) (by intro x hx;simp at hx;omega)
 by_cases c:1099511627776<a
 .rw[Nu,aG (.inr c)]at g1;rw[vx,aG c];refine aW g1 ?_;exact⟨aH aL,U2.no aZ⟩
 rw[Nu,aq Z]at g1;rw[vx,aq c];have g2:=λl' lg d=>AkC j l v s a z ⟨aR h l',lg,d⟩ (hv.bx l') hw hc vp Z hz
 have rl:=fo l z a s 16;have a17:=Aga rl (show to<17 by omega);have U3:(to<17)=True:=dy;have Al6:(to*1+1<=17)=True:=dy;have U4:(to+1<=17)=True:=dy;rw[Nat.mul_one]at a17;obtain⟨b,hb⟩:∃b,b=yv l z a s to:=⟨_,rfl⟩;have kJ:gt (dA l z a s 16) to=b:=hb.symm;have bge:-1<=b:=by rw[hb];exact tK (l:=l) hc hz.1 ha.1 (show s<17 by omega) 16 to Z
 rw[kJ]at a17;have bT:b<=kv:=by rw[hb];exact xB (l:=l) hc hz.1 ha.1 ha.2 (show s<17 by omega) 16 to Z
 by_cases b0:b<0
 .obtain rfl:b=-1:=Z;have bn:nW l z a s to=none:=by rw[nW,<-hb,aG Z]
  rw[bn];refine aW (Z6 g1 g2 rl a17 U3 U4) ?_;exact⟨aH aL,U2.no aZ⟩
 have bm:(b=-1)=False:=cR;refine aW (Z7 g1 g2 rl a17 U3 U4 bm) ?_;refine dV 17 [X51] (λi=>[Ei i]) (λi m'=>∃bq,m'=⟨aR h [(aO 2 [[.aF,Ei 0]]),(aO 1 [[Ei s],[Ei to]]),(aO 17 [(lK i).map iV])],bq,[]⟩/\dm h lg bq) Z aX ⟨rfl,_,rfl,aL⟩ (λi m' g hi hP=>?_) (λm' g hP=>?_)
 .obtain⟨bq,rfl,hl⟩:=hP;have r:=fh hi Z;have ra:=MQ (bI:=[(lK i).map iV]) (k:=0) (R:=lK i) rfl (nE i Z) (u:=i) hi;have fs:=vX i hi;have zQ:(i<17)=True:=eq_true hi;have IM:((i:Int)<17)=True:=dy;refine aD (Z5 zQ IM r ra fs) ?_;exact⟨_,rfl,.cons hl⟩
 .obtain⟨bq,rfl,hl⟩:=hP;have ra:=MQ (bI:=[(lK 17).map iV]) (k:=0) (R:=lK 17) rfl (nE 17 Z) (u:=to) Z;refine aD (Z2 U3 ra) ?_;obtain⟨K,k1,k2,k3,k4,k5,m1,m2,m3,m4⟩:=EX (l:=l) (z:=z) (a:=a) hc hz.1 (show s<17 by omega) ha.1 (show to<17 by omega) hb.symm Z;have f0:(lK 17).set to b=kV l z to b 0:=rfl;rw[f0];refine dz (α:=Nat×Option Nat) K [Uv] (λi x=>[.slice x.1 0 (i+1) x.2]) (BkI h lg l z b to) Z aX ⟨(nb h 2,some 1),rfl,aH (by first|exact .cons hl),bj,bj,aB,.inr rfl⟩ (λi x m' g hi hP=>?_) (λx m' g hP=>?_)
  .obtain⟨h3,dH,d3⟩:=m';obtain⟨bb,cap⟩:=x;obtain⟨k,z0,MR,kb,uE⟩:=hP;obtain rfl:d3=[]:=k.aV;simp only at z0 MR kb uE;have gb:∀q,aj (aR h3 q) bb=_:=λq=>(an q h3 _ (ag MR)).trans MR
   have rr:=yS (l:=l) (z:=z) (b:=b) (to:=to) (Nat.le_refl i);have bl:=yu (l:=l) (z:=z) to b i;have rs:=MQ rr bl (show s<17 by omega);have w1:i64.wrap (((i+1:Nat):Int)-1)=(i:Int):=by rw[aU Z Z];omega
   have ii:(i<i+1)=True:=dy;have XR:(s<17)=True:=dy;have ca:=eq_true (k3 i hi);have al:=GQ (kV l z to b i);have Tf:=(KJ bl).2 [[Ei 0],[Ei 0],[Ei 0],[Ei 0],[Ei 0],[Ei 0],[Ei 0],[Ei 0],[Ei 0],[Ei 0],[Ei 0],[Ei 0],[Ei 0],[Ei 0],[Ei 0],[Ei 0],[Ei 0]] rfl;refine bH ?_;refine aD (Z9 gb w1 ii XR rs ca al bl Tf) ?_;refine dV 17 [X80] (λk=>[Ei k]) (λk m=>∃bq,m=⟨aR h3 [(aO 1 ((kV l z to b i).map iC)),(aO 1 ((lK k).map iC))],bq,[]⟩/\dm h3 dH bq) Z aX ⟨rfl,_,rfl,aL⟩ (λu m g2 hu hP=>?_) (λm g2 hP=>?_)
   .obtain⟨bq,rfl,hl⟩:=hP;have r:=fh hu Z;have ra:=PT (cg:=lK u) (u:=(u:Int)) Z Z (nE u Z);rw[Int.toNat_natCast]at ra;have fs:=vX u hu;have zQ:(u<17)=True:=eq_true hu;have IM:((u:Int)<17)=True:=dy;refine aD (Z5 zQ IM r ra fs) ?_;exact⟨_,rfl,.cons hl⟩
   .obtain⟨bq,rfl,hl⟩:=hP;have k0:=k;have C6:aT h3 6 v (l.map bY):=aT.bw (m:=⟨h,lg,[]⟩) (m':=⟨h3,dH,[]⟩) hv k;have lv:=C6.len;refine aW lv ?_;refine dV l.length [X88] (λk=>[Ei k]) (λk m=>aY ⟨h3,dH,[]⟩ m/\aj m.ah (nb h3 0)=(aO 1 ((kV l z to b i).map iC))/\aj m.ah (nb h3 1)=(aO 1 ((qW l z (kV l z to b i) k).map iC))) Z aX ⟨rfl,aH (by first|exact hl),bj,bj⟩ (λu m g2 hu hP=>?_) (λm g2 hP=>?_)
    .obtain⟨h5,jg,d5⟩:=m;obtain⟨AM,b5,n5⟩:=hP;obtain rfl:d5=[]:=AM.aV;simp only at b5 n5;have wQ:aY ⟨h,lg,[]⟩ ⟨h5,jg,[]⟩:=k0.trans AM;have ln:nb h3 1<h5.length:=ag n5;have GV:=λq=>(an q h5 _ (ag b5)).trans b5
     have Rr:=λq=>(an q h5 _ ln).trans n5
     have e:=(aT.bw (m:=⟨h,lg,[]⟩) (m':=⟨h5,jg,[]⟩) hv wQ).el hu;have r5:=fh hu Z;have Af:=hc (gt l u) (bA hu);have hf:=Af.1;have htt:=Af.2.1;have li:=sA (l:=l) (z:=z) (kV l z to b i) u;have rf:=PT (cg:=qW l z (kV l z to b i) u) (u:=(gt l u).f) Z Z li;have rt:=PT (cg:=kV l z to b i) (u:=(gt l u).t) Z Z bl;have o5:=bg ln;have bi:qW l z (kV l z to b i) (u+1)=(qW l z (kV l z to b i) u).set (gt l u).f.toNat (max (gt (qW l z (kV l z to b i) u) (gt l u).f.toNat) (Cb (gt l u) z (gt (kV l z to b i) (gt l u).t.toNat))):=rfl;have g3:=λm=>Alj j (gt l u) z (gt (kV l z to b i) (gt l u).t.toNat) m Af hz ⟨(vQ hc hz.1 (show to<17 by omega) (show 0<=b by omega) i _ Z).1,Qo hc hz.1 bT (show to<17 by omega) i _ Z⟩
     have mx:∀x y:Int,(if x<y then y else x)=max x y:=λx y=>by rw[Int.max_def];split<;>split<;>omega
     unfold bY at e g3;refine bH ?_;have n01:nb h3 0≠nb h3 1:=by rw[ne_eq,gG];omega
     refine aD (Z9 e r5 GV Rr rf rt g3 o5 mx) ?_;exact⟨AM.bS aB ln _ _ (dD.ok (by repeat first|exact dD.nil|refine dD.cons (by first|exact aB|exact bK (AM.len) aB|assumption) ?_)),(bP ln (ag b5) n01 _ _).trans b5,by rw[bi]⟩
    .obtain⟨h5,jg,d5⟩:=m;obtain⟨AM,b5,n5⟩:=hP;obtain rfl:d5=[]:=AM.aV;simp only at b5 n5;have wQ:aY ⟨h,lg,[]⟩ ⟨h5,jg,[]⟩:=k0.trans AM;have ln:nb h3 1<h5.length:=ag n5;have Rr:=λq=>(an q h5 _ ln).trans n5
     have v5:aj h5 bb=(aO 17 (xD l z to b i)):=(AM.get _ (ag MR)).trans MR;have Yi:=λq=>(an q h5 _ (ag v5)).trans v5
     have li:=sA (l:=l) (z:=z) (kV l z to b i) l.length;have r5:=(KJ li).1;have al:=GQ (qW l z (kV l z to b i) l.length);have rl2:=Qp (l:=l) (z:=z) (to:=to) (b:=b) (k:=i);have fA:(1000000000000<(i+1+1)*136)=False:=cR;have fC:List.take (i+1) (xD l z to b i)=xD l z to b i:=take_of_length_le (by rw[rl2];exact cB);have ra:=Qq (l:=l) (z:=z) (to:=to) (b:=b) (k:=i);have z5:aj h5 (nb h 0)=(aO 2 [[.aF,Ei 0]]):=(AM.get _ (ag z0)).trans z0;have bz:bb≠nb h 0:=λq=>by rw[q,z0]at MR;cases MR
     have ob:=bg (ag v5);refine bH ?_;rcases uE with rfl|rfl
     .refine aD (yA Rr Yi r5 al li rl2 fA @fB fC ob) ?_;exact⟨(nb h5 1,none),rfl,wQ.bS kb (ag v5) _ _ (dD.ok (by repeat first|exact dD.nil|refine dD.cons (by first|exact aB|exact bK (wQ.len) aB|assumption) ?_)),(bP (ag v5) (ag z5) (Ne.symm bz) _ _).trans z5,by rw[ra];exact ob.2.1 _ _ 1,bK wQ.len aB,.inl rfl⟩
     .refine aD (Z9 Rr Yi r5 al li rl2 fA @fB fC) ?_;exact⟨(nb h5 1,none),rfl,wQ.trans (aH aL),(an _ h5 _ (ag z5)).trans z5,by rw[ra];exact bj,bK wQ.len aB,.inl rfl⟩
  .obtain⟨h3,dH,d3⟩:=m';obtain⟨bb,cap⟩:=x;obtain⟨k,z0,MR,kb,uE⟩:=hP;obtain rfl:d3=[]:=k.aV;simp only at z0 MR kb uE;have gb:∀q,aj (aR h3 q) bb=_:=λq=>(an q h3 _ (ag MR)).trans MR
   have rr:=yS (l:=l) (z:=z) (b:=b) (to:=to) (Nat.le_refl K);have bl:=yu (l:=l) (z:=z) to b K;have rs:=MQ rr bl (show s<17 by omega);have w1:i64.wrap (((K+1:Nat):Int)-1)=(K:Int):=by rw[aU Z Z];omega
   have w2:i64.wrap (((K+1:Nat):Int)-2)=kD K 0:=by rw[aU Z Z,kD];omega
   have ii:(K<K+1)=True:=dy;have XR:(s<17)=True:=dy;have ca:=eq_false (show¬gt (kV l z to b K) s<a by omega);obtain⟨R,hR⟩:∃R,R=jx l z (okB l z to b) K s a:=⟨_,rfl⟩;have bn:nW l z a s to=some R:=by
    have fw:Iq l z a s to=some K:=Ce k1 (by rw[k4,hb]) (λj hj=>by rw[<-hb];exact k5 j hj);rw[nW,<-hb,aq b0,fw,hR,m1];rfl
   rw[<-hR]at m2 m3 m4;rw[bn];refine bH ?_;refine aD (Z7 gb w1 w2 ii XR rs ca) ?_;refine dz (α:=AV×Nat×Int×List Nat) K [X23,X22] (λi x=>[Ei (kD K i),Ei x.2.1]) (BdI h lg l z b to K R bb (nb h3 0)) Z aX ⟨(.aF,s,a,[]),rfl,k.trans (aH aL),(an _ h3 _ (ag z0)).trans z0,(an _ h3 _ (ag MR)).trans MR,bj,.nil rfl rfl,vp,ha,by rw[hR];rfl,by rw[Nat.sub_zero,<-hR],rfl,by rw[Nat.sub_zero,<-hR];exact m3⟩ (λi x m' g' hi hP=>?_) (λx m' g' hP=>?_)
   .obtain⟨h4,fi,d4⟩:=m';obtain⟨sl,eP,cA,p⟩:=x;obtain⟨kk,AB,sK,AF,ho,hh,hn,hp,mr,pl,ml⟩:=hP;obtain rfl:d4=[]:=kk.aV;simp only at AB sK AF ho hh hn hp mr pl ml;obtain⟨q,hq⟩:∃q,K-i=q+1:=⟨K-(i+1),Z⟩;have hk:kD K i=(q:Int):=by rw[kD];omega
    have q0:(0<=(q:Int))=True:=dy;have qK:(q<K+1)=True:=dy;have wK:i64.wrap ((q:Int)-1)=kD K (i+1):=by rw[aU Z Z,kD];omega
    rw[hq,jx]at hp ml mr;rcases pk:yw l z eP cA (okB l z to b q)with _|u
    .rw[pk]at ml;simp at ml
    rw[pk]at hp ml mr;simp only[length_cons]at hp ml mr;have MP:aT h4 6 v (l.map bY):=aT.bw (m:=⟨h,lg,[]⟩) (m':=⟨h4,fi,[]⟩) hv kk;have lv:=MP.len;refine bH ?_;refine aW (Z3 hk q0 lv) ?_;unfold yw at pk;rw[find?_eq_some_iff_getElem]at pk;obtain⟨pu,ui,uh,ug,uk⟩:=pk;rw[length_range]at uh;rw[getElem_range]at ug;obtain rfl:ui=u:=ug;have pf:∀k,k<ui->pP l z eP cA (okB l z to b q) k=false:=λk hk=>by
     have:=uk k hk;rw[getElem_range]at this;simpa using this
    have L:∀k,k<l.length->cF (gt l k):=λk hk=>hc _ (bA hk)
    refine bL ui [Ai1,X22] (λk=>[Ei k,Ei eP]) (λ_=>True) Z aX ⟨rfl,trivial⟩ (λk h5 jg g5 hk _ hK=>?_) (λh5 jg g5 _ hK=>?_)
    .have kl:k<l.length:=Z;have G6:aY ⟨h4,fi,[]⟩ ⟨h5,jg,[]⟩:=hK;have Rj:aT h5 6 v (l.map bY):=aT.bw (m:=⟨h4,fi,[]⟩) (m':=⟨h5,jg,[]⟩) MP G6;have e:=Rj.el kl;have r:=fh kl Z;have kl':=eq_true kl;have ck:=L k kl;have g1:=λm=>Te j (gt l k) z cA m ck hz hn
     have fk:=pf k hk;unfold pP at fk;obtain⟨tn,A5⟩:∃tn:Nat,(gt l k).t=tn:=⟨(gt l k).t.toNat,by have:=ck.2.1;omega⟩;obtain⟨fn,rI⟩:∃fn:Nat,(gt l k).f=fn:=⟨(gt l k).f.toNat,by have:=ck.1;omega⟩;rw[A5,rI,Int.toNat_natCast,Int.toNat_natCast]at fk;unfold bY at e g1;rw[A5,rI]at e g1;have v5:aj h5 bb=(aO 17 (xD l z to b K)):=(G6.get _ (ag sK)).trans sK;have c5:aj h5 (nb h3 0)=(aO 2 [[sl,Ei cA]]):=(G6.get _ (ag AF)).trans AF;have Yi:=λq=>(an q h5 _ (ag v5)).trans v5
     have c5':=λq=>(an q h5 _ (ag c5)).trans c5
     have rq:=MQ (yS (l:=l) (z:=z) (b:=b) (to:=to) (show q<=K by omega)) (yu (l:=l) (z:=z) to b q) (u:=tn) (by have:=ck.2.1;omega);have U3:(tn<17)=True:=eq_true (by have:=ck.2.1;omega);have t0:((tn:Int)<17)=True:=eq_true (by have:=ck.2.1;omega);by_cases c1:fn=eP
     .have A4:((fn:Int)=(eP:Int))=True:=dy;rw[c1,decide_eq_true rfl,Bool.true_and]at fk;rcases eh:gE (gt l k) z cA with _|t
      .rw[eh]at g1;refine aW (Z5 e r g1 A4 c5') ?_;exact hK.trans (aH aL)
      .rw[IJ,eh]at g1;rw[eh]at fk;simp only[okB]at fk;have fk:=eq_false (of_decide_eq_false fk);refine aD (yA e r g1 A4 Yi c5' qK rq U3 fk) ?_;exact hK.trans (aH aL)
     .have A4:((fn:Int)=(eP:Int))=False:=cR;refine aW (Z3 e r A4) ?_;exact hK.trans (aH aL)
    .have G6:aY ⟨h4,fi,[]⟩ ⟨h5,jg,[]⟩:=hK;have wQ:aY ⟨h,lg,[]⟩ ⟨h5,jg,[]⟩:=kk.trans G6;have Rj:aT h5 6 v (l.map bY):=aT.bw (m:=⟨h4,fi,[]⟩) (m':=⟨h5,jg,[]⟩) MP G6;have e:=Rj.el uh;have r:=fh uh Z;have kl':=eq_true uh;have ck:=L ui uh;have g1:=λm=>Te j (gt l ui) z cA m ck hz hn
     unfold pP at pu;obtain⟨tn,A5⟩:∃tn:Nat,(gt l ui).t=tn:=⟨(gt l ui).t.toNat,by have:=ck.2.1;omega⟩;obtain⟨fn,rI⟩:∃fn:Nat,(gt l ui).f=fn:=⟨(gt l ui).f.toNat,by have:=ck.1;omega⟩;rw[A5,rI,Int.toNat_natCast,Int.toNat_natCast,Bool.and_eq_true]at pu;unfold bY at e g1;rw[A5,rI]at e g1;rw[A5,Int.toNat_natCast]at hp ml mr;have c1:fn=eP:=of_decide_eq_true pu.1;have A4:((fn:Int)=(eP:Int))=True:=dy;have pu:=pu.2;rcases eh:gE (gt l ui) z cA with _|t
     .rw[eh]at pu;cases pu
     rw[IJ,eh]at g1;rw[eh]at pu hp ml mr;simp only[okB,getD_some]at pu hp ml mr;have fk:=eq_true (of_decide_eq_true pu);have hl:=qU ck hz.1 eh;have v5:aj h5 bb=(aO 17 (xD l z to b K)):=(G6.get _ (ag sK)).trans sK;have c5:aj h5 (nb h3 0)=(aO 2 [[sl,Ei cA]]):=(G6.get _ (ag AF)).trans AF;have z5:aj h5 (nb h 0)=(aO 2 [[.aF,Ei 0]]):=(G6.get _ (ag AB)).trans AB;have Zd:cG h.length h5 1 sl (p.map fy):=cG.bw (m:=⟨h4,fi,[]⟩) (m':=⟨h5,jg,[]⟩) ho G6;have Yi:=λq=>(an q h5 _ (ag v5)).trans v5
     have c5':=λq=>(an q h5 _ (ag c5)).trans c5
     have rq:=MQ (yS (l:=l) (z:=z) (b:=b) (to:=to) (show q<=K by omega)) (yu (l:=l) (z:=z) to b q) (u:=tn) (by have:=ck.2.1;omega);have U3:(tn<17)=True:=eq_true (by have:=ck.2.1;omega);have t0:((tn:Int)<17)=True:=eq_true (by have:=ck.2.1;omega);have cs:=Zd.sl.sc;have lc:=ag c5;have U5:h.length<=nb h3 0:=bK k.len aB;have o1:=bg lc;have nz:nb h 0≠nb h3 0:=λq=>by
      have h1:=ag z0;rw[q,nb]at h1;omega
     have nbv:bb≠nb h3 0:=λq=>by rw[q,c5]at v5;cases v5
     have nq:∀k,(nb h5 k).beq (nb h3 0)=false:=λk=>Bool.eq_false_iff.2 (λq=>by have:=Nat.eq_of_beq_eq_true q;rw[nb]at this;omega)
     rcases Zd with⟨hn5,rfl⟩|⟨b5,rfl,kb5,yT⟩
     .have p0:p=[]:=by simpa using hn5
      refine aD (gX e r g1 A4 Yi c5' qK rq U3 fk wK (Z2 nq o1)) ?_;exact⟨(.slice (nb h5 2) 0 1 none,tn,t,p++[ui]),rfl,wQ.bS U5 lc _ _ (dD.ok (by repeat first|exact dD.nil|refine dD.cons (by first|exact aB|exact bK (wQ.len) aB|assumption) ?_)),(bP lc (ag z5) nz _ _).trans z5,(bP lc (ag v5) nbv _ _).trans v5,o1.2.2.2.2.1 _ _,by rw[p0];exact .some _ rfl (bK wQ.len aB) (o1.2.1 _ _ _),by have:=ck.2.1;simp only;omega,hl,by rw[show K-(i+1)=q by omega];simpa using hp,by rw[show K-(i+1)=q by omega];exact mr,by simp[pl],by rw[show K-(i+1)=q by omega];simp only;omega⟩
     .have nbb:b5≠nb h3 0:=λq=>by rw[q,c5]at yT;cases yT
      have o2:=jY (ag yT) lc (Ne.symm nbb);have o3:=bg (ag yT);have g5:∀q,aj (aR h5 q) b5=_:=λq=>(an q h5 _ (ag yT)).trans yT
      have g6:=λq x=>(bP (ag yT) lc (Ne.symm nbb) q x).trans c5
      have fA:(1000000000000<(p.length+1)*8)=False:=cR;have fC:List.take p.length (p.map fy)=p.map fy:=take_of_length_le (by simp);refine aD (gX e r g1 A4 Yi c5' c5 qK rq U3 fk (Z8 wK nq o2 o3 g5 fA @fB fC)) ?_;refine⟨(.slice (nb h5 2) 0 (p.length+1) none,tn,t,p++[ui]),rfl,wQ.uW kb5 (ag yT) U5 lc _ _ _ (dD.ok (by repeat first|exact dD.nil|refine dD.cons (by first|exact aB|exact bK (wQ.len) aB|assumption) ?_)),(kP (ag yT) lc (ag z5) (λq=>by rw[<-q,z5]at yT;cases yT) nz _ _ _).trans z5,(kP (ag yT) lc (ag v5) (λq=>by rw[<-q,v5]at yT;cases yT) nbv _ _ _).trans v5,o2.2.2.2.2.1 _ _ _,?_,by have:=ck.2.1;simp only;omega,hl,by rw[show K-(i+1)=q by omega];simpa using hp,by rw[show K-(i+1)=q by omega];exact mr,by simp[pl],by rw[show K-(i+1)=q by omega];simp only;omega⟩;rw[map_append];exact .some (nb h5 2) (by simp) (bK wQ.len aB) (o2.2.1 _ _ _ _)
   .obtain⟨h4,fi,d4⟩:=m';obtain⟨sl,eP,cA,p⟩:=x;obtain⟨kk,AB,sK,AF,ho,hh,hn,hp,mr,pl,ml⟩:=hP;obtain rfl:d4=[]:=kk.aV;simp only at AB sK AF ho hh hn hp mr pl ml;rw[Nat.sub_self,jx]at hp mr;simp only[append_nil]at hp mr;have hk:kD K K=-1:=by rw[kD];omega
    have gb:=λq=>(an q h4 _ (ag AF)).trans AF
    have g0:=λq=>(an q h4 _ (ag AB)).trans AB
    have cs:=ho.sl.sc;have o1:=bg (ag AB);have kk0:=kk;refine bH ?_;refine aW (Z5 hk gb g0 o1 cs) ?_;refine⟨kk0.sub.bS aB (ag AB) _ _ (dD.ok (by repeat first|exact dD.nil|refine dD.cons (by first|exact aB|exact bK (kk0.len) aB|assumption) ?_)),⟨sl,R⟩,0,?_,cs,⟨λ_=>rfl,λ_=>rfl⟩,λr q=>?_⟩
    .rw[dW,<-mr]
    .cases q;refine⟨rfl,?_,by show R.1.length<=1000;omega⟩;show aT _ 1 sl (R.1.map fy);rw[<-hp];exact ho.sl.bS (ag AB) (ho.sl.gz AB aZ) _ _
end Go.Abs
end
