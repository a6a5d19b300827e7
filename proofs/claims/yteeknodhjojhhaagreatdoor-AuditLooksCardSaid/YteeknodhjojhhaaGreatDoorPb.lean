/- Functions of the program on symbolic values
   Conditions: none. -/
import Derived.Test.YteeknodhjojhhaaGreatDoorPa
set_option linter.unusedSimpArgs false
set_option linter.unusedVariables false
set_option maxRecDepth 100000
set_option maxHeartbeats 16000000
noncomputable section
namespace Go.Abs
open List Option IntKind
variable(j n:Nat)(h:aN)
section
variable{F:FuncId->Option bD}{au:bR}{sm:ct}
theorem AfI(b:fR)(m:Mem)(q_:152<=j:=by omega):SM j 204 [.agg (dt b)] m=some (.bool (decide (nA b)),m):=by
 obtain⟨h,lg,d⟩:=m;refine aP 1999 q_ λn=>?_
 refine aW @dt.eq_1 ?_;(repeat' first|apply And.intro|intro _)<;>simp_all [nA]
def UF(b:fR):Int:=if nA b then u8.wrap (176+b.kZ+4)else u8.wrap (176+b.kZ)
def qD(b:fR):List UInt8:=([UInt8.ofNat (UF b).toNat]++xz b.id.n++xz b.id.s++xz b.jF++xz b.born++xz b.iO)++(if nA b then[]else xz b.id.o++xz b.eO)
theorem Cp(b:fR):(qD b).length=(ly b).length:=by
 rw[qD,ly];split<;>simp only[length_append,pS,sE,length_cons,length_nil]<;>omega
theorem AjP(b:fR)(m:Mem)(hb:j0 b=0)(hq:0<=b.id.s)(q_:273<=j:=by omega):SM j 217 [.agg (dt b)] m=some (.fN (qD b),m):=by
 obtain⟨h,lg,d⟩:=m;refine aP 1999 q_ λn=>?_
 have ok:=tG hb;have so:=ok.2.2.2.2.2.2.2.2.2.2.2.2.2;have on:1<=b.id.n/\b.id.n<=16/\0<=b.id.o/\b.id.o<=20000/\b.id.s<=1099511627776:=by rw[xu]at so;split at so<;>omega
 have g1:=λm=>AfI 272 b m
 unfold dt at g1;have p1:=λm=>GA 272 b.id.n m ⟨Z,Z⟩
 have p2:=λm=>GA 272 b.id.s m ⟨Z,Z⟩
 have p3:=λm=>GA 272 b.jF m ⟨Z,Z⟩
 have p4:=λm=>GA 272 b.born m ⟨Z,Z⟩
 have p5:=λm=>GA 272 b.iO m ⟨Z,Z⟩
 have p6:=λm=>GA 272 b.id.o m ⟨Z,Z⟩
 have p7:=λm=>GA 272 b.eO m ⟨Z,Z⟩
 have w1:u64.wrap b.id.n=b.id.n:=dB Z Z;have w3:u64.wrap b.jF=b.jF:=dB Z Z;have w4:u64.wrap b.born=b.born:=dB Z Z;have w5:u64.wrap b.iO=b.iO:=dB Z Z;have w6:u64.wrap b.id.o=b.id.o:=dB Z Z;have w7:u64.wrap b.eO=b.eO:=dB Z Z;have w8:i64.wrap (176+b.kZ)=176+b.kZ:=aU Z Z;have w9:i64.wrap (176+b.kZ+4)=176+b.kZ+4:=aU Z Z;have z1:=dg b.id.n;have z2:=dg b.id.s;have z3:=dg b.jF;have z4:=dg b.born;have z5:=dg b.iO;have z6:=dg b.id.o;have z7:=dg b.eO;simp+contextual-implicitDefEqProofs (maxSteps:=1000000) (maxDischargeDepth:=20) only[go_sem,simprocAttr,dt,g1,p1,p2,p3,p4,p5,p6,p7,w1,w3,w4,w5,w6,w7,w8,w9,Ii,o7,bytesOf];(repeat' first|apply And.intro|intro _)<;>first|(simp only[length_append,sE];omega)|simp_all [qD,UF]
theorem AjQ(s:List UInt8)(m:Mem)(hw:s.length<=1000000)(q_:274<=j:=by omega):SM j 218 [.fN s] m=some (.fN (xz (s.length:Int)++s),m):=by
 obtain⟨h,lg,d⟩:=m;refine aP 1999 q_ λn=>?_
 have p1:=λm=>GA 273 (s.length:Int) m ⟨Z,Z⟩
 have w1:u64.wrap (s.length:Int)=s.length:=dB Z Z;have z1:=dg (s.length:Int);simp+contextual-implicitDefEqProofs (maxSteps:=1000000) (maxDischargeDepth:=20) only[go_sem,simprocAttr,p1,w1,Ii,o7];simp only[sE];omega
end
section
variable{F:FuncId->Option bD}{au:bR}{sm:ct}
theorem AjR(x:Int)(m:Mem)(q_:149<=j:=by omega):SM j 303 [.int .u32 x] m=some (.int .u32 (dn x),m):=by
 obtain⟨h,lg,d⟩:=m;refine aP 1999 q_ λn=>?_
 refine aS ?_;exact⟨λq=>by rw[dn,aG q];rfl,λq=>by rw[dn,aq q]⟩
theorem AfJ(x:Int)(m:Mem)(q_:148<=j:=by omega):SM j 202 [.int .u32 x] m=some (.fN (yq x),m):=by
 obtain⟨h,lg,d⟩:=m;refine aP 1999 q_ λn=>?_
 simp+contextual-implicitDefEqProofs (maxSteps:=1000000) (maxDischargeDepth:=20) only[go_sem,simprocAttr,bytesOf];rfl
theorem AjS(x y:Int)(m:Mem)(q_:150<=j:=by omega):SM j 266 [.int .u32 x,.int .u8 y] m=some (.int .u32 (b32 x y),m):=by
 obtain⟨h,lg,d⟩:=m;refine aP 1999 q_ λn=>?_
 have g:=λx m=>AjR 149 x m
 refine aS ?_;refine bL 8 [X5,X0] (λi=>[Ei i,.int .u32 (Xd (yp x (u32.wrap y)) i)]) (λ_=>True) Z aX ⟨rfl,trivial⟩ (λi h' bq g1 hi hP hK=>?_) (λh' bq g1 hP hK=>?_)
 .have a:=hK.aA lg d;have r:=fh hi Z;have st:Xd (yp x (u32.wrap y)) (i+1)=dn (Xd (yp x (u32.wrap y)) i):=rfl;have l8:((i:Int)<8)=True:=by simp;omega
  exact aC (Z5 a r g st l8)
 .have a:=hK.aA lg d;refine aW a ?_;rfl
theorem AfK(s:List UInt8)(m:Mem)(hw:s.length<=1500)(q_:151<=j:=by omega):SM j 203 [.fN s] m=some (.int .u32 (Xf s),m):=by
 obtain⟨h,lg,d⟩:=m;refine aP 1999 q_ λn=>?_
 have g:=λx y m=>AjS 150 x y m
 refine aS ?_;refine bL s.length [X4,X3] (λi=>[Ei i,.int .u32 (Xe s i)]) (λ_=>True) Z aX ⟨rfl,trivial⟩ (λi h' bq g1 hi hP hK=>?_) (λh' bq g1 hP hK=>?_)
 .have a:=hK.aA lg d;have r:=fh hi Z;have st:Xe s (i+1)=b32 (Xe s i) ((gt s i).toNat:Int):=rfl;have ix:s[i]?=some (gt s i):=by rw[bB hi,getElem?_eq_getElem hi]
  exact aC (Z5 a r g st ix)
 .have a:=hK.aA lg d;have r:=cY s.length;refine aW (Z2 a r) ?_;rfl
def Mx(b:fR):List UInt8:=(qD b++(xz (b.data.length:Int)++b.data))++yq (Xf (qD b++(xz (b.data.length:Int)++b.data)))
theorem SS(b:fR):((Mx b).length:Int)=(ly b).length+gN (b.data.length:Int)+b.data.length+4:=by
 have:(yq (Xf (qD b++(xz (b.data.length:Int)++b.data)))).length=4:=rfl;rw[Mx,length_append,length_append,length_append,this,Cp,sE];omega
theorem AjT(b:fR)(m:Mem)(hq:0<=b.id.s)(w1:b.data.length<=1000000)(w2:I b.eO)(q_:275<=j:=by omega):SM j 151 [.agg (dt b)] m=some (.tuple [.fN (if j0 b≠0 then[]else Mx b),Ei (j0 b)],m):=by
 obtain⟨h,lg,d⟩:=m;refine aP 1999 q_ λn=>?_
 have g1:=λm=>Pw 274 b m w1 w2
 have g2:=λ(q:j0 b=0) m=>AjP 274 b m q hq
 have g3:=λm=>AjQ 274 b.data m w1
 have f1:=Cp b;have f2:=yF b;have f3:=dg (b.data.length:Int);have g4:=λ(q:j0 b=0) m=>AfK 274 (qD b++(xz (b.data.length:Int)++b.data)) m (by have:=tG q;simp only[length_append,sE];omega)
 have g5:=λx m=>AfJ 274 x m
 unfold dt at g1 g2;have f4:∀x,(yq x).length=4:=λ_=>rfl
 simp+contextual-implicitDefEqProofs (maxSteps:=1000000) (maxDischargeDepth:=20) only[go_sem,simprocAttr,dt,g1,g2,g3,g4,g5,Ii,o7];(repeat' first|apply And.intro|intro _)<;>first|(simp only[length_append,sE,f4];omega)|simp_all [Mx]
theorem E95(b:fR)(m:Mem)(hq:0<=b.id.s)(w1:b.data.length<=1000000)(w2:I b.eO)(q_:276<=j:=by omega):SM j 95 [.agg (dt b)] m=some (.tuple [Ei (eS b),Ei (j0 b)],m):=by
 obtain⟨h,lg,d⟩:=m;refine aP 1999 q_ λn=>?_
 have g1:=λm=>AjT 275 b m hq w1 w2
 have e0:(((if j0 b≠0 then[]else Mx b).length:Nat):Int)=eS b:=by
  rw[eS];split
  .rfl
  .exact SS b
 unfold dt at g1;generalize (if j0 b≠0 then[]else Mx b)=s at g1 e0;exact aC (Z3 @dt.eq_1 g1 e0)
end
section
variable{F:FuncId->Option bD}{au:bR}{sm:ct}
def dS:List Int->Int
 |[]=>0
 |x::l=>x+dS l
theorem Cq:∀a b,dS (a++b)=dS a+dS b
 |[],b=>by simp[dS]
 |x::a,b=>by rw[cons_append,dS,Cq a b,dS];omega
theorem iW:∀{l:List Int},(∀x∈l,0<=x)->0<=dS l
 |[],_=>by simp[dS]
 |x::l,h=>by
  have h1:=h x (by simp);have h2:=iW (l:=l) λy hy=>h y (by simp[hy])
  rw[dS];omega
theorem nB{l:List Int}{i:Nat}(hi:i<l.length):dS (l.take (i+1))=dS (l.take i)+gt l i:=by
 rw[take_add_one,getElem?_eq_getElem hi,toList_some,Cq,bB hi,dS,dS];omega
theorem tH{l:List Int}(h:∀x∈l,0<=x)(i:Nat):0<=dS (l.take i)/\dS (l.take i)<=dS l:=by
 have h1:=Cq (l.take i) (l.drop i);rw[take_append_drop]at h1;have h2:=iW (l:=l.drop i) λx hx=>h x (mem_of_mem_drop hx)
 have h3:=iW (l:=l.take i) λx hx=>h x (mem_of_mem_take hx)
 omega
theorem SU(l:List Int)(v:AV)(m:Mem)(hv:aT m.ah 1 v (l.map kU))(h0:(∀x∈l,0<=x))(hm:dS l<=1099511627776)(hw:l.length<=1000)(q_:243<=j:=by omega):SM j 291 [v] m=some (Eu (dS l),m):=by
 obtain⟨h,lg,d⟩:=m;refine aP 1999 q_ λn=>?_
 have lv:=hv.len;refine aW lv ?_;refine bL l.length [X8,X3] (λi=>[Ei i,Eu (dS (l.take i))]) (λ_=>True) Z aX ⟨rfl,trivial⟩ (λi h' bq g hi hP hK=>?_) (λh' bq g hP hK=>?_)
 .have a:=hK.aA lg d;have e:=(hK.sl hv).el hi;have r:=fh hi Z;have b0:=tH h0 i;have b1:=tH h0 (i+1);have st:=nB hi;rw[st]at b1;have w:u64.wrap (dS (l.take i)+gt l i)=dS (l.take i)+gt l i:=dB Z Z;have c1:(2199023255552<gt l i)=False:=by simp;omega
  have c2:(1099511627776<dS (l.take i)+gt l i)=False:=by simp;omega
  unfold kU at e;exact aC (Z7 a e r w st c1 c2)
 .have a:=hK.aA lg d;have r:=cY l.length;exact aC (Z2 a r)
end
section
variable{F:FuncId->Option bD}{au:bR}{sm:ct}
def GB(q s:Int)(v:AV)(R:List Int):List (List AV):=[Eu q]::[Eu s]::[v]::R.map kU
theorem SV{h:aN}{b:Nat}{bS:Bool}{q s:Int}{v:AV}{R:List Int}(hb:aj h b=some (.row bS 1 (GB q s v R)))(hl:R.length=16)(c:Option Nat)(hc:∀k,c=some k->16<=k):aT h 1 (.slice b 3 16 c) (R.map kU):=
 .some b 3 c bS _ (by simp[hl]) hb (by simp only[GB,drop_succ_cons,drop_zero,length_map];exact take_of_length_le (by simp)) (λk hk=>by have:=hc k hk;simp[hl];omega)
theorem AjU(b:Nat)(bS:Bool)(q s:Int)(v:AV)(R:List Int)(m:Mem)(hb:aj m.ah b=some (.row bS 1 (GB q s v R)))(hl:R.length=16)(h0:(∀x∈R,0<=x))(hm:dS R<=1099511627776)(q_:245<=j:=by omega):SM j 292 [.ptr b 0 0] m=some (Eu (dS R),m):=by
 obtain⟨h,lg,d⟩:=m;refine aP 1999 q_ λn=>?_
 have g0:∀l,aj (aR h l) b=some (.row bS 1 (GB q s v R)):=λl=>(an l h b (ag hb)).trans hb
 have g1:=λl lg d=>SU 244 R (.slice b 3 16 (some 16)) ⟨aR h l,lg,d⟩ (SV (g0 l) hl (some 16) (λk hk=>by cases hk;omega)) h0 hm Z
 have ln:∀v,(GB q s v R).length=19:=λv=>by simp[GB,hl]
 exact aC (Z3 g0 ln g1)
theorem Xv(b:Nat)(bS:Bool)(q s:Int)(v:AV)(R:List Int)(m:Mem)(hb:aj m.ah b=some (.row bS 1 (GB q s v R)))(hl:R.length=16)(h0:(∀x∈R,0<=x))(hm:dS R<=1099511627776)(q_:246<=j:=by omega):SM j 242 [.ptr b 0 0] m=some (Eu (u64.wrap (u64.wrap (q-s)-dS R)),m):=by
 obtain⟨h,lg,d⟩:=m;refine aP 1999 q_ λn=>?_
 have g0:∀l,aj (aR h l) b=some (.row bS 1 (GB q s v R)):=λl=>(an l h b (ag hb)).trans hb
 have g1:=λl lg d=>AjU 245 b bS q s v R ⟨aR h l,lg,d⟩ (g0 l) hl h0 hm
 have d0:∀l,H8 (aj (aR h l)) false 1 (.ptr b 0 0)=some (Eu q,[]):=λl=>by rw[DL,g0];rfl
 have d1:∀l,H8 (aj (aR h l)) false 1 (.ptr b 0 1)=some (Eu s,[]):=λl=>by rw[DL,g0];rfl
 exact aC (Z3 g1 d0 d1)
end
section
variable{F:FuncId->Option bD}{au:bR}{sm:ct}
theorem PD{R:List Int}(h:R.length=16):R=[gt R 0,gt R 1,gt R 2,gt R 3,gt R 4,gt R 5,gt R 6,gt R 7,gt R 8,gt R 9,gt R 10,gt R 11,gt R 12,gt R 13,gt R 14,gt R 15]:=by
 apply ext_getElem (by simp[h]);intro i h1 h2;have:i<16:=Z;rw[<-bB h1];rcases(show i=0\/i=1\/i=2\/i=3\/i=4\/i=5\/i=6\/i=7\/i=8\/i=9\/i=10\/i=11\/i=12\/i=13\/i=14\/i=15 by omega)with rfl|rfl|rfl|rfl|rfl|rfl|rfl|rfl|rfl|rfl|rfl|rfl|rfl|rfl|rfl|rfl<;>rfl
theorem aT.gP{h:aN}{v:AV}{R:List Int}(H:aT h 1 v (R.map kU))(hl:R.length=16):∃b i c,v=.slice b i 16 c/\b<h.length/\(∀l,H8 (aj (aR h l)) true 16 (AV.ptr b i 0)=Option.some (AV.agg (R.map λx=>AV.int .u64 x),[])):=by
 rcases H with⟨hn,_⟩|⟨b,i,c,bS,bI,rfl,hb,hw,hc⟩
 .rw[map_eq_nil_iff]at hn;rw[hn]at hl;cases hl
 .rw[length_map,hl]at hw;refine⟨b,i,c,by rw[length_map,hl],ag hb,λl=>?_⟩;have eV:i+16<=bI.length:=by
   have:=congrArg List.length hw;simp only[length_take,length_drop,length_map]at this;omega
  have hf:∀l:List Int,(l.map kU).flatten=l.map λx=>AV.int .u64 x:=λl=>by
   induction l with
   |nil=>rfl
   |cons x l ih=>rw[map_cons,flatten_cons,ih];rfl
  rw[DL,an l h b (ag hb),hb,JQ];have e:fG 1 bI i 0 16=Option.some (R.map λx=>AV.int .u64 x):=by
   show iT 1 bI i 0 16=_;rw[iT,aq Z,aG ⟨rfl,Z,Z⟩,show 16/1=16 from rfl,hw,hf]
  rw[e];rfl
theorem AjV(lg d:List Nat){q s x:Int}{v:AV}{R:List Int}(hv:aT h 1 v (R.map kU))(hl:R.length=16)(h0:∀x∈R,0<=x)(s0:0<=s)(hm:s+dS R<=q)(hq:q<=1099511627776)(x0:0<=x)(x1:x<=1099511627776)(q_:246<=j:=by omega):Wa FT MT (SM j) (n+1000) (.fn 170) [.agg [Eu q,Eu s,v],Eu x] ⟨aR h [],lg,d⟩ (Qk ⟨h,lg,d⟩ λw h'=>if s+x+dS R<=q then∃v',w=.tuple [.agg [Eu q,Eu (s+x),v'],Ei 0]/\aT h' 1 v' (R.map kU)else w=.tuple [.agg [Eu 0,Eu 0,.aF],Ei 5]):=by
 refine aI ?_;obtain⟨b,i,c,rfl,EG,ld⟩:=hv.gP hl;have e:=PD hl;have hp:=iW h0;generalize hT:dS R=T at hm hp|-;generalize gt R 0=r0,gt R 1=r1,gt R 2=r2,gt R 3=r3,gt R 4=r4,gt R 5=r5,gt R 6=r6,gt R 7=r7,gt R 8=r8,gt R 9=r9,gt R 10=DW,gt R 11=DX,gt R 12=DY,gt R 13=DZ,gt R 14=Fw,gt R 15=D0 at e;subst e;simp only[map_cons,map_nil]at ld;have q1:(1099511627776<q)=False:=by simp;omega
 have WS:∀k,Nat.beq b (nb h k)=false:=λk=>iv EG
 have nbp:∀k,Nat.beq (nb h k) b=false:=λk=>iD EG
 have GC:=λl lg d (p:fj l 5=(aO 1 [[Eu s],[Eu r0],[Eu r1],[Eu r2],[Eu r3],[Eu r4],[Eu r5],[Eu r6],[Eu r7],[Eu r8],[Eu r9],[Eu DW],[Eu DX],[Eu DY],[Eu DZ],[Eu Fw],[Eu D0]]))=>SU j (s::[r0,r1,r2,r3,r4,r5,r6,r7,r8,r9,DW,DX,DY,DZ,Fw,D0]) (.slice (nb h 5) 0 17 none) ⟨aR h l,lg,d⟩ (.some (nb h 5) 0 none true _ rfl (by rw[bj,p]) rfl (λ_ h=>by cases h)) (λy hy=>by rcases mem_cons.1 hy with rfl|hy;exact s0;exact h0 y hy) (by rw[dS,hT];omega) (by simp)
 rw[dS,hT]at GC;have Cr:=λl lg d (p:fj l 3=(aO 1 [[Eu q],[Eu s],[.slice b i 16 c],[Eu r0],[Eu r1],[Eu r2],[Eu r3],[Eu r4],[Eu r5],[Eu r6],[Eu r7],[Eu r8],[Eu r9],[Eu DW],[Eu DX],[Eu DY],[Eu DZ],[Eu Fw],[Eu D0]]))=>Xv j (nb h 3) true q s (.slice b i 16 c) [r0,r1,r2,r3,r4,r5,r6,r7,r8,r9,DW,DX,DY,DZ,Fw,D0] ⟨aR h l,lg,d⟩ (by rw[bj,p];rfl) rfl h0 (by rw[hT];omega)
 rw[hT]at Cr;have fr:u64.wrap (u64.wrap (q-s)-T)=q-s-T:=by simp only[iw];omega
 rw[fr]at Cr;have c1:(q<s+T)=False:=by simp;omega
 have i16:((16:Nat):Int)=16:=rfl;have w1:¬q-s-T<x->u64.wrap (s+x)=s+x:=λh=>dB Z Z
 simp+contextual-implicitDefEqProofs (maxSteps:=1000000) (maxDischargeDepth:=20) only[go_sem,simprocAttr,ld,q1,i16,GC,Cr,c1,w1,mZ,wi Xj aZ,wi Afr aZ];refine⟨λh1=>by rw[aq Z];trivial,λh1=>?_⟩;rw[aG Z];exact⟨_,rfl,.some (nb h 8) 0 none true _ rfl (by rw[bj];rfl) rfl (λ_ h=>by cases h)⟩
end
section
variable{F:FuncId->Option bD}{au:bR}{sm:ct}
theorem AjW{α:Type}[Inhabited α](x:α)(l:List α):gt (x::l) 0=x:=rfl
theorem AjX{α:Type}[Inhabited α](x:α)(l:List α)(k:Nat):gt (x::l) (k+1)=gt l k:=rfl
theorem AjY(lg d:List Nat){q s x:Int}{k:Nat}{v:AV}{R:List Int}(hk:k<16)(hv:aT h 1 v (R.map kU))(hl:R.length=16)(h0:∀x∈R,0<=x)(s0:0<=s)(hm:s+dS R<=q)(hq:q<=1099511627776)(x0:0<=x)(x1:x<=18446744073709551615)(q_:246<=j:=by omega):Wa FT MT (SM j) (n+1000) (.fn 172) [.agg [Eu q,Eu s,v],Ei ((k:Int)+1),Eu x] ⟨aR h [],lg,d⟩ (Qk ⟨h,lg,d⟩ λw h'=>if s+x+dS R<=q then∃v',w=.tuple [.agg [Eu q,Eu s,v'],Ei 0]/\aT h' 1 v' ((R.set k (gt R k+x)).map kU)else w=.tuple [.agg [Eu 0,Eu 0,.aF],Ei 5]):=by
 refine aI ?_;obtain⟨b,i,c,rfl,EG,ld⟩:=hv.gP hl;have e:=PD hl;have hp:=iW h0;generalize hT:dS R=T at hm hp|-;generalize gt R 0=r0,gt R 1=r1,gt R 2=r2,gt R 3=r3,gt R 4=r4,gt R 5=r5,gt R 6=r6,gt R 7=r7,gt R 8=r8,gt R 9=r9,gt R 10=DW,gt R 11=DX,gt R 12=DY,gt R 13=DZ,gt R 14=Fw,gt R 15=D0 at e;subst e;simp only[map_cons,map_nil]at ld;have q1:(1099511627776<q)=False:=by simp;omega
 have WS:∀k,Nat.beq b (nb h k)=false:=λk=>iv EG
 have nbp:∀k,Nat.beq (nb h k) b=false:=λk=>iD EG
 have GC:=λl lg d (p:fj l 6=(aO 1 [[Eu s],[Eu r0],[Eu r1],[Eu r2],[Eu r3],[Eu r4],[Eu r5],[Eu r6],[Eu r7],[Eu r8],[Eu r9],[Eu DW],[Eu DX],[Eu DY],[Eu DZ],[Eu Fw],[Eu D0]]))=>SU j (s::[r0,r1,r2,r3,r4,r5,r6,r7,r8,r9,DW,DX,DY,DZ,Fw,D0]) (.slice (nb h 6) 0 17 none) ⟨aR h l,lg,d⟩ (.some (nb h 6) 0 none true _ rfl (by rw[bj,p]) rfl (λ_ h=>by cases h)) (λy hy=>by rcases mem_cons.1 hy with rfl|hy;exact s0;exact h0 y hy) (by rw[dS,hT];omega) (by simp)
 rw[dS,hT]at GC;have Cr:=λl lg d (p:fj l 4=(aO 1 [[Eu q],[Eu s],[.slice b i 16 c],[Eu r0],[Eu r1],[Eu r2],[Eu r3],[Eu r4],[Eu r5],[Eu r6],[Eu r7],[Eu r8],[Eu r9],[Eu DW],[Eu DX],[Eu DY],[Eu DZ],[Eu Fw],[Eu D0]]))=>Xv j (nb h 4) true q s (.slice b i 16 c) [r0,r1,r2,r3,r4,r5,r6,r7,r8,r9,DW,DX,DY,DZ,Fw,D0] ⟨aR h l,lg,d⟩ (by rw[bj,p];rfl) rfl h0 (by rw[hT];omega)
 rw[hT]at Cr;have fr:u64.wrap (u64.wrap (q-s)-T)=q-s-T:=by simp only[iw];omega
 rw[fr]at Cr;have c1:(q<s+T)=False:=by simp;omega
 have i16:((16:Nat):Int)=16:=rfl;have hT':=hT;simp only[dS]at hT';have rb:(0<=r0/\r0<=T)/\(0<=r1/\r1<=T)/\(0<=r2/\r2<=T)/\(0<=r3/\r3<=T)/\(0<=r4/\r4<=T)/\(0<=r5/\r5<=T)/\(0<=r6/\r6<=T)/\(0<=r7/\r7<=T)/\(0<=r8/\r8<=T)/\(0<=r9/\r9<=T)/\(0<=DW/\DW<=T)/\(0<=DX/\DX<=T)/\(0<=DY/\DY<=T)/\(0<=DZ/\DZ<=T)/\(0<=Fw/\Fw<=T)/\(0<=D0/\D0<=T):=by
  have z:=λy hy=>h0 y hy
  simp only[mem_cons,not_mem_nil,or_false,forall_eq_or_imp,forall_eq]at z;omega
 have w1:∀y:Int,0<=y->y<=T->¬q-s-T<x->u64.wrap (y+x)=y+x:=λy h h2 h3=>dB Z Z
 have n1:((k:Int)+1<1)=False:=by simp;omega
 have n2:(16<(k:Int)+1)=False:=by simp;omega
 have n3:i64.wrap ((k:Int)+1-1)=(k:Int):=by rw[aU Z Z];omega
 rcases(show k=0\/k=1\/k=2\/k=3\/k=4\/k=5\/k=6\/k=7\/k=8\/k=9\/k=10\/k=11\/k=12\/k=13\/k=14\/k=15 by omega)with rfl|rfl|rfl|rfl|rfl|rfl|rfl|rfl|rfl|rfl|rfl|rfl|rfl|rfl|rfl|rfl
 all_goals
  simp+contextual-implicitDefEqProofs (maxSteps:=1000000) (maxDischargeDepth:=20) only[go_sem,simprocAttr,ld,q1,i16,GC,Cr,c1,w1,rb,mZ,AjW,AjX,set_cons_zero,set_cons_succ,wi Xj aZ,wi Afr aZ,wi Aje aZ];refine⟨λh1=>by rw[aq Z];trivial,λh1=>?_⟩;rw[aG Z];exact⟨_,rfl,.some (nb h 9) 0 none true _ rfl (by rw[bj];rfl) rfl (λ_ h=>by cases h)⟩
end
section
variable{F:FuncId->Option bD}{au:bR}{sm:ct}
theorem bH{call:eX}{wc:gy}{fu:Nat}{c:eQ}{T:Tr}{h':aN}{lg d:List Nat}{K:cT->Tr->Mem->Prop}(H:Wc call wc au fu c T ⟨aR h' [],lg,d⟩ K):Wc call wc au fu c T ⟨h',lg,d⟩ K:=H
theorem aT.gz{h:aN}{e e':Nat}{v:AV}{es:List (List AV)}{b:Nat}{bS:Bool}{bI:List (List AV)}(H:aT h e v es)(hb:aj h b=Option.some (.row bS e' bI))(jV:e≠e'):∀c∈v.cj,c≠b:=by
 rcases H with⟨_,rfl|rfl|rfl⟩|⟨c,i,k,bS,bI,rfl,hc,hw,hk⟩
 .intro c hc;cases hc
 .intro c hc;cases hc
 .intro c hc;cases hc
 .intro x hx;simp only[AV.cj,mem_singleton]at hx;subst hx;intro hq;rw[hq,hb]at hc;simp only[Option.some.injEq,bp.row.injEq]at hc;exact jV hc.2.1.symm
def du(l:List fR):Int:=dS (l.map eS)
def oc:List Int:=[0,0,0,0,0,0,0,0,0,0,0,0,0,0,0,0]
structure Rnd(h:aN)(lg:List Nat)(st:List AV)(q s:Int)(R:List Int)(m:Mem):Prop where
 k:aY ⟨h,lg,[]⟩ m
 b0:aj m.ah (nb h 0)=(aO 8 [st])
 b1:aj m.ah (nb h 1)=(aO 3 [[Eu 0,Eu 0,.aF]])
 b7:∃v',aj m.ah (nb h 7)=(aO 3 [[Eu q,Eu s,v']])/\aT m.ah 1 v' (R.map kU)/\(∀c∈v'.cj,c≠nb h 7)/\v'.cU=true
def pT(S:je):Int:=du S.held+dS (S.bM.map λp=>(jC p).1)
def jf(S:je)(q:Int):Int:=if d8 S≠0 then d8 S else if 1099511627776<q then 2 else if q<pT S then 5 else 0
structure PN(p:dT):Prop where
 t:p.recv.cH.length<=1000
 f:0<=p.recv.f
 o:0<=p.mX
 r:0<=p.recv.r
theorem vU{p:dT}(h:PN p):0<=(jC p).1/\(jC p).1<=2251799813685248:=by
 rw[jC];split
 .simp
 .rename_i q;have q:jn p=0:=Z;have h1:=(lH q).1;have h2:=E6 h.f h.r;have h3:=h.o;simp only;omega
theorem SW{p:dT}(h:jn p=0):(jC p).2=0:=by rw[jC,aq Z]
def iq(ps:List dT):Nat->List Int
 |0=>oc
 |i+1=>(iq ps i).set ((gt ps i).node-1).toNat (gt (iq ps i) ((gt ps i).node-1).toNat+(jC (gt ps i)).1)
theorem iS(ps:List dT):∀i,(iq ps i).length=16
 |0=>rfl
 |i+1=>by rw[iq,length_set,iS ps i]
theorem Cs:∀(R:List Int) (k:Nat) (x:Int),k<R.length->dS (R.set k (gt R k+x))=dS R+x
 |[],k,x,h=>by simp at h
 |y::R,0,x,_=>by simp only[set_cons_zero,dS,gt,getD_cons_zero];omega
 |y::R,k+1,x,h=>by
  have ih:=Cs R k x (by simpa using h);have e:gt (y::R) (k+1)=gt R k:=rfl;rw[set_cons_succ,dS,e,ih,dS];omega
theorem vV{ps:List dT}(hn:∀p∈ps,1<=p.node/\p.node<=16):∀i,i<=ps.length->dS (iq ps i)=dS ((ps.map λp=>(jC p).1).take i)
 |0,_=>rfl
 |i+1,hi=>by
  have h1:=hn (gt ps i) (bA Z);rw[iq,Cs _ _ _ (by rw[iS];omega),vV hn i Z,nB (by simp;omega)];congr 1;rw[bB Z,bB (l:=ps.map λp=>(jC p).1) (by rw[length_map];omega),getElem_map]
theorem sF{ps:List dT}(hp:∀p∈ps,PN p):∀i,i<=ps.length->∀x∈iq ps i,0<=x
 |0,_,x,hx=>by simp[iq,oc]at hx;omega
 |i+1,hi,x,hx=>by
  have ih:=sF hp i Z;rcases mem_or_eq_of_mem_set hx with h|h
  .exact ih x h
  .have h1:=(vU (hp (gt ps i) (bA Z))).1;have h2:0<=gt (iq ps i) ((gt ps i).node-1).toNat:=by
    rcases Nat.lt_or_ge ((gt ps i).node-1).toNat (iq ps i).length with h3|h3
    .exact ih _ (bA h3)
    .generalize ((gt ps i).node-1).toNat=k at h3|-;rw[show gt (iq ps i) k=0 by simp[gt,getElem?_eq_none h3]];exact Int.le_refl 0
   omega
theorem mS{S:je}(h:d8 S=0):∀i,i<S.bM.length->jn (gt S.bM i)=0/\(0<i->(gt S.bM (i-1)).node<(gt S.bM i).node):=by
 intro i hi;rw[d8]at h;split at h
 .omega
 .split at h
  .omega
  .split at h
   .omega
   .split at h
    .omega
    .split at h
     .omega
     .have hz:=(iE S.bM.length 0).1 h i Z Z;rw[gJ]at hz;split at hz
      .omega
      .split at hz
       .omega
       .split at hz
        .omega
        .exact⟨Z,λh=>Z⟩
theorem oJ{S:je}(h:d8 S=0):∀p∈S.bM,1<=p.node/\p.node<=16:=λp hp=>by
 obtain⟨i,hi,e⟩:=getElem_of_mem hp;have h1:=(mS h i hi).1;rw[bB hi,e]at h1;exact⟨(lH h1).2.1,(lH h1).2.2.1⟩
end
def xA(S:je)(q:Int)(w:AV)(h:aN):Prop:=∃x y z,w=.tuple [.agg [Eu x,Eu y,z],Ei (jf S q)]/\z.cU=true/\(jf S q≠0->x=0/\y=0/\z=.aF)/\(jf S q=0->∃R,x=q/\y=du S.held/\aT h 1 z (R.map kU)/\R.length=16/\(∀r∈R,0<=r)/\y+dS R=pT S)
theorem xA.err{S:je}{q e:Int}{h:aN}(he:jf S q=e)(h0:e≠0):xA S q (.tuple [.agg [Eu 0,Eu 0,.aF],Ei e]) h:=⟨0,0,.aF,by rw[he],rfl,λ_=>⟨rfl,rfl,rfl⟩,λc=>absurd (he.symm.trans c) h0⟩
theorem xA.ok{S:je}{q:Int}{h:aN}{z:AV}{R:List Int}(he:jf S q=0)(sl:aT h 1 z (R.map kU))(l:R.length=16)(p:∀r∈R,0<=r)(t:du S.held+dS R=pT S):xA S q (.tuple [.agg [Eu q,Eu (du S.held),z],Ei 0]) h:=⟨q,_,z,by rw[he],sl.sc,λc=>absurd he c,λ_=>⟨R,rfl,rfl,sl,l,p,t⟩⟩
section
variable{F:FuncId->Option bD}{au:bR}{sm:ct}
theorem AjZ(lg d:List Nat)(bS:Bool)(S:je)(b ms v:AV)(l:List PX)(q:Int)(hg:aj h 0=some (.row bS 1 fM))(H:mP h S b ms v l)(Q3:0<=q)(vp:∀x∈S.held,0<=x.id.s)(hp:∀x∈l,kS x.t/\kS x.k/\PN x.p)(q_:256<=j:=by omega):Wa FT MT (SM j) (n+2000) (.fn 109) [.agg (mf S b ms v),Eu q] ⟨aR h [],lg,d⟩ (Qk ⟨h,lg,d⟩ (xA S q)):=by
 refine aI ?_;have c1:=H.b.sc;have c2:=H.m.sc;have c3:=H.p.v.sc;have l1:=H.b.len;have l2:=H.p.v.len;have g1:=λq lg d=>AfB j S b ms v l ⟨aR h q,lg,d⟩ (H.bx q)
 unfold mf at g1;refine aW (Z9 @mf.eq_1 c1 c2 c3 l1 g1 @mZ (@aJ 169 _ rfl aZ) (@aJ 240 _ rfl aZ)) ?_;refine⟨λe1=>?_,λe1=>⟨λe2=>?_,λe2=>?_⟩⟩
 .exact xA.err (by rw[jf,aG Z]) Z
 .exact xA.err (by rw[jf,aq Z,aG Z]) aZ
 have e1:d8 S=0:=Z;have Ak:∀p∈S.bM,PN p:=λp hx=>by rw[H.e]at hx;obtain⟨y,hy,rfl⟩:=mem_map.1 hx;exact(hp y hy).2.2
 have sz0:∀x∈S.held.map eS,(0:Int)<=x:=λx hx=>by obtain⟨y,_,rfl⟩:=mem_map.1 hx;exact(sD y).1
 have pr0:∀x∈S.bM.map (λp=>(jC p).1),(0:Int)<=x:=λx hx=>by obtain⟨y,hy,rfl⟩:=mem_map.1 hx;exact(vU (Ak y hy)).1
 refine dV S.held.length [X35] (λi=>[Ei i]) (λi m'=>Rnd h lg [Ei S.node,Eu S.C2,Ei S.dF.n,Eu S.dF.s,Ei S.dF.o,b,ms,v] q (du (S.held.take i)) oc m'/\du (S.held.take i)<=q) (by have:=H.w1;omega) aX ⟨rfl,?_,by simpa[du,dS]using Q3⟩ (λi m' g hi hP=>?_) (λm' g hP=>?_)
 .refine⟨aH aL,bj,bj,_,bj,.some (nb h 6) 0 none true _ rfl (by rw[bj];rfl) rfl (λ_ h=>by cases h),λc hc=>by simp[AV.cj]at hc;rw[hc,ne_eq,gG];omega,rfl⟩
 .obtain⟨h',bq,d'⟩:=m';obtain⟨⟨k,b0,b1,v',b7,sv,rv,sc⟩,hq⟩:=hP;obtain rfl:d'=[]:=k.aV;simp only at b0 b1 b7 sv;have sl:aT h' 9 b (S.held.map dt):=aT.bw (m:=⟨h,lg,[]⟩) (m':=⟨h',bq,[]⟩) H.b k;have e:=sl.el hi;have r:=fh hi (by have:=H.w1;omega);have hb7:nb h 7<h'.length:=ag b7;have u:=H.d _ (bA hi);have YZ:∀l,aj (aR h' l) 0=some (.row bS 1 fM):=λl=>(an l h' 0 (gA (ag hg) k.len)).trans ((k.get 0 (ag hg)).trans hg)
  have g1:=λl lg d=>AfH j (gt S.held i) bS ⟨aR h' l,lg,d⟩ (YZ l) (vp _ (bA hi)) u.1 u.2
  have z:=sD (gt S.held i);have w:u64.wrap (eS (gt S.held i))=eS (gt S.held i):=dB Z Z;have Xw:∀l,aj (aR h' l) (nb h 7)=(aO 3 [[Eu q,Eu (du (S.held.take i)),v']]):=λl=>(an l h' _ hb7).trans b7
  unfold dt at e g1;refine bH ?_;have R0:∀x∈oc,(0:Int)<=x:=λx hx=>by simp[oc]at hx;omega
  have S0:dS oc=0:=rfl;have s0:0<=du (S.held.take i):=iW λx hx=>by obtain⟨y,_,rfl⟩:=mem_map.1 hx;exact(sD y).1
  refine aW (Z5 e r g1 w Xw) ?_;rw[<-fZ];refine fK (AjV j (n+999) (aR h' [(aO 9 [dt (gt S.held i)])]) _ _ (q:=q) (s:=du (S.held.take i)) (x:=eS (gt S.held i)) (v:=v') (R:=oc) (sv.bx _) rfl R0 s0 (by rw[S0];omega) Z Z Z) (λw h2 dx k2 hw=>?_);have E7:h'.length+1<=h2.length:=by have:=k2.len;simp only[bV,length_cons,length_nil]at this;omega
  have qZ:nb h 7<h2.length:=Z;have o2:=bg qZ;have SX:∀l,aj (aR h2 l) (nb h 7)=(aO 3 [[Eu q,Eu (du (S.held.take i)),v']]):=λl=>(an l h2 _ qZ).trans ((k2.get _ (by simp only[bV,length_cons,length_nil];omega)).trans (Xw _))
  by_cases hc:du (S.held.take i)+eS (gt S.held i)+dS oc<=q
  .rw[aG hc]at hw;obtain⟨v2,rfl,Rh⟩:=hw;have sc2:=Rh.sc;refine aW (Z4 r SX sc2 o2) ?_;have kk:aY ⟨h,lg,[]⟩ ⟨h2,dx,[]⟩:=(k.trans (aH aL)).trans k2;have st:du (S.held.take (i+1))=du (S.held.take i)+eS (gt S.held i):=by
    rw[du,du,map_take,map_take,nB (by simpa using hi)];rw[bB (by simpa using hi),getElem_map,bB hi]
   rw[st];have n0:nb h 0≠nb h 7:=by rw[ne_eq,gG];omega
   have n1:nb h 1≠nb h 7:=by rw[ne_eq,gG];omega
   have l0:nb h 0<h'.length:=ag b0;have l1:nb h 1<h'.length:=ag b1;have g0:aj h2 (nb h 0)=_:=(k2.get _ (by simp only[bV,length_cons,length_nil];omega)).trans ((an _ h' _ l0).trans b0);have g1:aj h2 (nb h 1)=_:=(k2.get _ (by simp only[bV,length_cons,length_nil];omega)).trans ((an _ h' _ l1).trans b1);rw[S0]at hc;refine⟨⟨kk.bS aB qZ _ _ ⟨[nb h 7],rfl,λy hy=>by simp at hy;rw[hy];exact aB⟩,(bP qZ Z n0 _ _).trans g0,(bP qZ Z n1 _ _).trans g1,v2,o2.2.2.2.2.1 _ _,Rh.bS qZ (Rh.gz (SX []) Z) _ _,?_,sc2⟩,Z⟩;exact Rh.gz (SX []) Z
  .rw[aq hc]at hw;subst hw;have l1:nb h 1<h'.length:=ag b1;have g1:aj h2 (nb h 1)=_:=(k2.get _ (by simp only[bV,length_cons,length_nil];omega)).trans ((an _ h' _ l1).trans b1);have n1:nb h 1≠nb h 7:=by rw[ne_eq,gG];omega
   have g1':=λl x=>(bP qZ Z n1 l x).trans g1
   have o3:=λx=>bg (h:=aQ h2 (nb h 7) x) (b:=nb h 1) (by rw[bJ qZ];omega)
   refine aW (Z4 SX o2 g1' o3) ?_;have kk:aY ⟨h,lg,d⟩ ⟨h2,dx,d⟩:=((k.trans (aH aL)).trans k2).sub (d:=d);have k7:aY ⟨h,lg,d⟩ ⟨aR (aQ h2 (nb h 7) ((aO 3 [[Eu 0,Eu 0,.aF]]))) [],nb h 7::dx,d⟩:=kk.bS aB qZ _ _ ⟨[nb h 7],rfl,λy hy=>by simp at hy;rw[hy];exact aB⟩;have k1:=k7.bS (b:=nb h 1) aB (by rw[bV,bJ qZ];simp;omega) ((aO 3 [[Eu 0,Eu 0,.aF]])) [] ⟨[nb h 1],rfl,λy hy=>by simp at hy;rw[hy];exact aB⟩;refine⟨k1,xA.err ?_ aZ⟩;have f1:=tH sz0 (i+1);have f2:=iW pr0;have st:du (S.held.take (i+1))=du (S.held.take i)+eS (gt S.held i):=by
    rw[du,du,map_take,map_take,nB (by simpa using hi)];rw[bB (by simpa using hi),getElem_map,bB hi]
   rw[S0]at hc;have f3:du (S.held.take (i+1))=dS ((S.held.map eS).take (i+1)):=by rw[du,map_take]
   rw[jf,aq Z,aq Z,aG (by rw[pT,du];omega)]
 .obtain⟨h',bq,d'⟩:=m';obtain⟨⟨k,b0,b1,v',b7,sv,rv,sc⟩,hq⟩:=hP;obtain rfl:d'=[]:=k.aV;simp only at b0 b1 b7 sv;rw[take_length]at b7 hq;have r:=cY S.held.length;have rH:nb h 0<h'.length:=ag b0;have yG:∀l,aj (aR h' l) (nb h 0)=(aO 8 [[Ei S.node,Eu S.C2,Ei S.dF.n,Eu S.dF.s,Ei S.dF.o,b,ms,v]]):=λl=>(an l h' _ rH).trans b0
  refine bH ?_;refine aW (Z3 r yG l2) ?_;refine dV l.length [X58] (λi=>[Ei i]) (λi m'=>Rnd h lg [Ei S.node,Eu S.C2,Ei S.dF.n,Eu S.dF.s,Ei S.dF.o,b,ms,v] q (du S.held) (iq S.bM i) m'/\du S.held+dS (iq S.bM i)<=q) (by have:=H.w3;omega) aX ⟨rfl,⟨k,b0,b1,v',b7,sv,rv,sc⟩,by show _+dS oc<=_;rw[show dS oc=0 from rfl];omega⟩ (λi m' g hi hP=>?_) (λm' g hP=>?_)
  .obtain⟨h3,dH,d3⟩:=m';obtain⟨⟨k3,b0,b1,v3,b7,Nm,rv3,sc3⟩,UG⟩:=hP;obtain rfl:d3=[]:=k3.aV;simp only at b0 b1 b7 Nm;have GD:df h3 v l:=df.bw (m:=⟨h,lg,[]⟩) (m':=⟨h3,dH,[]⟩) H.p k3;have e:=GD.v.el hi;have r:=fh hi (by have:=H.w3;omega);have hx:=GD.p _ (bA hi);have hc:=hp _ (bA hi);have g1:=λl lg d=>AjK j _ _ _ _ ⟨aR h3 l,lg,d⟩ (hx.bx l) hc.1 hc.2.1 hc.2.2.t hc.2.2.f hc.2.2.o
   have d1:=hx.s.s.sc;have d2:=hx.r.t.sc;have d3:=hx.r.k.sc;have lV:i<S.bM.length:=by rw[H.e,length_map];exact hi
   have x1:gt S.bM i=(gt l i).p:=by rw[H.e];exact mQ hi
   have pv:=mS e1 i lV;rw[x1]at pv;have nd:=lH pv.1;obtain⟨kk,Ub,My⟩:∃k:Nat,(gt l i).p.node=(k:Int)+1/\k<16:=⟨((gt l i).p.node-1).toNat,Z,Z⟩;have hb7:nb h 7<h3.length:=ag b7;have Xw:∀l,aj (aR h3 l) (nb h 7)=(aO 3 [[Eu q,Eu (du S.held),v3]]):=λl=>(an l h3 _ hb7).trans b7
   have s0:0<=du S.held:=iW sz0;have hx0:=vU hc.2.2;unfold wh dc at e;unfold dc at g1;simp only[Ub]at e g1;refine bH ?_;refine aW (Z7 e r g1 Xw d1 d2 d3) ?_;rw[<-fZ];refine fK (AjY j (n+999) (aR h3 [(aO 13 [[Ei ((kk:Int)+1),Eu (gt l i).p.nu,.bool (decide ((gt l i).p.Md=true)),Eu (gt l i).p.mX,Eu (gt l i).p.send.g,Eu (gt l i).p.send.n,Eu (gt l i).p.send.r,(gt l i).s,Eu (gt l i).p.recv.g,Eu (gt l i).p.recv.r,Eu (gt l i).p.recv.f,(gt l i).t,(gt l i).k]])]) _ _ (q:=q) (s:=du S.held) (x:=(jC (gt l i).p).1) (k:=kk) (v:=v3) (R:=iq S.bM i) My (Nm.bx _) (iS _ _) (sF Ak i Z) s0 UG Z Z Z) (λw h2 dx k2 hw=>?_);have E7:h3.length+1<=h2.length:=by have:=k2.len;simp only[bV,length_cons,length_nil]at this;omega
   have qZ:nb h 7<h2.length:=Z;have o2:=bg qZ;have SX:∀l,aj (aR h2 l) (nb h 7)=(aO 3 [[Eu q,Eu (du S.held),v3]]):=λl=>(an l h2 _ qZ).trans ((k2.get _ (by simp only[bV,length_cons,length_nil];omega)).trans (Xw _))
   have lb1:nb h 1<h3.length:=ag b1;have n1:nb h 1≠nb h 7:=by rw[ne_eq,gG];omega
   have g1:aj h2 (nb h 1)=_:=(k2.get _ (by simp only[bV,length_cons,length_nil];omega)).trans ((an _ h3 _ lb1).trans b1);have rs:iq S.bM (i+1)=(iq S.bM i).set kk (gt (iq S.bM i) kk+(jC (gt l i).p).1):=by
    rw[iq,x1,Ub,show((kk:Int)+1-1).toNat=kk by omega]
   have ss:dS (iq S.bM (i+1))=dS (iq S.bM i)+(jC (gt l i).p).1:=by rw[rs,Cs _ _ _ (by rw[iS];exact My)]
   by_cases hc:du S.held+(jC (gt l i).p).1+dS (iq S.bM i)<=q
   .rw[aG hc]at hw;obtain⟨v2,rfl,Rh⟩:=hw;have sc2:=Rh.sc;refine aW (Z4 r SX sc2 o2) ?_;have kk2:aY ⟨h,lg,[]⟩ ⟨h2,dx,[]⟩:=(k3.trans (aH aL)).trans k2;have n0:nb h 0≠nb h 7:=by rw[ne_eq,gG];omega
    have l0:nb h 0<h3.length:=ag b0;have g0:aj h2 (nb h 0)=_:=(k2.get _ (by simp only[bV,length_cons,length_nil];omega)).trans ((an _ h3 _ l0).trans b0);rw[<-rs]at Rh;refine⟨⟨kk2.bS aB qZ _ _ ⟨[nb h 7],rfl,λy hy=>by simp at hy;rw[hy];exact aB⟩,(bP qZ Z n0 _ _).trans g0,(bP qZ Z n1 _ _).trans g1,v2,o2.2.2.2.2.1 _ _,Rh.bS qZ (Rh.gz (SX []) Z) _ _,?_,sc2⟩,Z⟩;exact Rh.gz (SX []) Z
   .rw[aq hc]at hw;subst hw;have g1':=λl x=>(bP qZ Z n1 l x).trans g1
    have o3:=λx=>bg (h:=aQ h2 (nb h 7) x) (b:=nb h 1) (by rw[bJ qZ];omega)
    refine aW (Z4 SX o2 g1' o3) ?_;have kk:aY ⟨h,lg,d⟩ ⟨h2,dx,d⟩:=((k3.trans (aH aL)).trans k2).sub (d:=d);have k7:aY ⟨h,lg,d⟩ ⟨aR (aQ h2 (nb h 7) ((aO 3 [[Eu 0,Eu 0,.aF]]))) [],nb h 7::dx,d⟩:=kk.bS aB qZ _ _ ⟨[nb h 7],rfl,λy hy=>by simp at hy;rw[hy];exact aB⟩;have k1:=k7.bS (b:=nb h 1) aB (by rw[bV,bJ qZ];simp;omega) ((aO 3 [[Eu 0,Eu 0,.aF]])) [] ⟨[nb h 1],rfl,λy hy=>by simp at hy;rw[hy];exact aB⟩;refine⟨k1,xA.err ?_ aZ⟩;have f1:=vV (oJ e1) (i+1) lV;have f2:=tH pr0 (i+1);rw[jf,aq Z,aq Z,aG (by rw[pT];omega)]
  .obtain⟨h3,dH,d3⟩:=m';obtain⟨⟨k3,b0,b1,v3,b7,Nm,rv3,sc3⟩,UG⟩:=hP;obtain rfl:d3=[]:=k3.aV;simp only at b0 b1 b7 Nm;have r:=cY l.length;have hb7:nb h 7<h3.length:=ag b7;have Xw:∀l,aj (aR h3 l) (nb h 7)=(aO 3 [[Eu q,Eu (du S.held),v3]]):=λl=>(an l h3 _ hb7).trans b7
   have Kn:∀l,aj (aR h3 l) (nb h 1)=(aO 3 [[Eu 0,Eu 0,.aF]]):=λl=>(an l h3 _ (ag b1)).trans b1
   have o:=bg (ag b1);refine bH ?_;refine aW (Z5 r Xw Kn sc3 o) ?_;have k1:=(k3.sub (d:=d)).bS (b:=nb h 1) aB (ag b1) ((aO 3 [[Eu q,Eu (du S.held),v3]])) [] ⟨[nb h 1],rfl,λy hy=>by simp at hy;rw[hy];exact aB⟩;refine⟨k1,?_⟩;have hl:l.length=S.bM.length:=by rw[H.e,length_map]
   have f1:=vV (oJ e1) l.length Z;rw[hl,<-(length_map (λp=>(jC p).1):(S.bM.map λp=>(jC p).1).length=S.bM.length),take_length,length_map]at f1;rw[hl]at UG Nm;exact xA.ok (by rw[jf,aq Z,aq Z,aq (by rw[pT];omega)]) (Nm.bS (ag b1) (Nm.gz b1 Z) _ _) (iS _ _) (sF Ak _ cB) (by rw[pT];omega)
end
section
variable{F:FuncId->Option bD}{au:bR}{sm:ct}
theorem AfL(q s:Int)(v:AV)(R:List Int)(m:Mem)(hv:aT m.ah 1 v (R.map kU))(hl:R.length=16)(h0:(∀x∈R,0<=x))(s0:0<=s)(hq:q<=1099511627776)(q_:281<=j:=by omega):SM j 149 [.agg [Eu q,Eu s,v]] m=some (Ei (if q<s+dS R then 5 else 0),m):=by
 obtain⟨h,lg,d⟩:=m;refine aP 1999 q_ λn=>?_
 have lv:=hv.len;have c1:=hv.sc;have q1:(1099511627776<q)=False:=by simp;omega
 have i16:((16:Nat):Int)=16:=rfl;have hp:=iW h0;refine aW (Z5 lv c1 hl i16 q1) ?_;refine⟨λe1=>by rw[aG Z],λe1=>?_⟩;have w1:u64.wrap (q-s)=q-s:=dB Z Z;rw[w1];refine bL R.length [X4,X3] (λi=>[Ei i,Eu (q-s-dS (R.take i))]) (λi=>0<=q-s-dS (R.take i)) Z aX ⟨by simp[dL,dS],by simp[dS];omega⟩ (λi h' bq g hi hP hK=>?_) (λh' bq g hP hK=>?_)
 .have a:=hK.aA lg d;have e:=(hK.sl hv).el hi;have r:=fh hi Z;have st:=nB hi;have b1:=tH h0 (i+1);have b0:=tH h0 i;have x0:0<=gt R i:=h0 _ (bA hi);rw[hl,i16]at r;unfold kU at e;refine aW (Z6 a e r lv hl i16) ?_;refine⟨λq2=>?_,λq2=>?_⟩
  .have z:q<s+dS R:=Z;rw[aG z]
  rw[dB Z Z];exact⟨Z,Z⟩
 .have a:=hK.aA lg d;have r:=cY R.length;rw[hl,i16]at r;rw[take_length]at hP;refine aW (Z5 a r lv hl i16) ?_;rw[aq Z]
end
section
variable{F:FuncId->Option bD}{au:bR}{sm:ct}
structure Rn2(h:aN)(lg:List Nat)(st:List AV)(q s:Int)(R:List Int)(m:Mem):Prop where
 k:aY ⟨h,lg,[]⟩ m
 b0:aj m.ah (nb h 0)=(aO 8 [st])
 b1:aj m.ah (nb h 1)=(aO 3 [[Eu 0,Eu 0,.aF]])
 b3:aj m.ah (nb h 3)=(aO 1 (R.map kU))
 b4:aj m.ah (nb h 4)=(aO 3 [[Eu q,Eu s,.slice (nb h 3) 0 16 (some 16)]])
theorem SY{R:List Int}{k:Nat}(hk:k<R.length):(R.map kU)[k]?=some [Eu (gt R k)]:=by
 rw[getElem?_map,getElem?_eq_getElem hk,bB hk];rfl
theorem SZ(R:List Int)(k:Nat)(x:Int):(R.map kU).set k [Eu x]=(R.set k x).map kU:=by
 rw[map_set];rfl
theorem Ct{ps:List dT}{k:Nat}(hk:k<16):∀i,(∀j,j<i->((gt ps j).node-1).toNat≠k)->gt (iq ps i) k=0
 |0,_=>by
  have:∀k,k<16->gt oc k=0:=aZ;exact this k hk
 |i+1,h=>by
  rw[iq,gt,getD_eq_getElem?_getD,getElem?_set_ne (h i Z),<-getD_eq_getElem?_getD];exact Ct hk i λj hj=>h j Z
theorem Cu{S:je}(h:d8 S=0):∀i,i<S.bM.length->∀j,j<i->(gt S.bM j).node<(gt S.bM i).node
 |0,_,j,hj=>Z
 |i+1,hi,j,hj=>by
  have h1:=(mS h (i+1) hi).2 Z;rw[Nat.add_sub_cancel]at h1;rcases Nat.lt_or_ge j i with h2|h2
  .have:=Cu h i Z j h2;omega
  .rw[show j=i by omega];exact h1
theorem vW(l:List fR):0<=du l/\du l<=l.length*1099511627776:=by
 induction l with
 |nil=>simp[du,dS]
 |cons x l ih=>
  have:=sD x;simp only[du,map_cons,dS,length_cons]at ih|-;omega
theorem GF{l:List fR}{i:Nat}(hi:i<l.length):du (l.take (i+1))=du (l.take i)+eS (gt l i):=by
 rw[du,du,map_take,map_take,nB (by simpa using hi)];rw[bB (by simpa using hi),getElem_map,bB hi]
theorem N93(lg d:List Nat)(S:je)(b ms v:AV)(l:List PX)(q:Int)(H:mP h S b ms v l)(Q3:0<=q)(vp:∀x∈S.held,0<=x.id.s)(hp:∀x∈l,PN x.p)(q_:281<=j:=by omega):Wa FT MT (SM j) (n+2000) (.fn 93) [.agg (mf S b ms v),Eu q] ⟨aR h [],lg,d⟩ (Qk ⟨h,lg,d⟩ (xA S q)):=by
 refine aI ?_;have c1:=H.b.sc;have c2:=H.m.sc;have c3:=H.p.v.sc;have g1:=λq lg d=>AfC j S b ms v l ⟨aR h q,lg,d⟩ (H.bx q)
 unfold mf at g1;refine aW (Z7 @mf.eq_1 c1 c2 c3 g1 @mZ (@aJ 147 _ rfl aZ)) ?_;refine⟨λe1=>?_,λe1=>⟨λe2=>?_,λe2=>?_⟩⟩
 .exact xA.err (by rw[jf,aG Z]) Z
 .exact xA.err (by rw[jf,aq Z,aG Z]) aZ
 have e1:d8 S=0:=Z;have Ak:∀p∈S.bM,PN p:=λp hx=>by rw[H.e]at hx;obtain⟨y,hy,rfl⟩:=mem_map.1 hx;exact hp y hy
 have sz0:∀x∈S.held.map eS,(0:Int)<=x:=λx hx=>by obtain⟨y,_,rfl⟩:=mem_map.1 hx;exact(sD y).1
 have pr0:∀x∈S.bM.map (λp=>(jC p).1),(0:Int)<=x:=λx hx=>by obtain⟨y,hy,rfl⟩:=mem_map.1 hx;exact(vU (Ak y hy)).1
 refine dV S.held.length [X8] (λi=>[Ei i]) (λi m'=>Rn2 h lg [Ei S.node,Eu S.C2,Ei S.dF.n,Eu S.dF.s,Ei S.dF.o,b,ms,v] q (du (S.held.take i)) oc m') (by have:=H.w1;omega) aX ⟨rfl,aH aL,bj,bj,bj,bj⟩ (λi m' g hi hP=>?_) (λm' g hP=>?_)
 .obtain⟨h',bq,d'⟩:=m';obtain⟨k,b0,b1,b3,b4⟩:=hP;obtain rfl:d'=[]:=k.aV;simp only at b0 b1 b3 b4;have sl:aT h' 9 b (S.held.map dt):=aT.bw (m:=⟨h,lg,[]⟩) (m':=⟨h',bq,[]⟩) H.b k;have e:=sl.el hi;have r:=fh hi (by have:=H.w1;omega);have C5:nb h 4<h'.length:=ag b4;have o:=bg C5;have u:=H.d _ (bA hi);have g1:=λm=>E95 j (gt S.held i) m (vp _ (bA hi)) u.1 u.2
  have z:=sD (gt S.held i);have w:u64.wrap (eS (gt S.held i))=eS (gt S.held i):=dB Z Z;have yG:∀l,aj (aR h' l) (nb h 0)=_:=λl=>(an l h' _ (ag b0)).trans b0
  have b4':∀l,aj (aR h' l) (nb h 4)=_:=λl=>(an l h' _ C5).trans b4
  have Nn:=sl.len;unfold dt at e g1;refine bH ?_;refine aW (Z8 e r g1 w yG b4' o Nn) ?_;have q1:=vW (S.held.take (i+1));have q2:=GF hi;have q3:(S.held.take (i+1)).length<=1000:=by rw[length_take];have:=H.w1;omega
  rw[<-q2,dB Z Z];have n0:nb h 0≠nb h 4:=by rw[ne_eq,gG];omega
  have n1:nb h 1≠nb h 4:=by rw[ne_eq,gG];omega
  have n3:nb h 3≠nb h 4:=by rw[ne_eq,gG];omega
  exact⟨k.bS aB C5 _ _ ⟨[nb h 4],rfl,λy hy=>by simp at hy;rw[hy];exact aB⟩,(bP C5 (ag b0) n0 _ _).trans b0,(bP C5 (ag b1) n1 _ _).trans b1,(bP C5 (ag b3) n3 _ _).trans b3,o.2.2.2.2.1 _ _⟩
 .obtain⟨h',bq,d'⟩:=m';obtain⟨k,b0,b1,b3,b4⟩:=hP;obtain rfl:d'=[]:=k.aV;simp only at b0 b1 b3 b4;rw[take_length]at b4;have sl:aT h' 9 b (S.held.map dt):=aT.bw (m:=⟨h,lg,[]⟩) (m':=⟨h',bq,[]⟩) H.b k;have Nn:=sl.len;have r:=cY S.held.length;have yG:∀l,aj (aR h' l) (nb h 0)=_:=λl=>(an l h' _ (ag b0)).trans b0
  refine bH ?_;refine aW (Z3 r yG Nn) ?_;refine dV l.length [wJ] (λi=>[Ei i]) (λi m'=>Rn2 h lg [Ei S.node,Eu S.C2,Ei S.dF.n,Eu S.dF.s,Ei S.dF.o,b,ms,v] q (du S.held) (iq S.bM i) m') (by have:=H.w3;omega) aX ⟨rfl,k,b0,b1,b3,b4⟩ (λi m' g hi hP=>?_) (λm' g hP=>?_)
  .obtain⟨h3,dH,d3⟩:=m';obtain⟨k3,b0,b1,b3,b4⟩:=hP;obtain rfl:d3=[]:=k3.aV;simp only at b0 b1 b3 b4;have GD:df h3 v l:=df.bw (m:=⟨h,lg,[]⟩) (m':=⟨h3,dH,[]⟩) H.p k3;have e:=GD.v.el hi;have Mz:=GD.v.len;have r:=fh hi (by have:=H.w3;omega);have hx:=GD.p _ (bA hi);have hc:=hp _ (bA hi);have g1:=λl lg d=>AjL j _ _ _ _ ⟨aR h3 l,lg,d⟩ (hx.bx l) hc.t hc.f hc.o
   have lV:i<S.bM.length:=by rw[H.e,length_map];exact hi
   have x1:gt S.bM i=(gt l i).p:=by rw[H.e];exact mQ hi
   have pv:=mS e1 i lV;rw[x1]at pv;have nd:=lH pv.1;have g0:(jC (gt l i).p).2=0:=SW pv.1;obtain⟨kk,Ub,My⟩:∃k:Nat,(gt l i).p.node=(k:Int)+1/\k<16:=⟨((gt l i).p.node-1).toNat,Z,Z⟩;have o:=bg (ag b3);have yG:∀l,aj (aR h3 l) (nb h 0)=_:=λl=>(an l h3 _ (ag b0)).trans b0
   have b3':∀l,aj (aR h3 l) (nb h 3)=_:=λl=>(an l h3 _ (ag b3)).trans b3
   have b4':∀l,aj (aR h3 l) (nb h 4)=_:=λl=>(an l h3 _ (ag b4)).trans b4
   have n3:i64.wrap ((kk:Int)+1-1)=(kk:Int):=by rw[aU Z Z];omega
   have rw3:=SY (R:=iq S.bM i) (k:=kk) (by rw[iS];exact My);have rw4:=SZ (iq S.bM i) kk;have k16:decide (kk<16)=true:=decide_eq_true My;unfold wh dc at e;unfold dc at g1;simp only[Ub,g0]at e g1;refine bH ?_;refine aW (gX e r g1 yG b3' b4' o Mz n3 rw3 rw4 k16) ?_;have rz:gt (iq S.bM i) kk=0:=Ct My i λj hj=>by
    have h1:=Cu e1 i lV j hj;have h2:=oJ e1 (gt S.bM j) (bA Z);rw[x1,Ub]at h1;omega
   have rs:iq S.bM (i+1)=(iq S.bM i).set kk (jC (gt l i).p).1:=by
    rw[iq,x1,Ub,show((kk:Int)+1-1).toNat=kk by omega,rz,Int.zero_add]
   rw[rs];have n0:nb h 0≠nb h 3:=by rw[ne_eq,gG];omega
   have n1:nb h 1≠nb h 3:=by rw[ne_eq,gG];omega
   have n4:nb h 4≠nb h 3:=by rw[ne_eq,gG];omega
   exact⟨k3.bS aB (ag b3) _ _ ⟨[nb h 3],rfl,λy hy=>by simp at hy;rw[hy];exact aB⟩,(bP (ag b3) (ag b0) n0 _ _).trans b0,(bP (ag b3) (ag b1) n1 _ _).trans b1,o.2.2.2.2.1 _ _,(bP (ag b3) (ag b4) n4 _ _).trans b4⟩
  .obtain⟨h3,dH,d3⟩:=m';obtain⟨k3,b0,b1,b3,b4⟩:=hP;obtain rfl:d3=[]:=k3.aV;simp only at b0 b1 b3 b4;have GD:df h3 v l:=df.bw (m:=⟨h,lg,[]⟩) (m':=⟨h3,dH,[]⟩) H.p k3;have Mz:=GD.v.len;have r:=cY l.length;have o:=bg (ag b1);have yG:∀l,aj (aR h3 l) (nb h 0)=_:=λl=>(an l h3 _ (ag b0)).trans b0
   have Kn:∀l,aj (aR h3 l) (nb h 1)=_:=λl=>(an l h3 _ (ag b1)).trans b1
   have b4':∀l,aj (aR h3 l) (nb h 4)=_:=λl=>(an l h3 _ (ag b4)).trans b4
   have g3:=λl' lg d=>AfL j q (du S.held) (.slice (nb h 3) 0 16 (some 16)) (iq S.bM l.length) ⟨aR h3 l',lg,d⟩ (.some (nb h 3) 0 (some 16) true _ (by rw[length_map,iS]) ((an l' h3 _ (ag b3)).trans b3) (by rw[drop_zero,take_length]) (λk hk=>by cases hk;rw[length_map,iS];exact Nat.le_refl 16)) (iS _ _) (sF Ak _ (by rw[H.e,length_map];exact cB)) (vW _).1 Z
   refine bH ?_;refine aW (Z7 r yG Kn b4' o Mz g3) ?_;have hl:l.length=S.bM.length:=by rw[H.e,length_map]
   have f1:=vV (oJ e1) l.length Z;rw[hl,<-(length_map (λp=>(jC p).1):(S.bM.map λp=>(jC p).1).length=S.bM.length),take_length,length_map]at f1;rw[hl];have k1:=λx=>(k3.sub (d:=d)).bS (b:=nb h 1) aB (ag b1) x [] (dx:=nb h 1::dH) ⟨[nb h 1],rfl,λy hy=>by simp at hy;rw[hy];exact aB⟩
   have sp:jf S q=if q<du S.held+dS (iq S.bM S.bM.length)then 5 else 0:=by
    rw[jf,aq Z,aq Z,pT,f1]
   rw[<-sp];have n13:nb h 3≠nb h 1:=by rw[ne_eq,gG];omega
   refine⟨λq1=>⟨k1 _,xA.err (by rw[sp]at q1|-;split at q1<;>first|omega|(rename_i z;rw[aG z])) aZ⟩,λq1=>⟨k1 _,xA.ok q1 (.some (nb h 3) 0 (some 16) true _ (by rw[length_map,iS]) ((bP (ag b1) (ag b3) n13 _ _).trans b3) (by rw[drop_zero,take_length]) (λk hk=>by cases hk;rw[length_map,iS];exact Nat.le_refl 16)) (iS _ _) (sF Ak _ (by rw[hl];exact cB)) (by rw[hl,pT];omega)⟩⟩
end
section
variable{F:FuncId->Option bD}{au:bR}{sm:ct}
def mx(a b:Int):Int:=if a<b then b else a
def mn(a b:Int):Int:=if b<a then b else a
def ovl(x:Int×Int)(o e:Int):Int:=if mx x.1 o<mn x.2 e then mn x.2 e-mx x.1 o else 0
def cov(x:Int×Int)(o e:Int):Prop:=mx x.1 o=o/\mn x.2 e=e
instance Amj(x:Int×Int)(o e:Int):Decidable (cov x o e):=by unfold cov;infer_instance
def S1(l:List (Int×Int))(o e:Int):Int:=dS (l.map λx=>ovl x o e)
def Ko(f o e:Int):Int:=if o<f then mn f e-o else 0
def PE(R:iJ)(o s:Int):Int×Int:=
 if s=0 then(0,2)else if R.g-R.r<o\/R.g-R.r-o<s then(0,14)
 else if∃x∈R.cH,cov x o (o+s)then(1,0)
 else if Ko R.f o (o+s)+S1 R.cH o (o+s)=0 then(2,0)else if Ko R.f o (o+s)+S1 R.cH o (o+s)=s then(1,0)else(3,0)
end
section
variable{F:FuncId->Option bD}{au:bR}{sm:ct}
theorem MC(y:kF):hH (gW y)=[]:=rfl
theorem Iy(l:List kF):gh (l.map gW)=[]:=by
 induction l with
 |nil=>rfl
 |cons y l ih=>rw[map_cons,gh,ih];rfl
theorem Aj0(lg d:List Nat){l:List kF}{v:AV}(hv:aT h 5 v (l.map gW))(ov:kS v)(hw:l.length<=1000)(q_:0<=j:=by omega):Wa FT MT (SM j) (n+1000) (.fn 267) [v] ⟨aR h [],lg,d⟩ (Qk ⟨h,lg,d⟩ λw h'=>aT h' 5 w (l.map gW)/\kS w):=by
 refine aI ?_;rcases hv.Pz ov with⟨ht,rfl⟩|⟨ht,rfl⟩|⟨ht,b,i,c,rfl⟩|⟨y,ys,b,i,c,bS,bI,ht,rfl,hb,Y1,Za⟩
 .refine aW (Z3 @mZ ht @kS.eq_1) ?_;exact .none rfl (.inl rfl)
 .refine aW (Z3 @mZ ht @kS.eq_1) ?_;exact .none rfl (.inr (.inl rfl))
 .refine aW (Z3 @mZ ht @kS.eq_1) ?_;exact .none rfl (.inr (.inl rfl))
 .have sz:(ys.length+1)*40<=1000000000000:=by rw[ht,length_cons]at hw;omega
  refine aW (Z9 @mZ ht @kS.eq_1 hb Y1 Za sz @MC @Iy) ?_;exact .some (nb h 0) 0 none true _ (by simp) (by rw[bj];rfl) (by simp[take_of_length_le]) (λ_ h=>by cases h)
end
section
variable{F:FuncId->Option bD}{au:bR}{sm:ct}
theorem MD(mD:Bool)(rd gu:List Nat)(h:aN)(bU:Nat)(T:Tr)(k:Nat)(x:bE):Ro mD rd gu h bU T (.Ba k x)=afa k (cP T x):=by cases mD<;>rfl
theorem Xx(mD:Bool)(rd gu:List Nat)(h:aN)(bU:Nat)(T:Tr)(a:Bool)(n:Nat)(x:bE):Ro mD rd gu h bU T (.load a n x)=cond mD (H8 (aj h) a n (cP T x)) (H8 (λb=>cond (ins rd b&&!ins gu b) (aj h b) none) a n (cP T x)):=by cases mD<;>rfl
theorem aY.Aj1{h h2:aN}{l0:List (Option bp)}{dx d d2:List Nat}(k:aY ⟨aR h l0,[],d⟩ ⟨h2,dx,d2⟩){j:Nat}(hj:j<l0.length):ins dx (nb h j)=false:=by
 cases hq:ins dx (nb h j)with
 |false=>rfl
 |true=>
  obtain⟨q,h1,h2⟩:=k.hU;simp only[append_nil]at h1 h2;subst h1;have:=h2 _ ((oG _ _).1 hq);rw[bV,nb]at this;omega
theorem aY.lg{a b:aN}{l x y:List Nat}(k:aY ⟨a,[],x⟩ ⟨b,l,y⟩)(L d:List Nat):aY ⟨a,L,d⟩ ⟨b,l++L,d⟩where
 len:=k.len
 get:=k.get
 aV:=rfl
 hU:=by
  obtain⟨q,h1,h2⟩:=k.hU;simp only[append_nil]at h1;subst h1;exact⟨_,rfl,h2⟩
end
section
variable{F:FuncId->Option bD}{au:bR}{sm:ct}
end
section
variable{F:FuncId->Option bD}{au:bR}{sm:ct}
theorem A2{S:jt}(h:(ji S).1=0):S.r<=S.g/\S.n<=S.g-S.r/\S.g<=1125899906842624/\S.bN.length<=100/\first (kX S) S.bN.length=0:=by
 rw[ji]at h;split at h
 .cases h
 .split at h
  .cases h
  .split at h
   .cases h
   .exact⟨Z,Z,Z,Z,h⟩
theorem Aj2(lg d:List Nat){S:jt}{s:AV}(H:jS h S s)(os:kS s)(hr:(ji S).1=0)(q_:59<=j:=by omega):Wa FT MT (SM j) (n+1500) (.fn 205) [.agg (eG S s)] ⟨aR h [],lg,d⟩ (Qk ⟨h,lg,d⟩ λw h'=>∃s',s'.cU=true/\w=.tuple [.agg (eG S s'),Ei 0]):=by
 refine aI ?_;have c1:=H.s.sc;have q:=A2 hr;have g1:=λl lg d=>Afy j S s ⟨aR h l,lg,d⟩ (H.bx l)
 rw[hr]at g1;unfold eG at g1;refine aW (Z3 @eG.eq_1 c1 g1) ?_;rw[<-fZ];refine fK (Aj0 j (n+499) (aR h [(aO 4 [[Eu S.g,Eu S.n,Eu S.r,s]]),(aO 4 [[Eu 0,Eu 0,Eu 0,.aF]])]) _ _ (H.s.bx _) os Z) (λw1 h2 dx k2 Jt=>?_);have sc1:=Jt.1.sc;have ce1:=Jt.1.cells;have z0:aj h2 (nb h 0)=(aO 4 [[Eu S.g,Eu S.n,Eu S.r,s]]):=(k2.get _ (by rw[bV];simp[nb])).trans bj;have z1:aj h2 (nb h 1)=(aO 4 [[Eu 0,Eu 0,Eu 0,.aF]]):=(k2.get _ (by rw[bV];simp[nb])).trans bj;have b0:∀l,aj (aR h2 l) (nb h 0)=(aO 4 [[Eu S.g,Eu S.n,Eu S.r,s]]):=λl=>(an l h2 _ (ag z0)).trans z0
 have Xy:nb h 1≠nb h 0:=by rw[ne_eq,gG];omega
 have b1:∀l x,aj (aR (aQ h2 (nb h 0) x) l) (nb h 1)=(aO 4 [[Eu 0,Eu 0,Eu 0,.aF]]):=λl x=>(bP (ag z0) (ag z1) Xy l x).trans z1
 have o:=bg (ag z0);have o1:=λx=>bg (h:=aQ h2 (nb h 0) x) (b:=nb h 1) (by rw[bJ (ag z0)];exact ag z1)
 refine aW (Z7 b0 b1 o o1 sc1 ce1 @mZ) ?_;have k0:aY ⟨h,lg,d⟩ ⟨h2,dx,d⟩:=(aH aL).trans k2.sub;have ka:=λx=>k0.bS (b:=nb h 0) aB (ag z0) x [] (dx:=nb h 0::dx) ⟨[nb h 0],rfl,λy hy=>by simp at hy;rw[hy];exact aB⟩
 have kb:=λx y=>(ka x).bS (b:=nb h 1) aB (by rw[bV,bJ (ag z0)];exact ag z1) y [] (dx:=nb h 1::nb h 0::dx) ⟨[nb h 1],rfl,λy hy=>by simp at hy;rw[hy];exact aB⟩
 exact⟨kb _ _,w1,sc1,rfl⟩
theorem Aj3(S:jt)(s:AV)(m:Mem)(H:jS m.ah S s)(os:kS s)(hr:(ji S).1=0)(q_:173<=j:=by omega):SM j 140 [.agg (eG S s)] m=some (.tuple [Eu (S.g-S.n-S.r),Ei 0],m):=by
 obtain⟨h,lg,d⟩:=m;refine aP 1999 q_ λn=>?_
 have c1:=H.s.sc;have q:=A2 hr;have w1:u64.wrap (S.g-S.n)=S.g-S.n:=dB (by have:=H.g0;omega) (by have:=H.n0;omega);have w2:u64.wrap (S.g-S.n-S.r)=S.g-S.n-S.r:=dB Z (by have:=H.n0;have:=H.g0;omega);refine aW (Z2 @eG.eq_1 c1) ?_;rw[<-fZ];refine fK (Aj2 172 (n+499) (aR h [(aO 4 [[Eu S.g,Eu S.n,Eu S.r,s]])]) _ _ (H.bx _) os hr) (λw h2 dx k2 hw=>?_);obtain⟨s',sc,rfl⟩:=hw;refine aW (Z5 @eG.eq_1 sc w1 w2 (@aJ 206 _ rfl aZ)) ?_;exact((aH aL).trans k2.sub).trans (aH aL)
theorem E91(S:jt)(s:AV)(m:Mem)(H:jS m.ah S s)(hr:(ji S).1=0)(q_:270<=j:=by omega):SM j 91 [.agg (eG S s)] m=some (.tuple [Eu (S.g-S.n-S.r),Ei 0],m):=by
 obtain⟨h,lg,d⟩:=m;refine aP 1999 q_ λn=>?_
 have c1:=H.s.sc;have q:=A2 hr;have w1:u64.wrap (S.g-S.n)=S.g-S.n:=dB (by have:=H.g0;omega) (by have:=H.n0;omega);have w2:u64.wrap (S.g-S.n-S.r)=S.g-S.n-S.r:=dB Z (by have:=H.n0;have:=H.g0;omega);have w3:u64.wrap (S.g-S.r)=S.g-S.r:=dB (by have:=H.g0;omega) (by have:=H.n0;have:=H.g0;omega);have w4:u64.wrap (S.g-S.r-S.n)=S.g-S.n-S.r:=by rw[dB Z (by have:=H.n0;have:=H.g0;omega)];omega
 have g1:=λl lg d=>Xq 269 S s ⟨aR h l,lg,d⟩ (H.bx l)
 rw[hr]at g1;unfold eG at g1;exact aC (Z6 @eG.eq_1 c1 g1 w1 w2 (@aJ 146 _ rfl aZ))
end
section
variable{F:FuncId->Option bD}{au:bR}{sm:ct}
def AfM(R:iJ)(o s:Int):Int×Int:=
 if s=0 then(0,2)else if R.g-R.r<s\/R.g-R.r-s<o then(0,14)
 else if Ko R.f o (o+s)+S1 R.cH o (o+s)=s then(1,0)else if Ko R.f o (o+s)+S1 R.cH o (o+s)=0 then(2,0)else(3,0)
def AfN(R:iJ)(x:kF):Prop:=(PE R x.off x.size).2=14\/((PE R x.off x.size).2=0/\(PE R x.off x.size).1=2)
def AfO(R:iJ)(x:kF):Prop:=(AfM R x.off x.size).2≠0\/(AfM R x.off x.size).1=2
instance Amk(R:iJ)(x:kF):Decidable (AfN R x):=by unfold AfN;infer_instance
instance Aml(R:iJ)(x:kF):Decidable (AfO R x):=by unfold AfO;infer_instance
end
section
variable{F:FuncId->Option bD}{au:bR}{sm:ct}
def UH(P:dT)(bs:Int)(Q:dT)(br:Int):Prop:=Q.nu=bs/\(P.nu=br\/(P.nu<br/\¬Q.Md=true))
instance Amm(P:dT)(bs:Int)(Q:dT)(br:Int):Decidable (UH P bs Q br):=by unfold UH;infer_instance
end
section
variable{F:FuncId->Option bD}{au:bR}{sm:ct}
end
section
variable{F:FuncId->Option bD}{au:bR}{sm:ct}
end
section
variable{F:FuncId->Option bD}{au:bR}{sm:ct}
theorem A3{a b:Int}:gI a b≠0↔a≠b:=by rw[gI];(repeat' split)<;>omega
theorem E8{a b:Int}:gI a b<0↔a<b:=by rw[gI];(repeat' split)<;>omega
theorem Kt{a b:iF}:zI a b<0↔(a.n<b.n\/(a.n=b.n/\(a.s<b.s\/(a.s=b.s/\a.o<b.o)))):=by
 rw[zI];by_cases h1:gI a.n b.n≠0
 .have h:=A3.1 h1;rw[aG h1,E8];omega
 .rw[aq h1];have h1:a.n=b.n:=Classical.byContradiction λh=>h1 (A3.2 h)
  by_cases h2:gI a.s b.s≠0
  .have h:=A3.1 h2;rw[aG h2,E8];omega
  .rw[aq h2,E8];have h2:a.s=b.s:=Classical.byContradiction λh=>h2 (A3.2 h)
   omega
theorem IA{a b c:iF}(h1:zI a b<0)(h2:zI b c<0):zI a c<0:=by
 rw[Kt]at*;omega
def Aj4(l:List rZ)(x:iF):Bool:=l.any λm=>decide (m.id=x)
end
section
variable{F:FuncId->Option bD}{au:bR}{sm:ct}
def Aj5(l:List rZ)(x:iF):Bool×Int:=if first (kH l) l.length≠0 then(false,first (kH l) l.length)else(Aj4 l x,0)
def lead(c:Nat->Bool):Nat->Nat->Nat
 |0,i=>i
 |f+1,i=>if c i=true then lead c f (i+1)else i
end
section
variable{F:FuncId->Option bD}{au:bR}{sm:ct}
theorem E67(y:fR)(x:iF)(b:Nat)(bS:Bool)(m:Mem)(hb:aj m.ah b=some (.row bS 3 [gQ x]))(q_:80<=j:=by omega):SM j 67 [.agg (dt y),.ptr b 0 0] m=some (.bool (decide (y.id=x)),m):=by
 obtain⟨h,lg,d⟩:=m;refine aP 1999 q_ λn=>?_
 have kJ:=λl=>(an l h b (ag hb)).trans hb
 unfold gQ at kJ;exact aC (Z3 @dt.eq_1 kJ @vj)
theorem Aj6(l:List fR)(v:AV)(x:iF)(b:Nat)(bS:Bool)(m:Mem)(hv:aT m.ah 9 v (l.map dt))(hw:l.length<=1000)(hb:aj m.ah b=some (.row bS 3 [gQ x]))(q_:81<=j:=by omega):SM j 121 [v,.func 67 [] [.ptr b 0 0]] m=some (Ei (iP (λy=>decide (y.id=x)) 0 l),m):=by
 obtain⟨h,lg,d⟩:=m;refine aP 1999 q_ λn=>?_
 have lv:=hv.len;refine aW lv ?_;refine bL l.length [X8] (λi=>[Ei i]) (λi=>iP (λy=>decide (y.id=x)) 0 l=iP (λy=>decide (y.id=x)) i (l.drop i)) Z aX ⟨rfl,rfl⟩ (λi h' bq g hi hP hK=>?_) (λh' bq g hP hK=>?_)
 .have a:=hK.aA lg d;have e:=(hK.sl hv).el hi;have r:=fh hi Z;have g1:=λl' lg d=>E67 80 (gt l i) x b bS ⟨aR h' l',lg,d⟩ ((an l' h' b (gA (ag hb) hK.len)).trans ((hK.get b (ag hb)).trans hb))
  unfold dt at e g1;rw[drop_eq_getElem_cons hi,iP,<-bB hi]at hP;refine aW (Z4 a e r g1) ?_;exact⟨λc=>by rw[hP,aG (decide_eq_true c)],λc=>by rw[hP,aq (λq=>c (of_decide_eq_true q))]⟩
 .have a:=hK.aA lg d;have r:=cY l.length;refine aW (Z2 a r) ?_;rw[hP,drop_length];rfl
def ME(l:List fR)(x:iF):Bool:=l.any λy=>decide (y.id=x)
theorem E66(l:List fR)(v:AV)(x:iF)(b:Nat)(bS:Bool)(m:Mem)(hv:aT m.ah 9 v (l.map dt))(hw:l.length<=1000)(hb:aj m.ah b=some (.row bS 3 [gQ x]))(q_:82<=j:=by omega):SM j 66 [v,.func 67 [] [.ptr b 0 0]] m=some (.bool (decide (ME l x=true)),m):=by
 obtain⟨h,lg,d⟩:=m;refine aP 1999 q_ λn=>?_
 have g1:=λl' lg d=>Aj6 81 l v x b bS ⟨aR h l',lg,d⟩ (hv.bx l') hw ((an l' h b (ag hb)).trans hb)
 refine aW g1 ?_;exact decide_eq_decide.2 (pQ _ _ _)
def Xz(l:List jh)(b:fR):Bool:=
 match l.find? λv=>decide (v.eB.node=b.jF)with
 |some v=>(Aj5 v.st.seen b.id).1
 |none=>false
end
section
variable{F:FuncId->Option bD}{au:bR}{sm:ct}
def na(l:List jh)(x:iF):List Int:=l.filterMap λv=>if ME v.st.held x=true then some v.eB.node else none
theorem IB{l:List jh}{x:iF}{i:Nat}(hi:i<l.length):na (l.take (i+1)) x=na (l.take i) x++(if ME (gt l i).st.held x=true then[(gt l i).eB.node]else[]):=by
 rw[na,na,take_add_one,getElem?_eq_getElem hi,toList_some,filterMap_append,bB hi];congr 1;rw[filterMap_cons,filterMap_nil];split
 .rename_i h;split at h
  .cases h
  .rename_i q;rw[aq q]
 .rename_i h;split at h
  .rename_i q;cases h;rw[aG q]
  .cases h
theorem fB(n:Nat):(n+1<=n)=False:=by simp
theorem N33(lg d:List Nat)(s:cE)(wv:AV)(x:iF)(H:bQ h s)(hw:wv.cU=true)(q_:82<=j:=by omega):Wa FT MT (SM j) (n+2000) (.fn 33) [.agg (cJ s++[wv]),.agg (gQ x)] ⟨aR h [],lg,d⟩ (Qk ⟨h,lg,d⟩ λw h'=>aT h' 1 w ((na s.d.bu x).map n9)):=by
 refine aI ?_;have c1:=H.v.sc;have c2:=H.l.sc;have l1:=H.v.len;have n1:s.d.bu.length=s.vs.length:=by simp[cE.d]
 refine aW (Z6 @cJ.eq_1 @gQ.eq_1 c1 c2 hw l1) ?_;refine dz (α:=AV) s.vs.length [Il,X5] (λi a=>[Ei i,a]) (λi a m'=>aY ⟨h,lg,[]⟩ m'/\aj m'.ah (nb h 1)=(aO 3 [[Ei x.n,Eu x.s,Ei x.o]])/\cG h.length m'.ah 1 a ((na (s.d.bu.take i) x).map n9)) (by have:=H.w1;omega) aX ⟨.aF,rfl,aH aL,bj,.nil rfl rfl⟩ (λi a m' g hi hP=>?_) (λa m' g hP=>?_)
 .obtain⟨h',bq,d'⟩:=m';obtain⟨k,b1,ho⟩:=hP;obtain rfl:d'=[]:=k.aV;simp only at b1 ho;have tR:bQ h' s:=bQ.bw (m:=⟨h,lg,[]⟩) (m':=⟨h',bq,[]⟩) H k;have e:=tR.v.el hi;have r:=fh hi (by have:=H.w1;omega);have hx:=tR.va _ (bA hi);have g1:=λl lg d=>E66 j (gt s.vs i).v.st.held (gt s.vs i).b x (nb h 1) true ⟨aR h' l,lg,d⟩ (hx.s.b.bx l) hx.s.w1 ((an l h' _ (ag b1)).trans b1)
  have uL:i<s.d.bu.length:=Z;have x1:gt s.d.bu i=(gt s.vs i).v:=gY hi;have ht:=IB (x:=x) uL;rw[x1]at ht;have d1:=hx.s.b.sc;have d2:=hx.s.m.sc;have d3:=hx.s.p.v.sc;have d4:=hx.q.v.sc;have PF:(na (s.d.bu.take i) x).length<=1000:=by
   have h1:(na (s.d.bu.take i) x).length<=(s.d.bu.take i).length:=length_filterMap_le _ _;rw[length_take]at h1;have:=H.w1;omega
  unfold dI at e;refine bH ?_;rcases ho with⟨hn,rfl⟩|⟨b0,rfl,hk,hb⟩
  .refine aW (Z7 e r g1 d1 d2 d3 d4) ?_;refine⟨λc=>⟨_,rfl,k.trans (aH aL),(an _ h' _ (ag b1)).trans b1,?_⟩,λc=>⟨_,rfl,k.trans (aH aL),(an _ h' _ (ag b1)).trans b1,?_⟩⟩
   .rw[ht,aG c,map_append,hn];exact .some (nb h' 2) rfl (bK k.len aB) bj
   .rw[ht,aq c,append_nil];exact .nil hn rfl
  .have o:=bg (ag hb);have kJ:∀l,aj (aR h' l) b0=_:=λl=>(an l h' _ (ag hb)).trans hb
   have n1:nb h 1≠b0:=λq=>by rw[q,hb]at b1;cases b1
   have fA:(1000000000000<((na (s.d.bu.take i) x).length+1)*8)=False:=by simp;omega
   have fC:List.take (na (s.d.bu.take i) x).length ((na (s.d.bu.take i) x).map n9)=(na (s.d.bu.take i) x).map n9:=take_of_length_le (by simp);rw[length_map];refine aW (gX e r g1 d1 d2 d3 d4 o kJ fA @fB fC) ?_;refine⟨λc=>⟨_,rfl,k.bS hk (ag hb) _ _ (dD.ok (by repeat first|exact dD.nil|refine dD.cons (by first|exact aB|exact bK (k.len) aB|assumption) ?_)),(bP (ag hb) (ag b1) n1 _ _).trans b1,?_⟩,λc=>⟨_,rfl,k.trans (aH aL),(an _ h' _ (ag b1)).trans b1,?_⟩⟩
   .rw[ht,aG c,map_append];exact .some (nb h' 2) (by simp) (bK k.len aB) (o.2.1 _ _ _)
   .rw[ht,aq c,append_nil];exact .some b0 (by rw[length_map]) hk ((an _ h' _ (ag hb)).trans hb)
 .obtain⟨h',bq,d'⟩:=m';obtain⟨k,b1,ho⟩:=hP;obtain rfl:d'=[]:=k.aV;have r:=cY s.vs.length;rw[<-n1,take_length]at ho;refine bH ?_;refine aW (Z2 r @mZ) ?_;exact⟨k.sub (d:=d),ho.sl⟩
end
section
variable{F:FuncId->Option bD}{au:bR}{sm:ct}
def IC(l:List fR)(n:Int)(x:iF):List Int:=l.filterMap λb=>if b.id=x then some n else none
def mT(l:List jh)(x:iF):List Int:=l.flatMap λv=>IC v.st.held v.eB.node x
theorem PG{l:List fR}{n:Int}{x:iF}{i:Nat}(hi:i<l.length):IC (l.take (i+1)) n x=IC (l.take i) n x++(if(gt l i).id=x then[n]else[]):=by
 rw[IC,IC,take_add_one,getElem?_eq_getElem hi,toList_some,filterMap_append,bB hi];congr 1;rw[filterMap_cons,filterMap_nil];split
 .rename_i h;split at h
  .cases h
  .rename_i q;rw[aq q]
 .rename_i h;split at h
  .rename_i q;cases h;rw[aG q]
  .cases h
theorem ID{l:List jh}{x:iF}{i:Nat}(hi:i<l.length):mT (l.take (i+1)) x=mT (l.take i) x++IC (gt l i).st.held (gt l i).eB.node x:=by
 rw[mT,mT,take_add_one,getElem?_eq_getElem hi,toList_some,flatMap_append,bB hi];simp
theorem KA(l:List fR)(n:Int)(x:iF):(IC l n x).length<=l.length:=length_filterMap_le _ _
theorem MF{l:List jh}{x:iF}(h:∀v∈l,v.st.held.length<=1000):(mT l x).length<=l.length*1000:=by
 induction l with
 |nil=>simp[mT]
 |cons v l ih=>
  have h1:=KA v.st.held v.eB.node x;have h2:=h v (by simp);have h3:=ih λw hw=>h w (by simp[hw])
  simp only[mT,flatMap_cons,length_append,length_cons]at h3|-;omega
theorem SJ{α:Type}{dM:List cO}{V:α->List AV}{P:α->Mem->Prop}{E:cT->Tr->Mem->Prop}(hE:Cl E):Cl (Ke dM V P E):=λe T T' m q h=>by
 cases e with
 |normal=>
  obtain⟨a,h1,h2⟩:=h;exact⟨a,by rw[<-h1];exact map_congr_left λp _=>(q p).symm,h2⟩
 |exit j=>exact hE _ _ _ _ q h
 |ret=>exact hE _ _ _ _ q h
theorem N36(lg d:List Nat)(s:cE)(x:iF)(H:bQ h s)(q_:0<=j:=by omega):Wa FT MT (SM j) (n+2000) (.fn 36) [.agg (cJ s),.agg (gQ x)] ⟨aR h [],lg,d⟩ (Qk ⟨h,lg,d⟩ λw h'=>aT h' 1 w ((mT s.d.bu x).map n9)):=by
 refine aI ?_;have c1:=H.v.sc;have c2:=H.l.sc;have n1:s.d.bu.length=s.vs.length:=by simp[cE.d]
 have hh:∀v∈s.d.bu,v.st.held.length<=1000:=λv hv=>by
  obtain⟨y,hy,rfl⟩:=mem_map.1 hv;exact(H.va y hy).s.w1
 refine aW (Z4 @cJ.eq_1 @gQ.eq_1 c1 c2) ?_;refine dz (α:=AV) s.vs.length [X6,X5] (λi a=>[Ei i,a]) (λi a m'=>aY ⟨h,lg,[]⟩ m'/\aj m'.ah (nb h 0)=(aO 3 [[Ei s.cA,s.nv,s.lv]])/\aj m'.ah (nb h 1)=(aO 3 [[Ei x.n,Eu x.s,Ei x.o]])/\cG h.length m'.ah 1 a ((mT (s.d.bu.take i) x).map n9)) (by have:=H.w1;omega) aX ⟨.aF,rfl,aH aL,bj,bj,.nil rfl rfl⟩ (λi a m' g hi hP=>?_) (λa m' g hP=>?_)
 .obtain⟨h',bq,d'⟩:=m';obtain⟨k,b0,b1,ho⟩:=hP;obtain rfl:d'=[]:=k.aV;simp only at b0 b1 ho;have tR:bQ h' s:=bQ.bw (m:=⟨h,lg,[]⟩) (m':=⟨h',bq,[]⟩) H k;have e:=tR.v.el hi;have r:=fh hi (by have:=H.w1;omega);have Nn:=tR.v.len;have hx:=tR.va _ (bA hi);have uL:i<s.d.bu.length:=Z;have x1:gt s.d.bu i=(gt s.vs i).v:=gY hi;have yG:∀l,aj (aR h' l) (nb h 0)=_:=λl=>(an l h' _ (ag b0)).trans b0
  unfold dI at e;refine bH ?_;refine aW (Z4 e r yG Nn) ?_;refine dz (α:=AV) (gt s.vs i).v.st.held.length [X8,X5] (λj a=>[Ei j,a]) (λj a m'=>aY ⟨h,lg,[]⟩ m'/\aj m'.ah (nb h 0)=(aO 3 [[Ei s.cA,s.nv,s.lv]])/\aj m'.ah (nb h 1)=(aO 3 [[Ei x.n,Eu x.s,Ei x.o]])/\cG h.length m'.ah 1 a ((mT (s.d.bu.take i) x++IC ((gt s.vs i).v.st.held.take j) (gt s.vs i).v.eB.node x).map n9)) (by have:=hx.s.w1;omega) (by repeat first|apply Gp|apply Gq|apply Gn|apply SJ) ⟨a,rfl,k,b0,b1,by rw[show IC ((gt s.vs i).v.st.held.take 0) (gt s.vs i).v.eB.node x=[]from rfl,append_nil];exact ho⟩ (λj a m' g hj hP=>?_) (λa m' g hP=>?_)
  .obtain⟨h3,dH,d3⟩:=m';obtain⟨k,b0,b1,ho⟩:=hP;obtain rfl:d3=[]:=k.aV;simp only at b0 b1 ho;have tR:bQ h3 s:=bQ.bw (m:=⟨h,lg,[]⟩) (m':=⟨h3,dH,[]⟩) H k;have e:=tR.v.el hi;have Nn:=tR.v.len;have hx:=tR.va _ (bA hi);have e2:=hx.s.b.el hj;have Mz:=hx.s.b.len;have r:=fh hj (by have:=hx.s.w1;omega);have yG:∀l,aj (aR h3 l) (nb h 0)=_:=λl=>(an l h3 _ (ag b0)).trans b0
   have Kn:∀l,aj (aR h3 l) (nb h 1)=_:=λl=>(an l h3 _ (ag b1)).trans b1
   have ht:=PG (x:=x) (n:=(gt s.vs i).v.eB.node) hj;have PF:(mT (s.d.bu.take i) x++IC ((gt s.vs i).v.st.held.take j) (gt s.vs i).v.eB.node x).length<=2000000:=by
    have h1:=MF (x:=x) (l:=s.d.bu.take i) λv hv=>hh v (mem_of_mem_take hv)
    have h2:=KA ((gt s.vs i).v.st.held.take j) (gt s.vs i).v.eB.node x;rw[length_take]at h1 h2;have:=H.w1;have:=hx.s.w1;rw[length_append];have:(min i s.d.bu.length)<=1000:=Z;omega
   generalize hL:mT (s.d.bu.take i) x++IC ((gt s.vs i).v.st.held.take j) (gt s.vs i).v.eB.node x=L at ho PF;have ht2:mT (s.d.bu.take i) x++IC ((gt s.vs i).v.st.held.take (j+1)) (gt s.vs i).v.eB.node x=L++(if(gt (gt s.vs i).v.st.held j).id=x then[(gt s.vs i).v.eB.node]else[]):=by rw[ht,<-append_assoc,hL]
   rw[ht2];unfold dI at e;unfold dt at e2;refine bH ?_;rcases ho with⟨hn,rfl⟩|⟨bo,rfl,hk,hb⟩
   .refine aW (Z7 e e2 r yG Kn Mz @vj) ?_;refine⟨λc=>⟨_,rfl,k.trans (aH aL),?_⟩,λc=>⟨_,rfl,k.trans (aH aL),.nil hn rfl⟩⟩;rw[map_append,hn];exact .some (nb h3 1) rfl (bK k.len aB) bj
   .have o:=bg (ag hb);have kJ:∀l,aj (aR h3 l) bo=_:=λl=>(an l h3 _ (ag hb)).trans hb
    have n0:nb h 0≠bo:=λq=>by rw[q,hb]at b0;cases b0
    have n1:nb h 1≠bo:=λq=>by rw[q,hb]at b1;cases b1
    have fA:(1000000000000<(L.length+1)*8)=False:=by simp;omega
    have fC:List.take L.length (L.map n9)=L.map n9:=take_of_length_le (by simp);rw[length_map];refine aW (gX e e2 r yG Kn Mz @vj o kJ fA @fB fC) ?_;refine⟨λc=>⟨_,rfl,k.bS hk (ag hb) _ _ (dD.ok (by repeat first|exact dD.nil|refine dD.cons (by first|exact aB|exact bK (k.len) aB|assumption) ?_)),(bP (ag hb) (ag b0) n0 _ _).trans b0,(bP (ag hb) (ag b1) n1 _ _).trans b1,?_⟩,λc=>⟨_,rfl,k.trans (aH aL),?_⟩⟩
    .rw[map_append];exact .some (nb h3 1) (by simp) (bK k.len aB) (o.2.1 _ _ _)
    .exact .some bo (by rw[length_map]) hk ((an _ h3 _ (ag hb)).trans hb)
  .obtain⟨h3,dH,d3⟩:=m';obtain⟨k,b0,b1,ho⟩:=hP;obtain rfl:d3=[]:=k.aV;simp only at b0 b1 ho;have tR:bQ h3 s:=bQ.bw (m:=⟨h,lg,[]⟩) (m':=⟨h3,dH,[]⟩) H k;have Mz:=(tR.va _ (bA hi)).s.b.len;have r2:=cY (gt s.vs i).v.st.held.length;have ht:=ID (x:=x) uL;rw[x1]at ht;rw[take_length,<-ht]at ho;refine bH ?_;refine aW (Z3 r r2 Mz) ?_;exact⟨_,rfl,k,b0,b1,ho⟩
 .obtain⟨h',bq,d'⟩:=m';obtain⟨k,b0,b1,ho⟩:=hP;obtain rfl:d'=[]:=k.aV;simp only at b0 b1 ho;have tR:bQ h' s:=bQ.bw (m:=⟨h,lg,[]⟩) (m':=⟨h',bq,[]⟩) H k;have Nn:=tR.v.len;have r:=cY s.vs.length;have yG:∀l,aj (aR h' l) (nb h 0)=_:=λl=>(an l h' _ (ag b0)).trans b0
  rw[<-n1,take_length]at ho;refine bH ?_;refine aW (Z4 r @mZ yG Nn) ?_;exact⟨k.sub (d:=d),ho.sl⟩
end
section
variable{F:FuncId->Option bD}{au:bR}{sm:ct}
theorem SI{dM:List cO}{vs:List AV}{P:Mem->Prop}{E:cT->Tr->Mem->Prop}(hE:Cl E):Cl (Kv dM vs P E):=λe T T' m q h=>by
 cases e with
 |normal=>exact⟨by rw[<-h.1];exact map_congr_left λp _=>(q p).symm,h.2⟩
 |exit j=>exact hE _ _ _ _ q h
 |ret=>exact hE _ _ _ _ q h
end
section
variable{F:FuncId->Option bD}{au:bR}{sm:ct}
theorem fV{D:kG}(h:dU D=0):D.bu.length<=16/\∀i,i<D.bu.length->wm (gt D.bu i).eB=0/\kR (gt D.bu i)=0/\(0<i->(gt D.bu (i-1)).eB.node<(gt D.bu i).eB.node):=by
 rw[dU]at h;split at h
 .omega
 .split at h
  .omega
  .rename_i q1 q2;split at h
   .omega
   .rename_i q3;refine⟨Z,λi hi=>?_⟩;have hz:=(iE D.bu.length 0).1 (show t7 _ 0 _=0 by
     have:first (jq D.bu) D.bu.length=0:=Z
     exact this) i Z Z
    rw[jq]at hz;split at hz
    .omega
    .split at hz
     .omega
     .exact⟨Z,hz,λh=>Z⟩
theorem vq{D:kG}(h:dU D=0):∀i,i<D.bu.length->∀j,j<i->(gt D.bu j).eB.node<(gt D.bu i).eB.node
 |0,_,j,hj=>Z
 |i+1,hi,j,hj=>by
  have h1:=((fV h).2 (i+1) hi).2.2 Z;rw[Nat.add_sub_cancel]at h1;rcases Nat.lt_or_ge j i with h2|h2
  .have:=vq h i Z j h2;omega
  .rw[show j=i by omega];exact h1
theorem pU{c:Ij}(h:wm c=0):1<=c.node/\c.node<=16/\1<=c.iK/\c.iK<=1099511627776:=by
 rw[wm]at h;split at h
 .rename_i q;exact⟨q.1.1,q.1.2,q.2.1.1,q.2.1.2⟩
 .omega
theorem yH{v:jh}(h:kR v=0):d8 v.st=0/\v.st.node=v.eB.node/\1<=v.st.C2/\first (j3 v.eB.node v.bM) v.bM.length=0:=by
 rw[kR]at h;split at h
 .omega
 .split at h
  .omega
  .exact⟨Z,Z,Z,h⟩
def Cv(nv:AV)(l:List VX):Nat->List (AV×AV)
 |0=>[]
 |k+1=>Cv nv l k++[(.int .i64 (gt l k).v.eB.node,.ptr (sb nv) (si nv+k) 0)]
theorem zN(agg:Bool)(sh:List CK)(k:AV)(b:List (AV×AV)):∀a:List (AV×AV),gR agg sh k a=some none->gR agg sh k (a++b)=gR agg sh k b
 |[],_=>rfl
 |(k',v)::a,h=>by
  rw[cons_append,gR];rw[gR]at h;cases hp:uv agg sh k k' with
  |none=>rw[hp]at h;cases h
  |some x=>
   rw[hp]at h;cases x with
   |true=>cases h
   |false=>exact zN agg sh k b a h
theorem Cw(agg:Bool)(sh:List CK)(k:AV)(b:List (AV×AV))(v:AV):∀a:List (AV×AV),gR agg sh k a=some (some v)->gR agg sh k (a++b)=some (some v)
 |[],h=>by cases h
 |(k',w)::a,h=>by
  rw[cons_append,gR];rw[gR]at h;cases hp:uv agg sh k k' with
  |none=>rw[hp]at h;cases h
  |some x=>
   rw[hp]at h;cases x with
   |true=>exact h
   |false=>exact Cw agg sh k b v a h
theorem GG(agg:Bool)(sh:List CK)(k v:AV):∀a:List (AV×AV),gR agg sh k a=some none->wV agg sh k v a=some (a++[(k,v)])
 |[],_=>rfl
 |(k',w)::a,h=>by
  rw[wV];rw[gR]at h;cases hp:uv agg sh k k' with
  |none=>rw[hp]at h;cases h
  |some x=>
   rw[hp]at h;cases x with
   |true=>cases h
   |false=>rw[show wV agg sh k v a=_ from GG agg sh k v a h];rfl
theorem D1(x y:Int)(v:AV):gR false [.i] (Ei x) [(Ei y,v)]=some (if x=y then some v else none):=by
 show(match some (x==y)with|some true=>some (some v)|some false=>some none|none=>none)=_;by_cases h:x=y
 .rw[aG h,show(x==y)=true from by simp[h]]
 .rw[aq h,show(x==y)=false from by simp[h]]
theorem IE(nv:AV)(l:List VX)(x:Int):∀k,(∀j,j<k->(gt l j).v.eB.node≠x)->gR false [.i] (Ei x) (Cv nv l k)=some none
 |0,_=>rfl
 |k+1,h=>by
  rw[Cv,zN _ _ _ _ _ (IE nv l x k λj hj=>h j Z),D1,aq (λq=>h k Z q.symm)]
theorem KC(nv:AV)(l:List VX)(x:Int){i:Nat}(hx:(gt l i).v.eB.node=x)(hn:∀j,j<i->(gt l j).v.eB.node≠x):∀k,i<k->gR false [.i] (Ei x) (Cv nv l k)=some (some (.ptr (sb nv) (si nv+i) 0))
 |0,h=>Z
 |k+1,h=>by
  rw[Cv];rcases Nat.lt_or_ge i k with h1|h1
  .exact Cw _ _ _ _ _ _ (KC nv l x hx hn k h1)
  .obtain rfl:i=k:=Z;rw[zN _ _ _ _ _ (IE nv l x i hn),D1,aG hx.symm]
structure Lk(h:aN)(lg:List Nat)(s:cE)(c:Nat)(m:Mem):Prop where
 k:aY ⟨h,lg,[]⟩ m
 b0:aj m.ah (nb h 0)=(aO 3 [[Ei s.cA,s.nv,s.lv]])
 b1:aj m.ah (nb h 1)=(aO 4 [[Ei 0,.aF,.aF,.lT]])
 b2:aj m.ah (nb h 2)=some (.map (Cv s.nv s.vs c))
 b3:aj m.ah (nb h 3)=(aO 4 [[Ei s.cA,s.nv,s.lv,.map (nb h 2)]])
theorem N31(lg d:List Nat)(s:cE)(H:bQ h s)(q_:78<=j:=by omega):Wa FT MT (SM j) (n+2000) (.fn 31) [.agg (cJ s)] ⟨aR h [],lg,d⟩ (Qk ⟨h,lg,d⟩ λw h'=>if dU s.d=0 then∃b,w=.tuple [.agg (cJ s++[.map b]),Ei 0]/\aj h' b=some (.map (Cv s.nv s.vs s.vs.length))else w=.tuple [.agg [Ei 0,.aF,.aF,.lT],Ei (dU s.d)]):=by
 refine aI ?_;have c1:=H.v.sc;have c2:=H.l.sc;have l1:=H.v.len;have n1:s.d.bu.length=s.vs.length:=by simp[cE.d]
 have g1:=λq lg d=>E24 j s ⟨aR h q,lg,d⟩ (H.bx q)
 unfold cJ at g1;by_cases hz:dU s.d=0
 .simp only[aG hz];rw[hz]at g1;refine aW (Z5 @cJ.eq_1 c1 c2 l1 g1) ?_;refine dV s.vs.length [WV] (λi=>[Ei i]) (Lk h lg s) (by have:=H.w1;omega) aX ⟨rfl,aH aL,bj,bj,bj,bj⟩ (λi m' g hi hP=>?_) (λm' g hP=>?_)
  .obtain⟨h',bq,d'⟩:=m';obtain⟨k,b0,b1,b2,b3⟩:=hP;obtain rfl:d'=[]:=k.aV;simp only at b0 b1 b2 b3;have tR:bQ h' s:=bQ.bw (m:=⟨h,lg,[]⟩) (m':=⟨h',bq,[]⟩) H k;have e:=tR.v.el hi;have r:=fh hi (by have:=H.w1;omega);have yG:∀l,aj (aR h' l) (nb h 0)=_:=λl=>(an l h' _ (ag b0)).trans b0
   have b2':∀l,aj (aR h' l) (nb h 2)=_:=λl=>(an l h' _ (ag b2)).trans b2
   have b3':∀l,aj (aR h' l) (nb h 3)=_:=λl=>(an l h' _ (ag b3)).trans b3
   have o:=bg (ag b2);have fr:∀j,j<i->(gt s.vs j).v.eB.node≠(gt s.vs i).v.eB.node:=λj hj=>by
    have:=vq hz i Z j hj;rw[show gt s.d.bu i=(gt s.vs i).v from gY hi,show gt s.d.bu j=(gt s.vs j).v from gY Z]at this;omega
   have f1:=GG false [.i] (Ei (gt s.vs i).v.eB.node) (.ptr (sb s.nv) (si s.nv+i) 0) _ (IE s.nv s.vs _ i fr);unfold dI at e;refine bH ?_;refine aW (Z7 e r yG b2' b3' o f1) ?_;have q:∀{j c},aj h' (nb h j)=some c->j≠2->∀l x,aj (aR (aQ h' (nb h 2) x) l) (nb h j)=some c:=λhj h1 l x=>(bP (ag b2) (ag hj) (by rw[ne_eq,gG];exact h1) l x).trans hj
   exact⟨k.bS aB (ag b2) _ _ (dD.ok (by repeat first|exact dD.nil|refine dD.cons (by first|exact aB|exact bK (k.len) aB|assumption) ?_)),q b0 Z _ _,q b1 Z _ _,o.2.2.2.2.1 _ _,q b3 Z _ _⟩
  .obtain⟨h',bq,d'⟩:=m';obtain⟨k,b0,b1,b2,b3⟩:=hP;obtain rfl:d'=[]:=k.aV;simp only at b0 b1 b2 b3;have r:=cY s.vs.length;have o:=bg (ag b1);have Kn:∀l,aj (aR h' l) (nb h 1)=_:=λl=>(an l h' _ (ag b1)).trans b1
   have b3':∀l,aj (aR h' l) (nb h 3)=_:=λl=>(an l h' _ (ag b3)).trans b3
   refine bH ?_;refine aW (Z7 r Kn b3' o c1 c2 @mZ) ?_;exact⟨(k.sub (d:=d)).bS aB (ag b1) _ _ (dD.ok (by repeat first|exact dD.nil|refine dD.cons (by first|exact aB|exact bK (k.len) aB|assumption) ?_)),nb h 2,rfl,(bP (ag b1) (ag b2) (by rw[ne_eq,gG];omega) _ _).trans b2⟩
 .simp only[aq hz];exact aC (Z6 @cJ.eq_1 c1 c2 g1 hz @mZ)
end
section
variable{F:FuncId->Option bD}{au:bR}{sm:ct}
def oK(x:VX):List PX:=if x.v.up=true then x.lq else x.lp
def IF(o:Int):PX:=⟨⟨o,0,false,0,⟨0,0,0,[]⟩,⟨0,0,0,[],[]⟩⟩,.aF,.aF,.aF⟩
def j4(l:List PX)(o:Int):PX:=(l.find? λp=>decide (p.p.node=o)).getD (IF o)
def gZ(x:VX)(o:Int):PX:=j4 (oK x) o
theorem tI{l:List PX}{o:Int}{i:Nat}(hi:i<l.length):j4 (l.drop i) o=if(gt l i).p.node=o then gt l i else j4 (l.drop (i+1)) o:=by
 rw[j4,drop_eq_getElem_cons hi,find?_cons,<-bB hi];by_cases h:(gt l i).p.node=o
 .rw[aG h,decide_eq_true h];rfl
 .rw[aq h,decide_eq_false h];rfl
theorem Cx{h:aN}{l:List PX}{o:Int}(H:∀x∈l,ic h x.p x.s x.t x.k):ic h (j4 l o).p (j4 l o).s (j4 l o).t (j4 l o).k:=by
 rw[j4];cases hf:l.find? λp=>decide (p.p.node=o)with
 |none=>exact⟨⟨.none rfl (.inl rfl),Int.le_refl 0,Int.le_refl 0,show(0:Int)<=_ by omega,show(0:Int)<=_ by omega,λx hx=>by cases hx⟩,⟨.none rfl (.inl rfl),.none rfl (.inl rfl),Int.le_refl 0,show(0:Int)<=_ by omega⟩⟩
 |some x=>exact H x (mem_of_find?_eq_some hf)
theorem Cy{h:aN}{x:VX}{o:Int}(H:jA h x):∀b∈hH (wh (gZ x o)),b<h.length:=λb hb=>by
 have P:ic h (gZ x o).p (gZ x o).s (gZ x o).t (gZ x o).k:=Cx (λy hy=>by
  rw[oK]at hy;split at hy
  .exact H.q.p y hy
  .exact H.s.p.p y hy)
 simp only[wh,dc,hH,AV.cj,nil_append,append_nil,mem_append]at hb;rcases hb with hb|hb|hb
 .exact P.s.s.cj b hb
 .exact P.r.t.cj b hb
 .exact P.r.k.cj b hb
theorem Aj7(s:cE)(b:Nat)(i:Nat)(o:Int)(m:Mem)(H:bQ m.ah s)(hz:dU s.d=0)(hb:aj m.ah b=some (.map (Cv s.nv s.vs s.vs.length)))(hi:i<s.vs.length)(q_:167<=j:=by omega):SM j 111 [.agg (cJ s++[.map b]),Ei (gt s.vs i).v.eB.node,Ei o] m=some (.agg (wh (gZ (gt s.vs i) o)),m):=by
 obtain⟨h,lg,d⟩:=m;refine Pu 1999 Ai9 aZ q_ (λb hb=>Cy (H.va _ (bA hi)) b (by simpa only[AV.cj]using hb)) λn=>?_
 have c1:=H.v.sc;have c2:=H.l.sc;have n1:s.d.bu.length=s.vs.length:=by simp[cE.d]
 have e:=H.v.el hi;have hx:=H.va _ (bA hi);have fr:∀j,j<i->(gt s.vs j).v.eB.node≠(gt s.vs i).v.eB.node:=λj hj=>by
  have:=vq hz i Z j hj;rw[show gt s.d.bu i=(gt s.vs i).v from gY hi,show gt s.d.bu j=(gt s.vs j).v from gY Z]at this;omega
 have f1:=KC s.nv s.vs _ rfl fr s.vs.length hi;have kJ:∀l,aj (aR h l) b=_:=λl=>(an l h _ (ag hb)).trans hb
 have lp:=hx.s.p.v.len;have lq:=hx.q.v.len;unfold dI at e;refine aW (Z8 @cJ.eq_1 c1 c2 e f1 kJ lp lq) ?_;refine⟨λhu=>?_,λhu=>?_⟩
 .have ep:gZ (gt s.vs i) o=j4 (gt s.vs i).lq o:=by rw[gZ,oK,aG hu]
  have hw:(gt s.vs i).lq.length<=1000:=hx.w;rw[ep];refine bL (gt s.vs i).lq.length [X30] (λk=>[Ei k]) (λk=>j4 (gt s.vs i).lq o=j4 ((gt s.vs i).lq.drop k) o) Z aX ⟨rfl,rfl⟩ (λk h' bq g hk hP hK=>?_) (λh' bq g hP hK=>?_)
  .have a:=hK.aA lg d;have hp:=hK.ps hx.q;have e:=hp.v.el hk;have r:=fh hk Z;have hy:=hp.p _ (bA hk);have d1:=hy.s.s.sc;have d2:=hy.r.t.sc;have d3:=hy.r.k.sc;have l1:nb h 1<h'.length:=ag (h:=h') (a.1 [] 1 (by simp only[fY];omega));have ob:=bg l1;rw[tI hk]at hP;unfold wh dc at e;refine aW (Z7 a e r d1 d2 d3 ob) ?_;have k0:aY ⟨h,lg,d⟩ ⟨h',bq,d⟩:=a.2.2 [] bq aL;refine⟨λc=>⟨?_,k0.bS aB l1 _ _ (dD.ok (by repeat first|exact dD.nil|refine dD.cons (by first|exact aB|exact bK (k0.len) aB|assumption) ?_))⟩,λc=>?_⟩
   .subst c;rw[hP,aG rfl];rfl
   .rw[hP,aq c]
  .have a:=hK.aA lg d;have r:=cY (gt s.vs i).lq.length;have l1:nb h 1<h'.length:=ag (h:=h') (a.1 [] 1 (by simp only[fY];omega));have ob:=bg l1;rw[drop_length]at hP;refine aW (Z3 a r ob) ?_;have k0:aY ⟨h,lg,d⟩ ⟨h',bq,d⟩:=a.2.2 [] bq aL;refine⟨?_,k0.bS aB l1 _ _ (dD.ok (by repeat first|exact dD.nil|refine dD.cons (by first|exact aB|exact bK (k0.len) aB|assumption) ?_))⟩;rw[hP];rfl
 .have ep:gZ (gt s.vs i) o=j4 (gt s.vs i).lp o:=by rw[gZ,oK,aq hu]
  have hw:(gt s.vs i).lp.length<=1000:=hx.s.w3;rw[ep];refine bL (gt s.vs i).lp.length [X30] (λk=>[Ei k]) (λk=>j4 (gt s.vs i).lp o=j4 ((gt s.vs i).lp.drop k) o) Z aX ⟨rfl,rfl⟩ (λk h' bq g hk hP hK=>?_) (λh' bq g hP hK=>?_)
  .have a:=hK.aA lg d;have hp:=hK.ps hx.s.p;have e:=hp.v.el hk;have r:=fh hk Z;have hy:=hp.p _ (bA hk);have d1:=hy.s.s.sc;have d2:=hy.r.t.sc;have d3:=hy.r.k.sc;have l1:nb h 1<h'.length:=ag (h:=h') (a.1 [] 1 (by simp only[fY];omega));have ob:=bg l1;rw[tI hk]at hP;unfold wh dc at e;refine aW (Z7 a e r d1 d2 d3 ob) ?_;have k0:aY ⟨h,lg,d⟩ ⟨h',bq,d⟩:=a.2.2 [] bq aL;refine⟨λc=>⟨?_,k0.bS aB l1 _ _ (dD.ok (by repeat first|exact dD.nil|refine dD.cons (by first|exact aB|exact bK (k0.len) aB|assumption) ?_))⟩,λc=>?_⟩
   .subst c;rw[hP,aG rfl];rfl
   .rw[hP,aq c]
  .have a:=hK.aA lg d;have r:=cY (gt s.vs i).lp.length;have l1:nb h 1<h'.length:=ag (h:=h') (a.1 [] 1 (by simp only[fY];omega));have ob:=bg l1;rw[drop_length]at hP;refine aW (Z3 a r ob) ?_;have k0:aY ⟨h,lg,d⟩ ⟨h',bq,d⟩:=a.2.2 [] bq aL;refine⟨?_,k0.bS aB l1 _ _ (dD.ok (by repeat first|exact dD.nil|refine dD.cons (by first|exact aB|exact bK (k0.len) aB|assumption) ?_))⟩;rw[hP];rfl
theorem E92(x:VX)(o:Int)(m:Mem)(H:jA m.ah x)(q_:271<=j:=by omega):SM j 92 [.agg (dI x),Ei o] m=some (.agg (wh (gZ x o)),m):=by
 obtain⟨h,lg,d⟩:=m;refine Pu 1999 F92 aZ q_ (λb hb=>Cy H b (by simpa only[AV.cj]using hb)) λn=>?_
 have d1:=H.s.b.sc;have d2:=H.s.m.sc;have d3:=H.s.p.v.sc;have d4:=H.q.v.sc;refine aW (Z5 @dI.eq_1 d1 d2 d3 d4) ?_;refine⟨λhu=>?_,λhu=>?_⟩
 .have ep:gZ x o=j4 x.lq o:=by rw[gZ,oK,aG hu]
  have hw:x.lq.length<=1000:=H.w;rw[ep];refine bL x.lq.length [X6] (λk=>[Ei k]) (λk=>j4 x.lq o=j4 (x.lq.drop k) o) Z aX ⟨rfl,rfl⟩ (λk h' bq g hk hP hK=>?_) (λh' bq g hP hK=>?_)
  .have a:=hK.aA lg d;have hp:=hK.ps H.q;have e:=hp.v.el hk;have le:=hp.v.len;have r:=fh hk Z;have hy:=hp.p _ (bA hk);have d1:=hy.s.s.sc;have d2:=hy.r.t.sc;have d3:=hy.r.k.sc;have l1:nb h 1<h'.length:=ag (h:=h') (a.1 [] 1 (by simp only[fY];omega));have ob:=bg l1;rw[tI hk]at hP;unfold wh dc at e;refine aW (Z8 a e r d1 d2 d3 ob le) ?_;have k0:aY ⟨h,lg,d⟩ ⟨h',bq,d⟩:=a.2.2 [] bq aL;refine⟨λc=>⟨?_,k0.bS aB l1 _ _ (dD.ok (by repeat first|exact dD.nil|refine dD.cons (by first|exact aB|exact bK (k0.len) aB|assumption) ?_))⟩,λc=>?_⟩
   .subst c;rw[hP,aG rfl];rfl
   .rw[hP,aq c]
  .have a:=hK.aA lg d;have r:=cY x.lq.length;have hp:=hK.ps H.q;have le:=hp.v.len;have l1:nb h 1<h'.length:=ag (h:=h') (a.1 [] 1 (by simp only[fY];omega));have ob:=bg l1;rw[drop_length]at hP;refine aW (Z4 a r ob le) ?_;have k0:aY ⟨h,lg,d⟩ ⟨h',bq,d⟩:=a.2.2 [] bq aL;refine⟨?_,k0.bS aB l1 _ _ (dD.ok (by repeat first|exact dD.nil|refine dD.cons (by first|exact aB|exact bK (k0.len) aB|assumption) ?_))⟩;rw[hP];rfl
 .have ep:gZ x o=j4 x.lp o:=by rw[gZ,oK,aq hu]
  have hw:x.lp.length<=1000:=H.s.w3;rw[ep];refine bL x.lp.length [X6] (λk=>[Ei k]) (λk=>j4 x.lp o=j4 (x.lp.drop k) o) Z aX ⟨rfl,rfl⟩ (λk h' bq g hk hP hK=>?_) (λh' bq g hP hK=>?_)
  .have a:=hK.aA lg d;have hp:=hK.ps H.s.p;have e:=hp.v.el hk;have le:=hp.v.len;have r:=fh hk Z;have hy:=hp.p _ (bA hk);have d1:=hy.s.s.sc;have d2:=hy.r.t.sc;have d3:=hy.r.k.sc;have l1:nb h 1<h'.length:=ag (h:=h') (a.1 [] 1 (by simp only[fY];omega));have ob:=bg l1;rw[tI hk]at hP;unfold wh dc at e;refine aW (Z8 a e r d1 d2 d3 ob le) ?_;have k0:aY ⟨h,lg,d⟩ ⟨h',bq,d⟩:=a.2.2 [] bq aL;refine⟨λc=>⟨?_,k0.bS aB l1 _ _ (dD.ok (by repeat first|exact dD.nil|refine dD.cons (by first|exact aB|exact bK (k0.len) aB|assumption) ?_))⟩,λc=>?_⟩
   .subst c;rw[hP,aG rfl];rfl
   .rw[hP,aq c]
  .have a:=hK.aA lg d;have r:=cY x.lp.length;have hp:=hK.ps H.s.p;have le:=hp.v.len;have l1:nb h 1<h'.length:=ag (h:=h') (a.1 [] 1 (by simp only[fY];omega));have ob:=bg l1;rw[drop_length]at hP;refine aW (Z4 a r ob le) ?_;have k0:aY ⟨h,lg,d⟩ ⟨h',bq,d⟩:=a.2.2 [] bq aL;refine⟨?_,k0.bS aB l1 _ _ (dD.ok (by repeat first|exact dD.nil|refine dD.cons (by first|exact aB|exact bK (k0.len) aB|assumption) ?_))⟩;rw[hP];rfl
end
section
variable{F:FuncId->Option bD}{au:bR}{sm:ct}
structure yI(s:cE):Prop where
 q:∀x∈s.vs,0<=x.v.eB.iK
 h:∀x∈s.vs,∀b∈x.v.st.held,0<=b.id.s
 p:∀x∈s.vs,∀y∈x.lp,PN y.p
 r:∀x∈s.vs,∀y∈x.lq,PN y.p
def PO(x:PX):Prop:=kS x.s/\kS x.t/\kS x.k
structure Cz(s:cE):Prop where
 p:∀x∈s.vs,∀y∈x.lp,PO y
 r:∀x∈s.vs,∀y∈x.lq,PO y
end
section
variable{F:FuncId->Option bD}{au:bR}{sm:ct}
end
section
variable{F:FuncId->Option bD}{au:bR}{sm:ct}
def rh(o:Int):dT:=⟨o,0,false,0,⟨0,0,0,[]⟩,⟨0,0,0,[],[]⟩⟩
def GH(l:List dT)(o:Int):dT:=(l.find? λp=>decide (p.node=o)).getD (rh o)
def sG(v:jh)(o:Int):dT:=GH (if v.up=true then v.bM else v.st.bM) o
theorem KD(l:List PX)(o:Int):(j4 l o).p=GH (l.map (·.p)) o:=by
 rw[j4,GH,find?_map];cases h:l.find? λp=>decide (p.p.node=o)with
 |none=>rw[show l.find? ((λp=>decide (p.node=o))∘λx=>x.p)=none from h];rfl
 |some x=>rw[show l.find? ((λp=>decide (p.node=o))∘λx=>x.p)=some x from h];rfl
theorem KE{h:aN}{x:VX}(H:jA h x)(o:Int):(gZ x o).p=sG x.v o:=by
 rw[gZ,oK,sG];by_cases hu:x.v.up=true
 .rw[aG hu,aG hu,KD,H.e]
 .rw[aq hu,aq hu,KD,H.s.e]
theorem GI{h:aN}{x:VX}(H:jA h x)(o:Int):ic h (gZ x o).p (gZ x o).s (gZ x o).t (gZ x o).k:=by
 rw[gZ,oK];by_cases hu:x.v.up=true
 .rw[aG hu];exact Cx H.q.p
 .rw[aq hu];exact Cx H.s.p.p
theorem D2{l:List PX}{o:Int}{p:PX->Prop}(h:∀x∈l,p x)(hb:p (IF o)):p (j4 l o):=by
 rw[j4];cases hf:l.find? λp=>decide (p.p.node=o)with
 |none=>exact hb
 |some x=>exact h x (mem_of_find?_eq_some hf)
theorem S4{s:cE}(hO:Cz s){x:VX}(hx:x∈s.vs)(o:Int):PO (gZ x o):=by
 rw[gZ,oK];have hb:PO (IF o):=⟨λn h=>(by cases h),λn h=>(by cases h),λn h=>(by cases h)⟩;by_cases hu:x.v.up=true
 .rw[aG hu];exact D2 (p:=PO) (hO.r x hx) hb
 .rw[aq hu];exact D2 (p:=PO) (hO.p x hx) hb
theorem PH{D:kG}(h:dU D=0){i k:Nat}(hi:i<D.bu.length)(hk:k<D.bu.length):(gt D.bu i).eB.node=(gt D.bu k).eB.node↔i=k:=by
 constructor
 .intro q;rcases Nat.lt_trichotomy i k with h1|h1|h1
  .have:=vq h k hk i h1;omega
  .exact h1
  .have:=vq h i hi k h1;omega
 .rintro rfl;rfl
end
section
variable{F:FuncId->Option bD}{au:bR}{sm:ct}
theorem MG{l:List dT}{o:Int}{p:dT->Prop}(h:∀x∈l,p x)(hb:p (rh o)):p (GH l o):=by
 rw[GH];cases hf:l.find? λp=>decide (p.node=o)with
 |none=>exact hb
 |some x=>exact h x (mem_of_find?_eq_some hf)
theorem MH{o:Int}(h1:1<=o)(h2:o<=16):jn (rh o)=0:=by
 have e1:pR (rh o):=⟨by simp[rh],rfl,rfl,rfl,rfl,rfl,rfl,rfl,rfl,rfl,rfl⟩;have e2:(ji (⟨0,0,0,[]⟩:jt)).1=0:=aZ;have e3:(ft (⟨0,0,0,[],[]⟩:iJ)).1=0:=aZ;have e2:(ji (rh o).send).1=0:=e2;have e3:(ft (rh o).recv).1=0:=e3;have e4:(rh o).node=o:=rfl;have e5:(rh o).nu=0:=rfl;have e6:(rh o).mX=0:=rfl;rw[jn,aq Z,aq Z,aq Z,aq (λq=>q.2 e1)]
theorem GJ{v:jh}{o:Int}(hv:kR v=0)(h1:1<=o)(h2:o<=16):jn (sG v o)=0:=by
 have q:=yH hv;rw[sG];refine MG (p:=λx=>jn x=0) (λx hx=>?_) (MH h1 h2);split at hx
 .obtain⟨i,hi,e⟩:=getElem_of_mem hx;have hz:=(iE v.bM.length 0).1 q.2.2.2 i Z Z;rw[j3,bB hi,e]at hz;split at hz
  .omega
  .rename_i z;omega
 .obtain⟨i,hi,e⟩:=getElem_of_mem hx;have hz:=(mS q.1 i hi).1;rw[bB hi,e]at hz;exact hz
end
section
variable{F:FuncId->Option bD}{au:bR}{sm:ct}
def UI(cA:Int)(N:List jh)(b:fR):Prop:=cA<b.born+b.iO/\¬Xz N b=true/\na N b.id=[]
instance Amg(cA:Int)(N:List jh)(b:fR):Decidable (UI cA N b):=by unfold UI;infer_instance
theorem GK{D:kG}(h:dU D=0):0<=D.cA/\D.cA<=1099511627776:=by
 rw[dU]at h;split at h
 .omega
 .omega
end
section
variable{F:FuncId->Option bD}{au:bR}{sm:ct}
end
section
variable{F:FuncId->Option bD}{au:bR}{sm:ct}
end
section
variable{F:FuncId->Option bD}{au:bR}{sm:ct}
theorem aT.els{h:aN}{e:Nat}{v:AV}{es:List (List AV)}(H:aT h e v es)(ho:kS v)(l:List (Option bp)):eW (aj (aR h l)) e v=Option.some es:=by
 rcases H with⟨rfl,rfl|rfl|rfl⟩|⟨b,i,c,bS,bI,rfl,hb,hw,hk⟩
 .rfl
 .rfl
 .exact absurd rfl (ho 0)
 .cases es with
  |nil=>rfl
  |cons y ys=>
   rw[length_cons,Ur,an l h b (ag hb),hb];simp only[wU];have eV:i+(ys.length+1)<=bI.length:=by
    have:=congrArg List.length hw;simp only[length_take,length_drop,length_cons]at this;omega
   rw[length_cons]at hw;simp[hw,eV]
end
section
variable{F:FuncId->Option bD}{au:bR}{sm:ct}
end
end Go.Abs
end
