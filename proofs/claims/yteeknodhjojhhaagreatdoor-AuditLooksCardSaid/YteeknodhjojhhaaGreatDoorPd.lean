/- Functions of the program on symbolic values
   Conditions: none. -/
import Derived.Test.YteeknodhjojhhaaGreatDoorPc
set_option linter.unusedSimpArgs false
set_option linter.unusedVariables false
set_option maxRecDepth 100000
set_option maxHeartbeats 16000000
noncomputable section
namespace Go.Abs
open List Option IntKind
variable(j n:Nat)(h:aN)
section
variable{F:FuncId->Option bD}{au:bR}{sm:ct}
theorem Af1(get:Nat->Option bp)(bU b n:Nat)(c:Option Nat)(x:AV)(xs:List AV)(bI:List (List AV))(hx:eW get 2 x=some [xs])(hg:get b=(aO 2 bI))(hn:n<bI.length)(hc:c=none\/c=some bI.length)(hm:n<=1000):
 eC get bU 2 16 (.slice b 0 n c) x=some (.slice b 0 (n+1) c,[⟨b,(aO 2 (bI.take n++[xs]++bI.drop (n+1))),gh [xs]⟩]):=by
 simp only[eC,hx,hg,length_cons,length_nil,Nat.zero_add];rw[aq (by unfold dQ;omega)];rcases hc with rfl|rfl
 .have h4:decide (n+1<=bI.length)=true:=by simp;omega
  simp only[h4,if_true];rw[aG ⟨trivial,Z⟩]
 .have h4:decide (n+1<=bI.length)=true:=by simp;omega
  simp only[h4,if_true];rw[aG ⟨trivial,Z⟩]
theorem Af2(get:Nat->Option bp)(bU b n:Nat)(x:AV)(xs:List AV)(bI:List (List AV))(hx:eW get 2 x=some [xs])(hg:get b=(aO 2 bI))(hn:n=bI.length)(hm:n<=1000):
 eC get bU 2 16 (.slice b 0 n (some n)) x=some (.slice bU 0 (n+1) none,[⟨bU,(aO 2 (bI++[xs])),gh (bI++[xs])⟩]):=by
 subst hn;simp only[eC,hx,hg,length_cons,length_nil,Nat.zero_add];rw[aq (by unfold dQ;omega)];have h4:decide (bI.length+1<=bI.length)=false:=by simp
 simp only[h4,Bool.false_eq_true,if_false,drop_zero,take_length]
theorem Af3(get:Nat->Option bp)(bU b n:Nat)(x:AV)(xs:List AV)(bI:List (List AV))(hx:eW get 2 x=some [xs])(hg:get b=(aO 2 bI))(hn:n=bI.length)(hm:n<=1000):
 eC get bU 2 16 (.slice b 0 n none) x=some (.slice bU 0 (n+1) none,[⟨b,none,[]⟩,⟨bU,(aO 2 (bI++[xs])),gh (bI++[xs])⟩]):=by
 subst hn;simp only[eC,hx,hg,length_cons,length_nil,Nat.zero_add];rw[aq (by unfold dQ;omega)];have h4:decide (bI.length+1<=bI.length)=false:=by simp
 simp only[h4,Bool.false_eq_true,if_false,if_true,drop_zero,take_length]
def Af4(m0:Mem)(q b:Nat)(L:List (Int×Int))(x:Int×Int):AV->Mem->Prop:=λ_ m=>∃b' c' L' lJ,(b'=b\/m0.ah.length<=b')/\dG (λx=>x=q\/x=b) m0 m/\sM m.ah q b' c' L' lJ/\L'.Perm (x::L)/\Heap kQ L'.length L'
theorem Af5(lg d:List Nat){q b:Nat}{c:Option Nat}{L:List (Int×Int)}{bI:List (List AV)}{x y:Int}(H:sM h q b c L bI)(hn:L.length<=800)(hp:Heap kQ L.length L)(q_:0<=j:=by omega):Wa FT MT (SM j) (n+1500) (.fn 353) [.iface 437 (.ptr q 0 0),.iface 439 (.agg [Ei x,Ei y])] ⟨aR h [],lg,d⟩ (Af4 ⟨h,lg,d⟩ q b L (x,y)):=by
 refine aI ?_;have qs:=H.sl;have lL:(L++[(x,y)]).length=L.length+1:=by simp
 have hb:=ag H.hb;have hq:=ag H.hq;have nqb:=H.ne;have qh:=H.hq;have o:=bg hb;have oq:=bg hq;have o2:=jY hb hq nqb;have XP:=λk=>iv (k:=k) hb
 have XQ:=λk=>iv (k:=k) hq
 have nb3:=λk=>iD (k:=k) hb
 have w1:i64.wrap (((L.length+1:Nat):Int)-1)=(L.length:Int):=by rw[aU Z Z];omega
 have m1:=λget=>UR PQ.d get (.ptr q 0 0)
 by_cases c1:L.length<bI.length
 .have ap:=λget bU h1 h2=>Af1 get bU b L.length c (.slice (nb h 0) 0 1 (some 1)) [Ei x,Ei y] bI h1 h2 c1 H.hc Z
  have m2:=λget vs (hg:get q=(aO 1 [[.slice b 0 (L.length+1) c]]))=>yO PQ.a get q true _ vs hg
  refine aD (gX w1 @yN m1 m2 qs qh o o2 ap XP XQ (Z3 nb3 (@aJ 351 _ rfl aZ) (@aJ 393 _ rfl aZ))) ?_;have Qn:sM (aR (aQ (aQ h b ((aO 2 (List.take L.length bI++[[Ei x,Ei y]]++drop (L.length+1) bI)))) q ((aO 1 [[.slice b 0 (L.length+1) c]]))) [(aO 2 [[Ei x,Ei y]])]) q b c (L++[(x,y)]) _:=⟨by rw[o2.2.2.2.2.1,lL],o2.2.2.2.2.2.1 _ _ _,by rw[lL,append_assoc,take_append,length_take,Nat.min_eq_left Z,show L.length+1-L.length=1 by omega,take_of_length_le (by rw[length_take];omega),H.hr,map_append];rfl,by rw[lL];simp;omega,by rcases H.hc with e|e;exact .inl e;exact .inr (by rw[e];congr 1;simp;omega)⟩;have ck:dG (λx=>x=q\/x=b) ⟨h,lg,[]⟩ ⟨aR (aQ (aQ h b ((aO 2 (List.take L.length bI++[[Ei x,Ei y]]++drop (L.length+1) bI)))) q ((aO 1 [[.slice b 0 (L.length+1) c]]))) [(aO 2 [[Ei x,Ei y]])],q::b::nb h 0::lg,[]⟩:=dG.trans (cD (P:=λx=>x=q\/x=b) (l:=[]) (dx:=b::nb h 0::lg) hb (.inr rfl) _ (.cons (.inl (.inr rfl)) (.cons (.inr aB) .nil))) (cD (P:=λx=>x=q\/x=b) (by rw[show aR (aQ h b ((aO 2 (List.take L.length bI++[[Ei x,Ei y]]++drop (L.length+1) bI)))) []=aQ h b ((aO 2 (List.take L.length bI++[[Ei x,Ei y]]++drop (L.length+1) bI)))from rfl,bJ hb];exact hq) (.inl rfl) _ _ (.cons (.inl (.inl rfl)) .nil)) (λx hx=>.inl hx);rw[<-fZ];refine dE _ _ _ _ _ _ (λv m' R=>?_) (XL j (n+499) (aR (aQ (aQ h b ((aO 2 (List.take L.length bI++[[Ei x,Ei y]]++drop (L.length+1) bI)))) q ((aO 1 [[.slice b 0 (L.length+1) c]]))) [(aO 2 [[Ei x,Ei y]])]) _ _ (jj:=L.length) Qn (by rw[lL];omega) (by rw[lL];omega) (ES hp (x,y)));obtain⟨L2,qC,k2,Q2,p2,h2⟩:=R;obtain⟨h3,dH,d3⟩:=m';obtain rfl:d3=[]:=k2.aV;show Kc _ _ _ _ _ _ _ _ _ ⟨aR h3 [],dH,[]⟩;refine aS ?_;exact⟨b,c,L2,qC,(.inl rfl),(ck.sub (d2:=d)).trans k2.sub (λx e=>.inl (.inr e)),Q2,p2.trans (perm_append_comm (l₁:=L) (l₂:=[(x,y)])),h2⟩
 .have ln:L.length=bI.length:=by have:=H.hl;omega
  rcases H.hc with rfl|rfl
  .have ap:=λget bU h1 h2=>Af3 get bU b L.length (.slice (nb h 0) 0 1 (some 1)) [Ei x,Ei y] bI h1 h2 ln Z
   have m2:=λget vs (hg:get q=(aO 1 [[.slice (nb h 1) 0 (L.length+1) none]]))=>yO PQ.a get q true _ vs hg
   refine aD (gX w1 @yN m1 m2 qs qh o o2 ap XP XQ (Z3 nb3 (@aJ 351 _ rfl aZ) (@aJ 393 _ rfl aZ))) ?_;have Qn:sM (aR (aQ (aQ h b none) q ((aO 1 [[.slice (nb h 1) 0 (L.length+1) none]]))) [(aO 2 [[Ei x,Ei y]]),(aO 2 (bI++[[Ei x,Ei y]]))]) q (nb h 1) none (L++[(x,y)]) _:=⟨by rw[o2.2.2.2.2.1,lL],by rw[o2.2.1];rfl,by rw[lL,take_of_length_le (by simp;omega),map_append,<-H.hr,take_of_length_le Z];rfl,by rw[lL];simp;omega,.inl rfl⟩;have ck:dG (λx=>x=q\/x=b) ⟨h,lg,[]⟩ ⟨aR (aQ (aQ h b none) q ((aO 1 [[.slice (nb h 1) 0 (L.length+1) none]]))) [(aO 2 [[Ei x,Ei y]]),(aO 2 (bI++[[Ei x,Ei y]]))],q::nb h 1::b::nb h 0::lg,[]⟩:=dG.trans (cD (P:=λx=>x=q\/x=b) (l:=[]) (dx:=nb h 1::b::nb h 0::lg) hb (.inr rfl) _ (.cons (.inr aB) (.cons (.inl (.inr rfl)) (.cons (.inr aB) .nil)))) (cD (P:=λx=>x=q\/x=b) (by rw[show aR (aQ h b none) []=aQ h b none from rfl,bJ hb];exact hq) (.inl rfl) _ _ (.cons (.inl (.inl rfl)) .nil)) (λx hx=>.inl hx);rw[<-fZ];refine dE _ _ _ _ _ _ (λv m' R=>?_) (XL j (n+499) (aR (aQ (aQ h b none) q ((aO 1 [[.slice (nb h 1) 0 (L.length+1) none]]))) [(aO 2 [[Ei x,Ei y]]),(aO 2 (bI++[[Ei x,Ei y]]))]) _ _ (jj:=L.length) Qn (by rw[lL];omega) (by rw[lL];omega) (ES hp (x,y)));obtain⟨L2,qC,k2,Q2,p2,h2⟩:=R;obtain⟨h3,dH,d3⟩:=m';obtain rfl:d3=[]:=k2.aV;show Kc _ _ _ _ _ _ _ _ _ ⟨aR h3 [],dH,[]⟩;refine aS ?_;exact⟨(nb h 1),none,L2,qC,(.inr aB),(ck.sub (d2:=d)).trans k2.sub (λx e=>.inr (by subst e;exact aB)),Q2,p2.trans (perm_append_comm (l₁:=L) (l₂:=[(x,y)])),h2⟩
  .have ec:some bI.length=some L.length:=by rw[ln]
   rw[ec]at qs qh H;have ap:=λget bU h1 h2=>Af2 get bU b L.length (.slice (nb h 0) 0 1 (some 1)) [Ei x,Ei y] bI h1 h2 ln Z
   have m2:=λget vs (hg:get q=(aO 1 [[.slice (nb h 1) 0 (L.length+1) none]]))=>yO PQ.a get q true _ vs hg
   refine aD (gX w1 @yN m1 m2 qs oq ap XP XQ nb3 (@aJ 351 _ rfl aZ) (@aJ 393 _ rfl aZ)) ?_;have Qn:sM (aR (aQ h q ((aO 1 [[.slice (nb h 1) 0 (L.length+1) none]]))) [(aO 2 [[Ei x,Ei y]]),(aO 2 (bI++[[Ei x,Ei y]]))]) q (nb h 1) none (L++[(x,y)]) _:=⟨by rw[oq.2.2.2.2.1,lL],by rw[oq.2.1];rfl,by rw[lL,take_of_length_le (by simp;omega),map_append,<-H.hr,take_of_length_le Z];rfl,by rw[lL];simp;omega,.inl rfl⟩;have ck:dG (λx=>x=q\/x=b) ⟨h,lg,[]⟩ ⟨aR (aQ h q ((aO 1 [[.slice (nb h 1) 0 (L.length+1) none]]))) [(aO 2 [[Ei x,Ei y]]),(aO 2 (bI++[[Ei x,Ei y]]))],q::nb h 1::nb h 0::lg,[]⟩:=cD (P:=λx=>x=q\/x=b) hq (.inl rfl) _ _ (.cons (.inl (.inl rfl)) (.cons (.inr aB) (.cons (.inr aB) .nil)));rw[<-fZ];refine dE _ _ _ _ _ _ (λv m' R=>?_) (XL j (n+499) (aR (aQ h q ((aO 1 [[.slice (nb h 1) 0 (L.length+1) none]]))) [(aO 2 [[Ei x,Ei y]]),(aO 2 (bI++[[Ei x,Ei y]]))]) _ _ (jj:=L.length) Qn (by rw[lL];omega) (by rw[lL];omega) (ES hp (x,y)));obtain⟨L2,qC,k2,Q2,p2,h2⟩:=R;obtain⟨h3,dH,d3⟩:=m';obtain rfl:d3=[]:=k2.aV;show Kc _ _ _ _ _ _ _ _ _ ⟨aR h3 [],dH,[]⟩;refine aS ?_;exact⟨(nb h 1),none,L2,qC,(.inr aB),(ck.sub (d2:=d)).trans k2.sub (λx e=>.inr (by subst e;exact aB)),Q2,p2.trans (perm_append_comm (l₁:=L) (l₂:=[(x,y)])),h2⟩
end
section
variable{F:FuncId->Option bD}{au:bR}{sm:ct}
def iC(x:Int):List AV:=[Ei x]
def iV(x:Int):AV:=Ei x
theorem PS:∀cg:List Int,(cg.map iC).flatten=cg.map iV
 |[]=>rfl
 |x::l=>by rw[map_cons,flatten_cons,PS l];rfl
theorem KI:∀cg:List Int,mF 1 cg.length (cg.map iV)=cg.map iC
 |[]=>rfl
 |x::l=>by
  show((iV x::l.map iV).take 1)::mF 1 l.length ((iV x::l.map iV).drop 1)=_;rw[drop_one,tail_cons,KI l];rfl
theorem GQ:∀cg:List Int,(cg.map iV).all AV.cU=true
 |[]=>rfl
 |x::l=>by rw[map_cons,all_cons,GQ l];rfl
theorem KJ{cg:List Int}(hl:cg.length=17):fG 1 (cg.map iC) 0 0 17=some (cg.map iV)/\(∀es:List (List AV),es.length=17->iX 1 es 0 0 (cg.map iV)=some (cg.map iC)):=by
 refine⟨?_,λes he=>?_⟩
 .simp only[fG,Nat.ble,cond_false,iT,length_map];rw[aq Z,aG ⟨trivial,trivial,Z⟩,drop_zero,show(17/1)=cg.length by omega,<-length_map (f:=iC),take_length,PS]
 .simp only[iX,Nat.ble,cond_false,nJ,length_map];rw[aq Z,aG ⟨trivial,Z,Z⟩];rw[show cg.length/1=cg.length by omega,KI,drop_eq_nil_of_le Z,take_zero,append_nil,nil_append]
theorem sM.UJ{h:aN}{q b x:Nat}{c:Option Nat}{L:List (Int×Int)}{bI:List (List AV)}(H:sM h q b c L bI)(hx:x<h.length)(n1:q≠x)(n2:b≠x)(y:Option bp)(l:List (Option bp)):sM (aR (aQ h x y) l) q b c L bI:=
 ⟨by rw[bP hx (ag H.hq) n1];exact H.hq,by rw[bP hx (ag H.hb) n2];exact H.hb,H.hr,H.hl,H.hc⟩
theorem sM.bx{h:aN}{q b:Nat}{c:Option Nat}{L:List (Int×Int)}{bI:List (List AV)}(H:sM h q b c L bI)(l:List (Option bp)):sM (aR h l) q b c L bI:=⟨H.sl.1 l,H.sl.2 l,H.hr,H.hl,H.hc⟩
theorem sM.n1{h:aN}{q b x:Nat}{c:Option Nat}{L:List (Int×Int)}{bI es:List (List AV)}(H:sM h q b c L bI)(hx:aj h x=(aO 1 es)):b≠x:=λe=>by
 have h2:=H.hb;rw[e,hx]at h2;simp at h2
theorem PT{cg:List Int}{u:Int}(h0:0<=u)(h1:u<=16)(hl:cg.length=17):(0<=u)=True/\(u.toNat<17)=True/\fG 1 (cg.map iC) u.toNat 0 1=some [Ei (gt cg u.toNat)]/\(∀t,iX 1 (cg.map iC) u.toNat 0 [Ei t]=some ((cg.set u.toNat t).map iC)):=by
 have hu:u.toNat<cg.length:=Z;have e:(cg.map iC)[u.toNat]?=some (iC (gt cg u.toNat)):=by rw[getElem?_map,getElem?_eq_getElem hu,<-bB hu];rfl
 refine⟨by simpa using h0,by simp;omega,?_,λt=>?_⟩
 .simp only[fG,Nat.ble,cond_false,iT,e];rfl
 .simp only[iX,Nat.ble,cond_false,nJ,e,length_cons,length_nil,map_set];rfl
def lK(i:Nat):List Int:=replicate i (-1)++replicate (17-i) 0
theorem vX:∀i,i<17->(lK i).set i (-1)=lK (i+1):=aZ
theorem nE:∀i,i<18->(lK i).length=17:=aZ
def zR:List (List AV):=(replicate 17 (0:Int)).map iC
structure RI(h:aN)(lg:List Nat)(l:List bF)(z a:Int)(s:Nat)(m:Mem)(b:Nat)(c:Option Nat)(L:List (Int×Int))(bI:List (List AV))(cg:List Int)(cur:Int)(S:List Int)(u k:Nat):Prop where
 kp:aY ⟨h,lg,[]⟩ m
 qa:sM m.ah (nb h 3) b c L bI
 bh:h.length<=b
 ob:aj m.ah (nb h 1)=(aO 1 (cg.map iC))
 rb:aj m.ah (nb h 0)=(aO 1 zR)
 dj:DS l z a s cg L u k
 mo:Mon cg L cur S
 hp:Heap kQ L.length L
theorem DS.sq{l:List bF}{z a:Int}{s u k:Nat}{cg:List Int}{Q Q':List (Int×Int)}(D:DS l z a s cg Q u k)(h:Q'.Perm Q):DS l z a s cg Q' u k:=
 ⟨D.len,D.z0,λx hx=>D.q x (h.mem_iff.1 hx),λn hn h0=>by
  rcases D.c n hn h0 with⟨x,hx,e⟩|c
  .exact .inl ⟨x,h.mem_iff.2 hx,e⟩
  .exact .inr c,D.w,D.b,D.g⟩
theorem RI.xN{h h4:aN}{lg fi jg:List Nat}{l:List bF}{z a:Int}{s b u k:Nat}{c:Option Nat}{L:List (Int×Int)}{bI:List (List AV)}{cg:List Int}{cur:Int}{S:List Int}(R:RI h lg l z a s ⟨h4,fi,[]⟩ b c L bI cg cur S u k)(ll:List (Option bp))(hl:dm h4 fi jg):RI h lg l z a s ⟨aR h4 ll,jg,[]⟩ b c L bI cg cur S u k:=
 ⟨R.kp.trans (aH hl),R.qa.bx ll,R.bh,(an ll h4 _ (ag R.ob)).trans R.ob,(an ll h4 _ (ag R.rb)).trans R.rb,R.dj,R.mo,R.hp⟩
theorem RI.skip{h h4:aN}{lg fi jg:List Nat}{l:List bF}{z a:Int}{s b u k:Nat}{c:Option Nat}{L:List (Int×Int)}{bI:List (List AV)}{cg:List Int}{cur:Int}{S:List Int}(R:RI h lg l z a s ⟨h4,fi,[]⟩ b c L bI cg cur S u k)(ll:List (Option bp))(hl:dm h4 fi jg)
 (hs:(gt l k).f.toNat=u->∀t,gE (gt l k) z (gt cg u)=some t->0<=gt cg (gt l k).t.toNat/\gt cg (gt l k).t.toNat<=t):RI h lg l z a s ⟨aR h4 ll,jg,[]⟩ b c L bI cg cur S u (k+1):=
 have R':=R.xN ll hl
 ⟨R'.kp,R'.qa,R'.bh,R'.ob,R'.rb,R'.dj.skip hs,R'.mo,R'.hp⟩
theorem Af6{l:List bF}{z a:Int}{s:Nat}(hs:1<=s/\s<=16)(ha:0<=a/\a<=1099511627776):DS l z a s ((lK 17).set s a) [((s:Int),a)] 17 0:=by
 have hl:(lK 17).length=17:=rfl;have gn:∀n,n<17->gt (lK 17) n=-1:=aZ;have g:∀n,n<17->gt ((lK 17).set s a) n=if n=s then a else-1:=λn hn=>by
  rw[ju Z,gn n hn]
 refine⟨by rw[length_set];rfl,by rw[g s Z,aG rfl],λx hx=>?_,λn hn h0=>?_,λn hn h0=>?_,λn hn=>?_,λn hn h0=>?_⟩
 .rw[mem_singleton]at hx;subst hx;simp only[Int.toNat_natCast];rw[g s Z,aG rfl];unfold kv;omega
 .rw[g n hn]at h0;split at h0
  .rename_i e;exact .inl ⟨_,mem_singleton.2 rfl,by simp only[Int.toNat_natCast];exact e.symm,by rw[g n hn,aG e]⟩
  .omega
 .rw[g n hn]at h0;split at h0
  .rename_i e;exact .inl e
  .omega
 .rw[g n hn];unfold kv;split<;>omega
 .rw[g n hn]at h0|-;split at h0
  .rename_i e;rw[aG e];omega
  .omega
theorem Af7{cg:List Int}{a s:Int}:Mon cg [(s,a)] a []:=⟨λx hx=>by rw[mem_singleton]at hx;subst hx;exact Int.le_refl _,by simp,by simp,λu hu=>by cases hu⟩
def RRe(l:List bF)(z a:Int)(s:Nat):AV->aN->Prop:=λv _=>∃cg:List Int,cg.length=17/\(∀n,n<17->-1<=gt cg n)/\n8 l z a s (gt cg)/\v=.agg (cg.map iV)
theorem Akz(lg d:List Nat){l:List bF}{v:AV}{s:Nat}{a z:Int}(hv:aT h 6 v (l.map bY))(hw:l.length<=40)(hc:∀c∈l,cF c)(vp:1<=s/\s<=16)(ha:0<=a/\a<=1099511627776)(hz:1<=z/\z<=1200)(hj:j<lv 332)(q_:206<=j:=by omega):Wa FT MT (SM j) (n+2000) (.fn 332) [v,Ei s,Ei a,Ei z] ⟨aR h [],lg,d⟩ (Qk ⟨h,lg,d⟩ (RRe l z a s)):=by
 rw[wj Ajf hj aZ];refine aS ?_;refine dV 17 [Ux] (λi=>[Ei i]) (λi m'=>∃bq,m'=⟨aR h [(aO 1 zR),(aO 1 ((lK i).map iC))],bq,[]⟩/\dm h lg bq) Z aX ⟨rfl,_,rfl,aL⟩ (λi m' g hi hP=>?_) (λm' g hP=>?_)
 .obtain⟨bq,rfl,hl⟩:=hP;have r:=fh hi Z;have ra:=PT (cg:=lK i) (u:=(i:Int)) Z Z (nE i Z);rw[Int.toNat_natCast]at ra;have fs:=vX i hi;have zQ:(i<17)=True:=by simp;omega
  have IM:((i:Int)<17)=True:=by simp;omega
  refine aD (Z6 @tD zQ IM r ra fs) ?_;exact⟨_,rfl,.cons hl⟩
 .obtain⟨bq,rfl,hl⟩:=hP;have ra:=PT (cg:=lK 17) (u:=(s:Int)) Z Z (nE 17 Z);rw[Int.toNat_natCast]at ra;have XR:(s<17)=True:=by simp;omega
  refine aD (Z3 @tD XR ra) ?_;have Zf:∀S:List Int,S.length<=16->S.length*l.length<=16*l.length:=λS h=>Nat.mul_le_mul_right _ h
  refine dV (1+16*l.length) [] (λi=>[]) (λi m'=>∃b c L bI cg cur S,RI h lg l z a s m' b c L bI cg cur S 17 0/\i+L.length<=1+S.length*l.length) Z (by repeat first|apply Gp|apply Gq|apply Gn) ⟨rfl,nb h 2,some 1,[((s:Int),a)],_,_,a,[],⟨aH (by repeat first|exact hl|apply dm.cons),⟨bj,bj,rfl,by simp,.inr rfl⟩,aB,bj,bj,Af6 vp ha,Af7,λx x1 x2=>by simp at x2;omega⟩,by simp⟩ (λi m g hi hP=>?_) (λm g hP=>?_)
  .obtain⟨b,c,L,bI,cg,cur,S,R,AkA⟩:=hP;obtain⟨h3,dH,d3⟩:=m;obtain rfl:d3=[]:=R.kp.aV;have qs:=R.qa.sl;have Sle:=R.mo.le;have LLe:=Zf S Sle;refine bH ?_;rcases Nat.eq_zero_or_pos L.length with z0|z0
   .rw[z0]at qs;have L0:L=[]:=eq_nil_of_length_eq_zero z0;subst L0;have b1:=λq=>(an q h3 _ (ag R.ob)).trans R.ob
    have b0:=λq=>(an q h3 _ (ag R.rb)).trans R.rb
    have o:=bg (ag R.rb);have Tf:=KJ R.dj.len;have XS:=Tf.2 zR rfl;have al:=GQ cg;have ol:=R.dj.len;refine aD (Z9 qs b1 b0 Tf.1 XS al ol o (@aJ 351 _ rfl aZ)) ?_;exact⟨aY.sub (aY.bS (dx:=nb h 0::dH) R.kp aB (ag R.rb) _ [] (dD.ok (.cons aB .nil))),cg,R.dj.len,λn hn=>(R.dj.b n hn).1,R.dj.closed hc,rfl⟩
   .have z1:(0<(L.length:Int))=True:=by simp;omega
    refine aW (Z3 qs z1 (@aJ 351 _ rfl aZ)) ?_;rw[<-fZ];refine dE _ _ _ _ _ _ (λv' m' R2=>?_) (Aky j (n+499) h3 _ _ R.qa z0 Z R.hp);obtain⟨c2,L2,qC,rfl,k2,Q2,p2,JE⟩:=R2;obtain⟨h4,fi,d4⟩:=m';obtain rfl:d4=[]:=k2.aV;simp only at Q2;have hx:gt L 0∈L:=by rw[bB z0];exact getElem_mem _
    have Af8:∀y,y∈L↔y=gt L 0\/y∈L2:=λy=>by rw[<-p2.mem_iff,mem_cons]
    have Sb:∀y∈L2,(gt L 0).2<=y.2:=λy hy=>by
     obtain⟨k,hk,rfl⟩:=getElem_of_mem ((Af8 y).2 (.inr hy));rw[<-bB hk];exact Pq R.hp k hk
    have q1:=R.qa.n1 R.ob;have q0:=R.qa.n1 R.rb;have PU:nb h 1≠nb h 3:=by rw[ne_eq,gG];omega
    have XT:nb h 0≠nb h 3:=by rw[ne_eq,gG];omega
    have kp4:aY ⟨h,lg,[]⟩ ⟨h4,fi,[]⟩:=R.kp.ko k2 λx hx=>by rcases hx with rfl|rfl;exact aB;exact R.bh
    have Zg:aj h4 (nb h 1)=(aO 1 (cg.map iC)):=(k2.get _ (ag R.ob) (λe=>by rcases e with e|e;exact PU e;exact q1 e.symm)).trans R.ob;have rb4:aj h4 (nb h 0)=(aO 1 zR):=(k2.get _ (ag R.rb) (λe=>by rcases e with e|e;exact XT e;exact q0 e.symm)).trans R.rb;have dq:=R.dj.q _ hx;have moP:=R.mo.sq p2;have dp:=R.dj.pop Af8 hx rfl;have ll:=p2.length_eq;rw[length_cons]at ll;have ra:=PT (cg:=cg) (u:=(gt L 0).1) Z Z R.dj.len;have b1:=λq=>(an q h4 _ (ag Zg)).trans Zg
    generalize gt L 0=x at*;obtain⟨x1,x2⟩:=x;simp only at*;show Kc _ _ _ _ _ _ _ _ _ ⟨aR h4 [],fi,[]⟩;by_cases cl:gt cg x1.toNat<x2
    .refine aD (Z4 b1 ra cl @tD) ?_;exact⟨b,c2,L2,qC,cg,x2,S,RI.xN ⟨kp4,Q2,R.bh,Zg,rb4,dp.1 cl,moP.late Sb,JE⟩ _ aL,Z⟩
    .have sm1:(S.length+1)*l.length=S.length*l.length+l.length:=Nat.succ_mul _ _;obtain⟨ex,dj4⟩:=dp.2 cl;have mo4:=moP.take Sb dq.1 dq.2.1 ex;have R4:RI h lg l z a s ⟨h4,fi,[]⟩ b c2 L2 qC cg x2 (x1::S) x1.toNat 0:=⟨kp4,Q2,R.bh,Zg,rb4,dj4,mo4,JE⟩;have Nq:=(aT.bw (m:=⟨h,lg,[]⟩) (m':=⟨h4,fi,[]⟩) hv kp4).len;refine aD (Z5 b1 ra cl @tD Nq) ?_;have bl:b<h4.length:=ag Q2.hb;refine dV l.length [X49] (λk=>[Ei k]) (λk m'=>∃b c L' lJ SE,RI h lg l z a s m' b c L' lJ SE x2 (x1::S) x1.toNat k/\aj m'.ah (nb h4 0)=(aO 2 [[Ei x1,Ei x2]])/\b≠nb h4 0/\i+1+L'.length<=1+S.length*l.length+k/\gt SE x1.toNat=x2) Z (by repeat first|apply Gp|apply Gq|apply Gn|apply SI) ⟨rfl,b,c2,L2,qC,cg,R4.xN _ aL,bj,by rw[nb];omega,Z,ex⟩ (λk m g hk hP=>?_) (λm g hP=>?_)
     .obtain⟨b5,c5,L5,CE,qc,R5,GS,US,AkB,IN⟩:=hP;obtain⟨h5,jg,d5⟩:=m;obtain rfl:d5=[]:=R5.kp.aV;have e:=(aT.bw (m:=⟨h,lg,[]⟩) (m':=⟨h5,jg,[]⟩) hv R5.kp).el hk;have r:=fh hk Z;have b1:=λq=>(an q h5 _ (ag R5.ob)).trans R5.ob
      have s1:=λq=>(an q h5 _ (ag GS)).trans GS
      have Af:=hc (gt l k) (by rw[bB hk];exact getElem_mem _);have g1:=λm=>Te j (gt l k) z x2 m Af hz Z
      have rt:=PT (cg:=qc) (u:=(gt l k).t) (by have:=Af.2.1;omega) (by have:=Af.2.1;omega) R5.dj.len;unfold bY at e g1;refine bH ?_;by_cases cf:(gt l k).f=x1
      .have cft:=eq_true cf;cases eh:gE (gt l k) z x2 with
       |none=>
        rw[eh]at g1;refine aW (Z5 e r s1 g1 cft) ?_;exact⟨b5,c5,L5,CE,qc,R5.skip _ aL (λ_ t h=>by rw[IN,eh]at h;cases h),US,Z,IN⟩
       |some t=>
        rw[IJ,eh]at g1;have o5:=bg (ag R5.ob);have bt:=R5.dj.b (gt l k).t.toNat (by have:=Af.2.1;omega);by_cases q1:gt qc (gt l k).t.toNat=-1
        .have Tg:=eq_true q1;refine aD (yA e r b1 s1 g1 cft rt o5 @tD Tg) ?_;rw[<-fZ];have QN:sM (aR (aQ h5 (nb h 1) ((aO 1 (List.map iC (qc.set (gt l k).t.toNat t))))) [(aO 6 [[Ei (gt l k).f,Ei (gt l k).t,Ei (gt l k).s,Ei (gt l k).e,Ei (gt l k).r,Ei (gt l k).d]])]) (nb h 3) b5 c5 L5 CE:=R5.qa.UJ (ag R5.ob) (Ne.symm PU) (R5.qa.n1 R5.ob) _ _;refine dE _ _ _ _ _ _ (λv' m' R6=>?_) (Af5 j (n+499) (aR (aQ h5 (nb h 1) ((aO 1 (List.map iC (qc.set (gt l k).t.toNat t))))) [(aO 6 [[Ei (gt l k).f,Ei (gt l k).t,Ei (gt l k).s,Ei (gt l k).e,Ei (gt l k).r,Ei (gt l k).d]])]) _ _ QN (by have:=Zf S (by have:=mo4.le;simp only[length_cons]at this;omega);omega) R5.hp);obtain⟨b6,c6,L6,PV,hb6,k6,Q6,p6,hp6⟩:=R6;obtain⟨h6,ux,d6⟩:=m';obtain rfl:d6=[]:=k6.aV;simp only at Q6;show Kc _ _ _ _ _ _ _ _ _ ⟨aR h6 [],ux,[]⟩;refine aW r ?_;have MM:nb h 1<h5.length:=ag R5.ob;have lo0:nb h 0<h5.length:=ag R5.rb;have lob:b5<h5.length:=ag R5.qa.hb;have los:nb h4 0<h5.length:=ag GS;have PW:h.length<=h5.length:=R5.kp.len;have l43:nb h 3<h4.length:=ag Q2.hq;have l41:nb h 1<h4.length:=ag Zg;have lN:h5.length<=(aR (aQ h5 (nb h 1) ((aO 1 (List.map iC (qc.set (gt l k).t.toNat t))))) [(aO 6 [[Ei (gt l k).f,Ei (gt l k).t,Ei (gt l k).s,Ei (gt l k).e,Ei (gt l k).r,Ei (gt l k).d]])]).length:=by rw[bV,bJ MM];omega
         have n4:nb h4 0=h4.length:=rfl;have ll6:=p6.length_eq;rw[length_cons]at ll6;have hd:gt qc (gt l k).t.toNat<0\/t<gt qc (gt l k).t.toNat:=Z;have kpN:aY ⟨h,lg,[]⟩ ⟨aR (aQ h5 (nb h 1) ((aO 1 (List.map iC (qc.set (gt l k).t.toNat t))))) [(aO 6 [[Ei (gt l k).f,Ei (gt l k).t,Ei (gt l k).s,Ei (gt l k).e,Ei (gt l k).r,Ei (gt l k).d]])],nb h 1::nb h5 0::nb h5 0::jg,[]⟩:=aY.bS R5.kp aB MM _ _ (dD.ok (.cons aB (.cons (bK PW aB) (.cons (bK PW aB) .nil))));refine⟨b6,c6,L6,PV,qc.set (gt l k).t.toNat t,⟨kpN.ko k6 (λx hx=>by rcases hx with rfl|rfl;exact aB;exact R5.bh),Q6,by rcases hb6 with e|e;rw[e];exact R5.bh;exact bK PW (bK lN e),?_,?_,(R5.dj.put hc hz.1 hk (by rw[cf]) Z ha.1 (by rw[IN];exact eh) hd).sq p6,(R5.mo.put Af.2.1 R5.dj.len (λx hx=>by have:=R5.dj.q x hx;omega) (pN Af hz.1 eh) hd).sq p6,hp6⟩,?_,?_,Z,?_⟩
         .exact(k6.get _ (gA MM lN) (λe=>by rcases e with e|e;exact PU e;exact R5.qa.n1 R5.ob e.symm)).trans ((bg MM).2.2.2.2.1 _ _)
         .exact(k6.get _ (gA lo0 lN) (λe=>by rcases e with e|e;exact XT e;exact R5.qa.n1 R5.rb e.symm)).trans ((bP MM lo0 (by rw[ne_eq,gG];omega) _ _).trans R5.rb)
         .exact(k6.get _ (gA los lN) (λe=>by rcases e with e|e;omega;exact US e.symm)).trans ((bP MM los Z _ _).trans GS)
         .rcases hb6 with e|e
          .rw[e];exact US
          .intro q;have e':=bK lN e;omega
         .rw[ju (by have:=R5.dj.len;have:=Af.2.1;omega),aq (by have:=Af.2.2.1;have:=Af.1;have:=Af.2.1;omega)];exact IN
        .have Tg:=eq_false q1;by_cases q2:t<gt qc (gt l k).t.toNat
         .have XU:=eq_true q2;refine aD (xq e r b1 s1 g1 cft rt o5 @tD Tg XU) ?_;rw[<-fZ];have QN:sM (aR (aQ h5 (nb h 1) ((aO 1 (List.map iC (qc.set (gt l k).t.toNat t))))) [(aO 6 [[Ei (gt l k).f,Ei (gt l k).t,Ei (gt l k).s,Ei (gt l k).e,Ei (gt l k).r,Ei (gt l k).d]])]) (nb h 3) b5 c5 L5 CE:=R5.qa.UJ (ag R5.ob) (Ne.symm PU) (R5.qa.n1 R5.ob) _ _;refine dE _ _ _ _ _ _ (λv' m' R6=>?_) (Af5 j (n+499) (aR (aQ h5 (nb h 1) ((aO 1 (List.map iC (qc.set (gt l k).t.toNat t))))) [(aO 6 [[Ei (gt l k).f,Ei (gt l k).t,Ei (gt l k).s,Ei (gt l k).e,Ei (gt l k).r,Ei (gt l k).d]])]) _ _ QN (by have:=Zf S (by have:=mo4.le;simp only[length_cons]at this;omega);omega) R5.hp);obtain⟨b6,c6,L6,PV,hb6,k6,Q6,p6,hp6⟩:=R6;obtain⟨h6,ux,d6⟩:=m';obtain rfl:d6=[]:=k6.aV;simp only at Q6;show Kc _ _ _ _ _ _ _ _ _ ⟨aR h6 [],ux,[]⟩;refine aW r ?_;have MM:nb h 1<h5.length:=ag R5.ob;have lo0:nb h 0<h5.length:=ag R5.rb;have lob:b5<h5.length:=ag R5.qa.hb;have los:nb h4 0<h5.length:=ag GS;have PW:h.length<=h5.length:=R5.kp.len;have l43:nb h 3<h4.length:=ag Q2.hq;have l41:nb h 1<h4.length:=ag Zg;have lN:h5.length<=(aR (aQ h5 (nb h 1) ((aO 1 (List.map iC (qc.set (gt l k).t.toNat t))))) [(aO 6 [[Ei (gt l k).f,Ei (gt l k).t,Ei (gt l k).s,Ei (gt l k).e,Ei (gt l k).r,Ei (gt l k).d]])]).length:=by rw[bV,bJ MM];omega
          have n4:nb h4 0=h4.length:=rfl;have ll6:=p6.length_eq;rw[length_cons]at ll6;have hd:gt qc (gt l k).t.toNat<0\/t<gt qc (gt l k).t.toNat:=Z;have kpN:aY ⟨h,lg,[]⟩ ⟨aR (aQ h5 (nb h 1) ((aO 1 (List.map iC (qc.set (gt l k).t.toNat t))))) [(aO 6 [[Ei (gt l k).f,Ei (gt l k).t,Ei (gt l k).s,Ei (gt l k).e,Ei (gt l k).r,Ei (gt l k).d]])],nb h 1::nb h5 0::nb h5 0::jg,[]⟩:=aY.bS R5.kp aB MM _ _ (dD.ok (.cons aB (.cons (bK PW aB) (.cons (bK PW aB) .nil))));refine⟨b6,c6,L6,PV,qc.set (gt l k).t.toNat t,⟨kpN.ko k6 (λx hx=>by rcases hx with rfl|rfl;exact aB;exact R5.bh),Q6,by rcases hb6 with e|e;rw[e];exact R5.bh;exact bK PW (bK lN e),?_,?_,(R5.dj.put hc hz.1 hk (by rw[cf]) Z ha.1 (by rw[IN];exact eh) hd).sq p6,(R5.mo.put Af.2.1 R5.dj.len (λx hx=>by have:=R5.dj.q x hx;omega) (pN Af hz.1 eh) hd).sq p6,hp6⟩,?_,?_,Z,?_⟩
          .exact(k6.get _ (gA MM lN) (λe=>by rcases e with e|e;exact PU e;exact R5.qa.n1 R5.ob e.symm)).trans ((bg MM).2.2.2.2.1 _ _)
          .exact(k6.get _ (gA lo0 lN) (λe=>by rcases e with e|e;exact XT e;exact R5.qa.n1 R5.rb e.symm)).trans ((bP MM lo0 (by rw[ne_eq,gG];omega) _ _).trans R5.rb)
          .exact(k6.get _ (gA los lN) (λe=>by rcases e with e|e;omega;exact US e.symm)).trans ((bP MM los Z _ _).trans GS)
          .rcases hb6 with e|e
           .rw[e];exact US
           .intro q;have e':=bK lN e;omega
          .rw[ju (by have:=R5.dj.len;have:=Af.2.1;omega),aq (by have:=Af.2.2.1;have:=Af.1;have:=Af.2.1;omega)];exact IN
         .have XU:=eq_false q2;refine aD (yA e r b1 s1 g1 cft rt @tD Tg XU) ?_;exact⟨b5,c5,L5,CE,qc,R5.skip _ aL (λ_ t' h=>by rw[IN,eh]at h;cases h;omega),US,Z,IN⟩
      .refine aW (Z4 e r s1 cf) ?_;exact⟨b5,c5,L5,CE,qc,R5.skip _ aL (λe=>absurd (by have:=Af.1;omega) cf),US,Z,IN⟩
     .obtain⟨b5,c5,L5,CE,qc,R5,GS,US,AkB,IN⟩:=hP;obtain⟨h5,jg,d5⟩:=m;obtain rfl:d5=[]:=R5.kp.aV;have r:=cY l.length;refine bH ?_;refine aW r ?_;exact⟨b5,c5,L5,CE,qc,x2,x1::S,⟨R5.kp,R5.qa,R5.bh,R5.ob,R5.rb,R5.dj.done,R5.mo,R5.hp⟩,by rw[length_cons];omega⟩
  .obtain⟨b,c,L,bI,cg,cur,S,R,AkA⟩:=hP;obtain⟨h3,dH,d3⟩:=m;obtain rfl:d3=[]:=R.kp.aV;have qs:=R.qa.sl;have Sle:=R.mo.le;have LLe:=Zf S Sle;refine bH ?_;have z0:L.length=0:=Z;rw[z0]at qs;have L0:L=[]:=eq_nil_of_length_eq_zero z0;subst L0;have b1:=λq=>(an q h3 _ (ag R.ob)).trans R.ob
   have b0:=λq=>(an q h3 _ (ag R.rb)).trans R.rb
   have o:=bg (ag R.rb);have Tf:=KJ R.dj.len;have XS:=Tf.2 zR rfl;have al:=GQ cg;have ol:=R.dj.len;refine aD (Z9 qs b1 b0 Tf.1 XS al ol o (@aJ 351 _ rfl aZ)) ?_;exact⟨aY.sub (aY.bS (dx:=nb h 0::dH) R.kp aB (ag R.rb) _ [] (dD.ok (.cons aB .nil))),cg,R.dj.len,λn hn=>(R.dj.b n hn).1,R.dj.closed hc,rfl⟩
end
section
variable{F:FuncId->Option bD}{au:bR}{sm:ct}
theorem PY{c:bF}(hc:cF c){z:Int}(hz:1<=z){cA next:List Int}(hn:∀n,n<17->-1<=gt next n)(hl:next.length=17):∀n,n<17->-1<=gt (mM z cA next c) n:=λn Hs=>by
 unfold mM;split
 .exact hn n Hs
 .split
  .exact hn n Hs
  .rename_i t e;split
   .rw[ju (by have:=hc.2.1;omega)];split
    .have:=qU hc hz e;omega
    .exact hn n Hs
   .exact hn n Hs
theorem GU{l:List bF}(hv:∀c∈l,cF c){z:Int}(hz:1<=z){cA:List Int}(hn:∀n,n<17->-1<=gt cA n)(hl:cA.length=17):∀i,i<=l.length->∀n,n<17->-1<=gt (ib l z cA i) n
 |0,_=>hn
 |i+1,hi=>PY (hv _ (by rw[bB (show i<l.length by omega)];exact getElem_mem _)) hz (GU hv hz hn hl i Z) (by rw[oY,hl])
theorem tK{l:List bF}(hv:∀c∈l,cF c){z a:Int}(hz:1<=z)(ha:0<=a){s:Nat}(hs:s<17):∀h n,n<17->-1<=gt (dA l z a s h) n
 |0,n,hn=>by
  have:=(oZ hv hz hs ha).z0 n hn;rw[this];split<;>omega
 |h+1,n,hn=>GU hv hz (tK hv hz ha hs h) (fo l z a s h) l.length cB n hn
theorem PZ{a b:List Int}(h1:a.length=17)(h2:b.length=17)(h:∀n,n<17->gt a n=gt b n):a=b:=
 ext_getElem Z λn p q=>by
  have:=h n Z;rw[bB p,bB q]at this;exact this
theorem MN{l:List bF}(hv:∀c∈l,cF c){z a:Int}(hz:1<=z)(ha:0<=a){s:Nat}(hs:s<17){cg:List Int}(hl:cg.length=17)(hb:∀n,n<17->-1<=gt cg n)(G:n8 l z a s (gt cg)):cg=dA l z a s 16:=by
 refine PZ hl (fo l z a s 16) λn hn=>?_
 have H:=oZ hv hz hs ha;have R:=DP hv hz hs H G ha hn;have b1:=hb n hn;have b2:=tK hv hz ha hs 16 n hn;by_cases q:0<=gt cg n
 .have a1:=oW hv H G ha 16 n hn (R.1 q);have a2:=zF hv hz hs H G ha (gt cg n).toNat n hn q cB;have a3:=jJ H hn a2.1 16 (Pj hn q);omega
 .have:=λp=>q (R.2 p)
  omega
theorem AkC(l:List bF)(v:AV)(s:Nat)(a z:Int)(m:Mem)(hv:aT m.ah 6 v (l.map bY))(hw:l.length<=40)(hc:∀c∈l,cF c)(vp:1<=s/\s<=16)(ha:0<=a/\a<=1099511627776)(hz:1<=z/\z<=1200)(q_:217<=j:=by omega):SM j 332 [v,Ei s,Ei a,Ei z] m=some (.agg ((dA l z a s 16).map iV),m):=by
 have re:∀l:List Int,hH (l.map iV)=[]:=λl=>by
  induction l with
  |nil=>rfl
  |cons x l ih=>rw[map_cons,hH,ih];rfl
 refine Pv (L:=216) aZ q_ (by simp[AV.cj,re]) ?_;obtain⟨h,lg,d⟩:=m;have e:=Akz 216 28000 h lg d hv hw hc vp ha hz aZ;obtain⟨x,m',q,k,cg,o1,o2,o3,rfl⟩:=tC _ _ _ _ _ e;rw[<-MN hc hz.1 ha.1 Z o1 o2 o3];exact⟨m',q,k⟩
theorem AkD(x:Int)(m:Mem)(q_:192<=j:=by omega):SM j 348 [Ei x] m=some (.bool (decide (1<=x/\x<=16)),m):=by
 obtain⟨h,lg,d⟩:=m;refine aP 1999 q_ λn=>?_
 exact aK
theorem Af9(x:Int)(m:Mem)(q_:301<=j:=by omega):SM j 344 [Ei x] m=some (.bool (decide (1<=x/\x<=16)),m):=by
 obtain⟨h,lg,d⟩:=m;refine aP 1999 q_ λn=>?_
 exact aK
theorem AkE(x:Int)(m:Mem)(q_:193<=j:=by omega):SM j 347 [Ei x] m=some (.bool (decide (¬(1<=x/\x<=16))),m):=by
 obtain⟨h,lg,d⟩:=m;refine aP 1999 q_ λn=>?_
 have g:=λm=>AkD 192 x m
 exact aC (Z2 g @Abg)
theorem AkF(l:List Int)(v:AV)(m:Mem)(hv:aT m.ah 1 v (l.map iC))(hw:l.length<=10)(ho:(∀x∈l,1<=x/\x<=16))(q_:194<=j:=by omega):SM j 360 [v,.func 347 [] []] m=some (Ei (-1),m):=by
 obtain⟨h,lg,d⟩:=m;refine aP 1999 q_ λn=>?_
 have lv:=hv.len;refine aW lv ?_;refine bL l.length [X8] (λi=>[Ei i]) (λ_=>True) Z aX ⟨rfl,trivial⟩ (λi h' bq g hi hP hK=>?_) (λh' bq g hP hK=>?_)
 .have a:=hK.aA lg d;have e:=(hK.sl hv).el hi;have r:=fh hi Z;have ok:=ho (gt l i) (by rw[bB hi];exact getElem_mem _);have g1:=λm=>AkE 193 (gt l i) m
  rw[decide_eq_false (λq=>q ok)]at g1;unfold iC at e;exact aC (Z4 a e r g1)
 .have a:=hK.aA lg d;have r:=cY l.length;exact aC (Z2 a r)
theorem AkG(l:List Int)(v:AV)(m:Mem)(hv:aT m.ah 1 v (l.map iC))(hw:l.length<=10)(ho:(∀x∈l,1<=x/\x<=16))(q_:195<=j:=by omega):SM j 349 [v,.func 347 [] []] m=some (.bool false,m):=by
 obtain⟨h,lg,d⟩:=m;refine aP 1999 q_ λn=>?_
 have g1:=λl' lg d=>AkF 194 l v ⟨aR h l',lg,d⟩ (hv.bx l') hw ho
 exact aC g1
def isR(l:List bF)(z:Int)(s t:Nat):Prop:=0<=gt (dA l z 0 s 16) t
instance Amn(l:List bF)(z:Int)(s t:Nat):Decidable (isR l z s t):=by unfold isR;infer_instance
theorem Aga{cg:List Int}(hl:cg.length=17){t:Nat}(ht:t<17):((cg.map iV).drop (t*1)).take 1=[Ei (gt cg t)]:=by
 rw[Nat.mul_one,<-map_drop,<-map_take,drop_eq_getElem_cons Z,take_succ_cons,take_zero,bB Z];rfl
end
section
variable{F:FuncId->Option bD}{au:bR}{sm:ct}
theorem AkH(x:Int)(m:Mem)(q_:294<=j:=by omega):SM j 357 [Ei x] m=some (.bool (decide (0<=x/\x<=1099511627776)),m):=by
 obtain⟨h,lg,d⟩:=m;refine aP 1999 q_ λn=>?_
 exact aK
theorem AkI(c:bF)(z x:Int)(m:Mem)(hc:cF c)(hz:(1<=z/\z<=1200))(hx:(0<=x/\x<=kv))(q_:297<=j:=by omega):SM j 342 [.agg (bY c),Ei 0,Ei x,Ei z] m=some (.tuple [Ei (j5 c z x),Ei (qG c z x),Ei (lI c z x)],m):=by
 obtain⟨h,lg,d⟩:=m;refine aP 1999 q_ λn=>?_
 have v:=vu hc;have p:=zP hc x;have g1:=λm=>E88 296 c m
 rw[(pV c).2 hc]at g1;have g2:=λm=>AkH 296 x m
 have g3:=λm=>Af0 296 c m hc
 have g5:=λm=>Akr 296 c x m hc hx
 have z1:(z<1)=False:=by simp;omega
 have z2:(1099511627776<z)=False:=by simp;omega
 have mx:(if 0<fx c x then fx c x else 0)=fx c x:=Z;have w1:i64.wrap (fx c x+z)=fx c x+z:=aU Z Z;have w0:i64.wrap (ku c-fx c x)=ku c-fx c x:=aU Z Z;have vn:(ku c<0)=False:=by simp;omega
 unfold bY at g1 g3 g5;by_cases q:1099511627776<x
 .rw[decide_eq_false Z]at g2;have e:lI c z x=2:=by unfold lI;rw[aG q]
  have e2:j5 c z x=0:=by unfold j5;rw[e];rfl
  have e3:qG c z x=0:=by unfold qG;rw[e];rfl
  rw[e,e2,e3];exact aC (Z3 @bY.eq_1 g1 g2)
 .rw[decide_eq_true Z]at g2;by_cases q2:ku c<fx c x+z
  .have e:lI c z x=16:=by unfold lI;rw[aq q,aG q2]
   have e2:j5 c z x=0:=by unfold j5;rw[e];rfl
   have e3:qG c z x=0:=by unfold qG;rw[e];rfl
   have q3:(ku c-fx c x<z)=True:=by simp;omega
   rw[e,e2,e3];exact aC (xq @bY.eq_1 g1 g2 g3 g5 z1 z2 mx w0 q3 vn)
  .have e:lI c z x=0:=by unfold lI;rw[aq q,aq q2]
   have e2:j5 c z x=Fb c (fx c x+z):=by unfold j5;rw[aG e]
   have e3:qG c z x=fx c x+z:=by unfold qG;rw[aG e]
   have q3:(ku c-fx c x<z)=False:=by simp;omega
   have EP:=hc.2.2.2;have t:=II hc (p:=fx c x+z) Z Z;have w2:i64.wrap (fx c x+z+c.r)=fx c x+z+c.r:=aU Z Z;have w3:i64.wrap (fx c x+z+c.r-1)=fx c x+z+c.r-1:=aU Z Z;have w4:i64.wrap (Int.tdiv (fx c x+z+c.r-1) c.r)=(fx c x+z+c.r-1)/c.r:=by
    rw[Int.tdiv_eq_ediv_of_nonneg Z];exact aU Z Z
   have w5:i64.wrap (c.s+(fx c x+z+c.r-1)/c.r)=Fb c (fx c x+z):=aU Z Z;have r0:(c.r=0)=False:=by simp;omega
   rw[e,e2,e3];exact aC (gX @bY.eq_1 g1 g2 g3 g5 z1 z2 mx w0 w1 w2 (Z6 w3 w4 w5 r0 q3 vn))
theorem AkJ(c:bF)(z x:Int)(m:Mem)(hc:cF c)(hz:(1<=z/\z<=1200))(hx:(0<=x/\x<=kv))(q_:298<=j:=by omega):SM j 326 [.agg (bY c),Ei x,Ei z] m=some (.tuple [Ei (j5 c z x),Ei (lI c z x)],m):=by
 obtain⟨h,lg,d⟩:=m;refine aP 1999 q_ λn=>?_
 have g:=λm=>AkI 297 c z x m hc hz hx
 unfold bY at g;exact aC (Z2 @bY.eq_1 g)
def D7(c:bF)(z x:Int):Int:=(gE c z x).getD c.d
theorem Th(c:bF)(z x:Int)(m:Mem)(hc:cF c)(hz:(1<=z/\z<=1200))(hx:(0<=x/\x<=kv))(q_:299<=j:=by omega):SM j 314 [.agg (bY c),Ei x,Ei z] m=some (.tuple [Ei (D7 c z x),.bool (gE c z x).isSome],m):=by
 obtain⟨h,lg,d⟩:=m;refine aP 1999 q_ λn=>?_
 have g:=λm=>AkJ 298 c z x m hc hz hx
 unfold bY at g;have b:=GP (x:=x) hc hz.1;have EP:=hc.2.2.2;have w1:i64.wrap (j5 c z x+c.d)=j5 c z x+c.d:=aU Z Z;have s:=D6 (c:=c) (z:=z) (x:=x);have hb:=GO (c:=c) (z:=z) hx.1;refine aW (Z3 @bY.eq_1 g w1) ?_;rw[D7,hb,s.2];cases e:CD c z x with
 |none=>rw[e]at s;simpa using s.1
 |some t=>rw[e]at s;simpa using s.1
end
section
variable{F:FuncId->Option bD}{au:bR}{sm:ct}
theorem MO{c:bF}(hc:cF c){z:Int}(hz:1<=z){cA next:List Int}(hn:∀n,n<17->gt next n<=kv)(hl:next.length=17):∀n,n<17->gt (mM z cA next c) n<=kv:=λn Hs=>by
 unfold mM;split
 .exact hn n Hs
 .split
  .exact hn n Hs
  .rename_i t e;split
   .rw[ju (by have:=hc.2.1;omega)];split
    .have:=qU hc hz e;omega
    .exact hn n Hs
   .exact hn n Hs
theorem D8{l:List bF}(hv:∀c∈l,cF c){z:Int}(hz:1<=z){cA:List Int}(hn:∀n,n<17->gt cA n<=kv)(hl:cA.length=17):∀i,i<=l.length->∀n,n<17->gt (ib l z cA i) n<=kv
 |0,_=>hn
 |i+1,hi=>MO (hv _ (by rw[bB (show i<l.length by omega)];exact getElem_mem _)) hz (D8 hv hz hn hl i Z) (by rw[oY,hl])
theorem xB{l:List bF}(hv:∀c∈l,cF c){z a:Int}(hz:1<=z)(ha:0<=a)(ha2:a<=kv){s:Nat}(hs:s<17):∀h n,n<17->gt (dA l z a s h) n<=kv
 |0,n,hn=>by
  have:=(oZ hv hz hs ha).z0 n hn;rw[this];unfold kv at*;split<;>omega
 |h+1,n,hn=>D8 hv hz (xB hv hz ha ha2 hs h) (fo l z a s h) l.length cB n hn
theorem XV(get:Nat->Option bp)(bU b:Nat)(c:Option Nat)(bS:Bool)(R:List Int)(hl:R.length=17)(hg:get b=some (.row bS 1 (R.map iC))):eC get bU 1 8 .fg (.slice b 0 17 c)=some (.slice bU 0 17 none,[⟨bU,(aO 1 (R.map iC)),gh (R.map iC)⟩]):=by
 have e:eW get 1 (.slice b 0 17 c)=some (R.map iC):=by
  simp[eW,hg,hl,wU,take_of_length_le]
 cases hR:R.map iC with
 |nil=>rw[hR]at e;have:=congrArg List.length hR;simp[hl]at this
 |cons x xs=>
  rw[hR]at e;have Hs:(x::xs).length=17:=by rw[<-hR,length_map,hl]
  simp only[eC,e,Hs];rw[aG (by unfold dQ;omega)]
def RRs(l:List bF)(z a:Int)(s K:Nat):AV->aN->Prop:=λv h=>aT h 1 v ((dA l z a s K).map iC)
theorem P0(lg d:List Nat){l:List bF}{v:AV}{s K:Nat}{a z:Int}(hv:aT h 6 v (l.map bY))(hw:l.length<=1000)(hc:∀c∈l,cF c)(vp:1<=s/\s<=16)(ha:0<=a/\a<=kv)(hz:1<=z/\z<=1200)(hK:K<=16)(q_:299<=j:=by omega):Wa FT MT (SM j) (n+1500) (.fn 346) [v,Ei s,Ei a,Ei z,Ei K] ⟨aR h [],lg,d⟩ (Qk ⟨h,lg,d⟩ (RRs l z a s K)):=by
 refine aI ?_;refine aS ?_;refine dV 17 [Il] (λi=>[Ei i]) (λi m'=>∃bq,m'=⟨aR h [(aO 1 ((lK i).map iC))],bq,[]⟩/\dm h lg bq) Z aX ⟨rfl,_,rfl,aL⟩ (λi m' g hi hP=>?_) (λm' g hP=>?_)
 .obtain⟨bq,rfl,hl⟩:=hP;have r:=fh hi Z;have ra:=PT (cg:=lK i) (u:=(i:Int)) Z Z (nE i Z);rw[Int.toNat_natCast]at ra;have fs:=vX i hi;have zQ:(i<17)=True:=by simp;omega
  have IM:((i:Int)<17)=True:=by simp;omega
  refine aD (Z5 zQ IM r ra fs) ?_;exact⟨_,rfl,.cons hl⟩
 .obtain⟨bq,rfl,hl⟩:=hP;have ra:=PT (cg:=lK 17) (u:=(s:Int)) Z Z (nE 17 Z);rw[Int.toNat_natCast]at ra;have XR:(s<17)=True:=by simp;omega
  refine aD (Z2 XR ra) ?_;refine dz (α:=Nat×Option Nat) K [JX,wJ] (λi x=>[Ei i,.slice x.1 0 17 x.2]) (λi x m=>aY ⟨h,lg,[]⟩ m/\aj m.ah x.1=(aO 1 ((dA l z a s i).map iC))/\h.length<=x.1/\(x.2=none\/x.2=some 17)) Z (by repeat first|apply Gp|apply Gq|apply Gn) ⟨(nb h 0,some 17),rfl,aH (by repeat first|exact hl|apply dm.cons),bj,aB,.inr rfl⟩ (λi x m g hi hP=>?_) (λx m g hP=>?_)
  .obtain⟨b,c⟩:=x;obtain⟨h3,dH,d3⟩:=m;obtain⟨kp,hb,bge,uE⟩:=hP;obtain rfl:d3=[]:=kp.aV;simp only at hb bge uE;have r:=fh hi Z;have rl:=fo l z a s i;have ge1:=tK (l:=l) hc hz.1 ha.1 (show s<17 by omega) i;have le1:=xB (l:=l) hc hz.1 ha.1 ha.2 (show s<17 by omega) i;have rn:dA l z a s (i+1)=ib l z (dA l z a s i) l.length:=rfl;generalize hR:dA l z a s i=R at*;have kJ:=λq=>(an q h3 _ (ag hb)).trans hb
   have ap:=λq bU=>XV (aj (aR h3 q)) bU b c true R rl (kJ q)
   refine bH ?_;refine aW (Z2 r ap) ?_;refine dV l.length [Q7] (λk=>[Ei k]) (λk m=>aY ⟨h3,dH,[]⟩ m/\aj m.ah (nb h3 0)=(aO 1 ((ib l z R k).map iC))) Z (by repeat first|apply Gp|apply Gq|apply Gn|apply SJ) ⟨rfl,aH aL,bj⟩ (λk m g hk hP=>?_) (λm g hP=>?_)
   .obtain⟨h5,jg,d5⟩:=m;obtain⟨AM,n5⟩:=hP;obtain rfl:d5=[]:=AM.aV;simp only at n5;have kpv:aY ⟨h,lg,[]⟩ ⟨h5,jg,[]⟩:=kp.trans AM;have ln:nb h3 0<h5.length:=ag n5;have b5:aj h5 b=(aO 1 (R.map iC)):=(AM.get b (ag hb)).trans hb;have GV:=λq=>(an q h5 _ (ag b5)).trans b5
    have Rr:=λq=>(an q h5 _ ln).trans n5
    have e:=(aT.bw (m:=⟨h,lg,[]⟩) (m':=⟨h5,jg,[]⟩) hv kpv).el hk;have XW:=(aT.bw (m:=⟨h,lg,[]⟩) (m':=⟨h5,jg,[]⟩) hv kpv).len;have r5:=fh hk Z;have Af:=hc (gt l k) (by rw[bB hk];exact getElem_mem _);have rlk:(ib l z R k).length=17:=by rw[oY,rl]
    have hf:=Af.1;have ht:=Af.2.1;have rf:=PT (cg:=R) (u:=(gt l k).f) Z Z rl;have rt:=PT (cg:=ib l z R k) (u:=(gt l k).t) Z Z rlk;have o5:=bg ln;have rk:ib l z R (k+1)=mM z R (ib l z R k) (gt l k):=rfl;have xb:=le1 (gt l k).f.toNat Z;generalize hx:gt R (gt l k).f.toNat=x at*;refine bH ?_;by_cases cn:x<0
    .have Zh:=eq_true cn;unfold bY at e;refine aD (Z7 e r5 XW GV Rr rf Zh) ?_;exact⟨AM.trans (aH aL),by rw[rk,mM,hx,aG cn]⟩
    .have Zh:=eq_false cn;have g1:=λm=>Th j (gt l k) z x m Af hz Z
     unfold bY at e g1;cases eh:gE (gt l k) z x with
     |none=>
      rw[eh]at g1;refine aD (Z8 e r5 XW GV Rr rf Zh g1) ?_;exact⟨AM.trans (aH aL),by rw[rk,mM,hx,aq cn,eh]⟩
     |some t=>
      rw[D7,eh]at g1;by_cases q1:gt (ib l z R k) (gt l k).t.toNat<0
      .have Tg:=eq_true q1;refine aD (xq e r5 XW GV Rr rf rt Zh g1 Tg o5) ?_;exact⟨AM.bS aB ln _ _ (dD.ok (.cons aB (.cons (bK AM.len aB) (.cons (bK AM.len aB) .nil)))),by rw[rk,mM,hx,aq cn,eh];simp only;rw[aG (.inl q1)]⟩
      .have Tg:=eq_false q1;by_cases q2:t<gt (ib l z R k) (gt l k).t.toNat
       .have XU:=eq_true q2;refine aD (gX e r5 XW GV Rr rf rt Zh g1 Tg XU o5) ?_;exact⟨AM.bS aB ln _ _ (dD.ok (.cons aB (.cons (bK AM.len aB) (.cons (bK AM.len aB) .nil)))),by rw[rk,mM,hx,aq cn,eh];simp only;rw[aG (.inr q2)]⟩
       .have XU:=eq_false q2;refine aD (xq e r5 XW GV Rr rf rt Zh g1 Tg XU) ?_;exact⟨AM.trans (aH aL),by rw[rk,mM,hx,aq cn,eh];simp only;rw[aq Z]⟩
   .obtain⟨h5,jg,d5⟩:=m;obtain⟨AM,n5⟩:=hP;obtain rfl:d5=[]:=AM.aV;simp only at n5;have kpv:aY ⟨h,lg,[]⟩ ⟨h5,jg,[]⟩:=kp.trans AM;have XW:=(aT.bw (m:=⟨h,lg,[]⟩) (m':=⟨h5,jg,[]⟩) hv kpv).len;have r5:=cY l.length;refine bH ?_;refine aW (Z3 r5 r XW) ?_;exact⟨(nb h3 0,none),rfl,kpv,by rw[rn];exact n5,bK kp.len aB,.inl rfl⟩
  .obtain⟨b,c⟩:=x;obtain⟨h3,dH,d3⟩:=m;obtain⟨kp,hb,bge,uE⟩:=hP;obtain rfl:d3=[]:=kp.aV;simp only at hb bge uE;refine bH ?_;have rK:=cY K;refine aW rK ?_;exact⟨kp.sub,.some b 0 c true _ (by rw[length_map,fo]) hb (by rw[drop_zero,take_length]) (λk hk=>by rw[length_map,fo];rcases uE with e|e;rw[e]at hk;cases hk;rw[e]at hk;cases hk;exact cB)⟩
end
section
variable{F:FuncId->Option bD}{au:bR}{sm:ct}
end
section
variable{F:FuncId->Option bD}{au:bR}{sm:ct}
end
section
variable{F:FuncId->Option bD}{au:bR}{sm:ct}
theorem E19(l:List bF)(v w:AV)(m:Mem)(hv:aT m.ah 6 v (l.map bY))(hw:aT m.ah 6 w (l.map bY))(hl:l.length<=1000)(q_:345<=j:=by omega):SM j 19 [v,w] m=some (.bool true,m):=by
 obtain⟨h,lg,d⟩:=m;refine aP 1999 q_ λn=>?_
 have lv:=hv.len;have lw:=hw.len;refine aW (Z2 lv lw) ?_;refine bL l.length [X5] (λi=>[Ei i]) (λ_=>True) Z aX ⟨rfl,trivial⟩ (λi h' bq g hi hP hK=>?_) (λh' bq g hP hK=>?_)
 .have a:=hK.aA lg d;have e:=(hK.sl hv).el hi;have e2:=(hK.sl hw).el hi;have r:=fh hi Z;unfold bY at e e2;exact aC (Z5 a e e2 r lv)
 .have a:=hK.aA lg d;have r:=cY l.length;exact aC (Z3 a r lv)
def Agb(s:ScX):Prop:=(s.cf.length<=4/\s.pl.length<=20/\¬(40<s.cm.length/\s.cm.length<=390)/\s.cm.length<=410)/\∀c∈s.cm,c.b.data.length<=300
instance Amo(s:ScX):Decidable (Agb s):=by unfold Agb;infer_instance
end
section
variable{F:FuncId->Option bD}{au:bR}{sm:ct}
def byC(b:UInt8):List AV:=[.int .u8 b.toNat]
def pX(t:List UInt8):Nat->Int
 |0=>0
 |i+1=>pX t i*128+((gt t i).toNat:Int)%128
theorem P1(t:List UInt8)(i:Nat):0<=pX t i:=by
 induction i with
 |zero=>exact Int.le_refl _
 |succ i ih=>rw[pX];omega
theorem KK{a len i:Nat}{t:List UInt8}(hi:i<t.length)(n:Int):gL a len i n (t.drop i)=if i=0/\((gt t i).toNat:Int)=128 then(0,((a:Nat):Int),3)else if 144115188075855872<=n then(0,((a+i:Nat):Int),2)
 else if((gt t i).toNat:Int)<128 then(n*128+((gt t i).toNat:Int)%128,((a+i+1:Nat):Int),0)else gL a len (i+1) (n*128+((gt t i).toNat:Int)%128) (t.drop (i+1)):=by
 rw[drop_eq_getElem_cons hi,gL,bB hi]
theorem XX(s:List UInt8)(a:Int)(m:Mem)(h0:0<=a)(h1:a<=s.length)(hw:s.length<=1300)(q_:114<=j:=by omega):SM j 127 [.fN s,Ei a] m=some (.tuple [Eu (jv s a).1,Ei (jv s a).2.1,Ei (jv s a).2.2],m):=by
 obtain⟨h,lg,d⟩:=m;refine aP 1999 q_ λn=>?_
 have c1:¬(a<0):=Z;have c2:¬((s.length:Int)<a):=Z;have c3:a.toNat<=s.length:=Z;obtain⟨t,ht⟩:∃t,t=s.drop a.toNat:=⟨_,rfl⟩;have tk:(s.drop a.toNat).take (s.length-a.toNat)=t:=by rw[take_of_length_le,ht];rw[length_drop];omega
 have tl:t.length+a.toNat=s.length:=by rw[ht,length_drop];omega
 have e0:jv s a=gL a.toNat s.length 0 (pX t 0) (t.drop 0):=by rw[drop_zero,ht];rfl
 have rm:t.length<=1000000000000:=Z;have B:aT (aR h [(aO 1 (t.map byC))]) 1 (.slice (nb h 0) 0 t.length none) (t.map byC):=.some (nb h 0) 0 none true _ (by rw[length_map]) (by rw[bj];rfl) (by rw[drop_zero,take_of_length_le (by simp)]) (λ_ h=>by cases h);refine aW (Z7 c1 c2 h0 c3 tk @lR.eq_1 rm) ?_;refine bL t.length [X4,X22] (λi=>[Eu (pX t i),Ei i]) (λi=>jv s a=gL a.toNat s.length i (pX t i) (t.drop i)/\pX t i<18446744073709551616) Z aX ⟨rfl,e0,by show(0:Int)<_;decide⟩ (λi h' bq g hi hP hK=>?_) (λh' bq g hP hK=>?_)
 .have A:=hK.aA lg d;have e:=(hK.sl' B).el hi;have r:=fh hi Z;have b8:(gt t i).toNat<256:=(gt t i).toNat_lt;obtain⟨p,q⟩:=hP;rw[KK hi]at p;have st:pX t (i+1)=pX t i*128+((gt t i).toNat:Int)%128:=rfl;have k0:=P1 t i;have m1:((gt t i).toNat:Int).tmod 128=((gt t i).toNat:Int)%128:=Int.tmod_eq_emod_of_nonneg Z;have m2:u64.wrap (((gt t i).toNat:Int)%128)=((gt t i).toNat:Int)%128:=dB Z Z;have w1:=λ(x:¬144115188075855872<=pX t i)=>(dB (x:=pX t i*128) Z Z)
  have w2:=λ(x:¬144115188075855872<=pX t i)=>(dB (x:=pX t i*128+((gt t i).toNat:Int)%128) Z Z)
  have w3:i64.wrap (a+i)=a+i:=aU Z Z;have w4:i64.wrap (a+i+1)=a+i+1:=aU Z Z;unfold byC at e;by_cases z:i=0
  .have i0:((i:Int)=0)=True:=dy;refine aW (xq A e r st i0 m1 m2 w1 w2 w3 w4) ?_;(repeat' first|apply And.intro|intro _)<;>first|omega|(rw[p];(repeat' split)<;>first|rfl|omega|(simp only[];omega))
  .have i0:((i:Int)=0)=False:=cR;refine aW (xq A e r st i0 m1 m2 w1 w2 w3 w4) ?_;(repeat' first|apply And.intro|intro _)<;>first|omega|(rw[p];(repeat' split)<;>first|rfl|omega|(simp only[];omega))
 .have A:=hK.aA lg d;have r:=cY t.length;refine aW (Z2 A r) ?_;rw[hP.1,drop_length];simp[gL]
theorem XY(s:List UInt8)(a:Int)(m:Mem)(h0:0<=a)(h1:a<=s.length)(hw:s.length<=1300)(q_:140<=j:=by omega):SM j 132 [.fN s,Ei a] m=some (.tuple [Eu (jv s a).1,Ei (jv s a).2.1,Ei (jv s a).2.2],m):=by
 obtain⟨h,lg,d⟩:=m;refine aP 1999 q_ λn=>?_
 have c1:¬(a<0):=Z;have c2:¬((s.length:Int)<a):=Z;obtain⟨t,ht⟩:∃t,t=s.drop a.toNat:=⟨_,rfl⟩;have tl:t.length+a.toNat=s.length:=by rw[ht,length_drop];omega
 have e0:jv s a=gL a.toNat s.length 0 (pX t 0) (t.drop 0):=by rw[drop_zero,ht];rfl
 refine aW (Z2 c1 c2) ?_;refine bL t.length [X7,X8] (λi=>[Eu (pX t i),Ei (a+i)]) (λi=>jv s a=gL a.toNat s.length i (pX t i) (t.drop i)/\pX t i<18446744073709551616) Z aX ⟨by rw[Int.natCast_zero,Int.add_zero];rfl,e0,by show(0:Int)<_;decide⟩ (λi h' bq g hi hP hK=>?_) (λh' bq g hP hK=>?_)
 .have A:=hK.aA lg d;have b8:(gt t i).toNat<256:=(gt t i).toNat_lt;obtain⟨p,q⟩:=hP;rw[KK hi]at p;have st:pX t (i+1)=pX t i*128+((gt t i).toNat:Int)%128:=rfl;have k0:=P1 t i;have r:(a+i<s.length)=True:=dy;have z0:0<=a+i:=Z;have ix:s[(a+i).toNat]?=some (gt t i):=by rw[show(a+i).toNat=a.toNat+i by omega,<-getElem?_drop,<-ht,getElem?_eq_getElem hi,bB hi]
  have m1:((gt t i).toNat:Int).tmod 128=((gt t i).toNat:Int)%128:=Int.tmod_eq_emod_of_nonneg Z;have m3:u64.wrap 144115188075855871=144115188075855871:=dB Z Z;have m2:u64.wrap (((gt t i).toNat:Int)%128)=((gt t i).toNat:Int)%128:=dB Z Z;have m4:u64.wrap (18446744073709551615-((gt t i).toNat:Int)%128)=18446744073709551615-((gt t i).toNat:Int)%128:=dB Z Z;have m5:(18446744073709551615-((gt t i).toNat:Int)%128).tdiv 128=144115188075855871:=by rw[Int.tdiv_eq_ediv_of_nonneg Z];omega
  have w1:=λ(x:¬144115188075855871<pX t i)=>(dB (x:=128*pX t i) Z Z)
  have w2:=λ(x:¬144115188075855871<pX t i)=>(dB (x:=128*pX t i+((gt t i).toNat:Int)%128) Z Z)
  have w4:i64.wrap (a+i+1)=a+i+1:=aU Z Z;by_cases z:i=0
  .have i0:(a+i=a)=True:=dy;refine aW (gX A r z0 ix st i0 m1 m2 m3 m4 m5 (Z3 w1 w2 w4)) ?_;(repeat' first|apply And.intro|intro _)<;>first|omega|(rw[p];(repeat' split)<;>first|rfl|omega|(simp only[];omega))
  .have i0:(a+i=a)=False:=cR;refine aW (gX A r z0 ix st i0 m1 m2 m3 m4 m5 (Z3 w1 w2 w4)) ?_;(repeat' first|apply And.intro|intro _)<;>first|omega|(rw[p];(repeat' split)<;>first|rfl|omega|(simp only[];omega))
 .have A:=hK.aA lg d;have r:(a+(t.length:Int)<s.length)=False:=cR;refine aW (Z2 A r) ?_;rw[hP.1,drop_length];simp[gL]
theorem Agc(s:List UInt8)(a cC:Int)(m:Mem)(h0:0<=a)(h1:a<=s.length)(hw:s.length<=1300)(hm:(0<=cC/\cC<=1099511627776))(q_:117<=j:=by omega):SM j 192 [.fN s,Ei a,Ei cC] m=some (.tuple [Ei (eJ s a cC).1,Ei (eJ s a cC).2.1,Ei (eJ s a cC).2.2],m):=by
 obtain⟨h,lg,d⟩:=m;refine aP 1999 q_ λn=>?_
 have o:=yk h0 h1;have c1:¬(cC<0):=Z;have w1:u64.wrap cC=cC:=dB Z Z;have w2:=λ(x:¬cC<(jv s a).1)=>(aU (x:=(jv s a).1) Z Z)
 have g:=λm=>XX 116 s a m h0 h1 hw
 refine aW (Z4 g c1 w1 w2) ?_;(repeat' first|apply And.intro|intro _)<;>(simp only[eJ]<;>(repeat' split)<;>first|rfl|omega)
theorem Agd(s:List UInt8)(a cC:Int)(m:Mem)(h0:0<=a)(h1:a<=s.length)(hw:s.length<=1300)(hm:(0<=cC/\cC<=1099511627776))(q_:144<=j:=by omega):SM j 200 [.fN s,Ei a,Ei cC] m=some (.tuple [Ei (eJ s a cC).1,Ei (eJ s a cC).2.1,Ei (eJ s a cC).2.2],m):=by
 obtain⟨h,lg,d⟩:=m;refine aP 1999 q_ λn=>?_
 have o:=yk h0 h1;have c1:¬(cC<0):=Z;have w1:u64.wrap cC=cC:=dB Z Z;have w2:=λ(x:¬cC<(jv s a).1)=>(aU (x:=(jv s a).1) Z Z)
 have g:=λm=>XY 143 s a m h0 h1 hw
 refine aW (Z4 g c1 w1 w2) ?_;(repeat' first|apply And.intro|intro _)<;>(simp only[eJ]<;>(repeat' split)<;>first|rfl|omega)
theorem Age(s:List UInt8)(a cC:Int)(m:Mem)(h0:0<=a)(h1:a<=s.length)(hw:s.length<=1300)(hm:(0<=cC/\cC<=1099511627776))(q_:118<=j:=by omega):SM j 128 [.fN s,Ei a,Ei cC] m=some (.tuple [.fN (vg s a cC).1,Ei (vg s a cC).2.1,Ei (vg s a cC).2.2],m):=by
 obtain⟨h,lg,d⟩:=m;refine aP 1999 q_ λn=>?_
 have o:=AY h0 h1 hm.1;have w1:i64.wrap ((s.length:Int)-(eJ s a cC).2.1)=(s.length:Int)-(eJ s a cC).2.1:=aU Z Z;have w2:i64.wrap ((eJ s a cC).2.1+(eJ s a cC).1)=(eJ s a cC).2.1+(eJ s a cC).1:=aU Z Z;have p1:0<=(eJ s a cC).2.1:=Z;have p2:0<=(eJ s a cC).2.1+(eJ s a cC).1:=Z;have c1:(eJ s a cC).2.1.toNat<=((eJ s a cC).2.1+(eJ s a cC).1).toNat:=Z;have c2:=λ(x:¬(s.length:Int)-(eJ s a cC).2.1<(eJ s a cC).1)=>(show((eJ s a cC).2.1+(eJ s a cC).1).toNat<=s.length by omega)
 have c3:((eJ s a cC).2.1+(eJ s a cC).1).toNat-(eJ s a cC).2.1.toNat=(eJ s a cC).1.toNat:=Z;have g:=λm=>Agc 117 s a cC m h0 h1 hw hm
 refine aW (Z8 g w1 w2 p1 p2 c1 c2 c3) ?_;(repeat' first|apply And.intro|intro _)<;>(simp only[vg]<;>(repeat' split)<;>first|rfl|omega|contradiction)
theorem Agf(s:List UInt8)(a cC:Int)(m:Mem)(h0:0<=a)(h1:a<=s.length)(hw:s.length<=1300)(hm:(0<=cC/\cC<=1099511627776))(q_:145<=j:=by omega):SM j 133 [.fN s,Ei a,Ei cC] m=some (.tuple [.fN (vg s a cC).1,Ei (vg s a cC).2.1,Ei (vg s a cC).2.2],m):=by
 obtain⟨h,lg,d⟩:=m;refine aP 1999 q_ λn=>?_
 have o:=AY h0 h1 hm.1;have w1:i64.wrap ((s.length:Int)-(eJ s a cC).2.1)=(s.length:Int)-(eJ s a cC).2.1:=aU Z Z;have w2:i64.wrap ((eJ s a cC).2.1+(eJ s a cC).1)=(eJ s a cC).2.1+(eJ s a cC).1:=aU Z Z;have p1:0<=(eJ s a cC).2.1:=Z;have p2:0<=(eJ s a cC).2.1+(eJ s a cC).1:=Z;have c1:(eJ s a cC).2.1.toNat<=((eJ s a cC).2.1+(eJ s a cC).1).toNat:=Z;have c2:=λ(x:¬(s.length:Int)-(eJ s a cC).2.1<(eJ s a cC).1)=>(show((eJ s a cC).2.1+(eJ s a cC).1).toNat<=s.length by omega)
 have c3:((eJ s a cC).2.1+(eJ s a cC).1).toNat-(eJ s a cC).2.1.toNat=(eJ s a cC).1.toNat:=Z;have g:=λm=>Agd 144 s a cC m h0 h1 hw hm
 refine aW (Z8 g w1 w2 p1 p2 c1 c2 c3) ?_;(repeat' first|apply And.intro|intro _)<;>(simp only[vg]<;>(repeat' split)<;>first|rfl|omega|contradiction)
end
section
variable{F:FuncId->Option bD}{au:bR}{sm:ct}
theorem AkK(x k:Nat):u16.wrap ((x:Int)*(k:Int))=((x*k%65536:Nat):Int):=by
 simp only[wrap,IntKind.bits,signed,Bool.false_and,Bool.false_eq_true,if_false];omega
theorem Agg(b:UInt8):u16.wrap (b.toNat:Int)=(b.toNat:Int):=by have:=b.toNat_lt;exact Ca Z Z
theorem Agh{x:Nat}(h:x<65536):u16.wrap ((x:Int)*2)=((x*2%65536:Nat):Int)/\kK .xor .u16 ((x*2%65536:Nat):Int) 4129=some (.int .u16 (((x*2%65536)^^^4129:Nat):Int)):=
 ⟨AkK x 2,Afo (b:=4129) (Nat.mod_lt _ Z) Z⟩
theorem b_c{x:Nat}(h:x<65536)(b:UInt8):u16.wrap ((b.toNat:Int)*256)=((b.toNat*256:Nat):Int)/\kK .xor .u16 (x:Int) ((b.toNat*256:Nat):Int)=some (.int .u16 ((x^^^(b.toNat*256):Nat):Int))/\x^^^(b.toNat*256)<65536:=by
 have:=b.toNat_lt;exact⟨Ca Z Z,Afo h Z,Nat.xor_lt_two_pow (n:=16) h Z⟩
theorem AkL(x:Nat)(m:Mem)(hx:x<65536)(q_:137<=j:=by omega):SM j 199 [.int .u16 x] m=some (.int .u16 (Gu x:Nat),m):=by
 obtain⟨h,lg,d⟩:=m;refine aP 1999 q_ λn=>?_
 have u:=Agh hx;refine aD u ?_;(repeat' first|apply And.intro|intro _)<;>(simp only[Gu]<;>(repeat' split)<;>first|rfl|omega)
theorem AkM(x:Nat)(b:UInt8)(m:Mem)(hx:x<65536)(q_:138<=j:=by omega):SM j 131 [.int .u16 x,.int .u8 b.toNat] m=some (.int .u16 (Xa x b:Nat),m):=by
 obtain⟨h,lg,d⟩:=m;refine aP 1999 q_ λn=>?_
 have u:=b_c hx b;have wb:=Agg b;refine aD (Z2 u wb) ?_;refine bL 8 [X5,X0] (λi=>[Ei i,.int .u16 (wL (x^^^(b.toNat*256)) i:Nat)]) (λ_=>True) Z aX ⟨rfl,trivial⟩ (λi h' bq g1 hi hP hK=>?_) (λh' bq g1 hP hK=>?_)
 .have A:=hK.aA lg d;have r:=fh hi Z;have g:=λm=>AkL 137 (wL (x^^^(b.toNat*256)) i) m (B2 u.2.2 i)
  have st:wL (x^^^(b.toNat*256)) (i+1)=Gu (wL (x^^^(b.toNat*256)) i):=rfl;have l8:((i:Int)<8)=True:=by simp;omega
  exact aC (Z5 A r g st l8)
 .have A:=hK.aA lg d;refine aW A ?_;rfl
theorem AkN(x:Nat)(b:UInt8)(m:Mem)(hx:x<65536)(q_:106<=j:=by omega):SM j 191 [.int .u16 x,.int .u8 b.toNat] m=some (.int .u16 (Xa x b:Nat),m):=by
 obtain⟨h,lg,d⟩:=m;refine aP 1999 q_ λn=>?_
 have u:=b_c hx b;have wb:=Agg b;have p8:((b.toNat:Int)*2^min 8 16)=(b.toNat:Int)*256:=rfl;refine aD (Z3 u wb p8) ?_;refine bL 8 [wJ,X0] (λi=>[Ei i,.int .u16 (wL (x^^^(b.toNat*256)) i:Nat)]) (λ_=>True) Z aX ⟨rfl,trivial⟩ (λi h' bq g1 hi hP hK=>?_) (λh' bq g1 hP hK=>?_)
 .have A:=hK.aA lg d;have r:=fh hi Z;have v:=Agh (B2 u.2.2 i);have st:wL (x^^^(b.toNat*256)) (i+1)=Gu (wL (x^^^(b.toNat*256)) i):=rfl;have l8:((i:Int)<8)=True:=by simp;omega
  have v3:=Ai4 (B2 u.2.2 i);have p1:∀z:Int,(z*2^min 1 16)=z*2:=λ_=>rfl
  refine aD (Z7 A r v st l8 v3 p1) ?_;simp only[Gu];split<;>simp
 .have A:=hK.aA lg d;refine aW A ?_;rfl
theorem AkO(s:List UInt8)(m:Mem)(hw:s.length<=1500)(q_:107<=j:=by omega):SM j 126 [.fN s] m=some (.int .u16 (Q8 s:Nat),m):=by
 obtain⟨h,lg,d⟩:=m;refine aP 1999 q_ λn=>?_
 refine aS ?_;refine bL s.length [X7,X3] (λi=>[Ei i,.int .u16 (AJ s i:Nat)]) (λ_=>True) Z aX ⟨rfl,trivial⟩ (λi h' bq g1 hi hP hK=>?_) (λh' bq g1 hP hK=>?_)
 .have A:=hK.aA lg d;have r:=fh hi Z;have st:AJ s (i+1)=Xa (AJ s i) (gt s i):=rfl;have ix:s[i]?=some (gt s i):=by rw[bB hi,getElem?_eq_getElem hi]
  have g:=λm=>AkN 106 (AJ s i) (gt s i) m (J7 s i)
  exact aC (Z5 A r g st ix)
 .have A:=hK.aA lg d;have r:=cY s.length;refine aW (Z2 A r) ?_;rfl
theorem E77(s:List UInt8)(m:Mem)(hw:s.length<=1500)(q_:139<=j:=by omega):SM j 77 [.fN s] m=some (.int .u16 (Q8 s:Nat),m):=by
 obtain⟨h,lg,d⟩:=m;refine aP 1999 q_ λn=>?_
 refine aS ?_;refine bL s.length [X4,X3] (λi=>[Ei i,.int .u16 (AJ s i:Nat)]) (λ_=>True) Z aX ⟨rfl,trivial⟩ (λi h' bq g1 hi hP hK=>?_) (λh' bq g1 hP hK=>?_)
 .have A:=hK.aA lg d;have r:=fh hi Z;have st:AJ s (i+1)=Xa (AJ s i) (gt s i):=rfl;have ix:s[i]?=some (gt s i):=by rw[bB hi,getElem?_eq_getElem hi]
  have g:=λm=>AkM 138 (AJ s i) (gt s i) m (J7 s i)
  exact aC (Z5 A r g st ix)
 .have A:=hK.aA lg d;have r:=cY s.length;refine aW (Z2 A r) ?_;rfl
theorem Agi(x:Int)(m:Mem)(q_:108<=j:=by omega):SM j 189 [.int .u16 x] m=some (Ei 2,m):=by
 obtain⟨h,lg,d⟩:=m;refine aP 1999 q_ λn=>?_
 have u:kK .xor .u16 (if u16.signed=true then-1 else u16.max) 0=some (.int .u16 65535):=rfl;exact aE (Z3 @Ca @dB u)
theorem AkP(x:Nat)(m:Mem)(q_:109<=j:=by omega):SM j 190 [.int .u16 x] m=some (.fN (two x),m):=by
 obtain⟨h,lg,d⟩:=m;refine aP 1999 q_ λn=>?_
 have g:=λx m=>Agi 108 x m
 refine aW (Z2 g @WR) ?_;refine yg 3 Z ?_;have m1:i64.wrap (-1)=-1:=aU Z Z;simp+contextual-implicitDefEqProofs (maxSteps:=1000000) (maxDischargeDepth:=20) only[go_sem,simprocAttr,bytesOf,m1];have e1:(x:Int).fdiv (2^min 8 16)=((x/256:Nat):Int):=fd x 256;have e0:(x:Int).fdiv (2^min 0 16)=((x/1:Nat):Int):=fd x 1;rw[e1,e0,wM,wM,Nat.div_one];rfl
end
section
variable{F:FuncId->Option bD}{au:bR}{sm:ct}
def pY(h:aN):Prop:=∃bS,aj h 1=some (.row bS 1 uZ)
theorem P2:∀d,d<16->fG 1 uZ d 0 1=some [.int .u32 (gt C3 d:Nat)]:=λd h=>by
 have e:uZ[d]?=some [.int .u32 (gt C3 d:Nat)]:=by
  rw[show uZ=C3.map (λx=>[AV.int .u32 (x:Nat)])from rfl,getElem?_map,getElem?_eq_getElem (show d<C3.length from h),bB (show d<C3.length from h)];rfl
 simp only[fG,Nat.ble,cond_false,iT,e];rfl
theorem AkQ(x:Nat)(b:UInt8)(m:Mem)(ht:pY m.ah)(hx:x<4294967296)(q_:124<=j:=by omega):SM j 302 [.int .u32 x,.int .u8 b.toNat] m=some (.int .u32 (Mk x b:Nat),m):=by
 obtain⟨h,lg,d⟩:=m;refine aP 1999 q_ λn=>?_
 obtain⟨bS,ht⟩:=ht;have b8:=b.toNat_lt;have ht':=λl=>(an l h 1 (ag ht)).trans ht
 have wb:u32.wrap (b.toNat:Int)=(b.toNat:Int):=wrap32 Z Z;have u:=Xc (a:=x) (b:=b.toNat) hx Z;obtain⟨y,hy⟩:∃y,y=x^^^b.toNat:=⟨_,rfl⟩;have yl:y<4294967296:=hy▸Nat.xor_lt_two_pow (n:=32) hx Z;rw[<-hy]at u;have st:∀y:Nat,y<4294967296->kK .and .u32 (y:Int) 15=some (.int .u32 ((y%16:Nat):Int))/\(y:Int).fdiv (2^min 4 32)=((y/16:Nat):Int)/\fG 1 uZ (y%16) 0 1=some [.int .u32 (gt C3 (y%16):Nat)]/\kK .xor .u32 ((y/16:Nat):Int) ((gt C3 (y%16):Nat):Int)=some (.int .u32 ((Nk y 4:Nat):Int))/\(y%16<16)=True:=λy hy=>by
  refine⟨Ai5 hy,fd y 16,P2 _ Z,?_,dy⟩;rw[dN4];exact Xc Z (SB _ Z)
 have s1:=st y yl;have s2:=st (Nk y 4) (EW yl 4);have e8:Mk x b=Nk (Nk y 4) 4:=by rw[Mk,<-hy];rfl
 refine aD (Z6 ht' wb u s1 s2 @tD) ?_;rw[e8]
theorem pY.bx{h:aN}(H:pY h)(l:List (Option bp)):pY (aR h l):=by
 obtain⟨bS,H⟩:=H;exact⟨bS,(an l h 1 (ag H)).trans H⟩
theorem pY.bw{h h':aN}{lg bq:List Nat}{l0:List (Option bp)}{d d':List Nat}(H:pY h)(k:aY ⟨aR h l0,lg,d⟩ ⟨h',bq,d'⟩):pY h':=by
 obtain⟨bS,H⟩:=H.bx l0;exact⟨bS,(k.get 1 (ag H)).trans H⟩
theorem AkR(s:List UInt8)(m:Mem)(ht:pY m.ah)(hw:s.length<=1500)(q_:125<=j:=by omega):SM j 264 [.fN s] m=some (.int .u32 (Ml s:Nat),m):=by
 obtain⟨h,lg,d⟩:=m;refine aP 1999 q_ λn=>?_
 refine aS ?_;refine bL s.length [X7,X3] (λi=>[Ei i,.int .u32 (C4 s i:Nat)]) (λ_=>True) Z aX ⟨rfl,trivial⟩ (λi h' bq g1 hi hP hK=>?_) (λh' bq g1 hP hK=>?_)
 .have A:=hK.aA lg d;have r:=fh hi Z;have st:C4 s (i+1)=Mk (C4 s i) (gt s i):=rfl;have ix:s[i]?=some (gt s i):=by rw[bB hi,getElem?_eq_getElem hi]
  have g:=λl lg d=>AkQ 124 (C4 s i) (gt s i) ⟨aR h' l,lg,d⟩ ((ht.bw hK).bx l) (yt s i)
  exact aC (Z5 A r g st ix)
 .have A:=hK.aA lg d;have r:=cY s.length;have u:kK .xor .u32 (if u32.signed=true then-1 else u32.max) (C4 s s.length:Nat)=some (.int .u32 (Ml s:Nat)):=by
   rw[Ml,Nat.xor_comm];exact Xc (a:=4294967295) Z (yt _ _)
  exact aE (Z3 A r u)
theorem Agj(x:Int)(m:Mem)(q_:126<=j:=by omega):SM j 300 [.int .u32 x] m=some (Ei 4,m):=by
 obtain⟨h,lg,d⟩:=m;refine aP 1999 q_ λn=>?_
 have u:kK .xor .u32 (if u32.signed=true then-1 else u32.max) 0=some (.int .u32 4294967295):=rfl;exact aE (Z3 @wrap32 @dB u)
theorem AkS(x:Nat)(m:Mem)(q_:127<=j:=by omega):SM j 301 [.int .u32 x] m=some (.fN (yq x),m):=by
 obtain⟨h,lg,d⟩:=m;refine aP 1999 q_ λn=>?_
 have g:=λx m=>Agj 126 x m
 have w3:i64.wrap 24=24:=aU Z Z;have m1:i64.wrap (-1)=-1:=aU Z Z;refine aW g ?_;refine yg 5 Z ?_;simp+contextual-implicitDefEqProofs (maxSteps:=1000000) (maxDischargeDepth:=20) only[go_sem,simprocAttr,WR,bytesOf,m1,w3];have e3:(x:Int).fdiv (2^min 24 32)=((x/16777216:Nat):Int):=fd x 16777216;have e2:(x:Int).fdiv (2^min 16 32)=((x/65536:Nat):Int):=fd x 65536;have e1:(x:Int).fdiv (2^min 8 32)=((x/256:Nat):Int):=fd x 256;have e0:(x:Int).fdiv (2^min 0 32)=((x/1:Nat):Int):=fd x 1;rw[e3,e2,e1,e0,wM,wM,wM,wM,Nat.div_one,SC]
def CR(T:List UInt8->List UInt8)(z:Nat)(s:List UInt8):Int:=if T (s.take (s.length-z))=s.drop (s.length-z)then 0 else 10
def KL(T:List UInt8->List UInt8)(z:Nat)(s:List UInt8):List UInt8:=if T (s.take (s.length-z))=s.drop (s.length-z)then s.take (s.length-z)else[]
def CS(s:List UInt8):List UInt8:=two (Q8 s)
def Rs(s:List UInt8):List UInt8:=yq (Ml s)
theorem AkT(s:List UInt8)(m:Mem)(h2:2<=s.length)(hw:s.length<=1300)(q_:110<=j:=by omega):SM j 125 [.fN s,.func 126 [] []] m=some (.tuple [.fN (KL CS 2 s),Ei (CR CS 2 s)],m):=by
 obtain⟨h,lg,d⟩:=m;refine aP 1999 q_ λn=>?_
 have g1:=λx m=>Agi 109 x m
 have g2:=λm=>AkP 109 (Q8 (s.take (s.length-2))) m
 have g3:=λm=>AkO 109 (s.take (s.length-2)) m (by simp;omega)
 have w:i64.wrap ((s.length:Int)-2)=((s.length-2:Nat):Int):=by rw[aU Z Z];omega
 have c:s.length-2<=s.length:=Nat.sub_le _ _;have c2:(((s.length-2:Nat):Int)<0)=False:=cR;have tk:(s.drop (s.length-2)).take (s.length-(s.length-2))=s.drop (s.length-2):=by rw[take_of_length_le];rw[length_drop];omega
 refine aW (Z8 g1 g2 g3 w c c2 tk @Ca) ?_;(repeat' first|apply And.intro|intro _)<;>simp_all [KL,CR,CS]
theorem AkU(s:List UInt8)(m:Mem)(ht:pY m.ah)(h2:4<=s.length)(hw:s.length<=1300)(q_:128<=j:=by omega):SM j 263 [.fN s,.func 264 [] []] m=some (.tuple [.fN (KL Rs 4 s),Ei (CR Rs 4 s)],m):=by
 obtain⟨h,lg,d⟩:=m;refine aP 1999 q_ λn=>?_
 have g1:=λx m=>Agj 127 x m
 have g2:=λm=>AkS 127 (Ml (s.take (s.length-4))) m
 have g3:=λl lg d=>AkR 127 (s.take (s.length-4)) ⟨aR h l,lg,d⟩ (ht.bx l) (by simp;omega)
 have w:i64.wrap ((s.length:Int)-4)=((s.length-4:Nat):Int):=by rw[aU Z Z];omega
 have c:s.length-4<=s.length:=Nat.sub_le _ _;have c2:(((s.length-4:Nat):Int)<0)=False:=cR;have tk:(s.drop (s.length-4)).take (s.length-(s.length-4))=s.drop (s.length-4):=by rw[take_of_length_le];rw[length_drop];omega
 refine aW (Z8 g1 g2 g3 w c c2 tk @wrap32) ?_;(repeat' first|apply And.intro|intro _)<;>simp_all [KL,CR,Rs]
theorem E70(s:List UInt8)(m:Mem)(h2:2<=s.length)(hw:s.length<=1300)(q_:111<=j:=by omega):SM j 70 [.fN s] m=some (.tuple [.fN (KL CS 2 s),Ei (CR CS 2 s)],m):=by
 obtain⟨h,lg,d⟩:=m;refine aP 1999 q_ λn=>?_
 have g:=λm=>AkT 110 s m h2 hw
 exact aC g
theorem AkV(s:List UInt8)(m:Mem)(ht:pY m.ah)(h2:4<=s.length)(hw:s.length<=1300)(q_:129<=j:=by omega):SM j 197 [.fN s] m=some (.tuple [.fN (KL Rs 4 s),Ei (CR Rs 4 s)],m):=by
 obtain⟨h,lg,d⟩:=m;refine aP 1999 q_ λn=>?_
 have g:=λl lg d=>AkU 128 s ⟨aR h l,lg,d⟩ (ht.bx l) h2 hw
 exact aC g
end
section
variable{F:FuncId->Option bD}{au:bR}{sm:ct}
def IP(s:List UInt8)(i e p:Int)(b:fR)(mD:Bool):List AV:=[.fN s,Ei i,Ei e,Ei p,Ei b.id.n,Eu b.id.s,Ei b.id.o,Ei b.jF,Ei b.kZ,Ei b.born,Ei b.iO,Ei b.eO,.fN b.data,.bool mD]
def zB:fR:=⟨⟨0,0,0⟩,0,0,0,0,0,[]⟩
def y9(b:UInt8):Int:=if b.toNat=182 then 5 else if b.toNat=181 then 4 else if b.toNat=180 then 3 else if b.toNat=178 then 2 else if b.toNat=177 then 1 else if b.toNat=176 then 0 else-1
def qd(s:List UInt8):Int:=if s=[]then 11 else if y9 (gt s 0)<0 then 3 else 0
def vv(h:aN):Prop:=∃bS,aj h 0=some (.row bS 1 fM)
structure RFm(b:Nat)(m0:Mem)(P:List AV->Prop)(v:AV)(m:Mem):Prop where
 c:dG (·=b) m0 m
 r:∃r,aj m.ah b=(aO 14 [r])/\P r
theorem AkW(lg d:List Nat){s:List UInt8}{b:Nat}(hh:vv h)(hb:aj h b=(aO 14 [IP s 0 0 0 zB false]))(rF:b≠0)(q_:0<=j:=by omega):Wa FT MT (SM j) (n+1000) (.fn 193) [.ptr b 0 0] ⟨aR h [],lg,d⟩ (RFm b ⟨h,lg,d⟩ (λr=>if qd s=0 then r=IP s 1 0 0 {zB with kZ:=y9 (gt s 0)%3} (decide (2<y9 (gt s 0)))else r=IP s 0 (qd s) 0 zB false)):=by
 refine aI ?_;obtain⟨bS,hh⟩:=hh;have YF:=λl=>(an l h 0 (ag hh)).trans hh
 have kJ:=λl=>(an l h b (ag hb)).trans hb
 have o:=bg (ag hb);rcases s with _|⟨x,t⟩
 .unfold IP zB at kJ;refine aW (Z3 kJ o (@aJ 196 _ rfl aZ)) ?_;exact⟨cD (P:=(·=b)) (ag hb) rfl _ _ (.cons (.inl rfl) .nil),_,o.2.2.2.2.1 _ _,rfl⟩
 .unfold IP zB at kJ;have hx:(x.toNat=182\/x.toNat=181\/x.toNat=180\/x.toNat=178\/x.toNat=177\/x.toNat=176)\/(¬x.toNat=182/\¬x.toNat=181/\¬x.toNat=180/\¬x.toNat=178/\¬x.toNat=177/\¬x.toNat=176):=Z;have zf:∀k:Int,¬(k=(x.toNat:Int))->(k=(x.toNat:Int))=False:=λk=>eq_false
  have g0:gt (x::t) 0=x:=rfl;rcases hx with(hx|hx|hx|hx|hx|hx)|hx
  rotate_left 6;have hx:=And.intro (And.intro (zf 182 Z) (And.intro (zf 181 Z) (zf 180 Z))) (And.intro hx (And.intro (zf 178 Z) (And.intro (zf 177 Z) (zf 176 Z))));all_goals
   refine aW (Z3 kJ YF @fM.eq_1) ?_;refine yg 7 Z ?_;refine aW (Z4 kJ o hx (@aJ 196 _ rfl aZ)) ?_;exact⟨cD (P:=(·=b)) (ag hb) rfl _ _ (by repeat first|exact .nil|refine .cons (.inl rfl) ?_),_,o.2.2.2.2.1 _ _,by simp[qd,y9,g0,hx,IP,zB]⟩
def w1(s:List UInt8):=eJ s 1 16
def w2(s:List UInt8):=eJ s (w1 s).2.1 1099511627776
def w3(s:List UInt8):=eJ s (w2 s).2.1 16
def w4(s:List UInt8):=eJ s (w3 s).2.1 1099511627776
def w5(s:List UInt8):=eJ s (w4 s).2.1 1048576
def w6(s:List UInt8):=eJ s (w5 s).2.1 20000
def w7(s:List UInt8):=eJ s (w6 s).2.1 20000
def fE(s:List UInt8)(mD:Bool):Int×Int:=
 if(w1 s).2.2≠0 then((w1 s).2.2,(w1 s).2.1)else if(w2 s).2.2≠0 then((w2 s).2.2,(w2 s).2.1)else if(w3 s).2.2≠0 then((w3 s).2.2,(w3 s).2.1)else if(w4 s).2.2≠0 then((w4 s).2.2,(w4 s).2.1)
 else if(w5 s).2.2≠0 then((w5 s).2.2,(w5 s).2.1)else if mD=true then(0,0)else if(w6 s).2.2≠0 then((w6 s).2.2,(w6 s).2.1)else if(w7 s).2.2≠0 then((w7 s).2.2,(w7 s).2.1)else(0,0)
def wp(s:List UInt8)(mD:Bool):Int:=if mD=true then(w5 s).2.1 else(w7 s).2.1
def C7(s:List UInt8)(mD:Bool)(kZ:Int):fR:=⟨⟨(w1 s).1,(w2 s).1,if mD=true then 0 else(w6 s).1⟩,(w3 s).1,kZ,(w4 s).1,(w5 s).1,if mD=true then 0 else(w7 s).1,[]⟩
structure KO(s:List UInt8)(x:Int×Int×Int)(cC:Int):Prop where
 a:0<=x.1
 b:x.1<=cC
 c:1<=x.2.1
 d:x.2.1<=s.length
theorem P8{s:List UInt8}(h:1<=s.length):KO s (w1 s) 16/\KO s (w2 s) 1099511627776/\KO s (w3 s) 16/\KO s (w4 s) 1099511627776/\KO s (w5 s) 1048576/\KO s (w6 s) 20000/\KO s (w7 s) 20000:=by
 have st:∀(a cC:Int),1<=a->a<=s.length->0<=cC->KO s (eJ s a cC) cC:=λa cC h1 h2 h3=>by
  obtain⟨p1,p2,p3,p4,_⟩:=AY (s:=s) (a:=a) (cC:=cC) Z h2 h3;exact⟨p1,p2,Z,p4⟩
 have k1:KO s (w1 s) 16:=st 1 16 Z Z Z;have k2:KO s (w2 s) 1099511627776:=st _ _ k1.c k1.d Z;have k3:KO s (w3 s) 16:=st _ _ k2.c k2.d Z;have k4:KO s (w4 s) 1099511627776:=st _ _ k3.c k3.d Z;have k5:KO s (w5 s) 1048576:=st _ _ k4.c k4.d Z;have k6:KO s (w6 s) 20000:=st _ _ k5.c k5.d Z;exact⟨k1,k2,k3,k4,k5,k6,st _ _ k6.c k6.d Z⟩
theorem AkX(lg d:List Nat){s:List UInt8}{b:Nat}{kZ:Int}{mD:Bool}(h1:1<=s.length)(hw:s.length<=1300)(hb:aj h b=(aO 14 [IP s 1 0 0 {zB with kZ:=kZ} mD]))(q_:117<=j:=by omega):Wa FT MT (SM j) (n+1000) (.fn 194) [.ptr b 0 0] ⟨aR h [],lg,d⟩ (RFm b ⟨h,lg,d⟩ (λr=>if(fE s mD).1=0 then r=IP s (wp s mD) 0 0 (C7 s mD kZ) mD else∃i y,r=IP s i (fE s mD).1 (fE s mD).2 y mD)):=by
 refine aI ?_;have kJ:=λl=>(an l h b (ag hb)).trans hb
 have o:=bg (ag hb);obtain⟨k1,k2,k3,k4,k5,k6,k7⟩:=P8 h1;have g:∀(a cC:Int) (x:Int×Int×Int),eJ s a cC=x->1<=a->a<=s.length->(0<=cC/\cC<=1099511627776)->∀m,SM j 192 [.fN s,Ei a,Ei cC] m=some (.tuple [Ei x.1,Ei x.2.1,Ei x.2.2],m):=λa cC x e q1 q2 q3 m=>e▸Agc j s a cC m Z q2 hw q3
 have g1:=g 1 16 (w1 s) rfl Z Z Z;have g2:=g _ 1099511627776 (w2 s) rfl k1.c k1.d Z;have g3:=g _ 16 (w3 s) rfl k2.c k2.d Z;have g4:=g _ 1099511627776 (w4 s) rfl k3.c k3.d Z;have g5:=g _ 1048576 (w5 s) rfl k4.c k4.d Z;have g6:=g _ 20000 (w6 s) rfl k5.c k5.d Z;have g7:=g _ 20000 (w7 s) rfl k6.c k6.d Z;unfold IP zB at kJ;have wu:u64.wrap (w2 s).1=(w2 s).1:=dB k2.a (by have:=k2.b;omega);cases mD;all_goals
  refine aW (gX kJ o g1 g2 g3 g4 g5 g6 g7 wu (@aJ 196 _ rfl aZ) (@aJ 262 _ rfl aZ)) ?_;(repeat' first|apply And.intro|intro _)<;>refine⟨cD (P:=(·=b)) (ag hb) rfl _ _ (by repeat first|exact .nil|refine .cons (.inl rfl) ?_),_,o.2.2.2.2.1 _ _,?_⟩;all_goals
   clear kJ o g g1 g2 g3 g4 g5 g6 g7 hb k1 k2 k3 k4 k5 k6 k7 wu hw h1;first
    |(rw[aG (by simp_all [fE])];simp[IP,C7,wp];done)
    |(rw[aq (by simp_all [fE])];simp_all only[fE,ne_eq,not_true_eq_false,not_false_eq_true,↓reduceIte,Bool.false_eq_true];exact⟨_,⟨⟨_,_,_⟩,_,_,_,_,_,_⟩,rfl⟩)
end
section
variable{F:FuncId->Option bD}{au:bR}{sm:ct}
def oi(s:List UInt8):Bool:=decide (2<y9 (gt s 0))
def wt(s:List UInt8):List UInt8×Int×Int:=vg s (wp s (oi s)) 1000
def wB(s:List UInt8):fR:={C7 s (oi s) (y9 (gt s 0)%3)with data:=(wt s).1,eO:=if oi s=true then((wt s).1.length:Int)else(w7 s).1}
def wE(s:List UInt8):Int×Int:=
 if qd s≠0 then(qd s,0)else if(fE s (oi s)).1≠0 then fE s (oi s)else if(wt s).2.2≠0 then((wt s).2.2,(wt s).2.1)else if(s.length:Int)-(wt s).2.1<4 then(11,s.length)
 else if CR Rs 4 (s.take ((wt s).2.1+4).toNat)≠0 then(10,(wt s).2.1)else if(wt s).2.1+4<s.length then(4,(wt s).2.1+4)else if j0 (wB s)≠0 then(j0 (wB s),0)else if oi s=false/\nA (wB s)then(3,0)else(0,0)
def wR(s:List UInt8):fR:=if(wE s).1=0 then wB s else zB
theorem vv.bx{h:aN}(H:vv h)(l:List (Option bp)):vv (aR h l):=by
 obtain⟨bS,H⟩:=H;exact⟨bS,(an l h 0 (ag H)).trans H⟩
end
section
variable{F:FuncId->Option bD}{au:bR}{sm:ct}
theorem pY.kp{h h2:aN}{lg dx:List Nat}{d d':List Nat}(H:pY h)(k:aY ⟨h,lg,d⟩ ⟨h2,dx,d'⟩):pY h2:=by
 obtain⟨bS,H⟩:=H;exact⟨bS,(k.get 1 (ag H)).trans H⟩
theorem pY.b3{h:aN}{a b c:Nat}(O:SF h a b c)(H:pY h)(h1:1≠a)(h2:1≠b)(h3:1≠c)(l:List (Option bp))(x y z:Option (Option bp)):pY (aR (t8 h a b c x y z) l):=by
 obtain⟨bS,H⟩:=H;exact⟨bS,(E4 O (ag H) h1 h2 h3 l x y z).trans H⟩
theorem AkY(s:List UInt8)(m:Mem)(hh:vv m.ah)(hc:pY m.ah)(hw:s.length<=1300)(q_:131<=j:=by omega):SM j 129 [.fN s] m=some (.tuple [.agg (dt (wR s)),.agg [Ei (wE s).1,Ei (wE s).2]],m):=by
 obtain⟨h,lg,d⟩:=m;refine Pu 1999 Aja aZ q_ (by simp[AV.cj,hH,dt]) λn=>?_
 have l0:0<h.length:=by obtain⟨o,q⟩:=hh;exact ag q
 refine aS ?_;rw[<-fZ];refine dE _ _ _ _ _ _ (λv1 m1 R=>?_) (AkW 130 (n+999) (aR h [(aO 9 [dt zB]),(aO 2 [[Ei 0,Ei 0]]),(aO 14 [IP s 0 0 0 zB false])]) _ _ (s:=s) (b:=nb h 2) (hh.bx _) (by rw[bj];rfl) (by rw[nb];omega));obtain⟨h2,dx,d2⟩:=m1;obtain⟨c1,r1,b1,p1⟩:=R;obtain rfl:d2=[]:=c1.aV;have k1:aY ⟨h,lg,[]⟩ ⟨h2,dx,[]⟩:=aY.ko (aH aL) c1 (λx hx=>by rw[hx,nb];exact Nat.le_add_right _ _);obtain⟨kk,O,a0,a1,nbs⟩:=Gx (lg:=lg) aL c1;have Fu:h.length<=h2.length:=kk.len;have l1:1<h.length:=by obtain⟨o,q⟩:=hc;exact ag q
 by_cases q0:qd s=0;rotate_left
 .rw[aq q0]at p1;subst p1;have o:=SG O;have kj:∀{x y z l dH},dD h.length dx dH->aY ⟨h,lg,d⟩ ⟨aR (t8 h2 (nb h 0) (nb h 1) (nb h 2) x y z) l,dH,d⟩:=λhl=>aY.Gx kk.sub O aB aB aB _ _ _ _ hl.ok
  show Kc _ _ _ _ _ _ _ _ _ ⟨aR (t8 h2 (nb h 0) (nb h 1) (nb h 2) none none none) [],dx,[]⟩;have we:wE s=(qd s,0):=by rw[wE,aG q0]
  have wr:wR s=zB:=by rw[wR,we,aq q0]
  unfold dt zB at a0;unfold IP zB at b1;refine aW (gX o a0 a1 b1 q0 we wr @dt.eq_1 @zB.eq_1 (@aJ 194 _ rfl aZ) (@aJ 262 _ rfl aZ) (@aJ 195 _ rfl aZ)) ?_;exact kj (by repeat first|exact dD.nil|refine dD.cons (by first|exact aB|exact bK (Fu) aB|assumption) ?_)
 rw[aG q0]at p1;subst p1;have s1:1<=s.length:=by
  cases s with
  |nil=>simp[qd]at q0
  |cons x t=>simp
 show Kc _ _ _ _ _ _ _ _ _ ⟨aR h2 [],dx,[]⟩;refine aS ?_;rw[<-fZ];refine dE _ _ _ _ _ _ (λv2 m2 R=>?_) (AkX 130 (n+999) h2 dx [] s1 hw b1);obtain⟨h3,dH,d3⟩:=m2;obtain⟨c2,r2,b2,p2⟩:=R;obtain rfl:d3=[]:=c2.aV;have c:=c1.trans c2 (λx hx=>.inl hx);clear O a0 a1 nbs;obtain⟨k3,O,a0,a1,nbs⟩:=Gx (lg:=lg) aL c;have le3:h.length<=h3.length:=k3.len;have o:=SG O;have kj:∀{x y z l fi},dD h.length dH fi->aY ⟨h,lg,d⟩ ⟨aR (t8 h3 (nb h 0) (nb h 1) (nb h 2) x y z) l,fi,d⟩:=λhl=>aY.Gx k3.sub O aB aB aB _ _ _ _ hl.ok
 have efs:decide (2<y9 (gt s 0))=oi s:=rfl;rw[efs]at p2;unfold dt zB at a0;show Kc _ _ _ _ _ _ _ _ _ ⟨aR (t8 h3 (nb h 0) (nb h 1) (nb h 2) none none none) [],dH,[]⟩;by_cases q1:(fE s (oi s)).1=0;rotate_left
 .rw[aq q1]at p2;obtain⟨i,y,rfl⟩:=p2;have we:wE s=fE s (oi s):=by rw[wE,aq (λq=>q q0),aG q1]
  have wr:wR s=zB:=by rw[wR,we,aq q1]
  unfold IP at b2;refine aW (yA o a0 a1 b2 q1 we wr @dt.eq_1 @zB.eq_1 (@aJ 195 _ rfl aZ)) ?_;exact kj (by repeat first|exact dD.nil|refine dD.cons (by first|exact aB|exact bK (le3) aB|assumption) ?_)
 rw[aG q1]at p2;subst p2;obtain⟨k1,k2,k3',k4,k5,k6,k7⟩:=P8 s1;obtain⟨ps,Ak⟩:∃ps,ps=wp s (oi s):=⟨_,rfl⟩;have pk:1<=ps/\ps<=s.length:=by rw[Ak,wp];have:=k5.c;have:=k5.d;have:=k7.c;have:=k7.d;split<;>omega
 have gT:∀m,SM 130 128 [.fN s,Ei ps,Ei 1000] m=some (.tuple [.fN (wt s).1,Ei (wt s).2.1,Ei (wt s).2.2],m):=λm=>by rw[wt,<-Ak];exact Age 130 s ps 1000 m Z pk.2 hw Z
 have tk:=yo (s:=s) (a:=ps) (cC:=1000) Z pk.2 Z;rw[Ak,<-wt]at tk;obtain⟨t1,t2,t3,t4,t5⟩:=tk;have nx0:0<=(wt s).2.1:=Z;have wn4:i64.wrap ((wt s).2.1+4)=(wt s).2.1+4:=aU Z Z;have wn5:i64.wrap ((s.length:Int)-(wt s).2.1)=(s.length:Int)-(wt s).2.1:=aU Z Z;have z1:0<=(wt s).2.1+4:=Z;have z3:=λ(q:¬(s.length:Int)-(wt s).2.1<4)=>(show((wt s).2.1+4).toNat<=s.length by omega)
 have gs:=λ(q:¬(s.length:Int)-(wt s).2.1<4) l x y z lg d=>AkV 130 (s.take ((wt s).2.1+4).toNat) ⟨aR (t8 h3 (nb h 0) (nb h 1) (nb h 2) x y z) l,lg,d⟩ ((hc.kp k3).b3 O (by rw[nb];omega) (by rw[nb];omega) (by rw[nb];omega) l x y z) (by rw[length_take];omega) (by rw[length_take];omega)
 have gb:=λm=>Mn 130 (wB s) m (by show(wt s).1.length<=_;omega) (by unfold I;show _<=(if oi s=true then((wt s).1.length:Int)else(w7 s).1)/\(if oi s=true then((wt s).1.length:Int)else(w7 s).1)<=_;have:=k7.a;have:=k7.b;split<;>omega)
 have gw:=λm=>AfG 130 (wB s) m
 have we:wE s=if(wt s).2.2≠0 then((wt s).2.2,(wt s).2.1)else if(s.length:Int)-(wt s).2.1<4 then(11,s.length)else if CR Rs 4 (s.take ((wt s).2.1+4).toNat)≠0 then(10,(wt s).2.1)else if(wt s).2.1+4<s.length then(4,(wt s).2.1+4)else if j0 (wB s)≠0 then(j0 (wB s),0)else if oi s=false/\nA (wB s)then(3,0)else(0,0):=by rw[wE,aq (λq=>q q0),aq (λq=>q q1)]
 have fl:∀(L:List AV) (e p:Int),(e≠0->L=dt zB)->(e=0->L=dt (wB s))->wE s=(e,p)->L=dt (wR s)/\e=(wE s).1/\p=(wE s).2:=λL e p h1 h2 h3=>by
  rw[wR,h3];by_cases q:e=0
  .exact⟨(h2 q).trans (by rw[aG q]),rfl,rfl⟩
  .exact⟨(h1 q).trans (by rw[aq q]),rfl,rfl⟩
 rw[<-Ak]at b2;by_cases fu:oi s=true;rotate_left;have fu:oi s=false:=by simpa using fu
 all_goals
  have Ht:=gb;have Ti:=gw;unfold dt wB C7 at Ht Ti;simp only[fu,if_true,if_false,Bool.false_eq_true]at Ht Ti;unfold IP C7 at b2;simp only[fu,if_true,if_false,Bool.false_eq_true]at b2;refine aW (gX o a0 a1 b2 gT wn4 wn5 z1 z3 gs Ht (Z3 Ti (@aJ 195 _ rfl aZ) (@aJ 196 _ rfl aZ))) ?_;have ew:wB s=⟨⟨(w1 s).1,(w2 s).1,(wB s).id.o⟩,(w3 s).1,y9 (gt s 0)%3,(w4 s).1,(w5 s).1,(wB s).eO,(wt s).1⟩:=rfl;have eo:(wB s).id.o=if oi s=true then 0 else(w6 s).1:=rfl
  have et:(wB s).eO=if oi s=true then((wt s).1.length:Int)else(w7 s).1:=rfl
  simp only[fu,if_true,if_false,Bool.false_eq_true]at eo et;rw[eo,et]at ew;rw[ew]at we;simp only[fu,Bool.true_eq_false,false_and,true_and,if_false]at we;(repeat' first|refine⟨λ_=>?_,λ_=>?_⟩|intro _)<;>refine⟨fl _ _ _ (λq=>?_) (λq=>?_) ?_,kj (by repeat first|exact dD.nil|refine dD.cons (by first|exact aB|exact bK (le3) aB|assumption) ?_)⟩;all_goals first
   |(unfold dt zB;with_reducible rfl)
   |(with_reducible exact absurd rfl q)
   |(with_reducible exact absurd q ‹_›)
   |(with_reducible exact absurd q aZ)
   |(rw[ew];unfold dt;with_reducible rfl)
   |(
    clear gb gw Ht Ti gT gs o a0 a1 b1 b2 nbs c1 c2 c kk O kj fl
    rw[we]
    (repeat' split)<;>first|with_reducible rfl|omega|contradiction)
end
section
variable{F:FuncId->Option bD}{au:bR}{sm:ct}
structure GW where
 k:Int
 f:Int
 t:Int
 xC:Int
 qH:Int
 a:Int
 b:Int
 id:iF
 mU:fR
 deriving DecidableEq
def C8(x:GW):List AV:=[Ei x.k,Ei x.f,Ei x.t,Eu x.xC,Eu x.qH,Eu x.a,Eu x.b,Ei x.id.n,Eu x.id.s,Ei x.id.o,Ei x.mU.id.n,Eu x.mU.id.s,Ei x.mU.id.o,Ei x.mU.jF,Ei x.mU.kZ,Ei x.mU.born,Ei x.mU.iO,Ei x.mU.eO,.fN x.mU.data]
def uA(k:Int):Prop:=2<=k/\k<=7
def uB(k:Int):Prop:=k=3\/k=4\/k=6
def uI(k:Int):Prop:=k=5\/k=6
instance Amp(k:Int):Decidable (uA k):=by unfold uA;infer_instance
instance Amq(k:Int):Decidable (uB k):=by unfold uB;infer_instance
instance Amr(k:Int):Decidable (uI k):=by unfold uI;infer_instance
def GX(k:Int):Int:=if k=6 then 1 else 0
def Ar(k a:Int):Int:=if k=3 then a else if k=6 then 3 else 1125899906842624
def Qa:iF:=⟨0,0,0⟩
def CF(x:GW):Int:=
 if¬(1<=x.k/\x.k<=7)then 7
 else if x.f<1\/16<x.f\/x.t<1\/16<x.t\/x.t=x.f\/x.xC<1\/1099511627776<x.xC\/1099511627776<x.qH\/uA x.k/\1125899906842624<x.a\/uB x.k/\(x.b<GX x.k\/Ar x.k x.a<x.b)then 2
 else if x.k=3/\j0 x.mU≠0 then j0 x.mU else if uI x.k/\xu x.id≠0 then xu x.id
 else if¬uA x.k/\x.a≠0\/¬uB x.k/\x.b≠0\/¬uI x.k/\x.id≠Qa\/x.k≠3/\x.mU≠zB then 3 else 0
theorem D9(k:Int):(k=1\/k=2\/k=3\/k=4\/k=5\/k=6\/k=7)\/¬(1<=k/\k<=7):=Z
theorem E71(k:Int)(m:Mem)(q_:112<=j:=by omega):SM j 71 [Ei k] m=some (.tuple [.agg [.bool (decide (uA k)),.bool (decide (uB k)),.bool (decide (k=3)),.bool (decide (uI k))],.bool (decide (1<=k/\k<=7))],m):=by
 obtain⟨h,lg,d⟩:=m;refine aP 1999 q_ λn=>?_
 rcases D9 k with(rfl|rfl|rfl|rfl|rfl|rfl|rfl)|hk
 rotate_left 7
 .have hz:(¬k=1/\¬k=2/\¬k=3/\¬k=4/\¬k=5/\¬k=6/\¬k=7)/\¬uA k/\¬uB k/\¬uI k:=by unfold uA uB uI;omega
  exact aC (Z2 hk hz)
 all_goals
  refine aS ?_;decide
theorem AkZ(x:GW)(m:Mem)(q_:133<=j:=by omega):SM j 130 [.agg (C8 x)] m=some (.tuple [Eu (GX x.k),Eu (Ar x.k x.a)],m):=by
 obtain⟨h,lg,d⟩:=m;refine aP 1999 q_ λn=>?_
 refine aW @C8.eq_1 ?_;(repeat' first|apply And.intro|intro _)<;>simp_all [GX,Ar]
theorem E76(x:GW)(m:Mem)(w1:x.mU.data.length<=1000000)(w2:I x.mU.eO)(q_:134<=j:=by omega):SM j 76 [.agg (C8 x)] m=some (Ei (CF x),m):=by
 obtain⟨h,lg,d⟩:=m;refine aP 1999 q_ λn=>?_
 have g1:=λm=>E71 133 x.k m
 have g2:=λm=>AkZ 133 x m
 have g3:=λm=>Mn 133 x.mU m w1 w2
 have g4:=λm=>Xk 133 x.id m
 have z1:=DU x.id;unfold C8 at g2;unfold dt at g3;unfold gQ at g4;have zn:([]=x.mU.data)=(x.mU.data.length=0):=by rw[length_eq_zero_iff];exact propext eq_comm
 have bz:(x.mU=zB)=(x.mU.id.n=0/\x.mU.id.s=0/\x.mU.id.o=0/\x.mU.jF=0/\x.mU.kZ=0/\x.mU.born=0/\x.mU.iO=0/\x.mU.eO=0/\x.mU.data.length=0):=by
  obtain⟨_,_,_,_,_,_,_,_,⟨⟨_,_,_⟩,_,_,_,_,_,_⟩⟩:=x;simp[zB,and_assoc]
 have iz:(x.id=Qa)=(x.id.n=0/\x.id.s=0/\x.id.o=0):=by
  obtain⟨_,_,_,_,_,_,_,⟨_,_,_⟩,_⟩:=x;simp[Qa]
 rcases D9 x.k with(hk|hk|hk|hk|hk|hk|hk)|hk
 rotate_left 7
 .refine aW (Z3 @C8.eq_1 g1 hk) ?_;rw[CF,aG hk]
 all_goals
  simp[hk,uA,uB,uI,GX,Ar]at g1 g2;refine aW (Z7 @C8.eq_1 g1 g2 g3 g4 hk zn) ?_;clear g1 g2 g3 g4 zn w1 w2 z1;unfold CF;simp only[hk,uA,uB,uI,GX,Ar,bz,iz,ne_eq,not_true_eq_false,not_false_eq_true,false_and,true_and,and_true,or_true,or_false,false_or,Int.reduceEq,Int.reduceLE,and_self,_root_.or_self,↓reduceIte];clear bz iz;(repeat' first|apply And.intro|intro _)<;>first|(simp only[*,true_or,or_true,false_or,or_false,if_true,if_false,and_true,true_and,not_true_eq_false,not_false_eq_true,_root_.or_self];done)|((repeat' split)<;>omega)
end
section
variable{F:FuncId->Option bD}{au:bR}{sm:ct}
theorem E80(k:Int)(m:Mem)(q_:143<=j:=by omega):SM j 80 [Ei k] m=some (.bool (decide (uB k)),m):=by
 obtain⟨h,lg,d⟩:=m;refine aP 1999 q_ λn=>?_
 refine aS ?_;(repeat' first|apply And.intro|intro _)<;>simp_all [uB]
theorem E82(k:Int)(m:Mem)(q_:155<=j:=by omega):SM j 82 [Ei k] m=some (.bool (decide (uI k)),m):=by
 obtain⟨h,lg,d⟩:=m;refine aP 1999 q_ λn=>?_
 refine aS ?_;(repeat' first|apply And.intro|intro _)<;>simp_all [uI]
def wrB(x:GW):Bool:=decide (uB x.k/\(x.b<GX x.k\/Ar x.k x.a<x.b))
theorem Ak0(x:GW)(m:Mem)(hb:0<=x.b)(q_:156<=j:=by omega):SM j 135 [.agg (C8 x)] m=some (.bool (wrB x),m):=by
 obtain⟨h,lg,d⟩:=m;refine aP 1999 q_ λn=>?_
 refine aW @C8.eq_1 ?_;(repeat' first|apply And.intro|intro _)<;>simp_all [wrB,uB,GX,Ar]<;>omega
def ng(x:GW):GW:=⟨x.k,x.f,x.t,x.xC,x.qH,if x.k=1 then 0 else x.a,if uB x.k then x.b else 0,if uI x.k then x.id else Qa,if x.k=3 then x.mU else zB⟩
theorem Ak1(x:GW)(m:Mem)(hk:(1<=x.k/\x.k<=7))(q_:157<=j:=by omega):SM j 137 [.agg (C8 x)] m=some (.agg (C8 (ng x)),m):=by
 obtain⟨h,lg,d⟩:=m;refine Pu 1999 Ajc aZ q_ (by simp[AV.cj,hH,C8]) λn=>?_
 have g1:=λm=>E80 156 x.k m
 have g2:=λm=>E82 156 x.k m
 rcases D9 x.k with(hk|hk|hk|hk|hk|hk|hk)|Jm
 rotate_left 7
 .exact absurd hk Jm
 all_goals
  simp[hk,uB,uI]at g1 g2;refine aW (Z4 @C8.eq_1 hk g1 g2) ?_;simp[ng,hk,uB,uI,Qa,zB]
theorem E83(x:GW)(m:Mem)(hb:0<=x.b)(w1:x.mU.data.length<=1000000)(w2:I x.mU.eO)(q_:158<=j:=by omega):SM j 83 [.agg (C8 x)] m=some (Ei (CF x),m):=by
 obtain⟨h,lg,d⟩:=m;refine aP 1999 q_ λn=>?_
 have g2:=λm=>E82 157 x.k m
 have g3:=λm=>Pw 157 x.mU m w1 w2
 have g4:=λm=>Y0 157 x.id m
 have g5:=λm=>Ak0 157 x m hb
 have z1:=DU x.id;have zn:([]=x.mU.data)=(x.mU.data.length=0):=by rw[length_eq_zero_iff];exact propext eq_comm
 have bz:(x.mU=zB)=(x.mU.id.n=0/\x.mU.id.s=0/\x.mU.id.o=0/\x.mU.jF=0/\x.mU.kZ=0/\x.mU.born=0/\x.mU.iO=0/\x.mU.eO=0/\x.mU.data.length=0):=by
  obtain⟨_,_,_,_,_,_,_,_,⟨⟨_,_,_⟩,_,_,_,_,_,_⟩⟩:=x;simp[zB,and_assoc]
 have iz:(x.id=Qa)=(x.id.n=0/\x.id.s=0/\x.id.o=0):=by
  obtain⟨_,_,_,_,_,_,_,⟨_,_,_⟩,_⟩:=x;simp[Qa]
 have Qb:=D9 x.k;have g6:=λ(q:1<=x.k/\x.k<=7) m=>Ak1 157 x m q
 have eu:1<=x.k/\x.k<=7->C8 (ng x)=[Ei x.k,Ei x.f,Ei x.t,Eu x.xC,Eu x.qH,Eu (ng x).a,Eu (ng x).b,Ei (ng x).id.n,Eu (ng x).id.s,Ei (ng x).id.o,Ei (ng x).mU.id.n,Eu (ng x).mU.id.s,Ei (ng x).mU.id.o,Ei (ng x).mU.jF,Ei (ng x).mU.kZ,Ei (ng x).mU.born,Ei (ng x).mU.iO,Ei (ng x).mU.eO,.fN (ng x).mU.data]:=λ_=>rfl
 unfold C8 at g5 g6;unfold dt at g3;unfold gQ at g4;rcases Qb with(hk|hk|hk|hk|hk|hk|hk)|hk
 rotate_left 7
 .have c:x.k<1\/¬x.k<1/\7<x.k:=Z;rcases c with c|c
  all_goals
   refine aW (Z2 @C8.eq_1 c) ?_;rw[CF,aG hk]
 all_goals
  have g6:=g6 Z;simp[hk,uB,uI,ng,Qa,zB]at g2 g6;rw[hk]at g5;rcases hw:wrB x with _|_
  all_goals
   rw[hw]at g5;refine aW (Z8 @C8.eq_1 g2 g3 g4 g5 g6 hk zn) ?_;clear g2 g3 g4 g5 g6 zn w1 w2 z1 eu;first|(replace hw:=of_decide_eq_true hw)|(replace hw:=of_decide_eq_false hw)
   unfold CF;simp only[hk,uA,uB,uI,GX,Ar,bz,iz,ne_eq,not_true_eq_false,not_false_eq_true,false_and,true_and,and_true,or_true,or_false,false_or,Int.reduceEq,Int.reduceLE,and_self,_root_.or_self,↓reduceIte]at hw|-<;>clear bz iz<;>(repeat' first|apply And.intro|intro _)<;>first|(simp only[*,true_or,or_true,false_or,or_false,if_true,if_false,and_true,true_and,not_true_eq_false,not_false_eq_true,_root_.or_self];done)|((repeat' split)<;>omega)
end
section
variable{F:FuncId->Option bD}{au:bR}{sm:ct}
theorem Qd(b:UInt8):(y9 b<0/\((b.toNat:Int)-176<0\/6<(b.toNat:Int)-176\/(b.toNat:Int)-176=3))\/(0<=y9 b/\0<=(b.toNat:Int)-176/\(b.toNat:Int)-176<=6/\(b.toNat:Int)-176≠3/\((b.toNat:Int)-176)%4=y9 b%3/\(2<y9 b↔4<=(b.toNat:Int)-176)):=by
 unfold y9;repeat' split
 all_goals omega
theorem Qf{s:List UInt8}{nx:Int}(h0:0<=nx)(h4:nx+4<=s.length):CR Rs 4 (s.take (nx+4).toNat)=0↔(s.drop nx.toNat).take 4=yq (Xf (s.take nx.toNat)):=by
 have l:(s.take (nx+4).toNat).length-4=nx.toNat:=by rw[length_take];omega
 unfold CR Rs;rw[l,take_take,Nat.min_eq_left Z,drop_take,show(nx+4).toNat-nx.toNat=4 by omega,<-Afp];constructor
 .intro h;split at h
  .rename_i e;exact e.symm
  .omega
 .intro h;rw[aG h.symm]
structure RRm(b:Nat)(m0:Mem)(P:List AV->AV->Prop)(v:AV)(m:Mem):Prop where
 c:dG (·=b) m0 m
 r:∃r,aj m.ah b=(aO 4 [r])/\P r v
theorem Ak2(lg d:List Nat){s:List UInt8}{b:Nat}(hw:s.length<=1300)(hb:aj h b=(aO 4 [[.fN s,Ei 0,Ei 0,Ei 0]]))(q_:144<=j:=by omega):Wa FT MT (SM j) (n+1000) (.fn 201) [.ptr b 0 0] ⟨aR h [],lg,d⟩ (RRm b ⟨h,lg,d⟩ (λr v=>if qd s≠0 then r=[.fN s,Ei 0,Ei (qd s),Ei 0]/\v=.tuple [.agg (dt zB),.bool false]else if(fE s (oi s)).1≠0 then∃i y,r=[.fN s,Ei i,Ei (fE s (oi s)).1,Ei (fE s (oi s)).2]/\v=.tuple [.agg (dt y),.bool (oi s)]else r=[.fN s,Ei (wp s (oi s)),Ei 0,Ei 0]/\v=.tuple [.agg (dt (C7 s (oi s) (y9 (gt s 0)%3))),.bool (oi s)])):=by
 refine aI ?_;have kJ:=λl=>(an l h b (ag hb)).trans hb
 have o:=bg (ag hb);have kj:∀{P:List AV->AV->Prop} {v:AV} {r:List AV} {l:List (Option bp)} {dx:List Nat},Xg (·=b) h.length lg dx->P r v->RRm b ⟨h,lg,d⟩ P v ⟨aR (aQ h b ((aO 4 [r]))) l,dx,d⟩:=λh1 h2=>⟨cD (P:=(·=b)) (ag hb) rfl _ _ h1,_,o.2.2.2.2.1 _ _,h2⟩
 rcases s with _|⟨x,t⟩
 .refine aW (Z2 kJ o) ?_;exact kj (by repeat first|exact .nil|exact .cons (.inl rfl) .nil|refine .cons (.inl rfl) ?_|refine .cons (.inr aB) ?_) (by simp[qd,dt,zB])
 obtain⟨s,vp⟩:∃s,s=x::t:=⟨_,rfl⟩;rw[<-vp]at hw hb kJ|-;have x0:gt s 0=x:=by rw[vp];rfl
 have ne:(s=[])=False:=eq_false (by rw[vp];simp);have i0:s[0]?=some x:=by rw[vp];rfl
 have h1:1<=s.length:=by rw[vp];simp
 have b8:=x.toNat_lt;have wx:i64.wrap (x.toNat:Int)=(x.toNat:Int):=aU Z Z;clear vp;obtain⟨v,hv⟩:∃v,v=(x.toNat:Int)-176:=⟨_,rfl⟩;have wv:i64.wrap ((x.toNat:Int)-176)=v:=by rw[hv];exact aU Z Z
 have hx:=Qd x;rw[<-hv]at hx;rcases hx with⟨hk,rF⟩|⟨hk,v0,v6,v3,vm,vf⟩
 .have q':qd s=3:=by rw[qd,aq (by simpa using ne),x0,aG hk]
  rcases(by omega:v<0\/(¬v<0/\6<v)\/(¬v<0/\¬6<v/\v=3))with rF|rF|rF
  all_goals
   refine aW (Z7 kJ o ne i0 wv wx rF) ?_;exact kj (by repeat first|exact .nil|refine .cons (.inl rfl) ?_|refine .cons (.inr aB) ?_) (by rw[q'];exact⟨rfl,rfl⟩)
 obtain⟨k1,k2,k3,k4,k5,k6,k7⟩:=P8 h1;have g:∀(a cC:Int) (x:Int×Int×Int),eJ s a cC=x->1<=a->a<=s.length->(0<=cC/\cC<=1099511627776)->∀m,SM j 200 [.fN s,Ei a,Ei cC] m=some (.tuple [Ei x.1,Ei x.2.1,Ei x.2.2],m):=λa cC x e q1 q2 q3 m=>e▸Agd j s a cC m Z q2 hw q3
 have g1:=g 1 16 (w1 s) rfl Z Z Z;have g2:=g _ 1099511627776 (w2 s) rfl k1.c k1.d Z;have g3:=g _ 16 (w3 s) rfl k2.c k2.d Z;have g4:=g _ 1099511627776 (w4 s) rfl k3.c k3.d Z;have g5:=g _ 1048576 (w5 s) rfl k4.c k4.d Z;have g6:=g _ 20000 (w6 s) rfl k5.c k5.d Z;have g7:=g _ 20000 (w7 s) rfl k6.c k6.d Z;have wu:u64.wrap (w2 s).1=(w2 s).1:=dB k2.a (by have:=k2.b;omega);have c1:((v<0)=False/\(6<v)=False/\(v=3)=False)/\v.tmod 4=y9 x%3:=⟨⟨cR,cR,eq_false v3⟩,by rw[Int.tmod_eq_emod_of_nonneg v0,vm]⟩;have q0:qd s=0:=by rw[qd,aq (by simpa using ne),x0,aq Z]
 have fs:oi s=decide (2<y9 x):=by rw[oi,x0]
 by_cases fu:2<y9 x
 .have c2:(v<4)=False/\(4<=v)=True:=⟨cR,dy⟩;rw[decide_eq_true fu]at fs;refine aW (gX kJ o ne i0 wv wx c1 c2 g1 g2 g3 (Z4 g4 g5 wu (@aJ 265 _ rfl aZ))) ?_;(repeat' first|apply And.intro|intro _)<;>refine kj (by repeat first|exact .nil|refine .cons (.inl rfl) ?_|refine .cons (.inr aB) ?_) ?_<;>rw[aq (λq=>q q0)];all_goals
   clear kJ o g g1 g2 g3 g4 g5 g6 g7 hb k1 k2 k3 k4 k5 k6 k7 wu hw h1 kj c1 c2 vf vm v3 v6 v0 wv i0 ne wx b8;first
    |(rw[aq (by simp_all [fE])];simp_all [C7,wp,dt];done)
    |(rw[aG (by simp_all [fE])];simp_all only[fE,ne_eq,not_true_eq_false,not_false_eq_true,↓reduceIte];exact⟨_,⟨⟨_,_,_⟩,_,_,_,_,_,_⟩,rfl,rfl⟩)
 .have c2:(v<4)=True/\(4<=v)=False:=⟨dy,cR⟩;rw[decide_eq_false fu]at fs;refine aW (gX kJ o ne i0 wv wx c1 c2 g1 g2 g3 (Z6 g4 g5 g6 g7 wu (@aJ 265 _ rfl aZ))) ?_;(repeat' first|apply And.intro|intro _)<;>refine kj (by repeat first|exact .nil|refine .cons (.inl rfl) ?_|refine .cons (.inr aB) ?_) ?_<;>rw[aq (λq=>q q0)];all_goals
   clear kJ o g g1 g2 g3 g4 g5 g6 g7 hb k1 k2 k3 k4 k5 k6 k7 wu hw h1 kj c1 c2 vf vm v3 v6 v0 wv i0 ne wx b8;first
    |(rw[aq (by simp_all [fE])];simp_all [C7,wp,dt];done)
    |(rw[aG (by simp_all [fE])];simp_all only[fE,ne_eq,not_true_eq_false,not_false_eq_true,↓reduceIte,Bool.false_eq_true];exact⟨_,⟨⟨_,_,_⟩,_,_,_,_,_,_⟩,rfl,rfl⟩)
end
section
variable{F:FuncId->Option bD}{au:bR}{sm:ct}
theorem Ak3(s:List UInt8)(m:Mem)(hw:s.length<=1300)(q_:153<=j:=by omega):SM j 134 [.fN s] m=some (.tuple [.agg (dt (wR s)),.agg [Ei (wE s).1,Ei (wE s).2]],m):=by
 obtain⟨h,lg,d⟩:=m;refine Pu 1999 Ajb aZ q_ (by simp[AV.cj,hH,dt]) λn=>?_
 refine aS ?_;rw[<-fZ];refine dE _ _ _ _ _ _ (λv1 m1 R=>?_) (Ak2 152 (n+999) (aR h [(aO 9 [dt zB]),(aO 2 [[Ei 0,Ei 0]]),(aO 4 [[.fN s,Ei 0,Ei 0,Ei 0]])]) _ _ hw (b:=nb h 2) (by rw[bj];rfl));obtain⟨h2,dx,d2⟩:=m1;obtain⟨c1,r1,b1,p1⟩:=R;obtain rfl:d2=[]:=c1.aV;obtain⟨kk,O,a0,a1,nbs⟩:=Gx (lg:=lg) aL c1;have o:=SG O;have Fu:h.length<=h2.length:=kk.len;have kj:∀{x y z l dH},dD h.length dx dH->aY ⟨h,lg,d⟩ ⟨aR (t8 h2 (nb h 0) (nb h 1) (nb h 2) x y z) l,dH,d⟩:=λhl=>aY.Gx kk.sub O aB aB aB _ _ _ _ hl.ok
 show Kc _ _ _ _ _ _ _ _ _ ⟨aR (t8 h2 (nb h 0) (nb h 1) (nb h 2) none none none) [],dx,[]⟩;by_cases q0:qd s=0;rotate_left
 .rw[aG q0]at p1;obtain⟨rfl,rfl⟩:=p1;have we:wE s=(qd s,0):=by rw[wE,aG q0]
  have wr:wR s=zB:=by rw[wR,we,aq q0]
  refine aW (Z9 o a0 a1 b1 q0 we wr @dt.eq_1 @zB.eq_1) ?_;exact kj (by repeat first|exact dD.nil|refine dD.cons (by first|exact aB|exact bK (Fu) aB|assumption) ?_)
 rw[aq (λq=>q q0)]at p1;by_cases q1:(fE s (oi s)).1=0;rotate_left
 .rw[aG q1]at p1;obtain⟨i,y,rfl,rfl⟩:=p1;have we:wE s=fE s (oi s):=by rw[wE,aq (λq=>q q0),aG q1]
  have wr:wR s=zB:=by rw[wR,we,aq q1]
  refine aW (Z9 o a0 a1 b1 q1 we wr @dt.eq_1 @zB.eq_1) ?_;exact kj (by repeat first|exact dD.nil|refine dD.cons (by first|exact aB|exact bK (Fu) aB|assumption) ?_)
 rw[aq (λq=>q q1)]at p1;obtain⟨rfl,rfl⟩:=p1;have s1:1<=s.length:=by
  cases s with
  |nil=>simp[qd]at q0
  |cons x t=>simp
 obtain⟨k1,k2,k3,k4,k5,k6,k7⟩:=P8 s1;obtain⟨ps,Ak⟩:∃ps,ps=wp s (oi s):=⟨_,rfl⟩;have pk:0<=ps/\ps<=s.length:=by rw[Ak,wp];have:=k5.c;have:=k5.d;have:=k7.c;have:=k7.d;split<;>omega
 have gT:∀m,SM 152 133 [.fN s,Ei ps,Ei 1000] m=some (.tuple [.fN (wt s).1,Ei (wt s).2.1,Ei (wt s).2.2],m):=λm=>by rw[wt,<-Ak];exact Agf 152 s ps 1000 m pk.1 pk.2 hw Z
 have tk:=yo (s:=s) (a:=ps) (cC:=1000) pk.1 pk.2 Z;rw[Ak,<-wt]at tk;rw[<-Ak]at b1;obtain⟨t1,t2,t3,t4,t5⟩:=tk;have nx0:0<=(wt s).2.1:=Z;have wn4:i64.wrap ((wt s).2.1+4)=(wt s).2.1+4:=aU Z Z;have z1:0<=(wt s).2.1+4:=Z;have z2:(wt s).2.1.toNat<=((wt s).2.1+4).toNat:=Z;have z3:=λ(q:¬(s.length:Int)<(wt s).2.1+4)=>(show((wt s).2.1+4).toNat<=s.length by omega)
 have z4:((wt s).2.1+4).toNat-(wt s).2.1.toNat=4:=Z;have z5:(wt s).2.1.toNat<=s.length:=Z;have gc:=λm=>AfK 152 (s.take (wt s).2.1.toNat) m (by rw[length_take];omega)
 have gf:=λm=>AfJ 152 (Xf (s.take (wt s).2.1.toNat)) m
 have gb:=λm=>Pw 152 (wB s) m (by show(wt s).1.length<=_;omega) (by unfold I;show _<=(if oi s=true then((wt s).1.length:Int)else(w7 s).1)/\(if oi s=true then((wt s).1.length:Int)else(w7 s).1)<=_;have:=k7.a;have:=k7.b;split<;>omega)
 have gw:=λm=>AfI 152 (wB s) m
 have lt:=λ(q:¬(s.length:Int)<(wt s).2.1+4)=>Qf (s:=s) nx0 Z
 have we:wE s=if(wt s).2.2≠0 then((wt s).2.2,(wt s).2.1)else if(s.length:Int)-(wt s).2.1<4 then(11,s.length)else if CR Rs 4 (s.take ((wt s).2.1+4).toNat)≠0 then(10,(wt s).2.1)else if(wt s).2.1+4<s.length then(4,(wt s).2.1+4)else if j0 (wB s)≠0 then(j0 (wB s),0)else if oi s=false/\nA (wB s)then(3,0)else(0,0):=by rw[wE,aq (λq=>q q0),aq (λq=>q q1)]
 have fl:∀(L:List AV) (e p:Int),(e≠0->L=dt zB)->(e=0->L=dt (wB s))->wE s=(e,p)->L=dt (wR s)/\e=(wE s).1/\p=(wE s).2:=λL e p h1 h2 h3=>by
  rw[wR,h3];by_cases q:e=0
  .exact⟨(h2 q).trans (by rw[aG q]),rfl,rfl⟩
  .exact⟨(h1 q).trans (by rw[aq q]),rfl,rfl⟩
 unfold dt zB at a0;by_cases fu:oi s=true;rotate_left;have fu:oi s=false:=by simpa using fu
 all_goals
  have Ht:=gb;have Ti:=gw;unfold dt wB C7 at Ht Ti;simp only[fu,if_true,if_false,Bool.false_eq_true]at Ht Ti;have eb:dt (C7 s (oi s) (y9 (gt s 0)%3))=[Ei (C7 s (oi s) (y9 (gt s 0)%3)).id.n,Eu (C7 s (oi s) (y9 (gt s 0)%3)).id.s,Ei (C7 s (oi s) (y9 (gt s 0)%3)).id.o,Ei (C7 s (oi s) (y9 (gt s 0)%3)).jF,Ei (C7 s (oi s) (y9 (gt s 0)%3)).kZ,Ei (C7 s (oi s) (y9 (gt s 0)%3)).born,Ei (C7 s (oi s) (y9 (gt s 0)%3)).iO,Ei (C7 s (oi s) (y9 (gt s 0)%3)).eO,.fN (C7 s (oi s) (y9 (gt s 0)%3)).data]:=rfl;simp only[C7,fu,if_true,if_false,Bool.false_eq_true]at eb;simp only[C7,fu,if_true,if_false,Bool.false_eq_true,eb];refine aW (gX o a0 a1 b1 gT wn4 nx0 z1 z2 z3 z4 (Z5 z5 gc gf Ht Ti)) ?_;have ew:wB s=⟨⟨(w1 s).1,(w2 s).1,(wB s).id.o⟩,(w3 s).1,y9 (gt s 0)%3,(w4 s).1,(w5 s).1,(wB s).eO,(wt s).1⟩:=rfl;have eo:(wB s).id.o=if oi s=true then 0 else(w6 s).1:=rfl
  have et:(wB s).eO=if oi s=true then((wt s).1.length:Int)else(w7 s).1:=rfl
  simp only[fu,if_true,if_false,Bool.false_eq_true]at eo et;rw[eo,et]at ew;rw[ew]at we;simp only[fu,Bool.true_eq_false,false_and,true_and,if_false]at we;(repeat' first|refine⟨λ_=>?_,λ_=>?_⟩|intro _)<;>refine⟨fl _ _ _ (λq=>?_) (λq=>?_) ?_,kj (by repeat first|exact dD.nil|refine dD.cons (by first|exact aB|exact bK (Fu) aB|assumption) ?_)⟩;all_goals first
   |(unfold dt zB;with_reducible rfl)
   |(with_reducible exact absurd rfl q)
   |(with_reducible exact absurd q ‹_›)
   |(with_reducible exact absurd q aZ)
   |(rw[ew];unfold dt;with_reducible rfl)
   |(
    clear gb gw Ht Ti gT gc gf o a0 a1 b1 nbs c1 kk O kj fl
    rw[we]
    (repeat' split)<;>first|with_reducible rfl|omega|contradiction|(exact absurd ((lt ‹_›).2 ‹_›) ‹_›)|(exact absurd ((lt ‹_›).1 (Classical.not_not.1 ‹_›)) ‹_›))
end
section
variable{F:FuncId->Option bD}{au:bR}{sm:ct}
def q1(s:List UInt8):=jv s 1
def q2(s:List UInt8):=jv s (q1 s).2.1
def q3(s:List UInt8):=jv s (q2 s).2.1
def q4(s:List UInt8):=jv s (q3 s).2.1
def q5(s:List UInt8):=jv s (q4 s).2.1
def q6(s:List UInt8):=jv s (q5 s).2.1
def q7(s:List UInt8):=jv s (q6 s).2.1
def q8(s:List UInt8):=jv s (q7 s).2.1
def q9(s:List UInt8):=jv s (q8 s).2.1
def qt(s:List UInt8):=vg s (q6 s).2.1 1200
structure Fx(s:List UInt8)(x:Int×Int×Int):Prop where
 a:0<=x.1
 b:x.1<18446744073709551616
 c:1<=x.2.1
 d:x.2.1<=s.length
theorem XZ{s:List UInt8}(h:1<=s.length):Fx s (q1 s)/\Fx s (q2 s)/\Fx s (q3 s)/\Fx s (q4 s)/\Fx s (q5 s)/\Fx s (q6 s)/\Fx s (q7 s)/\Fx s (q8 s)/\Fx s (q9 s):=by
 have st:∀(a:Int),1<=a->a<=s.length->Fx s (jv s a):=λa h1 h2=>by
  obtain⟨p1,p2,p3,p4,_⟩:=yk (s:=s) (a:=a) Z h2;exact⟨p1,p2,Z,p4⟩
 have k1:Fx s (q1 s):=st 1 Z Z;have k2:Fx s (q2 s):=st _ k1.c k1.d;have k3:Fx s (q3 s):=st _ k2.c k2.d;have k4:Fx s (q4 s):=st _ k3.c k3.d;have k5:Fx s (q5 s):=st _ k4.c k4.d;have k6:Fx s (q6 s):=st _ k5.c k5.d;have k7:Fx s (q7 s):=st _ k6.c k6.d;have k8:Fx s (q8 s):=st _ k7.c k7.d;exact⟨k1,k2,k3,k4,k5,k6,k7,k8,st _ k8.c k8.d⟩
def Tj(b:List UInt8):GW:=⟨3,(q1 b).1,(q2 b).1,(q3 b).1,(q4 b).1,(q5 b).1,(q6 b).1,Qa,wB (qt b).1⟩
def DB(b:List UInt8):Prop:=(gt b 0).toNat=3/\(q1 b).2.2=0/\(q2 b).2.2=0/\(q3 b).2.2=0/\(q4 b).2.2=0/\(q5 b).2.2=0/\(q6 b).2.2=0/\(qt b).2.2=0/\(wE (qt b).1).1=0/\(qt b).2.1=b.length/\CF (Tj b)=0
def Qg(s:List UInt8):Prop:=s.length<=1200/\3<=s.length/\CR CS 2 s=0/\DB (KL CS 2 s)
structure GY(ok:Prop)(id:iF)(v:AV):Prop where
 q:∃(x:GW) (e p:Int),v=.tuple [.agg (C8 x),.agg [Ei e,Ei p]]/\(e=0/\x.k=3↔ok)/\(ok->x.mU.id=id)
def Qh(s:List UInt8):iF:=(wB (qt (KL CS 2 s)).1).id
theorem UT{x:Int}(h0:0<=x)(h1:x<18446744073709551616):i64.wrap x=if x<9223372036854775808 then x else x-18446744073709551616:=by
 have e:x%(2^64:Int)=x:=Int.emod_eq_of_lt h0 h1;have f:((2:Int)^(64-1))=9223372036854775808:=rfl;have f2:((2:Int)^64)=18446744073709551616:=rfl;simp only[wrap,IntKind.bits,signed,Bool.true_and,decide_eq_true_eq,e,f,ge_iff_le];rw[f2];split<;>split<;>omega
theorem Agk{x:GW}{a b:Int}(ha:0<=a/\a<18446744073709551616)(hb:0<=b/\b<18446744073709551616):CF {x with f:=i64.wrap a,t:=i64.wrap b}=CF {x with f:=a,t:=b}:=by
 obtain⟨a',ea⟩:∃a',a'=i64.wrap a:=⟨_,rfl⟩;obtain⟨b',eb⟩:∃b',b'=i64.wrap b:=⟨_,rfl⟩;rw[<-ea,<-eb];rw[UT ha.1 ha.2]at ea;rw[UT hb.1 hb.2]at eb;by_cases c:a<1\/16<a\/b<1\/16<b
 .have c':a'<1\/16<a'\/b'<1\/16<b':=by split at ea<;>split at eb<;>omega
  have st:∀(y:GW),(y.f<1\/16<y.f\/y.t<1\/16<y.t)->CF y=if¬(1<=y.k/\y.k<=7)then 7 else 2:=λy hy=>by
   rw[CF];split
   .rfl
   .rw[aG Z]
  rw[st _ c',st _ c]
 .rw[ea,eb,aG Z,aG Z]
def Ya(j:Nat):Prop:=∀(k f t xC qH a b i1 i2 i3 b1 b2 b3 b4 b5 b6 b7 b8:Int) (d:List UInt8) (m:Mem),d.length<=1000000->I b8->SM j 76 [.agg [Ei k,Ei f,Ei t,Eu xC,Eu qH,Eu a,Eu b,Ei i1,Eu i2,Ei i3,Ei b1,Eu b2,Ei b3,Ei b4,Ei b5,Ei b6,Ei b7,Ei b8,.fN d]] m=some (Ei (CF ⟨k,f,t,xC,qH,a,b,⟨i1,i2,i3⟩,⟨⟨b1,b2,b3⟩,b4,b5,b6,b7,b8,d⟩⟩),m)
theorem Agl(q_:134<=j:=by omega):Ya j:=λk f t xC qH a b i1 i2 i3 b1 b2 b3 b4 b5 b6 b7 b8 d m h1 h2=>E76 j ⟨k,f,t,xC,qH,a,b,⟨i1,i2,i3⟩,⟨⟨b1,b2,b3⟩,b4,b5,b6,b7,b8,d⟩⟩ m h1 h2
theorem Agm{s:List UInt8}(h:1<=s.length):(wR s).data.length<=1000000/\I (wR s).eO:=by
 obtain⟨k1,k2,k3,k4,k5,k6,k7⟩:=P8 h;have pk:0<=wp s (oi s)/\wp s (oi s)<=s.length:=by rw[wp];have:=k5.c;have:=k5.d;have:=k7.c;have:=k7.d;split<;>omega
 obtain⟨t1,_⟩:=yo (s:=s) (a:=wp s (oi s)) (cC:=1000) pk.1 pk.2 Z;unfold wR;split
 .refine⟨by show(wt s).1.length<=_;unfold wt;omega,?_⟩;show I (if oi s=true then((wt s).1.length:Int)else(w7 s).1);unfold I wt;have:=k7.a;have:=k7.b;split<;>omega
 .exact⟨Nat.zero_le _,by unfold I;decide⟩
theorem Qi(s:List UInt8):(wR s).data.length<=1000000/\I (wR s).eO:=by
 cases s with
 |nil=>
  have e:qd []=11:=by simp[qd]
  rw[wR,wE,aG (show qd []≠0 by rw[e];decide),aq (show¬(qd [],(0:Int)).1=0 by rw[e];decide)];exact⟨Nat.zero_le _,by unfold I;decide⟩
 |cons x t=>exact Agm (by simp)
theorem em9{a b c d e f g h:Prop}:¬a\/(a/\¬b)\/(a/\b/\¬c)\/(a/\b/\c/\¬d)\/(a/\b/\c/\d/\¬e)\/(a/\b/\c/\d/\e/\¬f)\/(a/\b/\c/\d/\e/\f/\¬g)\/(a/\b/\c/\d/\e/\f/\g/\¬h)\/(a/\b/\c/\d/\e/\f/\g/\h):=by
 by_cases ha:a
 .by_cases hb:b
  .by_cases hc:c
   .by_cases hd:d
    .by_cases he:e
     .by_cases hf:f
      .by_cases hg:g
       .by_cases hh:h<;>simp[*]
       .simp[*]
      .simp[*]
     .simp[*]
    .simp[*]
   .simp[*]
  .simp[*]
 .simp[*]
theorem I0:I 0:=by unfold I;decide
section
theorem Agn(lg d:List Nat){s b:List UInt8}(hh:vv h)(hc:pY h)(hl:3<=s.length/\s.length<=1200)(hb:KL CS 2 s=b)(rF:CR CS 2 s=0)(hk:(gt b 0).toNat=3)(KH:1<=b.length)(C5:b.length<=1300)(q_:134<=j:=by omega):Wa FT MT (SM j) (n+2000) (.fn 37) [.fN s] ⟨aR h [],lg,d⟩ (Qk ⟨h,lg,d⟩ (λv _=>GY (DB b) (wB (qt b).1).id v)):=by
 refine aI ?_;have UU:=λm=>E70 j s m Z Z
 have sZ:(1200<(s.length:Int))=False/\((s.length:Int)<3)=False:=⟨cR,cR⟩;have i0:b[0]?=some (gt b 0):=by rw[bB (show 0<b.length by omega),getElem?_eq_getElem]
 have F1:((gt b 0).toNat:Int)=3:=Z;obtain⟨k1,k2,k3,k4,k5,k6,k7,k8,k9⟩:=XZ KH;have g:∀(a:Int) (x:Int×Int×Int),jv b a=x->1<=a->a<=b.length->∀m,SM j 127 [.fN b,Ei a] m=some (.tuple [Eu x.1,Ei x.2.1,Ei x.2.2],m):=λa x e p1 p2 m=>e▸XX j b a m Z p2 C5
 have g1:=g 1 (q1 b) rfl Z Z;have g2:=g _ (q2 b) rfl k1.c k1.d;have g3:=g _ (q3 b) rfl k2.c k2.d;have g4:=g _ (q4 b) rfl k3.c k3.d;have g5:=g _ (q5 b) rfl k4.c k4.d;have g6:=g _ (q6 b) rfl k5.c k5.d;have gT:∀m,SM j 128 [.fN b,Ei (q6 b).2.1,Ei 1200] m=some (.tuple [.fN (qt b).1,Ei (qt b).2.1,Ei (qt b).2.2],m):=λm=>Age j b _ 1200 m (by have:=k6.c;omega) k6.d C5 Z
 have tk:=yo (s:=b) (a:=(q6 b).2.1) (cC:=1200) (by have:=k6.c;omega) k6.d Z;rw[<-qt]at tk;have gD:=λl lg d=>AkY j (qt b).1 ⟨aR h l,lg,d⟩ (hh.bx l) (hc.bx l) Z
 unfold dt at gD;have KP:=λm=>E71 j 3 m
 simp[uA,uB,uI]at KP;have w3:i64.wrap 3=3:=aU Z Z;have f76:=Agl j;unfold Ya at f76;have dk:=Qi (qt b).1;clear g;generalize e1:q1 b=x1 at k1 g1 g2;generalize e2:q2 b=x2 at k2 g2 g3;generalize e3:q3 b=x3 at k3 g3 g4;generalize e4:q4 b=x4 at k4 g4 g5;generalize e5:q5 b=x5 at k5 g5 g6;generalize e6:q6 b=x6 at k6 g6 gT tk;generalize e7:qt b=x7 at gT tk gD dk|-;generalize e8:wE x7.1=x8 at gD;generalize e9:wR x7.1=x9 at gD dk;have ol:(x7.2.1<(b.length:Int))=¬x7.2.1=b.length:=propext Z;rcases@em9 (x1.2.2=0) (x2.2.2=0) (x3.2.2=0) (x4.2.2=0) (x5.2.2=0) (x6.2.2=0) (x7.2.2=0) (x8.1=0)with z|z|z|z|z|z|z|z|z
 rotate_left 8
 .refine aW (gX sZ UU hb rF i0 F1 w3 KP g1 g2 g3 (gX g4 g5 g6 gT gD f76 dk z ol (@aJ 72 _ rfl aZ) (@aJ 73 _ rfl aZ) (Z2 (@aJ 74 _ rfl aZ) (@aJ 75 _ rfl aZ)))) ?_;have w9:wB x7.1=x9:=by rw[<-e9,wR,aG (by rw[e8];exact z.2.2.2.2.2.2.2)]
  have ep:Tj b=⟨3,x1.1,x2.1,x3.1,x4.1,x5.1,x6.1,Qa,x9⟩:=by rw[Tj,e1,e2,e3,e4,e5,e6,e7,w9]
  have ef:CF ⟨3,i64.wrap x1.1,i64.wrap x2.1,x3.1,x4.1,x5.1,x6.1,⟨0,0,0⟩,x9⟩=CF (Tj b):=by
   have:=Agk (x:=Tj b) ⟨k1.a,k1.b⟩ ⟨k2.a,k2.b⟩;rw[ep]at this|-;exact this
  have db:DB b↔x7.2.1=b.length/\CF ⟨3,i64.wrap x1.1,i64.wrap x2.1,x3.1,x4.1,x5.1,x6.1,⟨0,0,0⟩,x9⟩=0:=by
   unfold DB;rw[e1,e2,e3,e4,e5,e6,e7,e8,ef];simp only[hk,z,true_and]
  refine⟨λc=>?_,λc=>⟨λc2=>?_,λc2=>?_⟩⟩
  .have nd:¬DB b:=λh=>c (db.1 h).1
   exact⟨aH aL,⟨⟨0,0,0,0,0,0,0,⟨0,0,0⟩,⟨⟨0,0,0⟩,0,0,0,0,0,[]⟩⟩,_,_,rfl,⟨λh=>absurd h.2 (show¬(0:Int)=3 by decide),λh=>absurd h nd⟩,λh=>absurd h nd⟩⟩
  .have nd:¬DB b:=λh=>c2 (db.1 h).2
   exact⟨aH aL,⟨⟨0,0,0,0,0,0,0,⟨0,0,0⟩,⟨⟨0,0,0⟩,0,0,0,0,0,[]⟩⟩,_,_,rfl,⟨λh=>absurd h.2 (show¬(0:Int)=3 by decide),λh=>absurd h nd⟩,λh=>absurd h nd⟩⟩
  .exact⟨aH aL,⟨⟨3,i64.wrap x1.1,i64.wrap x2.1,x3.1,x4.1,x5.1,x6.1,⟨0,0,0⟩,x9⟩,0,0,rfl,⟨λ_=>db.2 ⟨c,c2⟩,λ_=>⟨rfl,rfl⟩⟩,λ_=>by rw[w9]⟩⟩
 all_goals
  refine aW (gX sZ UU hb rF i0 F1 w3 KP g1 g2 g3 (gX g4 g5 g6 gT gD f76 dk @I0 z (@aJ 72 _ rfl aZ) (@aJ 73 _ rfl aZ) (Z2 (@aJ 74 _ rfl aZ) (@aJ 75 _ rfl aZ)))) ?_;have nd:¬DB b:=λh=>by
   unfold DB at h;rw[e1,e2,e3,e4,e5,e6,e7]at h;simp only[e8,z,and_false,false_and]at h
  (repeat' first|refine⟨λ_=>?_,λ_=>?_⟩|intro _)<;>exact⟨aH aL,⟨⟨0,0,0,0,0,0,0,⟨0,0,0⟩,⟨⟨0,0,0⟩,0,0,0,0,0,[]⟩⟩,_,_,rfl,⟨λh=>absurd h.2 (show¬(0:Int)=3 by decide),λh=>absurd h nd⟩,λh=>absurd h nd⟩⟩
end
end
theorem GY.of{ok ok':Prop}{id:iF}{v:AV}(h:GY ok id v)(e:ok↔ok'):GY ok' id v:=by
 obtain⟨x,a,p,h1,h2,h3⟩:=h;exact⟨x,a,p,h1,h2.trans e,λq=>h3 (e.2 q)⟩
theorem GZ{ok:Prop}{id:iF}(n:¬ok)(e p:Int):GY ok id (.tuple [.agg [.int .i64 0,.int .i64 0,.int .i64 0,.int .u64 0,.int .u64 0,.int .u64 0,.int .u64 0,.int .i64 0,.int .u64 0,.int .i64 0,.int .i64 0,.int .u64 0,.int .i64 0,.int .i64 0,.int .i64 0,.int .i64 0,.int .i64 0,.int .i64 0,.fN []],.agg [.int .i64 e,.int .i64 p]]):=
 ⟨⟨0,0,0,0,0,0,0,⟨0,0,0⟩,⟨⟨0,0,0⟩,0,0,0,0,0,[]⟩⟩,e,p,rfl,⟨λh=>absurd h.2 (show¬(0:Int)=3 by decide),λh=>absurd h n⟩,λh=>absurd h n⟩
section
variable{F:FuncId->Option bD}{au:bR}{sm:ct}
theorem Ago(lg d:List Nat){s b:List UInt8}{k:Int}{ua ub ui:Bool}(hl:3<=s.length/\s.length<=1200)(hb:KL CS 2 s=b)(rF:CR CS 2 s=0)(F1:((gt b 0).toNat:Int)=k)(hk:k≠3)(Qb:i64.wrap k=k)(KH:1<=b.length)(C5:b.length<=1300)(KP:∀m,SM j 71 [Ei k] m=some (.tuple [.agg [.bool ua,.bool ub,.bool false,.bool ui],.bool true],m))(hu:(ua=false/\ub=false/\ui=false)\/(ua=true/\ub=false/\ui=false)\/(ua=true/\ub=true/\ui=false)\/(ua=true/\ub=false/\ui=true)\/(ua=true/\ub=true/\ui=true))(id:iF)(q_:134<=j:=by omega):Wa FT MT (SM j) (n+2000) (.fn 37) [.fN s] ⟨aR h [],lg,d⟩ (Qk ⟨h,lg,d⟩ (λv _=>GY False id v)):=by
 refine aI ?_;have UU:=λm=>E70 j s m Z Z
 have sZ:(1200<(s.length:Int))=False/\((s.length:Int)<3)=False:=⟨cR,cR⟩;have i0:b[0]?=some (gt b 0):=by rw[bB (show 0<b.length by omega),getElem?_eq_getElem]
 obtain⟨k1,k2,k3,k4,k5,k6,k7,k8,k9⟩:=XZ KH;have g:∀(a:Int) (x:Int×Int×Int),jv b a=x->1<=a->a<=b.length->∀m,SM j 127 [.fN b,Ei a] m=some (.tuple [Eu x.1,Ei x.2.1,Ei x.2.2],m):=λa x e p1 p2 m=>e▸XX j b a m Z p2 C5
 have g1:=g 1 (q1 b) rfl Z Z;have g2:=g _ (q2 b) rfl k1.c k1.d;have g3:=g _ (q3 b) rfl k2.c k2.d;have g4:=g _ (q4 b) rfl k3.c k3.d;have g5:=g _ (q5 b) rfl k4.c k4.d;have g6:=g _ (q6 b) rfl k5.c k5.d;have g7:=g _ (q7 b) rfl k6.c k6.d;have g8:=g _ (q8 b) rfl k7.c k7.d;have g9:=g _ (q9 b) rfl k8.c k8.d;have f76:=Agl j;unfold Ya at f76;clear g;generalize q1 b=x1 at k1 g1 g2;generalize q2 b=x2 at k2 g2 g3;generalize q3 b=x3 at k3 g3 g4;generalize q4 b=x4 at k4 g4 g5;generalize q5 b=x5 at k5 g5 g6;generalize q6 b=x6 at k6 g6 g7;generalize q7 b=x7 at k7 g7 g8;generalize q8 b=x8 at k8 g8 g9;generalize q9 b=x9 at k9 g9;have wu0:u64.wrap 0=0:=dB Z Z;have wa:=dB k1.a (by have:=k1.b;omega);have GZ:∀(e p:Int),GY False id (.tuple [.agg [Ei 0,Ei 0,Ei 0,Eu 0,Eu 0,Eu 0,Eu 0,Ei 0,Eu 0,Ei 0,Ei 0,Eu 0,Ei 0,Ei 0,Ei 0,Ei 0,Ei 0,Ei 0,.fN []],.agg [Ei e,Ei p]]):=λe p=>⟨⟨0,0,0,0,0,0,0,⟨0,0,0⟩,⟨⟨0,0,0⟩,0,0,0,0,0,[]⟩⟩,e,p,rfl,⟨λh=>absurd h.2 (show¬(0:Int)=3 by decide),λh=>h.elim⟩,λh=>h.elim⟩
 have kfr:∀(a1 a2 a3 a4 a5 a6 a7 a8 a9 b1 b2 b3 b4 b5 b6 b7 b8 e p:Int) (da:List UInt8),GY False id (.tuple [.agg [Ei k,Ei a1,Ei a2,Eu a3,Eu a4,Eu a5,Eu a6,Ei a7,Eu a8,Ei a9,Ei b1,Eu b2,Ei b3,Ei b4,Ei b5,Ei b6,Ei b7,Ei b8,.fN da],.agg [Ei e,Ei p]]):=λa1 a2 a3 a4 a5 a6 a7 a8 a9 b1 b2 b3 b4 b5 b6 b7 b8 e p da=>⟨⟨k,a1,a2,a3,a4,a5,a6,⟨a7,a8,a9⟩,⟨⟨b1,b2,b3⟩,b4,b5,b6,b7,b8,da⟩⟩,e,p,rfl,⟨λh=>absurd h.2 hk,λh=>h.elim⟩,λh=>h.elim⟩
 rcases hu with⟨rfl,rfl,rfl⟩|⟨rfl,rfl,rfl⟩|⟨rfl,rfl,rfl⟩|⟨rfl,rfl,rfl⟩|⟨rfl,rfl,rfl⟩
 all_goals
  rcases@em9 (x1.2.2=0) (x2.2.2=0) (x3.2.2=0) (x4.2.2=0) (x5.2.2=0) (x6.2.2=0) (x7.2.2=0) (x8.2.2=0)with z|z|z|z|z|z|z|z|z
  all_goals
   refine aW (gX sZ UU hb rF i0 F1 Qb KP g1 g2 g3 (gX g4 g5 g6 g7 g8 g9 f76 @I0 z wu0 (@aJ 72 _ rfl aZ) (Z3 (@aJ 73 _ rfl aZ) (@aJ 74 _ rfl aZ) (@aJ 75 _ rfl aZ)))) ?_;(repeat' first|refine⟨λ_=>?_,λ_=>?_⟩|intro _)<;>first|exact⟨aH aL,GZ _ _⟩|exact⟨aH aL,kfr _ _ _ _ _ _ _ _ _ _ _ _ _ _ _ _ _ _ _ _⟩
end
section
variable{F:FuncId->Option bD}{au:bR}{sm:ct}
section
theorem N37(lg d:List Nat){s:List UInt8}(hh:vv h)(hc:pY h)(hw:s.length<=1300)(q_:134<=j:=by omega):Wa FT MT (SM j) (n+2000) (.fn 37) [.fN s] ⟨aR h [],lg,d⟩ (Qk ⟨h,lg,d⟩ (λv _=>GY (Qg s) (Qh s) v)):=by
 by_cases c1:1200<s.length
 .have c:(1200<(s.length:Int))=True:=dy;refine aI ?_;refine aW c ?_;exact⟨aH aL,GZ (λh=>by have:=h.1;omega) _ _⟩
 have A4:(1200<(s.length:Int))=False:=cR;by_cases c2:s.length<3
 .have c:((s.length:Int)<3)=True:=dy;refine aI ?_;refine aW (Z2 A4 c) ?_;exact⟨aH aL,GZ (λh=>by have:=h.2.1;omega) _ _⟩
 have c2':((s.length:Int)<3)=False:=cR;have UU:=λm=>E70 j s m Z hw
 by_cases c3:CR CS 2 s=0;rotate_left
 .refine aI ?_;refine aW (Z4 A4 c2' UU c3) ?_;exact⟨aH aL,GZ (λh=>c3 h.2.2.1) _ _⟩
 obtain⟨b,hb⟩:∃b,b=KL CS 2 s:=⟨_,rfl⟩;have bl:b.length=s.length-2:=by
  unfold CR at c3;unfold KL at hb;by_cases q:CS (s.take (s.length-2))=s.drop (s.length-2)
  .rw[aG q]at hb;rw[hb,length_take];omega
  .rw[aq q]at c3;exact absurd c3 aZ
 have b1:1<=b.length:=Z;have iff:DB b↔Qg s:=by rw[hb];exact⟨λh=>⟨Z,Z,c3,h⟩,λh=>h.2.2.2⟩
 have k8:=(gt b 0).toNat_lt;have wk:i64.wrap ((gt b 0).toNat:Int)=((gt b 0).toNat:Int):=aU Z Z;have i0:b[0]?=some (gt b 0):=by rw[bB (show 0<b.length by omega),getElem?_eq_getElem]
 rcases D9 ((gt b 0).toNat:Int)with hk|hk
 rotate_left
 .have KP:=λm=>E71 j ((gt b 0).toNat:Int) m
  have kf:decide (1<=((gt b 0).toNat:Int)/\((gt b 0).toNat:Int)<=7)=false:=decide_eq_false hk;rw[kf]at KP;rw[<-hb]at UU;refine aI ?_;refine aW (Z7 A4 c2' UU c3 i0 wk KP) ?_;exact⟨aH aL,GZ (λh=>by have:=(iff.2 h).1;omega) _ _⟩
 by_cases k3:((gt b 0).toNat:Int)=3
 .refine dE _ _ _ _ _ _ (λv m' q=>?_) (Agn j n h lg d hh hc ⟨Z,Z⟩ hb.symm c3 Z b1 Z);exact⟨q.1,by rw[Qh,<-hb];exact q.2.of iff⟩
 .have nd:¬Qg s:=λh=>k3 (by have:=(iff.2 h).1;omega)
  have kj:∀{ua ub ui:Bool},(∀m,SM j 71 [Ei ((gt b 0).toNat:Int)] m=some (.tuple [.agg [.bool ua,.bool ub,.bool false,.bool ui],.bool true],m))->((ua=false/\ub=false/\ui=false)\/(ua=true/\ub=false/\ui=false)\/(ua=true/\ub=true/\ui=false)\/(ua=true/\ub=false/\ui=true)\/(ua=true/\ub=true/\ui=true))->
   Wa FT MT (SM j) (n+2000) (.fn 37) [.fN s] ⟨aR h [],lg,d⟩ (Qk ⟨h,lg,d⟩ (λv _=>GY (Qg s) (Qh s) v)):=λKP hu=>by
   refine dE _ _ _ _ _ _ (λv m' q=>?_) (Ago j n h lg d ⟨Z,Z⟩ hb.symm c3 rfl k3 wk b1 Z KP hu (Qh s));exact⟨q.1,q.2.of ⟨λh=>h.elim,λh=>absurd h nd⟩⟩
  have KP:=λm=>E71 j ((gt b 0).toNat:Int) m
  rcases hk with hk|hk|hk|hk|hk|hk|hk
  rotate_left 2
  .exact absurd hk k3
  all_goals
   rw[hk]at KP kj;simp[uA,uB,uI]at KP;exact kj KP (by simp)
end
end
end Go.Abs
end
