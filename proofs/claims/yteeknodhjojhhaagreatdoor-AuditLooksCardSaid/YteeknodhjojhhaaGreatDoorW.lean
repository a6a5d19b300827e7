/- Functions of the program on symbolic values
   Conditions: none. -/
import Derived.Test.YteeknodhjojhhaaGreatDoorEv5
set_option linter.unusedSimpArgs false
set_option linter.unusedVariables false
set_option maxRecDepth 100000
noncomputable section
namespace Go.Abs
open List Option IntKind
theorem DI(x y:Option bp):∀(f k:Nat) (t:Mt),k<f->uj x f k (uj y f k t)=uj x f k t
 |0,k,t,hk=>absurd hk Z
 |f+1,0,t,_=>by cases t<;>rfl
 |f+1,k+1,t,hk=>by
  have ih:=DI x y f (k/2);cases t with
  |e=>
   rw[mq,mq];cases hb:Nat.beq (k%2) 0
   .simp only[cond];rw[eN,hb];simp only[cond];rw[ih _ Z]
   .simp only[cond];rw[eN,hb];simp only[cond];rw[ih _ Z]
  |n v l r=>
   rw[eN,eN];cases hb:Nat.beq (k%2) 0
   .simp only[cond];rw[eN,hb];simp only[cond];rw[ih _ Z]
   .simp only[cond];rw[eN,hb];simp only[cond];rw[ih _ Z]
theorem DJ(x y:Option bp):∀(f g k j:Nat) (t:Mt),k<f->j<g->k≠j->uj x f k (uj y g j t)=uj y g j (uj x f k t)
 |0,_,k,_,t,hk,_,_=>absurd hk Z
 |_,0,_,j,t,_,hj,_=>absurd hj Z
 |f+1,g+1,0,0,t,_,_,h=>absurd rfl h
 |f+1,g+1,0,j+1,t,_,hj,_=>by
  cases t with
  |e=>
   rw[mq,uz];cases hb:Nat.beq (j%2) 0<;>simp only[cond]<;>rw[jG,eN,hb]<;>rfl
  |n v l r=>
   rw[eN,jG];cases hb:Nat.beq (j%2) 0<;>simp only[cond]<;>rw[jG,eN,hb]<;>rfl
 |f+1,g+1,k+1,0,t,hk,_,_=>by
  cases t with
  |e=>
   rw[mq,uz];cases hb:Nat.beq (k%2) 0<;>simp only[cond]<;>rw[jG,eN,hb]<;>rfl
  |n v l r=>
   rw[eN,jG];cases hb:Nat.beq (k%2) 0<;>simp only[cond]<;>rw[jG,eN,hb]<;>rfl
 |f+1,g+1,k+1,j+1,t,hk,hj,h=>by
  have h1:k%2=0\/k%2=1:=Z;have h2:j%2=0\/j%2=1:=Z;have b0:Nat.beq 0 0=true:=rfl;have b1:Nat.beq 1 0=false:=rfl;have ih:=λt=>DJ x y f g (k/2) (j/2) t Z Z
  cases t with
  |e=>
   rcases h1 with h1|h1<;>rcases h2 with h2|h2<;>
    simp only[mq,eN,h1,h2,b0,b1,cond]<;>first|rfl|(rw[ih _ Z])
  |n v l r=>
   rcases h1 with h1|h1<;>rcases h2 with h2|h2<;>
    simp only[eN,h1,h2,b0,b1,cond]<;>first|rfl|(rw[ih _ Z])
def aR(h:aN)(l:List (Option bp)):aN:=
 match l with
 |[]=>h
 |x::l=>aR (aQ h h.length x) l
theorem nN(h:aN):aR h []=h:=rfl
theorem js(h:aN)(x:Option bp)(l:List (Option bp)):aR h (x::l)=aR (aQ h h.length x) l:=rfl
theorem bV:∀(l:List (Option bp)) (h:aN),(aR h l).length=h.length+l.length
 |[],h=>rfl
 |x::l,h=>by rw[js,bV l,tz,length_cons];omega
theorem BU:∀(l k:List (Option bp)) (h:aN),aR h (l++k)=aR (aR h l) k
 |[],_,_=>rfl
 |x::l,k,h=>by rw[cons_append,js,js,BU l k]
theorem OQ(h:aN)(l:List (Option bp))(x:Option bp):aQ (aR h l) (h.length+l.length) x=aR h (l++[x]):=by
 rw[BU,js,nN,bV]
theorem an:∀(l:List (Option bp)) (h:aN) (b:Nat),b<h.length->aj (aR h l) b=aj h b
 |[],_,_,_=>rfl
 |x::l,h,b,hb=>by rw[js,an l _ b (by rw[tz];omega),OP hb]
theorem JM:∀(l:List (Option bp)) (h:aN) (k:Nat),aj (aR h l) (h.length+k)=(l[k]?).join
 |[],h,k=>by rw[nN,mL Z];simp
 |x::l,h,0=>by rw[js,an l _ _ (by rw[tz];omega),Nat.add_zero,OO];simp
 |x::l,h,k+1=>by
  have:=JM l (aQ h h.length x) k;rw[tz]at this;rw[js,show h.length+(k+1)=h.length+1+k by omega,this];simp
theorem bJ{h:aN}{b:Nat}{x:Option bp}(hb:b<h.length):(aQ h b x).length=h.length:=by rw[cw];omega
theorem rY(h:aN)(b:Nat)(x y:Option bp):aQ (aQ h b y) b x=aQ h b x:=by
 have jU:b<(aQ h b y).length:=by rw[cw];omega
 have e1:(aQ (aQ h b y) b x).length=(aQ h b x).length:=by rw[bJ jU,cw,cw]
 have e2:(aQ (aQ h b y) b x).zd=(aQ h b x).zd:=DI x y (b+1) b h.zd Z;cases h1:aQ (aQ h b y) b x;cases h2:aQ h b x;rw[h1,h2]at e1 e2;simp only at e1 e2;rw[e1,e2]
theorem zy(h:aN){b c:Nat}(x y:Option bp)(jV:b≠c):aQ (aQ h b x) c y=aQ (aQ h c y) b x:=by
 have e1:(aQ (aQ h b x) c y).length=(aQ (aQ h c y) b x).length:=by simp only[cw];omega
 have e2:(aQ (aQ h b x) c y).zd=(aQ (aQ h c y) b x).zd:=DJ y x (c+1) (b+1) c b h.zd Z Z (Ne.symm jV);cases h1:aQ (aQ h b x) c y;cases h2:aQ (aQ h c y) b x;rw[h1,h2]at e1 e2;simp only at e1 e2;rw[e1,e2]
theorem lF:∀(l:List (Option bp)) (h:aN) (b:Nat) (x:Option bp),b<h.length->aQ (aR h l) b x=aR (aQ h b x) l
 |[],_,_,_,_=>rfl
 |y::l,h,b,x,hb=>by
  rw[js,lF l _ b x (by rw[tz];omega),zy h y x Z,js,bJ hb]
theorem JN:∀(l:List (Option bp)) (h:aN) (k:Nat) (x:Option bp),k<l.length->aQ (aR h l) (h.length+k) x=aR h (l.set k x)
 |[],_,_,_,hk=>by simp at hk
 |y::l,h,0,x,_=>by
  rw[js,Nat.add_zero,lF l _ _ x (by rw[tz];omega),rY,set_cons_zero,js]
 |y::l,h,k+1,x,hk=>by
  have:=JN l (aQ h h.length y) k x (by simpa using hk);rw[tz]at this;rw[js,show h.length+(k+1)=h.length+1+k by omega,this,set_cons_succ,js]
theorem OR{h:aN}{l:List (Option bp)}{lg bq d:List Nat}(hl:∃k,bq=k++lg/\∀b∈k,h.length<=b):aY ⟨h,lg,d⟩ ⟨aR h l,bq,d⟩:=
 ⟨by simp only[bV];omega,λb hb=>an l h b hb,rfl,hl⟩
mutual
theorem VR.back{ρ gO:dR}:∀{a:AV} {v:Value},(∀b∈a.cj,gO b=ρ b)->VR gO a v->VR ρ a v
 |.undef,_,_,hv|.bool _,_,_,hv|.int _ _,_,_,hv|.fN _,_,_,hv|.qL,_,_,hv|.aF,_,_,hv|.fg,_,_,hv|.lT,_,_,hv|.nilFunc,_,_,hv|.nilIface,_,_,hv|.Vo,_,_,hv|.Hl _,_,_,hv=>by simpa[VR]using hv
 |.ptr b _ _,_,h,hv=>by obtain⟨p,hp,e⟩:=hv;exact⟨p,(h b (by simp[AV.cj])).symm.trans hp,e⟩
 |.slice b _ _ _,_,h,hv=>by obtain⟨p,a,k,hp,r⟩:=hv;exact⟨p,a,k,(h b (by simp[AV.cj])).symm.trans hp,r⟩
 |.map b,_,h,hv=>by obtain⟨p,hp,e⟩:=hv;exact⟨p,(h b (by simp[AV.cj])).symm.trans hp,e⟩
 |.func _ a c,_,h,hv=>by
  obtain⟨a',c',e,h1,h2⟩:=hv;exact⟨a',c',e,fz.back (λb hb=>h b (by simp[AV.cj,hb])) h1,fz.back (λb hb=>h b (by simp[AV.cj,hb])) h2⟩
 |.iface _ x,_,h,hv=>by obtain⟨x',e,h1⟩:=hv;exact⟨x',e,VR.back (a:=x) (λb hb=>h b (by simpa[AV.cj]using hb)) h1⟩
 |.agg cs,_,h,hv=>by obtain⟨c',e,h1⟩:=hv;exact⟨c',e,fz.back (as:=cs) (λb hb=>h b (by simpa[AV.cj]using hb)) h1⟩
 |.tuple cs,_,h,hv=>by obtain⟨c',e,h1⟩:=hv;exact⟨c',e,fz.back (as:=cs) (λb hb=>h b (by simpa[AV.cj]using hb)) h1⟩
 |.yield b,_,h,hv=>by obtain⟨p,hp,e⟩:=hv;exact⟨p,(h b (by simp[AV.cj])).symm.trans hp,e⟩
theorem fz.back{ρ gO:dR}:∀{as:List AV} {vs:List Value},(∀b∈hH as,gO b=ρ b)->fz gO as vs->fz ρ as vs
 |[],_,_,hv=>by simpa[fz]using hv
 |_::_,_,h,hv=>by
  obtain⟨v,vs,e,h1,h2⟩:=hv;exact⟨v,vs,e,VR.back (λb hb=>h b (by simp[hH,hb])) h1,fz.back (λb hb=>h b (by simp[hH,hb])) h2⟩
end
theorem VR.mX{ρ gO:dR}{a:AV}{v v':Value}(h:VR ρ a v)(hl:ρ.le gO)(h':VR gO a v'):VR ρ a v':=
 VR.back (λb hb=>let⟨p,hp⟩:=VR.names h b hb;(hl b p hp).trans hp.symm) h'
theorem sT.mX{K:Kp}{ρ gO:dR}{w w':World}{p:Pl}{x:bp}(h:sT K ρ w p x)(hl:ρ.le gO)(h':sT K gO w' p x):sT K ρ w' p x:=by
 cases x with
 |row bS bZ es=>
  obtain⟨_,_,_,_,Al3,el0,CW,_,_,g6,_,_⟩:=h;obtain⟨h1,h2,h3,h4,gP,el,fr,hg,h5,h6,h7,h8⟩:=h';refine⟨h1,h2,h3,h4,gP,el,fr,hg,h5,λk a ha=>?_,h7,h8⟩;obtain⟨v,hv,hr⟩:=h6 k a ha;obtain⟨v0,_,hr0⟩:=g6 k a ha;exact⟨v,hv,hr0.mX hl hr⟩
 |map fF=>
  obtain⟨_,es0,_,_,g2,g3⟩:=h;obtain⟨h1,es,clock,hg,h2,h3⟩:=h';refine⟨h1,es,clock,hg,h2,λi a e ha he=>?_⟩;obtain⟨a1,a2⟩:=h3 i a e ha he;have hi:i<es0.size:=by rw[<-g2];exact(List.getElem?_eq_some_iff.1 ha).1
  obtain⟨b1,b2⟩:=g3 i a es0[i] ha (Array.getElem?_eq_getElem hi);exact⟨b1.mX hl a1,b2.mX hl a2⟩
 |loop l=>
  obtain⟨_,r0,_,_,g3⟩:=h;obtain⟨h1,r,hg,h2,h3⟩:=h';exact⟨h1,r,hg,h2,λq=>(g3 q).mX hl (h3 q)⟩
 |nZ=>exact h'
def oE(S:FuncId->Bool)(F:FuncId->Option bD)(au:bR)(sm:ct)(N:Nat):ct:=λf vs m=>
 if S f=true then
  open Classical in
  if h:∃v m',dJ F au sm N (.fn f) vs m=some (v,m')/\aY m m'/\∀b∈v.cj,b<m.ah.length then some (h.choose,m)else none
 else sm f vs m
section
variable{S:FuncId->Bool}{F:FuncId->Option bD}{au:bR}{sm:ct}{N:Nat}{f:FuncId}{vs:List AV}{m:Mem}{v:AV}
theorem oF(h:S f=false):oE S F au sm N f vs m=sm f vs m:=by simp[oE,h]
theorem EM(hS:S f=true){m':Mem}(h:dJ F au sm N (.fn f) vs m=some (v,m'))(hk:aY m m')(hr:∀b∈v.cj,b<m.ah.length):oE S F au sm N f vs m=some (v,m):=by
 have hx:∃v m',dJ F au sm N (.fn f) vs m=some (v,m')/\aY m m'/\∀b∈v.cj,b<m.ah.length:=⟨v,m',h,hk,hr⟩;rw[oE,aG hS,dif_pos hx];obtain⟨m2,h1,_⟩:=hx.choose_spec;have e:v=hx.choose:=congrArg (λr=>r.1) (Option.some.inj (h.symm.trans h1));exact congrArg (λx=>some (x,m)) e.symm
theorem uS{m2:Mem}(hS:S f=true)(h:oE S F au sm N f vs m=some (v,m2)):m2=m/\∃m',dJ F au sm N (.fn f) vs m=some (v,m')/\aY m m'/\∀b∈v.cj,b<m.ah.length:=by
 rw[oE,aG hS]at h;split at h
 .rename_i hx;have e:=Option.some.inj h;simp only[Prod.mk.injEq]at e;exact⟨e.2.symm,by rw[<-e.1];exact hx.choose_spec⟩
 .cases h
end
theorem Rel.forget{K:Kp}{w0 w w':World}{ρ gO:dR}{h h':aN}(R:Rel K w0 ρ h w)(R':Rel K w0 gO h' w')(hl:ρ.le gO)(hk:∀b,b<h.length->aj h' b=aj h b):Rel K w0 ρ h w' where
 below:=R'.below
 xH:=R.xH
 mV:=λb x hx=>by
  obtain⟨p,hp,hB⟩:=R.mV b x hx;obtain⟨p',Aa,hB'⟩:=R'.mV b x ((hk b (ag hx)).trans hx);have e:p'=p:=Option.some.inj (Aa.symm.trans (hl _ _ hp));subst e;exact⟨p',hp,hB.mX hl hB'⟩
 sep:=λb c x y p q hx hy hp hq ho jV=>R'.sep b c x y p q ((hk b (ag hx)).trans hx) ((hk c (ag hy)).trans hy) (hl _ _ hp) (hl _ _ hq) ho jV
theorem qx.pure{P:Program}{aM:Nat->Option AV}{F:FuncId->Option bD}{sm:ct}{S:FuncId->Bool}{N:Nat}(hs:qx P aM sm)(hF:Uh P aM F)(BQ:P.follows .mixedOrders=true):qx P aM (oE S F (fI P) sm N):=by
 refine⟨λc vs m v m' h=>?_,λc vs m v m' h=>?_,λK w0 w ρ m m' c vs iA v hL h R hg wA hy=>?_⟩
 .cases c with
  |yield l=>cases h
  |fn f=>
   cases hS:S f with
   |true=>exact congrArg Mem.aV (uS hS h).1
   |false=>exact hs.aV (.fn f) vs m v m' ((oF hS).symm.trans h)
 .cases c with
  |yield l=>cases h
  |fn f=>
   cases hS:S f with
   |true=>rw[(uS hS h).1];exact nY.refl m
   |false=>exact hs.trk (.fn f) vs m v m' ((oF hS).symm.trans h)
 .cases c with
  |yield l=>cases h
  |fn f=>
   cases hS:S f with
   |false=>exact hs.ok K w0 w ρ m m' (.fn f) vs iA v hL ((oF hS).symm.trans h) R hg wA hy
   |true=>
    obtain⟨rfl,m1,h1,hk,hr⟩:=uS hS h;have kC:∀(g:Goroutine) (w:World),(λ_ _=>True:Goroutine->World->Prop) g w:=λ_ _=>trivial
    have ih:=qw (cW:=true) hs.aV hs.trk hs.ok kC hF BQ N;obtain⟨nx,CW,q1,q2,q3⟩:=ih K w0 w ρ _ m1 (.fn f) vs iA v hL h1 R hg wA hy;refine⟨nx,CW,q1,q2,λfr cs=>(q3 fr cs).mono λg w' he=>?_⟩;obtain⟨v',gO,e1,e2,e3,e4,e5,_⟩:=he;exact⟨v',ρ,e1,VR.back (λb hb=>e5 b (hr b hb)) e2,R.forget e3 e4 hk.get,dR.le_refl _,λ_ _=>rfl,cB,λ_ h=>h⟩
def nb(h:aN)(k:Nat):Nat:=h.length+k
def fj:List (Option bp)->Nat->Option bp
 |[],_=>none
 |x::_,0=>x
 |_::l,k+1=>fj l k
def Ahz:List (Option bp)->Nat->Option bp->List (Option bp)
 |[],_,_=>[]
 |_::l,0,x=>x::l
 |y::l,k+1,x=>y::Ahz l k x
theorem JO:∀(l:List (Option bp)) (k:Nat),fj l k=(l[k]?).join
 |[],_=>rfl
 |x::l,0=>by simp[fj]
 |x::l,k+1=>by simp[fj,JO l k]
def fY:List (Option bp)->Nat
 |[]=>0
 |_::l=>fY l+1
theorem JP:∀l:List (Option bp),fY l=l.length
 |[]=>rfl
 |_::l=>by simp[fY,JP l]
def OS:List (Option bp)->Option bp->List (Option bp)
 |[],x=>[x]
 |y::l,x=>y::OS l x
theorem OT:∀(l:List (Option bp)) (x:Option bp),OS l x=l++[x]
 |[],_=>rfl
 |y::l,x=>by simp[OS,OT l x]
section
variable{h:aN}{l:List (Option bp)}{k j b:Nat}{x:Option bp}
theorem jR:(aR h l).length=nb h (fY l):=by rw[bV,nb,JP]
theorem bj:aj (aR h l) (nb h k)=fj l k:=by rw[nb,JM,JO]
def wI:List (Option bp)->Nat->Option bp->List (Option bp)
 |[],_,x=>[x]
 |_::l,0,x=>x::l
 |y::l,k+1,x=>y::wI l k x
def bin:List (Option bp)->Nat->Bool
 |[],0=>true
 |[],_+1=>false
 |_::_,0=>true
 |_::l,k+1=>bin l k
theorem OU:∀(l:List (Option bp)) (k:Nat),bin l k=true->k<=l.length
 |[],0,_=>cB
 |[],k+1,h=>by simp[bin]at h
 |_::_,0,_=>by simp
 |_::l,k+1,h=>by have:=OU l k h;simp;omega
theorem BV:∀(l:List (Option bp)) (x:Option bp),wI l l.length x=l++[x]
 |[],_=>rfl
 |y::l,x=>by simp[wI,BV l x]
theorem DK:∀(l:List (Option bp)) (k:Nat) (x:Option bp),k<l.length->wI l k x=l.set k x
 |[],k,_,h=>by simp at h
 |_::_,0,_,_=>rfl
 |y::l,k+1,x,h=>by simp[wI,DK l k x (by simpa using h)]
theorem Aak:bin [] 0=true:=aZ
theorem Aal(x:Option bp)(l:List (Option bp)):bin (x::l) 0=true:=by cases l<;>simp[bin]
theorem Aam(x:Option bp)(l:List (Option bp))(k:Nat):bin (x::l) (k+1)=bin l k:=by cases l<;>simp[bin]
theorem tA(hk:bin l k=true):aQ (aR h l) (nb h k) x=aR h (wI l k x):=by
 have oT:=OU l k hk;rcases Nat.lt_or_ge k l.length with h1|h1
 .rw[nb,JN l h k x h1,DK l k x h1]
 .have:k=l.length:=Z;subst this;rw[nb,OQ,BV]
theorem OV:nb h k+j=nb h (k+j):=by simp[nb];omega
theorem gG:(nb h k=nb h j)=(k=j):=by simp[nb]
theorem V9:Nat.beq (nb h k) (nb h j)=decide (k=j):=by
 rw[Bool.eq_iff_iff,Nat.beq_eq];simp[nb]
theorem Wb:Nat.blt (nb h k) (nb h j)=decide (k<j):=by
 rw[Bool.eq_iff_iff,Nat.blt_eq];simp[nb]
theorem AlY(hb:b<h.length):(b=nb h k)=False:=by simp[nb];omega
theorem AhA(hb:b<h.length):(nb h k=b)=False:=by simp[nb];omega
theorem iv(hb:b<h.length):Nat.beq b (nb h k)=false:=by
 cases hq:Nat.beq b (nb h k)
 .rfl
 .have:=Nat.eq_of_beq_eq_true hq;simp[nb]at this;omega
theorem iD(hb:b<h.length):Nat.beq (nb h k) b=false:=by
 cases hq:Nat.beq (nb h k) b
 .rfl
 .have:=Nat.eq_of_beq_eq_true hq;simp[nb]at this;omega
theorem aB:h.length<=nb h k:=by simp[nb]
end
def Ev(F:FuncId->Option bD)(au:bR)(sm:ct)(n:Nat)(f:FuncId)(vs:List AV)(m:Mem)(v:AV):Prop:=∃m',dJ F au sm n (.fn f) vs m=some (v,m')/\aY m m'
theorem Ev.pure{S:FuncId->Bool}{F:FuncId->Option bD}{au:bR}{sm:ct}{n:Nat}{f:FuncId}{vs:List AV}{m:Mem}{v:AV}(h:Ev F au sm n f vs m v)(hS:S f=true)(hr:∀b∈v.cj,b<m.ah.length):oE S F au sm n f vs m=some (v,m):=by
 obtain⟨m',e,k⟩:=h;exact EM hS e k hr
inductive dm(h:aN)(lg:List Nat):List Nat->Prop
 |nil:dm h lg lg
 |cons {k:Nat} {l:List Nat}:dm h lg l->dm h lg (nb h k::l)
theorem dm.ok{h:aN}{lg bq:List Nat}(x:dm h lg bq):∃k,bq=k++lg/\∀b∈k,h.length<=b:=by
 induction x with
 |nil=>exact⟨[],rfl,λb hb=>by cases hb⟩
 |@cons k l _ ih=>
  obtain⟨q,e,hq⟩:=ih;refine⟨nb h k::q,by rw[e];rfl,λb hb=>?_⟩;rcases mem_cons.1 hb with rfl|hb
  .exact aB
  .exact hq b hb
theorem aH{h:aN}{l:List (Option bp)}{lg bq d:List Nat}(hl:dm h lg bq):aY ⟨h,lg,d⟩ ⟨aR h l,bq,d⟩:=OR hl.ok
theorem aU{x:Int}(h0:-9223372036854775808<=x)(h1:x<=9223372036854775807):i64.wrap x=x:=IntWalk.i64_in x Z
theorem dB{x:Int}(h0:0<=x)(h1:x<=18446744073709551615):u64.wrap x=x:=by
 simp only[wrap,IntKind.bits,signed];simp;omega
theorem Aan:dL .z .e=.undef:=rfl
theorem Ul(v:AV)(l r:Tr):dL .z (.n v l r)=v:=rfl
theorem Aao(p:cO):dL (.l p) .e=.undef:=rfl
theorem Um(p:cO)(v:AV)(l r:Tr):dL (.l p) (.n v l r)=dL p l:=rfl
theorem Aap(p:cO):dL (.r p) .e=.undef:=rfl
theorem Un(p:cO)(v:AV)(l r:Tr):dL (.r p) (.n v l r)=dL p r:=rfl
theorem Aaq(x:AV):gq x .z .e=.n x .e .e:=rfl
theorem Aar(x v:AV)(l r:Tr):gq x .z (.n v l r)=.n x l r:=rfl
theorem Aas(x:AV)(p:cO):gq x (.l p) .e=.n .undef (gq x p .e) .e:=rfl
theorem Aat(x:AV)(p:cO)(v:AV)(l r:Tr):gq x (.l p) (.n v l r)=.n v (gq x p l) r:=rfl
theorem Aau(x:AV)(p:cO):gq x (.r p) .e=.n .undef .e (gq x p .e):=rfl
theorem Aav(x:AV)(p:cO)(v:AV)(l r:Tr):gq x (.r p) (.n v l r)=.n v l (gq x p r):=rfl
theorem Sd(b:Bool):AV.cU (.bool b)=true:=rfl
theorem Wd(k:IntKind)(n:Int):AV.cU (.int k n)=true:=rfl
theorem We(s:List UInt8):AV.cU (.fN s)=true:=rfl
theorem Wh(b i o:Nat):AV.cU (.ptr b i o)=true:=rfl
theorem Ge:AV.cU .aF=true:=rfl
theorem LW:AV.cU .fg=true:=rfl
theorem OW(b i n:Nat)(c:Option Nat):AV.cU (.slice b i n c)=true:=rfl
theorem LY:AV.cU .lT=true:=rfl
theorem Wj(b:Nat):AV.cU (.map b)=true:=rfl
theorem Se(f:FuncId)(a c:List AV):AV.cU (.func f a c)=true:=rfl
theorem OX(l:Nat):AV.cU (.yield l)=true:=rfl
theorem LZ{body:Tr->Mem->Option (cT×Tr×Mem)}{I:Nat->Tr->Mem->Prop}{Q:cT->Tr->Mem->Prop}(N:Nat)
 (step:∀i T m,i<N->I i T m->∃e T' m',body T m=some (e,T',m')/\((e=.normal/\I (i+1) T' m')\/(e≠.normal/\Q e T' m')))
 (dF:∀T m,I N T m->∃e T' m',body T m=some (e,T',m')/\e≠.normal/\Q e T' m'):
 ∀(r i f:Nat) (T:Tr) (m:Mem),i+r=N->r<f->I i T m->∃e T' m',tO body f T m=some (e,T',m')/\e≠.normal/\Q e T' m':=by
 intro r;induction r with
 |zero=>
  intro i f T m hi hf hI;obtain⟨f,rfl⟩:∃f',f=f'+1:=⟨f-1,Z⟩;have:i=N:=Z;subst this;obtain⟨e,T',m',h1,h2,h3⟩:=dF T m hI;refine⟨e,T',m',?_,h2,h3⟩;cases e<;>simp only[tO,h1];exact absurd rfl h2
 |succ r ih=>
  intro i f T m hi hf hI;obtain⟨f,rfl⟩:∃f',f=f'+1:=⟨f-1,Z⟩;obtain⟨e,T',m',h1,h2⟩:=step i T m Z hI;rcases h2 with⟨rfl,h2⟩|⟨h2,h3⟩
  .obtain⟨e2,T2,m2,g1,g2,g3⟩:=ih (i+1) f T' m' Z Z h2;refine⟨e2,T2,m2,?_,g2,g3⟩;simp only[tO,h1,g1]
  .refine⟨e,T',m',?_,h2,h3⟩;cases e<;>simp only[tO,h1];exact absurd rfl h2
abbrev gy:=hZ->List AV->Mem->(AV->Mem->Prop)->Prop
def Gf(get:Nat->Option bp)(k:LK)(v:AV):Option (AV×List j9):=bG get 0 .e (.len k (.c v))
def Gg(get:Nat->Option bp)(e:Nat)(v i:AV):Option (AV×List j9):=bG get 0 .e (.Ek e (.c v) (.c i))
def H8(get:Nat->Option bp)(a:Bool)(n:Nat)(v:AV):Option (AV×List j9):=bG get 0 .e (.load a n (.c v))
def cZ(get:Nat->Option bp)(bU:Nat)(T:Tr)(op:j6):Option (AV×List j9):=
 match op with
 |.len k x=>Gf get k (cP T x)
 |.Ek e x i=>Gg get e (cP T x) (cP T i)
 |.load a n x=>H8 get a n (cP T x)
 |op=>bG get bU T op
theorem oV(get:Nat->Option bp)(bU:Nat)(T:Tr)(op:j6):cZ get bU T op=bG get bU T op:=by
 cases op<;>rfl
def j6.qz:j6->Bool
 |.alloc ..|.box ..|.Aw ..|.store ..|.tN ..|.copy ..|.qe ..|.Bd|.qO ..|.mW|.Lp ..=>false
 |.conv k _=>match k with
  |.Zs _=>false
  |_=>true
 |_=>true
def L7:List Nat->List Nat->Bool
 |[],_=>true
 |x::xs,l=>ins l x&&L7 xs l
def j6.mu:j6->Bool
 |.call f _=>Nat.beq f 72||Nat.beq f 73||Nat.beq f 74||Nat.beq f 75||Nat.beq f 196
 |.rL _ xs=>match xs with
  |[_]=>true
  |_=>false
 |_=>false
def tB:Nat->List Nat->List cS->Bool
 |_,_,[]=>true
 |i,mk,o::os=>o.iN.isNone&&(o.op.qz&&!o.op.mu)&&(!o.op.dZ||L7 mk o.after)&&tB (i+1) (if o.op.dZ then i::mk else mk) os
def Wo(wc:gy)(au:bR)(pu:Bool):List cS->Tr->Mem->(Tr->Mem->Prop)->Prop
 |[],T,m,K=>K T m
 |o::os,T,m,K=>
  let skip:Tr->Prop:=λT=>Wo wc au pu os (eU T o.dst .undef) m K
  let run:Tr->Prop:=λT=>match o.op.dZ with
   |true=>match eD (aj m.ah) au T o.op with
    |some (c,vs)=>match pu with
     |true=>wc c vs ⟨m.ah,[],[]⟩ λv m'=>m'=⟨m.ah,[],[]⟩/\Wo wc au pu os (eU T o.dst v) m K
     |false=>wc c vs m λv m'=>Wo wc au pu os (eU T o.dst v) m' K
    |none=>False
   |false=>match cZ (aj m.ah) m.ah.length T o.op with
    |some (v,cs)=>match pu,cs with
     |true,[]=>Wo wc au pu os (eU T o.dst v) m K
     |true,_::_=>False
     |false,cs=>Wo wc au pu os (eU T o.dst v) (m.dX cs) K
    |none=>False
  match o.guard with
  |none=>run T
  |some (t,w)=>match dL t T with
   |.bool b=>(b=true->cond w (run (gq (.bool true) t T)) (skip (gq (.bool true) t T)))/\(b=false->cond w (skip (gq (.bool false) t T)) (run (gq (.bool false) t T)))
   |.undef=>skip T
   |_=>False
def Ro(mD:Bool)(rd gu:List Nat)(h:aN)(bU:Nat)(T:Tr)(op:j6):Option (AV×List j9):=
 match mD with
 |true=>cZ (aj h) bU T op
 |false=>cZ (λb=>cond (ins rd b&&!ins gu b) (aj h b) none) bU T op
def Wr(wc:gy)(au:bR)(bC:Nat):Nat->List cS->List jN->Tr->Mem->(Tr->Mem->Prop)->Prop
 |_,[],_,T,m,K=>K T m
 |i,o::os,cq,T,m,K=>
  let skip:Tr->Prop:=λT=>Wr wc au bC (i+1) os cq (eU T o.dst .undef) m K
  let run:Tr->Prop:=λT=>
   let free:=cq.filter λr=>!ins o.after r.mE
   let gu:=free.flatMap (·.wr)
   match o.op.dZ with
   |true=>match eD (aj (mA m.ah gu)) au T o.op with
    |some (c,vs)=>wc c vs ⟨mA m.ah gu,[],[]⟩ λv m2=>mI m2.hU true free=false/\
     Wr wc au bC (i+1) os (⟨i,m2.hU,λb=>(aj (mA m.ah gu) b).isSome,true⟩::cq) (eU T o.dst v) ⟨(kM m2 m.ah gu).ah,m2.hU++m.hU,m.aV⟩ K
    |none=>False
   |false=>
    let get:=λb=>cond (ins (o.op.kL T) b&&!ins gu b) (aj m.ah b) none
    match Ro (o.op.qz&&gu.isEmpty) (o.op.kL T) gu m.ah (m9 bC m.ah.length o.iN) T o.op with
    |some (v,cs)=>(!sO bC m.ah.length o.iN||mI (cs.map (·.id)) o.op.iG free)=false/\
     Wr wc au bC (i+1) os (⟨i,cs.map (·.id),λb=>(get b).isSome,o.op.iG⟩::cq) (eU T o.dst v) (m.dX cs) K
    |none=>False
  match o.guard with
  |none=>run T
  |some (t,w)=>match dL t T with
   |.bool b=>(b=true->cond w (run (gq (.bool true) t T)) (skip (gq (.bool true) t T)))/\(b=false->cond w (skip (gq (.bool false) t T)) (run (gq (.bool false) t T)))
   |.undef=>skip T
   |_=>False
def Ks(r:Tr->Mem->Prop)(K:cT->Tr->Mem->Prop):cT->Tr->Mem->Prop
 |.normal,T,m=>r T m
 |e,T,m=>K e T m
def Kb(id:Nat)(K:cT->Tr->Mem->Prop):cT->Tr->Mem->Prop
 |.exit j,T,m=>cond (Nat.beq j id) (K .normal T m) (K (.exit j) T m)
 |e,T,m=>K e T m
def Wc(call:eX)(wc:gy)(au:bR)(fu:Nat):eQ->Tr->Mem->(cT->Tr->Mem->Prop)->Prop
 |.skip,T,m,K=>K .normal T m
 |.mW,_,_,_=>False
 |.region d ns dC,T,m,K=>
  match d with
  |false=>Wo wc au false dC T m (K .normal)
  |true=>match Nat.beq ns 0&&tB 0 [] dC with
   |true=>Wo wc au true dC T m (K .normal)
   |false=>Wr wc au m.ah.length 0 dC [] T (m.om ns) (K .normal)
 |.seq a b,T,m,K=>Wc call wc au fu a T m (Ks (λT m=>Wc call wc au fu b T m K) K)
 |.cond c a b,T,m,K=>match cP T c with
  |.bool true=>Wc call wc au fu a T m K
  |.bool false=>Wc call wc au fu b T m K
  |_=>False
 |.block id c,T,m,K=>Wc call wc au fu c T m (Kb id K)
 |.loop c,T,m,K=>∃(N:Nat) (I:Nat->Tr->Mem->Prop),N<fu/\I 0 T m/\
  (∀i T m,i<N->I i T m->Wc call wc au fu c T m (Ks (I (i+1)) K))/\(∀T m,I N T m->Wc call wc au fu c T m (Ks (λ_ _=>False) K))
 |.exit id,T,m,K=>K (.exit id) T m
 |.ret,T,m,K=>K .ret T m
 |.rangeFunc f ps a b,T,m,K=>∀T1,(∀p,dL p T=dL p T1)->∃e m',dY call au fu false (.rangeFunc f ps a b) T1 m=some (e,T1,m')/\K e T m'
def Kr(rs:List ze)(d:List Nat)(Q:AV->Mem->Prop):cT->Tr->Mem->Prop:=λe T m'=>
 match e with
 |.exit _=>False
 |_=>match zh (aj (m'.gC m'.aV).ah) T rs with
  |some v=>Q v {m'.gC m'.aV with aV:=d}
  |none=>False
def Wa(F:FuncId->Option bD)(au:bR)(sm:ct):Nat->gy
 |0,_,_,_,_=>False
 |n+1,.yield l,vs,m,Q=>∃v m',dJ F au sm (n+1) (.yield l) vs m=some (v,m')/\Q v m'
 |n+1,.fn f,vs,m,Q=>
  match sm f vs m with
  |some (v,m')=>Q v m'
  |none=>match F f with
   |none=>False
   |some fn=>Nat.ble vs.length fn.ntmps=true/\Wc (dJ F au sm n) (Wa F au sm n) au n fn.body (lz vs .z .e) {m with aV:=[]} (Kr fn.results m.aV Q)
section
variable{call:eX}{wc:gy}{au:bR}
theorem H9{get oA:Nat->Option bp}{e:Nat}{x:AV}(hg:∀b∈x.rM,oA b=get b):eW oA e x=eW get e x:=by
 unfold eW;split<;>first|rfl|(rename_i b _ _ _ _;rw[hg b (by simp[AV.rM])])
theorem Ia{get oA:Nat->Option bp}{e:Nat}{x:AV}{a b c:Option AV}(hg:∀b∈x.rM,oA b=get b):lU oA e x a b c=lU get e x a b c:=by
 cases x<;>simp only[lU]<;>try rfl
 rename_i b _ _ _;rw[hg b (by simp[AV.rM])]
theorem Gh{get oA:Nat->Option bp}{e n:Nat}{x:AV}{a b c:Option AV}(hg:∀b∈x.rM,oA b=get b):nK oA e n x a b c=nK get e n x a b c:=by
 cases x<;>simp only[nK]<;>try rfl
 rename_i b _ _;rw[hg b (by simp[AV.rM])]
theorem BW{get oA:Nat->Option bp}{n n':Nat}{T:Tr}{op:j6}(hs:op.qz=true)(hg:∀b∈op.kL T,oA b=get b):bG oA n' T op=bG get n T op:=by
 cases op<;>simp only[j6.qz,Bool.false_eq_true]at hs<;>simp only[j6.kL,bE.rM]at hg<;>simp only[bG]<;>try rfl
 case load a k x=>
  cases hx:cP T x<;>rw[hx]at hg<;>try rfl
  rename_i b _ _;simp only[hg b (by simp[AV.rM])]
 case conv k x=>
  cases k<;>simp only[Bool.false_eq_true]at hs<;>cases hx:cP T x<;>rw[hx]at hg<;>first|rfl|simp only[H9 hg]
 case Ek e x i=>
  cases hx:cP T x<;>rw[hx]at hg<;>try rfl
  rename_i b _ _ _;cases cP T i<;>try rfl
  simp only[hg b (by simp[AV.rM])]
 case Bb e l x i=>
  cases hx:cP T x<;>rw[hx]at hg<;>try rfl
  rename_i b _ _;cases cP T i<;>try rfl
  simp only[hg b (by simp[AV.rM])]
 case qM e x lo hi mx=>rw[Ia hg]
 case qN e l x lo hi mx=>rw[Gh hg]
 case len k x=>
  cases k<;>cases hx:cP T x<;>rw[hx]at hg<;>try rfl
  rename_i b;simp only[hg b (by simp[AV.rM])]
 case look a sh z ok m k=>
  cases hx:cP T m<;>rw[hx]at hg<;>try rfl
  rename_i b;simp only[hg b (by simp[AV.rM])]
theorem Ib{get:Nat->Option bp}{n:Nat}{T:Tr}{op:j6}{v:AV}{cs:List j9}(hs:op.qz=true)(h:bG get n T op=some (v,cs)):cs=[]:=by
 have hm:∀x:Option AV,x.map (·,([]:List j9))=some (v,cs)->cs=[]:=λx hx=>by
  cases x<;>simp at hx;exact hx.2
 cases op<;>simp only[j6.qz,Bool.false_eq_true]at hs<;>simp only[bG]at h;case bin=>exact hm _ h
 case un=>exact hm _ h
 case qM=>exact hm _ h
 case qN=>exact hm _ h
 case eql=>
  rw[map_eq_some_iff]at h;obtain⟨_,_,e⟩:=h;cases e;rfl
 case conv k x=>
  cases k<;>simp only[Bool.false_eq_true]at hs<;>repeat' split at h
  all_goals first|(cases h;done)|(cases h;rfl)|(rename_i h1 _ _;cases h1;done)|(rename_i h1 _;cases h1;done)|skip
  all_goals
   rw[map_eq_some_iff]at h;obtain⟨_,_,e⟩:=h;cases e;rfl
 case sN m xs=>
  split at h
  .exact hm _ h
  .cases h
 all_goals
  repeat' split at h
  all_goals first|(cases h;done)|(cases h;rfl)|skip
theorem oG:∀(l:List Nat) (k:Nat),ins l k=true↔k∈l
 |[],k=>by simp[ins]
 |x::l,k=>by
  rw[ins];cases h:Nat.beq x k with
  |true=>simp[Nat.eq_of_beq_eq_true h]
  |false=>
   simp only[cond_false,oG l k,mem_cons];constructor
   .exact .inr
   .rintro (rfl|h')
    .simp at h
    .exact h'
theorem Gi:∀(a l:List Nat),L7 a l=true↔∀x∈a,x∈l
 |[],l=>by simp[L7]
 |x::a,l=>by simp[L7,Gi a l,oG]
def Uo(mk:List Nat)(cq:List jN):Prop:=∀r∈cq,r.wr=[]/\(r.mj=true->r.mE∈mk)
theorem uT{mk:Bool}:∀{cq:List jN},(∀r∈cq,r.wr=[]/\(mk=true->r.mj=false))->mI [] mk cq=false
 |[],_=>rfl
 |r::rs,h=>by
  rw[mI,uT (λx hx=>h x (mem_cons_of_mem _ hx))];have:=h r (by simp);cases mk<;>simp_all
theorem Gj{cq:List jN}(h:∀r∈cq,r.wr=[])(p:jN->Bool):(cq.filter p).flatMap (·.wr)=[]:=by
 rw[flatMap_eq_nil_iff];exactλr hr=>h r (mem_filter.1 hr).1
theorem vJ{b:AV}(hb:b≠.undef):∀(p:cO) (T:Tr),dL p T=b->gq b p T=T
 |.z,.e,h=>absurd h.symm hb
 |.z,.n v l r,h=>by cases h;rfl
 |.l p,.e,h=>absurd h.symm hb
 |.l p,.n v l r,h=>by show Tr.n v (gq b p l) r=_;rw[vJ hb p l h]
 |.r p,.e,h=>absurd h.symm hb
 |.r p,.n v l r,h=>by show Tr.n v l (gq b p r)=_;rw[vJ hb p r h]
def L8(wc:gy)(au:bR)(pu:Bool)(o:cS)(os:List cS)(m:Mem)(K:Tr->Mem->Prop)(T:Tr):Prop:=
 match o.op.dZ with
 |true=>match eD (aj m.ah) au T o.op with
  |some (c,vs)=>match pu with
   |true=>wc c vs ⟨m.ah,[],[]⟩ λv m'=>m'=⟨m.ah,[],[]⟩/\Wo wc au pu os (eU T o.dst v) m K
   |false=>wc c vs m λv m'=>Wo wc au pu os (eU T o.dst v) m' K
  |none=>False
 |false=>match cZ (aj m.ah) m.ah.length T o.op with
  |some (v,cs)=>match pu,cs with
   |true,[]=>Wo wc au pu os (eU T o.dst v) m K
   |true,_::_=>False
   |false,cs=>Wo wc au pu os (eU T o.dst v) (m.dX cs) K
  |none=>False
theorem Gk{pu:Bool}{o:cS}{os:List cS}{T:Tr}{m:Mem}{K:Tr->Mem->Prop}(h:Wo wc au pu (o::os) T m K):
 ∃g,jM T o.guard=some g/\(g=true->L8 wc au pu o os m K T)/\(g=false->Wo wc au pu os (eU T o.dst .undef) m K):=by
 rw[Wo]at h;cases hg:o.guard with
 |none=>
  rw[hg]at h;exact⟨true,rfl,λ_=>h,λh=>by cases h⟩
 |some p=>
  obtain⟨t,w⟩:=p;rw[hg]at h;simp only at h;simp only[jM];cases hx:dL t T with
  |bool b=>
   rw[hx]at h;simp only at h|-;refine⟨_,rfl,?_⟩;have ht:gq (.bool b) t T=T:=vJ (by simp) t T hx;cases b<;>cases w
   .have:=h.2 rfl;rw[ht]at this;exact⟨λ_=>this,λh=>by cases h⟩
   .have:=h.2 rfl;rw[ht]at this;exact⟨λh=>(by cases h),λ_=>this⟩
   .have:=h.1 rfl;rw[ht]at this;exact⟨λh=>(by cases h),λ_=>this⟩
   .have:=h.1 rfl;rw[ht]at this;exact⟨λ_=>this,λh=>by cases h⟩
  |undef=>
   rw[hx]at h;exact⟨false,rfl,λh=>(by cases h),λ_=>h⟩
  |_=>rw[hx]at h;exact h.elim
theorem AU(hc:∀c vs m Q,wc c vs m Q->∃v m',call c vs m=some (v,m')/\Q v m')(bC:Nat):∀(dC:List cS) (i:Nat) (mk:List Nat) (cq:List jN) (T:Tr) (m:Mem) (K:Tr->Mem->Prop),
 tB i mk dC=true->Uo mk cq->Wo wc au true dC T m K->∃T',mJ call au bC i dC cq T m=some (T',m)/\K T' m
 |[],_,_,_,T,m,K,_,_,h=>⟨T,rfl,h⟩
 |o::os,i,mk,cq,T,m,K,hs,hq,h=>by
  simp only[tB,Bool.and_eq_true,Bool.or_eq_true,Bool.not_eq_true']at hs;obtain⟨⟨⟨s0,s1,_⟩,s2⟩,s3⟩:=hs;have s0:o.iN=none:=by simpa using s0
  have JJ:Uo (if o.op.dZ=true then i::mk else mk) cq:=λr hr=>⟨(hq r hr).1,λhm=>by
   split
   .exact mem_cons_of_mem _ ((hq r hr).2 hm)
   .exact(hq r hr).2 hm⟩
  obtain⟨g,hg,VT,hg2⟩:=Gk h;rw[mJ,hg];cases g with
   |false=>exact AU hc bC os (i+1) _ cq _ m K s3 JJ (hg2 rfl)
   |true=>
    have h:=VT rfl
    unfold L8 at h
    simp only
    have Aaw:=Gj (λr hr=>(hq r hr).1) (λr=>!ins o.after r.mE)
    cases hk:o.op.dZ with
    |true=>
     rw[hk]at h s2 s3
     simp only[Bool.true_eq_false,false_or,if_true]at h s2 s3
     rw[Aaw]
     simp only[cond_true,mA]
     cases ha:eD (aj m.ah) au T o.op with
     |none=>rw[ha]at h;exact h.elim
     |some p=>
      obtain⟨c,vs⟩:=p
      rw[ha]at h
      simp only at h|-
      obtain⟨v,m2,e1,e2,e3⟩:=hc _ _ _ _ h
      subst e2
      rw[e1]
      have OY:mI [] true (cq.filter λr=>!ins o.after r.mE)=false:=uT λr hr=>by
       obtain⟨VE,N2⟩:=mem_filter.1 hr;refine⟨(hq r VE).1,λ_=>?_⟩;cases hmk:r.mj with
       |false=>rfl
       |true=>
        have h1:=(Gi _ _).1 s2 _ ((hq r VE).2 hmk);rw[(oG _ _).2 h1]at N2;cases N2
      simp only[OY,cond_false,kM,nil_append]
      have:=AU hc bC os (i+1) (i::mk) (⟨i,[],λb=>(aj m.ah b).isSome,true⟩::cq) _ m K s3 (λr hr=>by
       rcases mem_cons.1 hr with rfl|hr
       .exact⟨rfl,λ_=>by simp⟩
       .exact⟨(hq r hr).1,λhm=>mem_cons_of_mem _ ((hq r hr).2 hm)⟩) e3
      exact this
    |false=>
     rw[hk]at h s3
     simp only[Bool.false_eq_true,if_false]at h s3
     rw[oV]at h
     rw[Aaw]
     simp only[cond_false]
     cases hp:bG (aj m.ah) m.ah.length T o.op with
     |none=>rw[hp]at h;exact h.elim
     |some p=>
      obtain⟨v,cs⟩:=p
      obtain rfl:=Ib s1 hp
      rw[hp]at h
      simp only at h
      have JE:bG (λb=>cond (ins (o.op.kL T) b&&!ins [] b) (aj m.ah b) none) (m9 bC m.ah.length o.iN) T o.op=some (v,[]):=by
       rw[BW (get:=aj m.ah) (n:=m.ah.length) s1 (λb hb=>by rw[(oG _ _).2 hb];simp[ins])];exact hp
      have AhB:o.op.iG=false:=by
       cases ho:o.op<;>rw[ho]at hk s1<;>simp[j6.dZ,j6.qz]at hk s1<;>rfl
      have OY:mI [] false (cq.filter λr=>!ins o.after r.mE)=false:=uT λr hr=>⟨(hq r (mem_filter.1 hr).1).1,λh=>by cases h⟩
      rw[JE]
      simp only[map_nil,s0,sO,Bool.not_true,Bool.false_or,AhB,OY,cond_false,Mem.dX]
      exact AU hc bC os (i+1) mk (⟨i,[],_,false⟩::cq) _ m K s3 (λr hr=>by
       rcases mem_cons.1 hr with rfl|hr
       .exact⟨rfl,λh=>by cases h⟩
       .exact hq r hr) h
theorem AW(hc:∀c vs m Q,wc c vs m Q->∃v m',call c vs m=some (v,m')/\Q v m'):∀(dC:List cS) (T:Tr) (m:Mem) (K:Tr->Mem->Prop),Wo wc au false dC T m K->∃T' m',xK call au dC T m=some (T',m')/\K T' m'
 |[],T,m,K,h=>⟨T,m,rfl,h⟩
 |o::os,T,m,K,h=>by
  obtain⟨g,hg,VT,hg2⟩:=Gk h;rw[xK,hg];cases g with
   |false=>exact AW hc os _ m K (hg2 rfl)
   |true=>
    have h:=VT rfl
    unfold L8 at h
    simp only
    cases hk:o.op.dZ with
    |true=>
     rw[hk]at h
     simp only[xJ,hk,cond_true]at h|-
     cases ha:eD (aj m.ah) au T o.op with
     |none=>rw[ha]at h;exact h.elim
     |some p=>
      obtain⟨c,vs⟩:=p
      rw[ha]at h
      simp only at h|-
      obtain⟨v,m2,e1,e2⟩:=hc _ _ _ _ h
      rw[e1]
      exact AW hc os _ m2 K e2
    |false=>
     rw[hk,oV]at h
     simp only[xJ,hk,cond_false]at h|-
     cases hp:bG (aj m.ah) m.ah.length T o.op with
     |none=>rw[hp]at h;exact h.elim
     |some p=>
      obtain⟨v,cs⟩:=p
      rw[hp]at h
      exact AW hc os _ _ K h
def Wrr(wc:gy)(au:bR)(bC i:Nat)(o:cS)(os:List cS)(cq:List jN)(m:Mem)(K:Tr->Mem->Prop)(T:Tr):Prop:=
 let free:=cq.filter λr=>!ins o.after r.mE
 let gu:=free.flatMap (·.wr)
 match o.op.dZ with
 |true=>match eD (aj (mA m.ah gu)) au T o.op with
  |some (c,vs)=>wc c vs ⟨mA m.ah gu,[],[]⟩ λv m2=>mI m2.hU true free=false/\
   Wr wc au bC (i+1) os (⟨i,m2.hU,λb=>(aj (mA m.ah gu) b).isSome,true⟩::cq) (eU T o.dst v) ⟨(kM m2 m.ah gu).ah,m2.hU++m.hU,m.aV⟩ K
  |none=>False
 |false=>
  let get:=λb=>cond (ins (o.op.kL T) b&&!ins gu b) (aj m.ah b) none
  match Ro (o.op.qz&&gu.isEmpty) (o.op.kL T) gu m.ah (m9 bC m.ah.length o.iN) T o.op with
  |some (v,cs)=>(!sO bC m.ah.length o.iN||mI (cs.map (·.id)) o.op.iG free)=false/\
   Wr wc au bC (i+1) os (⟨i,cs.map (·.id),λb=>(get b).isSome,o.op.iG⟩::cq) (eU T o.dst v) (m.dX cs) K
  |none=>False
theorem OZ{bC i:Nat}{o:cS}{os:List cS}{cq:List jN}{T:Tr}{m:Mem}{K:Tr->Mem->Prop}(h:Wr wc au bC i (o::os) cq T m K):
 ∃g,jM T o.guard=some g/\(g=true->Wrr wc au bC i o os cq m K T)/\(g=false->Wr wc au bC (i+1) os cq (eU T o.dst .undef) m K):=by
 rw[Wr]at h;cases hg:o.guard with
 |none=>
  rw[hg]at h;exact⟨true,rfl,λ_=>h,λh=>by cases h⟩
 |some p=>
  obtain⟨t,w⟩:=p;rw[hg]at h;simp only at h;simp only[jM];cases hx:dL t T with
  |bool b=>
   rw[hx]at h;simp only at h|-;refine⟨_,rfl,?_⟩;have ht:gq (.bool b) t T=T:=vJ (by simp) t T hx;cases b<;>cases w
   .have:=h.2 rfl;rw[ht]at this;exact⟨λ_=>this,λh=>by cases h⟩
   .have:=h.2 rfl;rw[ht]at this;exact⟨λh=>(by cases h),λ_=>this⟩
   .have:=h.1 rfl;rw[ht]at this;exact⟨λh=>(by cases h),λ_=>this⟩
   .have:=h.1 rfl;rw[ht]at this;exact⟨λ_=>this,λh=>by cases h⟩
  |undef=>
   rw[hx]at h;exact⟨false,rfl,λh=>(by cases h),λ_=>h⟩
  |_=>rw[hx]at h;exact h.elim
theorem AX(hc:∀c vs m Q,wc c vs m Q->∃v m',call c vs m=some (v,m')/\Q v m')(bC:Nat):∀(dC:List cS) (i:Nat) (cq:List jN) (T:Tr) (m:Mem) (K:Tr->Mem->Prop),
 Wr wc au bC i dC cq T m K->∃T' m',mJ call au bC i dC cq T m=some (T',m')/\K T' m'
 |[],_,_,T,m,K,h=>⟨T,m,rfl,h⟩
 |o::os,i,cq,T,m,K,h=>by
  obtain⟨g,hg,VT,hg2⟩:=OZ h;rw[mJ,hg];cases g with
  |false=>exact AX hc bC os (i+1) cq _ m K (hg2 rfl)
  |true=>
   have h:=VT rfl;unfold Wrr at h;simp only at h|-;cases hk:o.op.dZ with
   |true=>
    rw[hk]at h;simp only[cond_true]at h|-;generalize eD (aj (mA m.ah ((cq.filter λr=>!ins o.after r.mE).flatMap (·.wr)))) au T o.op=r at h|-;cases r with
    |none=>exact h.elim
    |some p=>
     obtain⟨c,vs⟩:=p;simp only at h|-;obtain⟨v,m2,e1,e2,e3⟩:=hc _ _ _ _ h;rw[e1];simp only[e2,cond_false];exact AX hc bC os (i+1) _ _ _ K e3
   |false=>
    rw[hk]at h;simp only[cond_false]at h|-;have key:Ro (o.op.qz&&((cq.filter λr=>!ins o.after r.mE).flatMap (·.wr)).isEmpty) (o.op.kL T) ((cq.filter λr=>!ins o.after r.mE).flatMap (·.wr)) m.ah (m9 bC m.ah.length o.iN) T o.op=
     bG (λb=>cond (ins (o.op.kL T) b&&!ins ((cq.filter λr=>!ins o.after r.mE).flatMap (·.wr)) b) (aj m.ah b) none) (m9 bC m.ah.length o.iN) T o.op:=by
     cases hb:(o.op.qz&&((cq.filter λr=>!ins o.after r.mE).flatMap (·.wr)).isEmpty)with
     |false=>simp only[Ro,oV]
     |true=>
      simp only[Bool.and_eq_true,isEmpty_iff]at hb;simp only[Ro,oV,hb.2];refine(BW hb.1 λb hb=>?_).symm;rw[(oG _ _).2 hb];simp[ins]
    rw[key]at h;generalize bG (λb=>cond (ins (o.op.kL T) b&&!ins ((cq.filter λr=>!ins o.after r.mE).flatMap (·.wr)) b) (aj m.ah b) none) (m9 bC m.ah.length o.iN) T o.op=y at h|-;cases y with
    |none=>exact h.elim
    |some p=>
     obtain⟨v,cs⟩:=p;simp only at h|-;rw[h.1];exact AX hc bC os (i+1) _ _ _ K h.2
theorem Ic{r:Tr->Mem->Prop}{K:cT->Tr->Mem->Prop}{e:cT}{T:Tr}{m:Mem}(h:Ks r K e T m):(e=.normal/\r T m)\/(e≠.normal/\K e T m):=by
 cases e with
 |normal=>exact .inl ⟨rfl,h⟩
 |exit j=>exact .inr ⟨by simp,h⟩
 |ret=>exact .inr ⟨by simp,h⟩
theorem nO(hc:∀c vs m Q,wc c vs m Q->∃v m',call c vs m=some (v,m')/\Q v m')(fu:Nat):∀(c:eQ) (T:Tr) (m:Mem) (K:cT->Tr->Mem->Prop),Wc call wc au fu c T m K->∃e T' m',dY call au fu false c T m=some (e,T',m')/\K e T' m'
 |.skip,T,m,K,h=>⟨_,_,_,rfl,h⟩
 |.mW,_,_,_,h=>h.elim
 |.exit id,T,m,K,h=>⟨_,_,_,rfl,h⟩
 |.ret,T,m,K,h=>⟨_,_,_,rfl,h⟩
 |.rangeFunc f ps a b,T,m,K,h=>by
  obtain⟨e,m',q1,q2⟩:=h T (λ_=>rfl);exact⟨e,T,m',q1,q2⟩
 |.region d ns dC,T,m,K,h=>by
  rw[dY];cases d with
  |false=>
   simp only[Wc,cond_false]at h|-;obtain⟨T',m',e,hk⟩:=AW hc dC T m _ h;rw[e];exact⟨_,_,_,rfl,hk⟩
  |true=>
   simp only[Wc,cond_true]at h|-;cases hb:(Nat.beq ns 0&&tB 0 [] dC)with
   |true=>
    rw[hb]at h;simp only[Bool.and_eq_true]at hb;have h0:ns=0:=Nat.eq_of_beq_eq_true hb.1;subst h0;obtain⟨T',e,hk⟩:=AU (call:=call) hc m.ah.length dC 0 [] [] T m _ hb.2 (λr hr=>by cases hr) h;have hm:m.om 0=m:=rfl;rw[hm,e];exact⟨_,_,_,rfl,hk⟩
   |false=>
    rw[hb]at h;obtain⟨T',m',e,hk⟩:=AX (call:=call) hc m.ah.length dC 0 [] T _ _ h;rw[e];exact⟨_,_,_,rfl,hk⟩
 |.seq a b,T,m,K,h=>by
  rw[Wc]at h;obtain⟨e,T1,m1,e1,h1⟩:=nO hc fu a T m _ h;rw[dY,e1];rcases Ic h1 with⟨rfl,h2⟩|⟨jV,h2⟩
  .exact nO hc fu b T1 m1 K h2
  .cases e with
   |normal=>exact absurd rfl jV
   |exit j=>exact⟨_,_,_,rfl,h2⟩
   |ret=>exact⟨_,_,_,rfl,h2⟩
 |.cond c a b,T,m,K,h=>by
  rw[Wc]at h;rw[dY];split at h
  .rename_i hx;rw[hx];exact nO hc fu a T m K h
  .rename_i hx;rw[hx];exact nO hc fu b T m K h
  .exact h.elim
 |.block id c,T,m,K,h=>by
  rw[Wc]at h;obtain⟨e,T1,m1,e1,h1⟩:=nO hc fu c T m _ h;rw[dY,e1];cases e with
  |normal=>exact⟨_,_,_,rfl,h1⟩
  |ret=>exact⟨_,_,_,rfl,h1⟩
  |exit j=>
   simp only[Kb]at h1|-;cases hj:Nat.beq j id with
   |true=>rw[hj]at h1;exact⟨_,_,_,rfl,h1⟩
   |false=>rw[hj]at h1;exact⟨_,_,_,rfl,h1⟩
 |.loop c,T,m,K,h=>by
  rw[Wc]at h;obtain⟨N,I,hN,h0,hs,hl⟩:=h;rw[dY];obtain⟨e,T',m',q1,q2,q3⟩:=LZ (body:=dY call au fu false c) (I:=I) (Q:=K) N (λi T m hi hI=>by
   obtain⟨e,T1,m1,e1,h1⟩:=nO hc fu c T m _ (hs i T m hi hI);refine⟨e,T1,m1,e1,Ic h1⟩) (λT m hI=>by
   obtain⟨e,T1,m1,e1,h1⟩:=nO hc fu c T m _ (hl T m hI);rcases Ic h1 with⟨_,h2⟩|⟨jV,h2⟩
   .exact h2.elim
   .exact⟨e,T1,m1,e1,jV,h2⟩) N 0 fu T m Z hN h0
  exact⟨e,T',m',q1,q3⟩
theorem tC{F:FuncId->Option bD}{sm:ct}:∀(n:Nat) (c:hZ) (vs:List AV) (m:Mem) (Q:AV->Mem->Prop),Wa F au sm n c vs m Q->∃v m',dJ F au sm n c vs m=some (v,m')/\Q v m'
 |0,_,_,_,_,h=>h.elim
 |n+1,.yield l,vs,m,Q,h=>h
 |n+1,.fn f,vs,m,Q,h=>by
  rw[Wa]at h;rw[dJ];cases hs:sm f vs m with
  |some r=>
   obtain⟨v,m'⟩:=r;rw[hs]at h;exact⟨v,m',rfl,h⟩
  |none=>
   rw[hs]at h;simp only at h|-;cases hF:F f with
   |none=>rw[hF]at h;exact h.elim
   |some fn=>
    rw[hF]at h;obtain⟨hb,hw⟩:=h;simp only[hb,cond_true];obtain⟨e,T',m',q1,q2⟩:=nO (λc vs m Q=>tC n c vs m Q) n _ _ _ _ hw;rw[q1];unfold Kr at q2;cases e with
    |exit j=>exact q2.elim
    |normal=>
     simp only at q2|-;cases hr:zh (aj (m'.gC m'.aV).ah) T' fn.results with
     |none=>rw[hr]at q2;exact q2.elim
     |some v=>rw[hr]at q2;exact⟨_,_,rfl,q2⟩
    |ret=>
     simp only at q2|-;cases hr:zh (aj (m'.gC m'.aV).ah) T' fn.results with
     |none=>rw[hr]at q2;exact q2.elim
     |some v=>rw[hr]at q2;exact⟨_,_,rfl,q2⟩
end
def Kc(wc:gy)(au:bR)(pu:Bool)(d:Option cO)(os:List cS)(T:Tr)(m:Mem)(K:Tr->Mem->Prop):AV->Mem->Prop:=λv m'=>
 match pu with
 |true=>m'=⟨m.ah,[],[]⟩/\Wo wc au true os (eU T d v) m K
 |false=>Wo wc au false os (eU T d v) m' K
def Kq(call:eX)(wc:gy)(au:bR)(fu:Nat)(b:eQ)(K:cT->Tr->Mem->Prop):cT->Tr->Mem->Prop:=Ks (λT m=>Wc call wc au fu b T m K) K
def Kw(J:Tr->Mem->Prop)(K:cT->Tr->Mem->Prop):cT->Tr->Mem->Prop:=Ks J K
def Wq(wc:gy)(au:bR)(pu:Bool)(call:Bool)(d:Option cO)(op:j6)(os:List cS)(T:Tr)(m:Mem)(K:Tr->Mem->Prop):Prop:=
 match call with
 |true=>match eD (aj m.ah) au T op with
  |some (c,vs)=>match pu with
   |true=>wc c vs ⟨m.ah,[],[]⟩ λv m'=>m'=⟨m.ah,[],[]⟩/\Wo wc au pu os (eU T d v) m K
   |false=>wc c vs m λv m'=>Wo wc au pu os (eU T d v) m' K
  |none=>False
 |false=>match cZ (aj m.ah) m.ah.length T op with
  |some (v,cs)=>match pu,cs with
   |true,[]=>Wo wc au pu os (eU T d v) m K
   |true,_::_=>False
   |false,cs=>Wo wc au pu os (eU T d v) (m.dX cs) K
  |none=>False
def Wg(wc:gy)(au:bR)(pu:Bool)(x:AV)(t:cO)(w:Bool)(d:Option cO)(op:j6)(os:List cS)(T:Tr)(m:Mem)(K:Tr->Mem->Prop):Prop:=
 match x with
 |.bool b=>(b=true->cond w (Wq wc au pu op.dZ d op os (gq (.bool true) t T) m K) (Wo wc au pu os (eU (gq (.bool true) t T) d .undef) m K))/\
  (b=false->cond w (Wo wc au pu os (eU (gq (.bool false) t T) d .undef) m K) (Wq wc au pu op.dZ d op os (gq (.bool false) t T) m K))
 |.undef=>Wo wc au pu os (eU T d .undef) m K
 |_=>False
def O0(wc:gy)(au:bR)(pu:Bool)(b w:Bool)(d:Option cO)(op:j6)(os:List cS)(T:Tr)(m:Mem)(K:Tr->Mem->Prop):Prop:=
 match b,w with
 |true,true=>Wq wc au pu op.dZ d op os T m K
 |false,false=>Wq wc au pu op.dZ d op os T m K
 |_,_=>Wo wc au pu os (eU T d .undef) m K
def Wp(wc:gy)(au:bR)(pu:Bool)(r:Option (AV×List j9))(d:Option cO)(os:List cS)(T:Tr)(m:Mem)(K:Tr->Mem->Prop):Prop:=
 match r with
 |some (v,cs)=>match pu,cs with
  |true,[]=>Wo wc au pu os (eU T d v) m K
  |true,_::_=>False
  |false,cs=>Wo wc au pu os (eU T d v) (m.dX cs) K
 |none=>False
def Wl(wc:gy)(au:bR)(pu:Bool)(r:Option (hZ×List AV))(d:Option cO)(os:List cS)(T:Tr)(m:Mem)(K:Tr->Mem->Prop):Prop:=
 match r with
 |some (c,vs)=>match pu with
  |true=>wc c vs ⟨m.ah,[],[]⟩ (Kc wc au true d os T m K)
  |false=>wc c vs m (Kc wc au false d os T m K)
 |none=>False
def Wi(call:eX)(wc:gy)(au:bR)(fu:Nat)(x:AV)(a b:eQ)(T:Tr)(m:Mem)(K:cT->Tr->Mem->Prop):Prop:=
 match x with
 |.bool true=>Wc call wc au fu a T m K
 |.bool false=>Wc call wc au fu b T m K
 |_=>False
def Wt(call:eX)(wc:gy)(au:bR)(st:Bool)(ns:Nat)(dC:List cS)(T:Tr)(m:Mem)(K:Tr->Mem->Prop):Prop:=
 match st with
 |true=>Wo wc au true dC T m K
 |false=>Wr wc au m.ah.length 0 dC [] T (m.om ns) K
def Wf(F:FuncId->Option bD)(au:bR)(sm:ct)(n:Nat)(r:Option bD)(vs:List AV)(m:Mem)(Q:AV->Mem->Prop):Prop:=
 match r with
 |none=>False
 |some fn=>Nat.ble vs.length fn.ntmps=true/\Wc (dJ F au sm n) (Wa F au sm n) au n fn.body (lz vs .z .e) {m with aV:=[]} (Kr fn.results m.aV Q)
def Ws(F:FuncId->Option bD)(au:bR)(sm:ct)(n:Nat)(r:Option (AV×Mem))(f:FuncId)(vs:List AV)(m:Mem)(Q:AV->Mem->Prop):Prop:=
 match r with
 |some (v,m')=>Q v m'
 |none=>Wf F au sm n (F f) vs m Q
def Wv(r:Option AV)(m:Mem)(Q:AV->Mem->Prop):Prop:=
 match r with
 |some v=>Q v m
 |none=>False
section
variable(call:eX)(wc:gy)(au:bR)(fu:Nat)(pu:Bool)(d:Option cO)(os:List cS)(T:Tr)(m m':Mem)(op:j6)(v:AV)(t:cO)(w:Bool)(s:Option Nat)(af:List Nat)
variable(K:Tr->Mem->Prop)(E:cT->Tr->Mem->Prop)(Q:AV->Mem->Prop)(J:Tr->Mem->Prop)(a b:eQ)(p:Prop)[Decidable p]
theorem Aax:Wo wc au pu [] T m K=K T m:=rfl
theorem AhC:Wo wc au pu (⟨d,op,none,s,af⟩::os) T m K=Wq wc au pu op.dZ d op os T m K:=by rw[Wo];rfl
theorem Aay:Wo wc au pu (⟨d,op,some (t,w),s,af⟩::os) T m K=Wg wc au pu (dL t T) t w d op os T m K:=by rw[Wo];rfl
theorem AhD:Wg wc au pu (.bool true) t w d op os T m K=O0 wc au pu true w d op os (gq (.bool true) t T) m K:=by
 cases w<;>simp[Wg,O0]
theorem AhE:Wg wc au pu (.bool false) t w d op os T m K=O0 wc au pu false w d op os (gq (.bool false) t T) m K:=by
 cases w<;>simp[Wg,O0]
theorem AhF:Wg wc au pu .undef t w d op os T m K=Wo wc au pu os (eU T d .undef) m K:=rfl
theorem AhG:Wg wc au pu (.bool (decide p)) t w d op os T m K=((p->O0 wc au pu true w d op os (gq (.bool true) t T) m K)/\(¬p->O0 wc au pu false w d op os (gq (.bool false) t T) m K)):=by
 cases w<;>simp[Wg,O0]
theorem AhH:O0 wc au pu true true d op os T m K=Wq wc au pu op.dZ d op os T m K:=rfl
theorem AhI:O0 wc au pu false false d op os T m K=Wq wc au pu op.dZ d op os T m K:=rfl
theorem AhJ:O0 wc au pu true false d op os T m K=Wo wc au pu os (eU T d .undef) m K:=rfl
theorem AhK:O0 wc au pu false true d op os T m K=Wo wc au pu os (eU T d .undef) m K:=rfl
theorem AhL:Wq wc au pu true d op os T m K=Wl wc au pu (eD (aj m.ah) au T op) d os T m K:=by
 simp only[Wq,Wl];cases eD (aj m.ah) au T op with
 |none=>rfl
 |some x=>cases pu<;>rfl
theorem AhM:Wq wc au pu false d op os T m K=Wp wc au pu (cZ (aj m.ah) m.ah.length T op) d os T m K:=rfl
theorem Wk:Wp wc au pu (some (v,[])) d os T m K=Wo wc au pu os (eU T d v) m K:=by cases pu<;>rfl
theorem Ma(c:j9)(cs:List j9):Wp wc au false (some (v,c::cs)) d os T m K=Wo wc au false os (eU T d v) (m.dX (c::cs)) K:=rfl
theorem AhN(c:hZ)(vs:List AV):Wl wc au false (some (c,vs)) d os T m K=wc c vs m (Kc wc au false d os T m K):=rfl
theorem AhO(c:hZ)(vs:List AV):Wl wc au true (some (c,vs)) d os T m K=wc c vs ⟨m.ah,[],[]⟩ (Kc wc au true d os T m K):=rfl
theorem AhP:Kc wc au false d os T m K v m'=Wo wc au false os (eU T d v) m' K:=rfl
theorem AhQ(h:aN)(lg dd:List Nat):Kc wc au true d os T ⟨h,lg,dd⟩ K v ⟨h,[],[]⟩=Wo wc au true os (eU T d v) ⟨h,lg,dd⟩ K:=by simp[Kc]
theorem Wm:Wc call wc au fu .skip T m E=E .normal T m:=rfl
theorem Wn(i:Nat):Wc call wc au fu (.exit i) T m E=E (.exit i) T m:=rfl
theorem Aaz:Wc call wc au fu .ret T m E=E .ret T m:=rfl
theorem AaA:Wc call wc au fu (.seq a b) T m E=Wc call wc au fu a T m (Kq call wc au fu b E):=rfl
theorem AaB(i:Nat):Wc call wc au fu (.block i a) T m E=Wc call wc au fu a T m (Kb i E):=rfl
theorem AhR(c:bE):Wc call wc au fu (.cond c a b) T m E=Wi call wc au fu (cP T c) a b T m E:=rfl
theorem AhS:Wi call wc au fu (.bool true) a b T m E=Wc call wc au fu a T m E:=rfl
theorem AhT:Wi call wc au fu (.bool false) a b T m E=Wc call wc au fu b T m E:=rfl
theorem AhU:Wi call wc au fu (.bool (decide p)) a b T m E=((p->Wc call wc au fu a T m E)/\(¬p->Wc call wc au fu b T m E)):=by
 by_cases h:p<;>simp[Wi,h]
theorem AaC(ns:Nat)(dC:List cS):Wc call wc au fu (.region false ns dC) T m E=Wo wc au false dC T m (E .normal):=rfl
theorem Wu(ns:Nat)(dC:List cS):Wc call wc au fu (.region true ns dC) T m E=Wt call wc au (Nat.beq ns 0&&tB 0 [] dC) ns dC T m (E .normal):=by
 rw[Wc];cases(Nat.beq ns 0&&tB 0 [] dC)<;>rfl
theorem AhV(ns:Nat)(dC:List cS):Wt call wc au true ns dC T m K=Wo wc au true dC T m K:=rfl
theorem AhW(ns:Nat)(dC:List cS):Wt call wc au false ns dC T m K=Wr wc au m.ah.length 0 dC [] T (m.om ns) K:=rfl
theorem AhX:Kq call wc au fu b E .normal T m=Wc call wc au fu b T m E:=rfl
theorem AhY(i:Nat):Kq call wc au fu b E (.exit i) T m=E (.exit i) T m:=rfl
theorem AhZ:Kq call wc au fu b E .ret T m=E .ret T m:=rfl
theorem Ah0(i:Nat):Kb i E .normal T m=E .normal T m:=rfl
theorem Ah1(i:Nat):Kb i E .ret T m=E .ret T m:=rfl
theorem Ah2(i:Nat):Kb i E (.exit i) T m=E .normal T m:=by simp[Kb]
theorem Ah3(i j:Nat)(h:(j=i)=False):Kb i E (.exit j) T m=E (.exit j) T m:=by
 have h:Nat.beq j i=false:=by
  cases hq:Nat.beq j i with
  |false=>rfl
  |true=>exact absurd (Nat.eq_of_beq_eq_true hq) (by simp[h])
 simp only[Kb,h,cond_false]
theorem Ah4(rs:List ze)(dd:List Nat):Kr rs dd Q .normal T m=Wv (zh (aj (m.gC m.aV).ah) T rs) {m.gC m.aV with aV:=dd} Q:=rfl
theorem Ah5(rs:List ze)(dd:List Nat):Kr rs dd Q .ret T m=Wv (zh (aj (m.gC m.aV).ah) T rs) {m.gC m.aV with aV:=dd} Q:=rfl
theorem w_v:Wv (some v) m Q=Q v m:=rfl
theorem fZ(F:FuncId->Option bD)(sm:ct)(n:Nat)(f:FuncId)(vs:List AV):Wa F au sm (n+1) (.fn f) vs m Q=Ws F au sm n (sm f vs m) f vs m Q:=by
 rw[Wa];cases sm f vs m with
 |none=>simp only[Ws,Wf]<;>cases F f<;>rfl
 |some r=>rfl
theorem Ah6(F:FuncId->Option bD)(sm:ct)(n:Nat)(f:FuncId)(vs:List AV):Ws F au sm n (some (v,m')) f vs m Q=Q v m':=rfl
theorem Sf(F:FuncId->Option bD)(sm:ct)(n:Nat)(f:FuncId)(vs:List AV):Ws F au sm n none f vs m Q=Wf F au sm n (F f) vs m Q:=rfl
theorem w_f(F:FuncId->Option bD)(sm:ct)(n:Nat)(fn:bD)(vs:List AV):Wf F au sm n (some fn) vs m Q=(Nat.ble vs.length fn.ntmps=true/\Wc (dJ F au sm n) (Wa F au sm n) au n fn.body (lz vs .z .e) ⟨m.ah,m.hU,[]⟩ (Kr fn.results m.aV Q)):=rfl
end
theorem Up{call:eX}{wc:gy}{au:bR}{fu:Nat}{c:eQ}{T:Tr}{m:Mem}{E:cT->Tr->Mem->Prop}(N:Nat)(I:Nat->Tr->Mem->Prop)(hN:N<fu)(h0:I 0 T m)
 (hs:∀i T m,i<N->I i T m->Wc call wc au fu c T m (Kw (I (i+1)) E)) (hl:∀T m,I N T m->Wc call wc au fu c T m (Kw (λ_ _=>False) E)):Wc call wc au fu (.loop c) T m E:=by
 rw[Wc];exact⟨N,I,hN,h0,hs,hl⟩
theorem Ah7(x:Option bp)(l:List (Option bp)):fj (x::l) 0=x:=by simp only[fj]
theorem Ah8(x0 x:Option bp)(l:List (Option bp)):fj (x0::x::l) 1=x:=by simp only[fj]
theorem Ah9(x0 x1 x:Option bp)(l:List (Option bp)):fj (x0::x1::x::l) 2=x:=by simp only[fj]
theorem AaD(x0 x1 x2 x:Option bp)(l:List (Option bp)):fj (x0::x1::x2::x::l) 3=x:=by simp only[fj]
theorem AaE(x0 x1 x2 x3 x:Option bp)(l:List (Option bp)):fj (x0::x1::x2::x3::x::l) 4=x:=by simp only[fj]
theorem Aia(x0 x1 x2 x3 x4 x:Option bp)(l:List (Option bp)):fj (x0::x1::x2::x3::x4::x::l) 5=x:=by simp only[fj]
theorem Aib(x0 x1 x2 x3 x4 x5 x:Option bp)(l:List (Option bp)):fj (x0::x1::x2::x3::x4::x5::x::l) 6=x:=by simp only[fj]
theorem Aic(x0 x1 x2 x3 x4 x5 x6 x:Option bp)(l:List (Option bp)):fj (x0::x1::x2::x3::x4::x5::x6::x::l) 7=x:=by simp only[fj]
theorem Aid(x0 x1 x2 x3 x4 x5 x6 x7 x:Option bp)(l:List (Option bp)):fj (x0::x1::x2::x3::x4::x5::x6::x7::x::l) 8=x:=by simp only[fj]
theorem Aie(x0 x1 x2 x3 x4 x5 x6 x7 x8 x:Option bp)(l:List (Option bp)):fj (x0::x1::x2::x3::x4::x5::x6::x7::x8::x::l) 9=x:=by simp only[fj]
theorem AaF(x0 x1 x2 x3 x4 x5 x6 x7 x8 x9 x:Option bp)(l:List (Option bp)):fj (x0::x1::x2::x3::x4::x5::x6::x7::x8::x9::x::l) 10=x:=by simp only[fj]
theorem Aif:fY []=0:=by simp only[fY]
theorem Aig(x:Option bp)(l:List (Option bp)):fY (x::l)=fY l+1:=by simp only[fY]
def vC(h:aN)(b:Nat):Bool:=(aj h b).isSome
def vP(rd gu:List Nat)(h:aN)(b:Nat):Bool:=(cond (ins rd b&&!ins gu b) (aj h b) none).isSome
def Sh(free:List jN):List Nat:=free.flatMap (·.wr)
def Rk(wc:gy)(au:bR)(bC i:Nat)(d:Option cO)(os:List cS)(cq free:List jN)(gu:List Nat)(T:Tr)(m:Mem)(K:Tr->Mem->Prop):AV->Mem->Prop:=λv m2=>
 mI m2.hU true free=false/\Wr wc au bC (i+1) os (⟨i,m2.hU,vC (mA m.ah gu),true⟩::cq) (eU T d v) ⟨(kM m2 m.ah gu).ah,m2.hU++m.hU,m.aV⟩ K
def Rl(wc:gy)(au:bR)(bC i:Nat)(r:Option (hZ×List AV))(d:Option cO)(os:List cS)(cq free:List jN)(gu:List Nat)(T:Tr)(m:Mem)(K:Tr->Mem->Prop):Prop:=
 match r with
 |some (c,vs)=>wc c vs ⟨mA m.ah gu,[],[]⟩ (Rk wc au bC i d os cq free gu T m K)
 |none=>False
def Rp(wc:gy)(au:bR)(bC i:Nat)(r:Option (AV×List j9))(mk:Bool)(d:Option cO)(s:Option Nat)(os:List cS)(cq free:List jN)(rd gu:List Nat)(T:Tr)(m:Mem)(K:Tr->Mem->Prop):Prop:=
 match r with
 |some (v,cs)=>(!sO bC m.ah.length s||mI (cs.map (·.id)) mk free)=false/\Wr wc au bC (i+1) os (⟨i,cs.map (·.id),vP rd gu m.ah,mk⟩::cq) (eU T d v) (m.dX cs) K
 |none=>False
def Rq(wc:gy)(au:bR)(bC i:Nat)(call:Bool)(d:Option cO)(op:j6)(s:Option Nat)(os:List cS)(cq free:List jN)(gu:List Nat)(T:Tr)(m:Mem)(K:Tr->Mem->Prop):Prop:=
 match call with
 |true=>Rl wc au bC i (eD (aj (mA m.ah gu)) au T op) d os cq free gu T m K
 |false=>Rp wc au bC i (Ro (op.qz&&gu.isEmpty) (op.kL T) gu m.ah (m9 bC m.ah.length s) T op) op.iG d s os cq free (op.kL T) gu T m K
def O3(wc:gy)(au:bR)(bC i:Nat)(b w:Bool)(d:Option cO)(op:j6)(s:Option Nat)(os:List cS)(cq free:List jN)(gu:List Nat)(T:Tr)(m:Mem)(K:Tr->Mem->Prop):Prop:=
 match b,w with
 |true,true=>Rq wc au bC i op.dZ d op s os cq free gu T m K
 |false,false=>Rq wc au bC i op.dZ d op s os cq free gu T m K
 |_,_=>Wr wc au bC (i+1) os cq (eU T d .undef) m K
def Rg(wc:gy)(au:bR)(bC i:Nat)(x:AV)(t:cO)(w:Bool)(d:Option cO)(op:j6)(s:Option Nat)(os:List cS)(cq free:List jN)(gu:List Nat)(T:Tr)(m:Mem)(K:Tr->Mem->Prop):Prop:=
 match x with
 |.bool b=>(b=true->O3 wc au bC i true w d op s os cq free gu (gq (.bool true) t T) m K)/\(b=false->O3 wc au bC i false w d op s os cq free gu (gq (.bool false) t T) m K)
 |.undef=>Wr wc au bC (i+1) os cq (eU T d .undef) m K
 |_=>False
section
variable(wc:gy)(au:bR)(bC i:Nat)(d:Option cO)(os:List cS)(cq free:List jN)(gu rd:List Nat)(T:Tr)(m m2:Mem)(op:j6)(v:AV)(t:cO)(w mk:Bool)(s:Option Nat)(af:List Nat)
variable(K:Tr->Mem->Prop)(p:Prop)[Decidable p](h:aN)(bU:Nat)(b:Nat)
theorem AaG:Wr wc au bC i [] cq T m K=K T m:=rfl
theorem AaH:Wr wc au bC i (⟨d,op,none,s,af⟩::os) cq T m K=Rq wc au bC i op.dZ d op s os cq (cq.filter λr=>!ins af r.mE) (Sh (cq.filter λr=>!ins af r.mE)) T m K:=by
 rw[Wr];cases op.dZ with
 |true=>rfl
 |false=>
  rfl
theorem AaI:Wr wc au bC i (⟨d,op,some (t,w),s,af⟩::os) cq T m K=Rg wc au bC i (dL t T) t w d op s os cq (cq.filter λr=>!ins af r.mE) (Sh (cq.filter λr=>!ins af r.mE)) T m K:=by
 have e:∀T,Wr wc au bC i (⟨d,op,none,s,af⟩::os) cq T m K=Rq wc au bC i op.dZ d op s os cq (cq.filter λr=>!ins af r.mE) (Sh (cq.filter λr=>!ins af r.mE)) T m K:=λT=>AaH ..
 have e':=λT=>(e T).symm
 cases hx:dL t T with
 |bool c=>
  rw[Wr];simp only[hx,Rg];cases w<;>(try simp only[O3,e',cond_true,cond_false])<;>first|done|rfl|(rw[Wr];rfl)
 |undef=>rw[Wr];simp only[hx,Rg]
 |_=>rw[Wr];simp only[hx,Rg]
theorem Aih:Rg wc au bC i (.bool true) t w d op s os cq free gu T m K=O3 wc au bC i true w d op s os cq free gu (gq (.bool true) t T) m K:=by simp[Rg]
theorem Aii:Rg wc au bC i (.bool false) t w d op s os cq free gu T m K=O3 wc au bC i false w d op s os cq free gu (gq (.bool false) t T) m K:=by simp[Rg]
theorem Aij:Rg wc au bC i .undef t w d op s os cq free gu T m K=Wr wc au bC (i+1) os cq (eU T d .undef) m K:=rfl
theorem Aik:Rg wc au bC i (.bool (decide p)) t w d op s os cq free gu T m K=((p->O3 wc au bC i true w d op s os cq free gu (gq (.bool true) t T) m K)/\(¬p->O3 wc au bC i false w d op s os cq free gu (gq (.bool false) t T) m K)):=by simp[Rg]
theorem Ail:O3 wc au bC i true true d op s os cq free gu T m K=Rq wc au bC i op.dZ d op s os cq free gu T m K:=rfl
theorem Aim:O3 wc au bC i false false d op s os cq free gu T m K=Rq wc au bC i op.dZ d op s os cq free gu T m K:=rfl
theorem Ain:O3 wc au bC i true false d op s os cq free gu T m K=Wr wc au bC (i+1) os cq (eU T d .undef) m K:=rfl
theorem Aio:O3 wc au bC i false true d op s os cq free gu T m K=Wr wc au bC (i+1) os cq (eU T d .undef) m K:=rfl
theorem Aip:Rq wc au bC i true d op s os cq free gu T m K=Rl wc au bC i (eD (aj (mA m.ah gu)) au T op) d os cq free gu T m K:=rfl
theorem Aiq:Rq wc au bC i false d op s os cq free gu T m K=Rp wc au bC i (Ro (op.qz&&gu.isEmpty) (op.kL T) gu m.ah (m9 bC m.ah.length s) T op) op.iG d s os cq free (op.kL T) gu T m K:=rfl
theorem Air:Ro true rd gu h bU T op=cZ (aj h) bU T op:=rfl
theorem Ais:Ro false rd gu h bU T op=cZ (λb=>cond (ins rd b&&!ins gu b) (aj h b) none) bU T op:=rfl
theorem r_p(cs:List j9):Rp wc au bC i (some (v,cs)) mk d s os cq free rd gu T m K=((!sO bC m.ah.length s||mI (cs.map (·.id)) mk free)=false/\Wr wc au bC (i+1) os (⟨i,cs.map (·.id),vP rd gu m.ah,mk⟩::cq) (eU T d v) (m.dX cs) K):=rfl
theorem r_l(c:hZ)(vs:List AV):Rl wc au bC i (some (c,vs)) d os cq free gu T m K=wc c vs ⟨mA m.ah gu,[],[]⟩ (Rk wc au bC i d os cq free gu T m K):=rfl
theorem r_k:Rk wc au bC i d os cq free gu T m K v m2=(mI m2.hU true free=false/\Wr wc au bC (i+1) os (⟨i,m2.hU,vC (mA m.ah gu),true⟩::cq) (eU T d v) ⟨(kM m2 m.ah gu).ah,m2.hU++m.hU,m.aV⟩ K):=rfl
theorem Ait:vC h b=(aj h b).isSome:=rfl
theorem Aiu:vP rd gu h b=(cond (ins rd b&&!ins gu b) (aj h b) none).isSome:=rfl
end
section
variable(get:Nat->Option bp)(bU:Nat)(T:Tr)(x y z:bE)(a b:AV)
def Uq(c a b:AV):Option (AV×List j9):=match c with
 |.bool true=>some (a,[])
 |.bool false=>some (b,[])
 |_=>none
def Ww(bU bZ n:Nat)(r:Option (List AV)):Option (AV×List j9):=match r with
 |some cs=>cond (cs.length==n&&n/bZ*bZ==n&&cs.all AV.cU) (some (.ptr bU 0 0,[⟨bU,some (.row true bZ (mF bZ (n/bZ) cs)),hH cs⟩])) none
 |none=>none
def AaJ(r:Option (List AV)):Option (AV×List j9):=match r with
 |some cs=>some (.agg cs,[])
 |none=>none
def EN(a:Bool)(r:Option (List AV)):Option (AV×List j9):=match r with
 |some cs=>match a,cs with
  |true,cs=>some (.agg cs,[])
  |false,[v]=>some (v,[])
  |false,_=>none
 |none=>none
def Wx(a:Bool)(n i o:Nat)(r:Option bp):Option (AV×List j9):=match r with
 |some (.row _ bZ es)=>EN a (fG bZ es i o n)
 |_=>none
def Wy(get:Nat->Option bp)(n:Nat)(p:AV)(r:Option (List AV)):Option (AV×List j9):=match p,r with
 |.ptr b i o,some vs=>match get b with
  |some (.row true bZ es)=>cond (vs.length==n&&vs.all AV.cU) (match iX bZ es i o vs with
   |some pd=>some (.undef,[⟨b,some (.row true bZ pd),hH vs⟩])
   |none=>none) none
  |_=>none
 |_,_=>none
def Wz(b bZ:Nat)(r:Option (List (List AV)))(vs:List AV):Option (AV×List j9):=match r with
 |some pd=>some (.undef,[⟨b,some (.row true bZ pd),hH vs⟩])
 |none=>none
def AaK(n b i o:Nat)(r:Option bp)(vs:List AV):Option (AV×List j9):=match r with
 |some (.row true bZ es)=>cond (vs.length==n&&vs.all AV.cU) (Wz b bZ (iX bZ es i o vs) vs) none
 |_=>none
def WA(bZ b j n:Nat)(k:Int)(r:Option bp):Option (AV×List j9):=match r with
 |some (.row _ e _)=>cond (e==bZ&&decide (0<=k)&&decide (k.toNat<n)) (some (.ptr b (j+k.toNat) 0,[])) none
 |_=>none
def Gl(r:Option AV):Option (AV×List j9):=match r with
 |some v=>some (v,[])
 |none=>none
def AaL(v:AV):Option (AV×List j9):=match v with
 |.ptr b i o=>some (.ptr b i o,[])
 |.func f a c=>some (.func f a c,[])
 |_=>none
def afa(o:Nat)(v:AV):Option (AV×List j9):=match v with
 |.ptr b i p=>some (.ptr b i (p+o),[])
 |_=>none
def Si(k:Nat)(v:AV):Option (AV×List j9):=match v with
 |.tuple vs=>match vs[k]? with
  |some v=>some (v,[])
  |none=>none
 |_=>none
def Sj(neg:Bool)(r:Option Bool):Option (AV×List j9):=match r with
 |some b=>some (.bool (cond neg (!b) b),[])
 |none=>none
theorem Aiv:cZ get bU T (.mv x)=some (cP T x,[]):=rfl
theorem WB:cZ get bU T (.pick x y z)=Uq (cP T x) (cP T y) (cP T z):=rfl
theorem Sk(e:Nat)(es:List (List AV)):cZ get bU T (.alloc e es)=some (.ptr bU 0 0,[⟨bU,some (.row true e es),[]⟩]):=rfl
theorem AaM(e n:Nat):cZ get bU T (.box e n x)=Ww bU e n (cP T x).cells?:=by
 simp only[cZ,bG,Ww];cases(cP T x).cells? with
 |none=>rfl
 |some cs=>
  simp only;split
  .rename_i h;simp[h]
  .rename_i h;cases hc:(cs.length==n&&n/e*e==n&&cs.all AV.cU)with
   |false=>rfl
   |true=>simp at hc;exact absurd ⟨hc.1.1,hc.1.2,by simpa using hc.2⟩ h
theorem AaN(z:List AV)(ps:List (Nat×Nat×bE)):cZ get bU T (.build z ps)=AaJ (uy z (ps.map λ(o,s,x)=>(o,s,cP T x))):=rfl
theorem WC(g:Bool)(n:Nat):cZ get bU T (.load g n x)=H8 get g n (cP T x):=rfl
theorem DL(g:Bool)(n b i o:Nat):H8 get g n (.ptr b i o)=Wx g n i o (get b):=by
 simp only[H8,bG,cP,Wx];cases get b with
 |none=>rfl
 |some y=>cases y with
  |row _ e es=>simp only[EN];cases fG e es i o n with
   |none=>rfl
   |some cs=>cases g with
    |true=>rfl
    |false=>rcases cs with _|⟨v,_|⟨v2,r⟩⟩<;>rfl
  |_=>rfl
theorem JQ(g bS:Bool)(n i o e:Nat)(es:List (List AV)):Wx g n i o (some (.row bS e es))=EN g (fG e es i o n):=rfl
theorem AaO(cs:List AV):EN true (some cs)=some (.agg cs,[]):=rfl
theorem AaP(v:AV):EN false (some [v])=some (v,[]):=rfl
theorem AaQ(n:Nat):cZ get bU T (.store n x y)=Wy get n (cP T x) (cP T y).cells?:=by
 simp only[cZ,bG,Wy];cases cP T x<;>try rfl
 cases(cP T y).cells? with
 |none=>rfl
 |some vs=>
  rename_i b i o;simp only;cases get b with
  |none=>rfl
  |some z=>cases z with
   |row bS e es=>cases bS with
    |false=>rfl
    |true=>
     simp only
     cases hc:(vs.length==n&&vs.all AV.cU)with
     |true=>
      simp only[Bool.and_eq_true,beq_iff_eq]at hc
      rw[aG hc]
      rfl
     |false=>
      rw[aq (λh=>by rw[h.1,h.2]at hc;simp at hc)]
      rfl
   |_=>rfl
theorem AaR(n b i o:Nat)(vs:List AV):Wy get n (.ptr b i o) (some vs)=AaK n b i o (get b) vs:=rfl
theorem AaS(n b i o e:Nat)(es:List (List AV))(vs:List AV):AaK n b i o (some (.row true e es)) vs=cond (vs.length==n&&vs.all AV.cU) (Wz b e (iX e es i o vs) vs) none:=rfl
theorem AaT(b e:Nat)(es:List (List AV))(vs:List AV):Wz b e (some es) vs=some (.undef,[⟨b,some (.row true e es),hH vs⟩]):=rfl
theorem AaU:cZ get bU T (.Rv x)=AaL (cP T x):=rfl
theorem WD(b i o:Nat):AaL (.ptr b i o)=some (.ptr b i o,[]):=rfl
theorem AaV(o:BinOp):cZ get bU T (.bin o x y)=Gl (Hu o (cP T x) (cP T y)):=by
 simp only[cZ,bG,Gl];cases Hu o (cP T x) (cP T y)<;>rfl
theorem O4(v:AV):Gl (some v)=some (v,[]):=rfl
theorem AaW(n g:Bool)(sh:List CK):cZ get bU T (.eql n g sh x y)=Sj n (uv g sh (cP T x) (cP T y)):=by
 simp only[cZ,bG,Sj];cases uv g sh (cP T x) (cP T y)<;>cases n<;>rfl
theorem AaX(c:Bool):Sj false (some c)=some (.bool c,[]):=rfl
theorem AaY(c:Bool):Sj true (some c)=some (.bool (!c),[]):=rfl
theorem Aiw(o:UnOp):cZ get bU T (.un o x)=Gl (Vp o (cP T x)):=by
 simp only[cZ,bG,Gl];cases Vp o (cP T x)<;>rfl
theorem AaZ(k:LK):cZ get bU T (.len k x)=Gf get k (cP T x):=rfl
theorem WE:Gf get .slice .aF=some (.int .i64 0,[]):=rfl
theorem WG(b i n:Nat)(c:Option Nat):Gf get .slice (.slice b i n c)=some (.int .i64 n,[]):=rfl
theorem WH(s:List UInt8):Gf get .fN (.fN s)=some (.int .i64 s.length,[]):=rfl
theorem Aa0(e:Nat):cZ get bU T (.Ek e x y)=Gg get e (cP T x) (cP T y):=rfl
theorem O5(e b j n:Nat)(c:Option Nat)(kk:IntKind)(k:Int):Gg get e (.slice b j n c) (.int kk k)=WA e b j n k (get b):=by
 simp only[Gg,bG,cP,WA];cases get b with
 |none=>rfl
 |some y=>cases y with
  |row bS ee es=>
   simp only
   split
   .rename_i h;simp[h.1,h.2.1,h.2.2]
   .rename_i h
    cases hc:(ee==e&&decide (0<=k)&&decide (k.toNat<n))with
    |false=>rfl
    |true=>simp at hc;exact absurd ⟨hc.1.1,hc.1.2,hc.2⟩ h
  |_=>rfl
theorem O6(e b j n:Nat)(k:Int)(bS:Bool)(ee:Nat)(es:List (List AV)):WA e b j n k (some (.row bS ee es))=cond (ee==e&&decide (0<=k)&&decide (k.toNat<n)) (some (.ptr b (j+k.toNat) 0,[])) none:=rfl
theorem Aix(o:Nat):cZ get bU T (.Ba o x)=afa o (cP T x):=rfl
theorem Aa1(o b i p:Nat):afa o (.ptr b i p)=some (.ptr b i (p+o),[]):=rfl
theorem Aa2(f:FuncId)(l c:List bE):cZ get bU T (.A9 f l c)=some (.func f (l.map (cP T)) (c.map (cP T)),[]):=rfl
theorem Aa3(k:Nat):cZ get bU T (.ext x k)=Si k (cP T x):=by
 simp only[cZ,bG,Si];cases cP T x<;>try rfl
theorem WI(k:Nat)(vs:List AV):Si k (.tuple vs)=Gl (vs[k]?):=by
 simp only[Si];cases vs[k]?<;>rfl
theorem WJ(e l:Nat)(z':List AV)(ps:List (Nat×bE)):cZ get bU T (.Aw e l z' ps)=bG get bU T (.Aw e l z' ps):=rfl
theorem Sl(o n:Nat)(g:Bool):cZ get bU T (.field o n g x)=bG get bU T (.field o n g x):=rfl
theorem tD(e l:Nat):cZ get bU T (.Bb e l x y)=bG get bU T (.Bb e l x y):=rfl
theorem WK(e l:Nat)(g:Bool):cZ get bU T (.NB e l g x y)=bG get bU T (.NB e l g x y):=rfl
theorem O7:cZ get bU T (.Bc x y)=bG get bU T (.Bc x y):=rfl
theorem Ie(lo hi:Option bE):cZ get bU T (.rJ x lo hi)=bG get bU T (.rJ x lo hi):=rfl
theorem O9(e:Nat)(lo hi mx:Option bE):cZ get bU T (.qM e x lo hi mx)=bG get bU T (.qM e x lo hi mx):=rfl
theorem Pa(e l:Nat)(lo hi mx:Option bE):cZ get bU T (.qN e l x lo hi mx)=bG get bU T (.qN e l x lo hi mx):=rfl
theorem Sm(n:Bool)(k:NK):cZ get bU T (.Dg n k x)=bG get bU T (.Dg n k x):=rfl
theorem WL(k:TY):cZ get bU T (.conv k x)=bG get bU T (.conv k x):=rfl
theorem Sn(t:TypeId):cZ get bU T (.iface t x)=bG get bU T (.iface t x):=rfl
theorem Aa4(e b:Nat):cZ get bU T (.tN e b x y)=bG get bU T (.tN e b x y):=rfl
theorem Pb(g:Bool)(l:List bE):cZ get bU T (.sN g l)=bG get bU T (.sN g l):=rfl
theorem Mb(e b:Nat)(z':List AV):cZ get bU T (.qe e b z' x y)=bG get bU T (.qe e b z' x y):=rfl
theorem So:cZ get bU T (.Bd)=bG get bU T (.Bd):=rfl
theorem WM(g:Bool)(sh:List CK)(z':AV)(ok:Bool):cZ get bU T (.look g sh z' ok x y)=bG get bU T (.look g sh z' ok x y):=rfl
theorem Pc(g:Bool)(sh:List CK):cZ get bU T (.qO g sh x y z)=bG get bU T (.qO g sh x y z):=rfl
theorem Aa5(n:Nat):cZ get bU T (.YC n x)=bG get bU T (.YC n x):=rfl
theorem Sp:cZ get bU T (.Dh x y z)=bG get bU T (.Dh x y z):=rfl
theorem Mc(t:TypeId)(ok:Bool):cZ get bU T (.xI t ok x)=bG get bU T (.xI t ok x):=rfl
theorem Aa6(e:Nat)(lo hi mx:Option AV):lU get e .aF lo hi mx=match fH 0 mx,fH 0 hi,fH 0 lo with
 |some 0,some 0,some 0=>some .aF
 |_,_,_=>none:=rfl
theorem Aa7(e b i n:Nat)(c:Option Nat)(lo hi mx:Option AV):lU get e (.slice b i n c) lo hi mx=match get b with
 |some (.row _ e' _)=>
  if e'≠e then none else
  match fH (c.getD n) mx,fH n hi,fH 0 lo with
  |some m,some h,some l=>
   if l<=h/\h<=m/\m<=c.getD n then
    some (.slice b (i+l) (h-l) (if mx.isSome then some (m-l)else c.map (·-l)))
   else none
  |_,_,_=>none
 |_=>none:=rfl
theorem Aa8(e:Nat):eW get e .aF=some []:=rfl
theorem Aa9(e:Nat):eW get e .fg=some []:=rfl
theorem Aba(e b i:Nat)(c:Option Nat):eW get e (.slice b i 0 c)=some []:=rfl
theorem Ur(e b i n:Nat)(c:Option Nat):eW get e (.slice b i (n+1) c)=match get b with
 |some (.row _ e' es)=>if e'=e then wU es i (n+1)else none
 |_=>none:=rfl
theorem Aiy(c:Bool):AV.cells? (.bool c)=some [.bool c]:=rfl
theorem Aiz(k:IntKind)(c:Int):AV.cells? (.int k c)=some [.int k c]:=rfl
theorem AiA(c:List UInt8):AV.cells? (.fN c)=some [.fN c]:=rfl
theorem AiB(x y z:Nat):AV.cells? (.ptr x y z)=some [.ptr x y z]:=rfl
theorem Abb:AV.cells? (.aF)=some [.aF]:=rfl
theorem Abc:AV.cells? (.fg)=some [.fg]:=rfl
theorem AiC(x y z:Nat)(c:Option Nat):AV.cells? (.slice x y z c)=some [.slice x y z c]:=rfl
theorem AiD(x:Nat):AV.cells? (.map x)=some [.map x]:=rfl
theorem AiE(f:FuncId)(x y:List AV):AV.cells? (.func f x y)=some [.func f x y]:=rfl
theorem AiF(l:List AV):AV.cells? (.agg l)=some l:=rfl
theorem Abd(b i o:Nat):AV.rM (.ptr b i o)=[b]:=rfl
theorem Abe(b i n:Nat)(c:Option Nat):AV.rM (.slice b i n c)=[b]:=rfl
theorem Abf(b:Nat):AV.rM (.map b)=[b]:=rfl
theorem WN:AV.rM .aF=[]:=rfl
theorem WO:AV.rM .fg=[]:=rfl
end
def sb:AV->Nat
 |.slice b _ _ _=>b
 |_=>0
def si:AV->Nat
 |.slice _ i _ _=>i
 |_=>0
inductive aT(h:aN)(e:Nat)(v:AV)(es:List (List AV)):Prop
 |none (hn:es=[]) (hv:v=.aF\/v=.fg\/v=.Hl 0)
 |some (b i:Nat) (c:Option Nat) (bS:Bool) (bI:List (List AV)) (hv:v=.slice b i es.length c) (hb:aj h b=some (.row bS e bI)) (hw:(bI.drop i).take es.length=es) (hc:∀k,c=Option.some k->es.length<=k)
section
variable{h:aN}{e:Nat}{v:AV}{es:List (List AV)}
theorem aT.sc(H:aT h e v es):v.cU=true:=by
 rcases H with⟨_,rfl|rfl|rfl⟩|⟨_,_,_,_,_,rfl,_,_,_⟩<;>rfl
theorem aT.cells(H:aT h e v es):v.cells?=.some [v]:=by
 rcases H with⟨_,rfl|rfl|rfl⟩|⟨_,_,_,_,_,rfl,_,_,_⟩<;>rfl
theorem aT.len(H:aT h e v es)(get:Nat->Option bp):Gf get .slice v=.some (.int .i64 es.length,[]):=by
 rcases H with⟨rfl,rfl|rfl|rfl⟩|⟨_,_,_,_,_,rfl,_,_,_⟩<;>rfl
theorem aT.cj(H:aT h e v es):∀b∈v.cj,b<h.length:=by
 rcases H with⟨rfl,rfl|rfl|rfl⟩|⟨b,_,_,_,_,rfl,hb,_,_⟩
 .intro x hx;cases hx
 .intro x hx;cases hx
 .intro x hx;cases hx
 .intro x hx;simp only[AV.cj,mem_singleton]at hx;subst hx;exact ag hb
theorem aT.mE(H:aT h e v es)(l:List (Option bp))(k:Nat)(hk:k<es.length):Gg (aj (aR h l)) e v (.int .i64 k)=.some (.ptr (sb v) (si v+k) 0,[]):=by
 rcases H with⟨rfl,_⟩|⟨b,i,c,bS,bI,rfl,hb,hw,hc⟩
 .simp at hk
 .rw[O5,an l h b (ag hb),hb,O6];simp[sb,si,hk]
theorem aT.ld(H:aT h e v es)(l:List (Option bp))(k:Nat)(x:List AV)(hx:es[k]?=.some x) (g:Bool) (n o:Nat) (hn:0<n) (ho:o+n<=e):H8 (aj (aR h l)) g n (.ptr (sb v) (si v+k) o)=EN g (.some ((x.drop o).take n)):=by
 rcases H with⟨rfl,_⟩|⟨b,i,c,bS,bI,rfl,hb,hw,hc⟩
 .simp at hx
 .have hr:bI[i+k]?=.some x:=by
   have h1:((bI.drop i).take es.length)[k]?=.some x:=by rw[hw];exact hx
   rw[getElem?_take,getElem?_drop]at h1;split at h1
   .exact h1
   .cases h1
  show H8 _ g n (.ptr b (i+k) o)=_;rw[DL,an l h b (ag hb),hb,JQ];congr 1;have jU:Nat.ble e o=false:=by
   cases hq:Nat.ble e o with
   |false=>rfl
   |true=>have:=Nat.le_of_ble_eq_true hq;omega
  simp only[fG,jU,cond_false,iT,aG ho,hr]
theorem aT.bw{m m':Mem}(H:aT m.ah e v es)(k:aY m m'):aT m'.ah e v es:=by
 rcases H with⟨hn,hv⟩|⟨b,i,c,bS,bI,hv,hb,hw,hc⟩
 .exact .none hn hv
 .exact .some b i c bS bI hv ((k.get b (ag hb)).trans hb) hw hc
theorem aT.bx(H:aT h e v es)(l:List (Option bp)):aT (aR h l) e v es:=by
 rcases H with⟨hn,hv⟩|⟨b,i,c,bS,bI,hv,hb,hw,hc⟩
 .exact .none hn hv
 .exact .some b i c bS bI hv ((an l h b (ag hb)).trans hb) hw hc
theorem aT.pre(H:aT h e v es)(k:Nat)(hk:k<es.length):∃v',(∀l,lU (aj (aR h l)) e v .none (.some (.int .i64 k)) .none=.some v')/\aT h e v' (es.take k):=by
 rcases H with⟨rfl,_⟩|⟨b,i,c,bS,bI,rfl,hb,hw,hc⟩
 .simp at hk
 .refine⟨.slice b i k c,λl=>?_,.some b i c bS bI (by simp[Nat.min_eq_left (Nat.le_of_lt hk)]) hb ?_ (λq hq=>?_)⟩
  .have e1:k<=c.getD es.length:=by
    cases hq:c with
    |none=>simp;omega
    |some q=>have:=hc q hq;simp;omega
   have e2:c.map (·-0)=c:=by cases c<;>rfl
   simp only[lU,an l h b (ag hb),hb,fH,ne_eq,not_true_eq_false,if_false,Int.natCast_nonneg,if_true,Int.toNat_natCast,isSome_none,Bool.false_eq_true,Nat.add_zero];rw[aG ⟨Nat.zero_le _,e1,cB⟩,e2];rfl
  .rw[length_take,Nat.min_eq_left (Nat.le_of_lt hk)];conv=>rhs;rw[<-hw,take_take,Nat.min_eq_left (Nat.le_of_lt hk)]
  .have:=hc q hq;rw[length_take];omega
end
def Qe(v:AV)(m0:Mem):AV->Mem->Prop:=λv' m'=>v'=v/\aY m0 m'
theorem q_e(v v':AV)(m0 m':Mem):Qe v m0 v' m'=(v'=v/\aY m0 m'):=rfl
theorem AiG(h:aN)(lg bq d:List Nat)(l:List (Option bp))(hl:dm h lg bq):aY ⟨h,lg,d⟩ ⟨aR h l,bq,d⟩:=aH hl
theorem WQ(h:aN)(lg:List Nat):dm h lg lg:=.nil
theorem Sq(h:aN)(lg l:List Nat)(k:Nat)(H:dm h lg l):dm h lg (nb h k::l):=.cons H
theorem aY.at{h h':aN}{lg bq d d':List Nat}{l0:List (Option bp)}(k:aY ⟨aR h l0,lg,d⟩ ⟨h',bq,d'⟩)(l:List (Option bp))(j:Nat)(hj:j<fY l0):aj (aR h' l) (nb h j)=fj l0 j:=by
 have jU:nb h j<(aR h l0).length:=by rw[jR,nb,nb];omega
 have h1:=k.get (nb h j) jU;have h2:=k.len;simp only at h1 h2 jU;rw[an l h' _ Z,h1,bj]
theorem aY.bx{m0:Mem}{h':aN}{bq dx d':List Nat}(k:aY m0 ⟨h',bq,d'⟩)(l:List (Option bp))(q:dm h' bq dx):aY m0 ⟨aR h' l,dx,d'⟩:=k.trans (aH q)
def oH(T T':Tr):Prop:=∀p,dL p T=dL p T'
theorem oH.refl(T:Tr):oH T T:=λ_=>rfl
theorem oH.set{T T':Tr}(h:oH T T')(v:AV)(q:cO):oH (gq v q T) (gq v q T'):=λp=>by
 simp only[iR,h p]
theorem oH.cP{T T':Tr}(h:oH T T'):cP T=cP T':=funext λx=>by
 cases x with
 |t p=>exact h p
 |c v=>rfl
theorem oH.put{T T':Tr}(h:oH T T')(d:Option cO)(v:AV):oH (eU T d v) (eU T' d v):=by
 cases d with
 |none=>exact h
 |some p=>exact h.set v p
theorem JR(T:Tr):∀l,wW T l=l.map (cP T)
 |[]=>rfl
 |x::l=>by simp[wW,JR T l]
theorem oH.HX{T T':Tr}(h:oH T T')(get:Nat->Option bp)(n:Nat)(op:j6):bG get n T op=bG get n T' op:=by
 have e:=h.cP;cases op<;>simp only[bG,e]
theorem oH.Us{T T':Tr}(h:oH T T')(get:Nat->Option bp)(n:Nat)(op:j6):cZ get n T op=cZ get n T' op:=by
 rw[oV,oV,h.HX]
theorem oH.callee{T T':Tr}(h:oH T T')(get:Nat->Option bp)(au:bR)(op:j6):eD get au T op=eD get au T' op:=by
 have e:=h.cP;have p:∀g n v,bG get 0 T (.load g n (.c v))=bG get 0 T' (.load g n (.c v)):=λg n v=>h.HX get 0 _
 cases op<;>simp only[eD,JR,e,p]
theorem oH.kL{T T':Tr}(h:oH T T')(op:j6):op.kL T=op.kL T':=by
 have e:=h.cP;cases op<;>simp only[j6.kL,bE.rM,e]
def Fr(l:List cO)(T T':Tr):Prop:=∀p,p∉l->dL p T'=dL p T
theorem Fr.refl(l:List cO)(T:Tr):Fr l T T:=λ_ _=>rfl
theorem Fr.trans{l k:List cO}{T T' T'':Tr}(h:Fr l T T')(h':Fr k T' T''):Fr (l++k) T T'':=λp hp=>by
 rw[mem_append]at hp;exact(h' p λq=>hp (.inr q)).trans (h p λq=>hp (.inl q))
theorem Fr.sub{l k:List cO}{T T':Tr}(h:Fr l T T')(hs:∀p∈l,p∈k):Fr k T T':=λp hp=>h p λq=>hp (hs p q)
def Gm:Option cO->List cO
 |some p=>[p]
 |none=>[]
def Pd:List cS->List cO
 |[]=>[]
 |o::os=>Gm o.dst++Pd os
def nX:eQ->List cO
 |.region _ _ dC=>Pd dC
 |.seq a b=>nX a++nX b
 |.cond _ a b=>nX a++nX b
 |.block _ c=>nX c
 |.loop c=>nX c
 |_=>[]
theorem Fr.put(T:Tr)(d:Option cO)(v:AV):Fr (Gm d) T (eU T d v):=λp hp=>by
 cases d with
 |none=>rfl
 |some q=>simp only[Gm,mem_singleton]at hp;simp only[eU,iR,aq hp]
theorem Fr.set{T:Tr}{t:cO}{v:AV}(h:dL t T=v):Fr [] T (gq v t T):=λp _=>by
 rw[iR];split
 .rename_i e;rw[e,h]
 .rfl
section
variable{call:eX}{wc:gy}{au:bR}
def JS(wc:gy):Prop:=∀c vs m (Q Q':AV->Mem->Prop),(∀v m',Q v m'->Q' v m')->wc c vs m Q->wc c vs m Q'
theorem Ig(hm:JS wc){pu:Bool}:∀(os:List cS) (T T1:Tr) (m:Mem) (K K1:Tr->Mem->Prop),Wo wc au pu os T m K->oH T T1->(∀T' sL m',oH T' sL->Fr (Pd os) T1 sL->K T' m'->K1 sL m')->Wo wc au pu os T1 m K1
 |[],T,T1,m,K,K1,h,e,hk=>hk T T1 m e (Fr.refl _ _) h
 |o::os,T,T1,m,K,K1,h,e,hk=>by
  have ih:=λ(T sL:Tr) (m:Mem) (f:Fr (Gm o.dst) T1 sL) (h:Wo wc au pu os T m K) (e:oH T sL)=>Ig hm os T sL m K K1 h e λT' T2 m' e' f'=>hk T' T2 m' e' (f.trans f')
  have skip:∀T T2,Fr [] T1 T2->oH T T2->Wo wc au pu os (eU T o.dst .undef) m K->Wo wc au pu os (eU T2 o.dst .undef) m K1:=λT T2 f e h=>ih _ _ m ((f.trans (Fr.put T2 o.dst .undef)).sub (by simp)) h (e.put _ _)
  have run:∀T T2,Fr [] T1 T2->oH T T2->L8 wc au pu o os m K T->L8 wc au pu o os m K1 T2:=λT T2 f e h=>by
   have fp:=λv=>((f.trans (Fr.put T2 o.dst v)).sub (k:=Gm o.dst) (by simp))
   unfold L8 at h|-;rw[<-e.callee,<-e.Us];generalize o.op.dZ=b at h|-;generalize eD (aj m.ah) au T o.op=r at h|-;generalize cZ (aj m.ah) m.ah.length T o.op=x at h|-;cases b with
   |true=>cases r with
    |none=>exact h
    |some p=>cases pu with
     |true=>exact hm _ _ _ _ _ (λv m' hq=>⟨hq.1,ih _ _ m (fp v) hq.2 (e.put _ _)⟩) h
     |false=>exact hm _ _ _ _ _ (λv m' hq=>ih _ _ m' (fp v) hq (e.put _ _)) h
   |false=>cases x with
    |none=>exact h
    |some p=>
     obtain⟨v,cs⟩:=p
     cases pu with
     |true=>cases cs with
      |nil=>exact ih _ _ m (fp v) h (e.put _ _)
      |cons c cs=>exact h
     |false=>exact ih _ _ _ (fp v) h (e.put _ _)
  rw[Wo]at h|-;cases hg:o.guard with
  |none=>
   rw[hg]at h;exact run T T1 (Fr.refl _ _) e h
  |some p=>
   obtain⟨t,w⟩:=p;rw[hg]at h;simp only at h|-;rw[<-e t];cases hx:dL t T with
   |bool b=>
    rw[hx]at h;have JI:dL t T1=.bool b:=(e t).symm.trans hx;simp only at h|-;refine⟨λhb=>?_,λhb=>?_⟩
    .subst hb;have h:=h.1 rfl;cases w with
     |true=>exact run _ _ (Fr.set JI) (e.set _ _) h
     |false=>exact skip _ _ (Fr.set JI) (e.set _ _) h
    .subst hb;have h:=h.2 rfl;cases w with
     |true=>exact skip _ _ (Fr.set JI) (e.set _ _) h
     |false=>exact run _ _ (Fr.set JI) (e.set _ _) h
   |undef=>rw[hx]at h;exact skip T T1 (Fr.refl _ _) e h
   |_=>rw[hx]at h;exact h.elim
theorem Pe(hm:JS wc){bC:Nat}:∀(os:List cS) (i:Nat) (cq:List jN) (T T1:Tr) (m:Mem) (K K1:Tr->Mem->Prop),Wr wc au bC i os cq T m K->oH T T1->(∀T' sL m',oH T' sL->Fr (Pd os) T1 sL->K T' m'->K1 sL m')->Wr wc au bC i os cq T1 m K1
 |[],i,cq,T,T1,m,K,K1,h,e,hk=>hk T T1 m e (Fr.refl _ _) h
 |o::os,i,cq,T,T1,m,K,K1,h,e,hk=>by
  have ih:=λ(cq:List jN) (T sL:Tr) (m:Mem) (f:Fr (Gm o.dst) T1 sL) (h:Wr wc au bC (i+1) os cq T m K) (e:oH T sL)=>Pe hm os (i+1) cq T sL m K K1 h e λT' T2 m' e' f'=>hk T' T2 m' e' (f.trans f')
  have skip:∀T T2,Fr [] T1 T2->oH T T2->Wr wc au bC (i+1) os cq (eU T o.dst .undef) m K->Wr wc au bC (i+1) os cq (eU T2 o.dst .undef) m K1:=λT T2 f e h=>ih _ _ _ m ((f.trans (Fr.put T2 o.dst .undef)).sub (by simp)) h (e.put _ _)
  have run:∀T T2,Fr [] T1 T2->oH T T2->Wrr wc au bC i o os cq m K T->Wrr wc au bC i o os cq m K1 T2:=λT T2 f e h=>by
   have fp:=λv=>((f.trans (Fr.put T2 o.dst v)).sub (k:=Gm o.dst) (by simp))
   unfold Wrr at h|-;have eo:∀f rd gu n,Ro f rd gu m.ah n T2 o.op=Ro f rd gu m.ah n T o.op:=λf rd gu n=>by cases f<;>simp only[Ro,e.Us]
   simp only[<-e.callee,<-e.kL,eo]at h|-;generalize o.op.dZ=b at h|-;cases b with
   |true=>
    simp only at h|-;generalize eD (aj (mA m.ah ((cq.filter λr:jN=>!ins o.after r.mE).flatMap λx:jN=>x.wr))) au T o.op=r at h|-;cases r with
    |none=>exact h
    |some p=>exact hm _ _ _ _ _ (λv m' hq=>⟨hq.1,ih _ _ _ _ (fp v) hq.2 (e.put _ _)⟩) h
   |false=>
    simp only at h|-;generalize Ro (o.op.qz&&((cq.filter λr:jN=>!ins o.after r.mE).flatMap λx:jN=>x.wr).isEmpty) (o.op.kL T) ((cq.filter λr:jN=>!ins o.after r.mE).flatMap λx:jN=>x.wr) m.ah (m9 bC m.ah.length o.iN) T o.op=x at h|-;cases x with
    |none=>exact h
    |some p=>
     obtain⟨v,cs⟩:=p;exact⟨h.1,ih _ _ _ _ (fp v) h.2 (e.put _ _)⟩
  rw[Wr]at h|-;cases hg:o.guard with
  |none=>
   rw[hg]at h;exact run T T1 (Fr.refl _ _) e h
  |some p=>
   obtain⟨t,w⟩:=p;rw[hg]at h;simp only at h|-;rw[<-e t];cases hx:dL t T with
   |bool b=>
    rw[hx]at h;have JI:dL t T1=.bool b:=(e t).symm.trans hx;simp only at h|-;refine⟨λhb=>?_,λhb=>?_⟩
    .subst hb;have h:=h.1 rfl;cases w with
     |true=>exact run _ _ (Fr.set JI) (e.set _ _) h
     |false=>exact skip _ _ (Fr.set JI) (e.set _ _) h
    .subst hb;have h:=h.2 rfl;cases w with
     |true=>exact skip _ _ (Fr.set JI) (e.set _ _) h
     |false=>exact run _ _ (Fr.set JI) (e.set _ _) h
   |undef=>rw[hx]at h;exact skip T T1 (Fr.refl _ _) e h
   |_=>rw[hx]at h;exact h.elim
theorem mc(hm:JS wc)(fu:Nat):∀(c:eQ) (T T1:Tr) (m:Mem) (K K1:cT->Tr->Mem->Prop),Wc call wc au fu c T m K->oH T T1->
 (∀e T' sL m',oH T' sL->Fr (nX c) T1 sL->K e T' m'->K1 e sL m')->Wc call wc au fu c T1 m K1
 |.skip,T,T1,m,K,K1,h,e,hk=>hk _ _ _ _ e (Fr.refl _ _) h
 |.mW,_,_,_,_,_,h,_,_=>h.elim
 |.exit id,T,T1,m,K,K1,h,e,hk=>hk _ _ _ _ e (Fr.refl _ _) h
 |.ret,T,T1,m,K,K1,h,e,hk=>hk _ _ _ _ e (Fr.refl _ _) h
 |.rangeFunc f ps a b,T,T1,m,K,K1,h,e,hk=>by
  rw[Wc]at h|-;intro T2 e2;obtain⟨x,m',q1,q2⟩:=h T2 (λp=>(e p).trans (e2 p));exact⟨x,m',q1,hk _ _ _ _ e (Fr.refl _ _) q2⟩
 |.region false ns dC,T,m,T1,K,K1,h,e,hk=>Ig hm dC _ _ _ _ _ h e (λT' sL m' e' f q=>hk _ _ _ _ e' f q)
 |.region true ns dC,T,T1,m,K,K1,h,e,hk=>by
  simp only[Wc]at h|-;generalize (Nat.beq ns 0&&tB 0 [] dC)=b at h|-;cases b with
  |true=>exact Ig hm dC _ _ _ _ _ h e (λT' sL m' e' f q=>hk _ _ _ _ e' f q)
  |false=>
   exact Pe hm dC _ _ _ _ _ _ _ h e (λT' sL m' e' f q=>hk _ _ _ _ e' f q)
 |.seq a b,T,T1,m,K,K1,h,e,hk=>by
  rw[Wc]at h|-;refine mc hm fu a T T1 m _ _ h e λx T' sL m' e' f q=>?_
  cases x with
  |normal=>exact mc hm fu b T' sL m' K K1 q e' λy T2 JT m2 e2 f2 q2=>hk y T2 JT m2 e2 (f.trans f2) q2
  |exit j=>exact hk _ _ _ _ e' (f.sub λp hp=>by simp only[nX,mem_append];exact .inl hp) q
  |ret=>exact hk _ _ _ _ e' (f.sub λp hp=>by simp only[nX,mem_append];exact .inl hp) q
 |.cond c a b,T,T1,m,K,K1,h,e,hk=>by
  simp only[Wc]at h|-;rw[<-e.cP];split at h
  .rename_i hx;exact mc hm fu a T T1 m K K1 h e λx T' sL m' e' f q=>hk _ _ _ _ e' (f.sub λp hp=>by simp only[nX,mem_append];exact .inl hp) q
  .rename_i hx;exact mc hm fu b T T1 m K K1 h e λx T' sL m' e' f q=>hk _ _ _ _ e' (f.sub λp hp=>by simp only[nX,mem_append];exact .inr hp) q
  .exact h.elim
 |.block id c,T,T1,m,K,K1,h,e,hk=>by
  rw[Wc]at h|-;refine mc hm fu c T T1 m _ _ h e λx T' sL m' e' f q=>?_
  cases x with
  |normal=>exact hk _ _ _ _ e' f q
  |ret=>exact hk _ _ _ _ e' f q
  |exit j=>
   simp only[Kb]at q|-;cases hj:Nat.beq j id with
   |true=>rw[hj]at q;exact hk _ _ _ _ e' f q
   |false=>rw[hj]at q;exact hk _ _ _ _ e' f q
 |.loop c,T,T1,m,K,K1,h,e,hk=>by
  rw[Wc]at h|-;obtain⟨N,I,hN,h0,hs,hl⟩:=h;have step:∀(J J1:Tr->Mem->Prop) (T2 JT:Tr) (m2:Mem),oH T2 JT->Fr (nX c) T1 JT->(∀T' sL m',oH T' sL->Fr (nX c) T1 sL->J T' m'->J1 sL m')->Wc call wc au fu c T2 m2 (Ks J K)->Wc call wc au fu c JT m2 (Ks J1 K1):=λJ J1 T2 JT m2 e2 f2 hJ h=>by
   refine mc hm fu c T2 JT m2 _ _ h e2 λx T' sL m' e' f q=>?_
   have ff:Fr (nX c) T1 sL:=(f2.trans f).sub (by simp);cases x with
   |normal=>exact hJ _ _ _ e' ff q
   |exit j=>exact hk _ _ _ _ e' ff q
   |ret=>exact hk _ _ _ _ e' ff q
  refine⟨N,λi JT m2=>∃T2,oH T2 JT/\Fr (nX c) T1 JT/\I i T2 m2,hN,⟨T,e,Fr.refl _ _,h0⟩,λi JT m2 hi ⟨T2,e2,f2,hI⟩=>?_,λJT m2 ⟨T2,e2,f2,hI⟩=>?_⟩
  .exact step _ _ T2 JT m2 e2 f2 (λT' sL m' e' f q=>⟨T',e',f,q⟩) (hs i T2 m2 hi hI)
  .exact step _ _ T2 JT m2 e2 f2 (λT' sL m' e' f q=>q) (hl T2 m2 hI)
theorem Ut{rs:List ze}{d:List Nat}{Q Q':AV->Mem->Prop}(hQ:∀v m,Q v m->Q' v m){e:cT}{T T1:Tr}{m:Mem}(ht:oH T T1)(h:Kr rs d Q e T m):Kr rs d Q' e T1 m:=by
 have hr:∀(get:Nat->Option bp) (r:ze),xL get T r=xL get T1 r:=λget r=>by
  cases r with
  |tmp t=>simp only[xL,ht t]
  |cell t a n=>simp only[xL,ht.HX]
 have hl:∀(get:Nat->Option bp) (rs:List ze),tQ get T rs=tQ get T1 rs:=λget rs=>by
  induction rs with
  |nil=>rfl
  |cons r rs ih=>simp only[tQ,hr,ih]
 unfold Kr at h|-;cases e with
 |exit j=>exact h
 |normal=>
  simp only[zh,<-hl]at h|-;generalize tQ (aj (m.gC m.aV).ah) T rs=y at h|-;rcases y with _|_|⟨v,_|⟨w,r⟩⟩
  .exact h
  .exact hQ _ _ h
  .exact hQ _ _ h
  .exact hQ _ _ h
 |ret=>
  simp only[zh,<-hl]at h|-;generalize tQ (aj (m.gC m.aV).ah) T rs=y at h|-;rcases y with _|_|⟨v,_|⟨w,r⟩⟩
  .exact h
  .exact hQ _ _ h
  .exact hQ _ _ h
  .exact hQ _ _ h
theorem dE{F:FuncId->Option bD}{sm:ct}:∀n,JS (Wa F au sm n)
 |0=>λc vs m Q Q' hQ h=>h.elim
 |n+1=>λc vs m Q Q' hQ h=>by
  cases c with
  |yield l=>
   obtain⟨v,m',q1,q2⟩:=h;exact⟨v,m',q1,hQ _ _ q2⟩
  |fn f=>
   rw[Wa]at h|-;cases hs:sm f vs m with
   |some r=>rw[hs]at h;exact hQ _ _ h
   |none=>
    rw[hs]at h;simp only at h|-;cases hF:F f with
    |none=>rw[hF]at h;exact h
    |some fn=>
     rw[hF]at h;exact⟨h.1,mc (dE n) n _ _ _ _ _ _ h.2 (oH.refl _) λe T' sL m' e' _ q=>Ut hQ e' q⟩
end
def Cl(E:cT->Tr->Mem->Prop):Prop:=∀e T T' m,oH T T'->E e T m->E e T' m
theorem Gn(rs:List ze)(d:List Nat)(Q:AV->Mem->Prop):Cl (Kr rs d Q):=λ_ _ _ _ h q=>Ut (λ_ _ h=>h) h q
theorem Gp{i:Nat}{E:cT->Tr->Mem->Prop}(h:Cl E):Cl (Kb i E):=λe T T' m q k=>by
 cases e with
 |normal=>exact h _ _ _ _ q k
 |ret=>exact h _ _ _ _ q k
 |exit j=>
  simp only[Kb]at k|-;cases hj:Nat.beq j i with
  |true=>rw[hj]at k;exact h _ _ _ _ q k
  |false=>rw[hj]at k;exact h _ _ _ _ q k
theorem Gq{F:FuncId->Option bD}{au:bR}{sm:ct}{n fu:Nat}{call:eX}{b:eQ}{E:cT->Tr->Mem->Prop}(h:Cl E):Cl (Kq call (Wa F au sm n) au fu b E):=λe T T' m q k=>by
 cases e with
 |normal=>exact mc (dE n) fu b T T' m E E k q λx T1 T2 m' e' _ h'=>h _ _ _ _ e' h'
 |ret=>exact h _ _ _ _ q k
 |exit j=>exact h _ _ _ _ q k
def uU:List cO->List AV->Tr->Tr
 |p::ps,v::vs,T=>uU ps vs (gq v p T)
 |_,_,T=>T
def uV(g:cO->AV):List cO->Tr->Tr
 |[],T=>T
 |p::ps,T=>uV g ps (gq (g p) p T)
def Ih(p:cO):List cO->Bool
 |[]=>false
 |q::qs=>if p=q then true else Ih p qs
def ur(dM:List cO):List cO->List cO
 |[]=>[]
 |p::ps=>cond (Ih p dM) (ur dM ps) (p::ur dM ps)
theorem BX(p:cO):∀l,Ih p l=true↔p∈l
 |[]=>by simp[Ih]
 |q::l=>by
  rw[Ih];split
  .rename_i h;simp[h]
  .rename_i h;rw[BX p l];simp[h]
theorem nU(dM:List cO)(p:cO):∀l,p∈ur dM l↔p∈l/\p∉dM
 |[]=>by simp[ur]
 |q::l=>by
  rw[ur];cases h:Ih q dM with
  |true=>
   rw[cond_true,nU dM p l];have:=(BX _ _).1 h;constructor
   .rintro ⟨a,b⟩;exact⟨mem_cons_of_mem _ a,b⟩
   .rintro ⟨a,b⟩;rcases mem_cons.1 a with rfl|a
    .exact absurd this b
    .exact⟨a,b⟩
  |false=>
   have hn:q∉dM:=λh'=>by rw[(BX _ _).2 h']at h;cases h
   rw[cond_false,mem_cons,nU dM p l,mem_cons];constructor
   .rintro (rfl|⟨a,b⟩)
    .exact⟨.inl rfl,hn⟩
    .exact⟨.inr a,b⟩
   .rintro ⟨rfl|a,b⟩
    .exact .inl rfl
    .exact .inr ⟨a,b⟩
theorem vK(g:cO->AV)(q:cO):∀(l:List cO) (T:Tr),dL q (uV g l T)=if q∈l then g q else dL q T
 |[],T=>by simp[uV]
 |p::l,T=>by
  rw[uV,vK g q l,iR];by_cases h1:q∈l<;>by_cases h2:q=p<;>simp[h1,h2]
theorem vL(g:cO->AV)(q:cO):∀(l:List cO) (T:Tr),dL q (uU l (l.map g) T)=if q∈l then g q else dL q T
 |[],T=>by simp[uU]
 |p::l,T=>by
  rw[map_cons,uU,vL g q l,iR];by_cases h1:q∈l<;>by_cases h2:q=p<;>simp[h1,h2]
def Kv(dM:List cO)(vs:List AV)(P:Mem->Prop)(E:cT->Tr->Mem->Prop):cT->Tr->Mem->Prop
 |.normal,T,m=>dM.map (λp=>dL p T)=vs/\P m
 |e,T,m=>E e T m
theorem dV{F:FuncId->Option bD}{au:bR}{sm:ct}{n fu:Nat}{call:eX}{c:eQ}{T0:Tr}{m:Mem}{E:cT->Tr->Mem->Prop}(N:Nat)(dM:List cO)(V:Nat->List AV)(P:Nat->Mem->Prop)(hN:N<fu)(hE:Cl E)
 (h0:dM.map (λp=>dL p T0)=V 0/\P 0 m)
 (hs:∀i m g,i<N->P i m->Wc call (Wa F au sm n) au fu c (uU dM (V i) (uV g (ur dM (nX c)) T0)) m (Kv dM (V (i+1)) (P (i+1)) E))
 (hl:∀m g,P N m->Wc call (Wa F au sm n) au fu c (uU dM (V N) (uV g (ur dM (nX c)) T0)) m (Kv dM [.undef] (λ_=>False) E)):Wc call (Wa F au sm n) au fu (.loop c) T0 m E:=by
 have key:∀i T,Fr (nX c) T0 T->dM.map (λp=>dL p T)=V i->oH (uU dM (V i) (uV (λp=>dL p T) (ur dM (nX c)) T0)) T:=λi T f hv q=>by
  rw[<-hv,vL (λp=>dL p T),vK];by_cases h1:q∈dM
  .rw[aG h1]
  .rw[aq h1];by_cases h2:q∈nX c
   .rw[aG ((nU _ _ _).2 ⟨h2,h1⟩)]
   .rw[aq (λh=>h2 ((nU _ _ _).1 h).1)];exact(f q h2).symm
 refine Up N (λi T m=>Fr (nX c) T0 T/\dM.map (λp=>dL p T)=V i/\P i m) hN ⟨Fr.refl _ _,h0⟩ (λi T m hi ⟨f,hv,hp⟩=>?_) (λT m ⟨f,hv,hp⟩=>?_)
 .refine mc (dE n) fu c _ T m _ _ (hs i m (λp=>dL p T) hi hp) (key i T f hv) λe T' sL m' e' f' q=>?_
  cases e with
  |normal=>exact⟨(f.trans f').sub (by simp),by rw[<-q.1];exact map_congr_left λp _=>(e' p).symm,q.2⟩
  |exit j=>exact hE _ _ _ _ e' q
  |ret=>exact hE _ _ _ _ e' q
 .refine mc (dE n) fu c _ T m _ _ (hl m (λp=>dL p T) hp) (key N T f hv) λe T' sL m' e' f' q=>?_
  cases e with
  |normal=>exact q.2
  |exit j=>exact hE _ _ _ _ e' q
  |ret=>exact hE _ _ _ _ e' q
def Q5(call:eX)(wc:gy)(au:bR)(fu:Nat)(c:eQ):Nat->Tr->Mem->(cT->Tr->Mem->Prop)->Prop
 |0,_,_,_=>False
 |k+1,T,m,E=>Wc call wc au fu c T m (Ks (λT m=>Q5 call wc au fu c k T m E) E)
def Ku(call:eX)(wc:gy)(au:bR)(fu:Nat)(c:eQ)(k:Nat)(E:cT->Tr->Mem->Prop):cT->Tr->Mem->Prop:=Ks (λT m=>Q5 call wc au fu c k T m E) E
section
variable(call:eX)(wc:gy)(au:bR)(fu:Nat)(c:eQ)(k:Nat)(T:Tr)(m:Mem)(E:cT->Tr->Mem->Prop)
theorem u_s:Q5 call wc au fu c (k+1) T m E=Wc call wc au fu c T m (Ku call wc au fu c k E):=rfl
theorem u_n:Ku call wc au fu c k E .normal T m=Q5 call wc au fu c k T m E:=rfl
theorem u_e(i:Nat):Ku call wc au fu c k E (.exit i) T m=E (.exit i) T m:=rfl
end
theorem yg{call:eX}{wc:gy}{au:bR}{fu:Nat}{c:eQ}{T:Tr}{m:Mem}{E:cT->Tr->Mem->Prop}(k:Nat)(hk:k<fu)(h:Q5 call wc au fu c (k+1) T m E):Wc call wc au fu (.loop c) T m E:=by
 rw[Wc];refine⟨k,λi T m=>Q5 call wc au fu c (k+1-i) T m E,hk,h,λi T m hi hI=>?_,λT m hI=>?_⟩
 .simp only at hI;rw[show k+1-i=(k-i)+1 by omega,Q5]at hI;have e:(λT m=>Q5 call wc au fu c (k+1-(i+1)) T m E)=λT m=>Q5 call wc au fu c (k-i) T m E:=by rw[show k+1-(i+1)=k-i by omega]
  simp only[e];exact hI
 .simp only at hI;rw[show k+1-k=0+1 by omega,Q5]at hI;exact hI
theorem Pf(dM:List cO)(vs:List AV)(P:Mem->Prop)(E:cT->Tr->Mem->Prop)(T:Tr)(m:Mem):Kv dM vs P E .normal T m=(dM.map (λp=>dL p T)=vs/\P m):=rfl
theorem Pg(dM:List cO)(vs:List AV)(P:Mem->Prop)(E:cT->Tr->Mem->Prop)(T:Tr)(m:Mem)(i:Nat):Kv dM vs P E (.exit i) T m=E (.exit i) T m:=rfl
theorem v_r(dM:List cO)(vs:List AV)(P:Mem->Prop)(E:cT->Tr->Mem->Prop)(T:Tr)(m:Mem):Kv dM vs P E .ret T m=E .ret T m:=rfl
theorem aY.cg{h h':aN}{lg kq bq d:List Nat}{l0:List (Option bp)}(k:aY ⟨aR h l0,kq,[]⟩ ⟨h',bq,[]⟩)(q0:dm h lg kq)(l:List (Option bp))(dx:List Nat)(q:dm h' bq dx):aY ⟨h,lg,d⟩ ⟨aR h' l,dx,d⟩:=by
 have k1:aY ⟨h,lg,d⟩ ⟨aR h l0,kq,d⟩:=aH q0;have k2:aY ⟨aR h l0,kq,d⟩ ⟨h',bq,d⟩:=k.sub (d:=d);have k3:aY ⟨h',bq,d⟩ ⟨aR h' l,dx,d⟩:=aH q;exact(k1.trans k2).trans k3
theorem aY.sl{h h':aN}{kq bq:List Nat}{l0:List (Option bp)}(k:aY ⟨aR h l0,kq,[]⟩ ⟨h',bq,[]⟩){e:Nat}{v:AV}{es:List (List AV)}(H:aT h e v es):aT h' e v es:=aT.bw (m:=⟨aR h l0,kq,[]⟩) (m':=⟨h',bq,[]⟩) (H.bx l0) k
theorem aY.sl'{h h':aN}{kq bq:List Nat}{l0:List (Option bp)}(k:aY ⟨aR h l0,kq,[]⟩ ⟨h',bq,[]⟩){e:Nat}{v:AV}{es:List (List AV)}(H:aT (aR h l0) e v es):aT h' e v es:=aT.bw (m:=⟨aR h l0,kq,[]⟩) (m':=⟨h',bq,[]⟩) H k
theorem bL{F:FuncId->Option bD}{au:bR}{sm:ct}{n fu:Nat}{call:eX}{c:eQ}{T0:Tr}{h:aN}{l0:List (Option bp)}{kq:List Nat}{E:cT->Tr->Mem->Prop}(N:Nat)(dM:List cO)(V:Nat->List AV)(P:Nat->Prop)(hN:N<fu)(hE:Cl E)
 (h0:dM.map (λp=>dL p T0)=V 0/\P 0)
 (hs:∀i h' bq g,i<N->P i->aY ⟨aR h l0,kq,[]⟩ ⟨h',bq,[]⟩->Wc call (Wa F au sm n) au fu c (uU dM (V i) (uV g (ur dM (nX c)) T0)) ⟨aR h' [],bq,[]⟩ (Kv dM (V (i+1)) (λm'=>aY ⟨aR h l0,kq,[]⟩ m'/\P (i+1)) E))
 (hl:∀h' bq g,P N->aY ⟨aR h l0,kq,[]⟩ ⟨h',bq,[]⟩->Wc call (Wa F au sm n) au fu c (uU dM (V N) (uV g (ur dM (nX c)) T0)) ⟨aR h' [],bq,[]⟩ (Kv dM [.undef] (λ_=>False) E)):Wc call (Wa F au sm n) au fu (.loop c) T0 ⟨aR h l0,kq,[]⟩ E:=by
 refine dV N dM V (λi m'=>aY ⟨aR h l0,kq,[]⟩ m'/\P i) hN hE ⟨h0.1,aY.refl _,h0.2⟩ (λi m g hi ⟨k,p⟩=>?_) (λm g ⟨k,p⟩=>?_)
 .obtain⟨h',bq,d'⟩:=m;obtain rfl:d'=[]:=k.aV;exact hs i h' bq g hi p k
 .obtain⟨h',bq,d'⟩:=m;obtain rfl:d'=[]:=k.aV;exact hl h' bq g p k
theorem aY.all{h h':aN}{lg kq bq d:List Nat}{l0:List (Option bp)}(k:aY ⟨aR h l0,kq,[]⟩ ⟨h',bq,[]⟩)(q0:dm h lg kq):
 (∀l j,j<fY l0->aj (aR h' l) (nb h j)=fj l0 j)/\(∀l dx,dm h' bq dx->aY ⟨aR h l0,kq,[]⟩ ⟨aR h' l,dx,[]⟩)/\(∀l dx,dm h' bq dx->aY ⟨h,lg,d⟩ ⟨aR h' l,dx,d⟩):=
 ⟨k.at,λl _ q=>k.bx l q,k.cg q0⟩
theorem aT.Uu{α:Type}{h:aN}{e:Nat}{v:AV}{f:α->List AV}{l:List α}(H:aT h e v (l.map f)){i:Nat}(hi:i<l.length):
 (∀q,Gg (aj (aR h q)) e v (.int .i64 i)=Option.some (.ptr (sb v) (si v+i) 0,[]))/\(∀q g n o,0<n->o+n<=e->H8 (aj (aR h q)) g n (.ptr (sb v) (si v+i) o)=EN g (Option.some (((f l[i]).drop o).take n))):=
 ⟨λq=>H.mE q i (by simpa using hi),λq=>H.ld q i _ (by rw[getElem?_map,getElem?_eq_getElem hi];rfl)⟩
theorem fh{i n:Nat}(hi:i<n)(hn:n<=1000000):(((i:Int)<(n:Int))=True)/\i64.wrap ((i:Int)+1)=((i+1:Nat):Int):=
 ⟨by simp[hi],aU Z Z⟩
theorem cY(n:Nat):((n:Int)<(n:Int))=False:=by simp
theorem prv{i:Nat}(hn:i<=1000000):(0<(i:Int)->i64.wrap ((i:Int)-1)=((i-1:Nat):Int)):=λh=>by rw[aU Z Z];omega
def t7(mW:Nat->Int):Nat->Nat->Int
 |_,0=>0
 |i,r+1=>if mW i=0 then t7 mW (i+1) r else mW i
def first(mW:Nat->Int)(n:Nat):Int:=t7 mW 0 n
theorem iE{mW:Nat->Int}:∀(r i:Nat),t7 mW i r=0↔∀j,i<=j->j<i+r->mW j=0
 |0,i=>by simp[t7];omega
 |r+1,i=>by
  rw[t7];by_cases hb:mW i=0
  .rw[aG hb,iE r (i+1)];constructor
   .intro h j h1 h2;by_cases hj:j=i
    .rw[hj];exact hb
    .exact h j Z Z
   .exactλh j h1 h2=>h j Z Z
  .rw[aq hb];exact⟨λh=>absurd h hb,λh=>absurd (h i Z Z) hb⟩
theorem Abg(p:Prop)[Decidable p]:(!decide p)=decide (¬p):=by simp
theorem ieq(a b:Int):(a==b)=decide (a=b):=by
 rw[Bool.eq_iff_iff];simp
theorem Abh:∀(a b:List UInt8),qf a b=decide (a=b)
 |[],[]=>by simp[qf]
 |[],_::_=>by simp[qf]
 |_::_,[]=>by simp[qf]
 |a::as,b::bs=>by
  rw[qf,Abh as bs];have h:(a.toNat==b.toNat)=decide (a=b):=by
   rw[Bool.eq_iff_iff];simp[UInt8.toNat_inj]
  rw[h,<-Bool.decide_and];exact decide_eq_decide.2 (by simp)
theorem AiH(p q:Prop)[Decidable p][Decidable q]:(decide p&&decide q)=decide (p/\q):=(Bool.decide_and p q).symm
theorem AiI(p:Prop)[Decidable p]:decide (decide p=true)=decide p:=by simp
def BY(mW:Nat->Int):Nat->Nat->Int
 |_,0=>0
 |i,r+1=>if mW i=0 then BY mW (i+1) r else i
def jd(mW:Nat->Int)(n:Nat):Int:=BY mW 0 n
structure FP(mW:Nat->Int)(n i:Nat):Prop where
 a:first mW n=t7 mW i (n-i)
 b:jd mW n=BY mW i (n-i)
theorem FP.zero(mW:Nat->Int)(n:Nat):FP mW n 0:=⟨rfl,rfl⟩
theorem FP.dF{mW:Nat->Int}{n:Nat}(h:FP mW n n):first mW n=0/\jd mW n=0:=by
 obtain⟨h1,h2⟩:=h;rw[Nat.sub_self]at h1 h2;exact⟨h1,h2⟩
theorem FP.next{mW:Nat->Int}{n i:Nat}(h:FP mW n i)(hi:i<n)(hb:mW i=0):FP mW n (i+1):=by
 obtain⟨h1,h2⟩:=h;rw[show n-i=(n-(i+1))+1 by omega]at h1 h2;rw[t7,aG hb]at h1;rw[BY,aG hb]at h2;exact⟨h1,h2⟩
theorem FP.stop{mW:Nat->Int}{n i:Nat}(h:FP mW n i)(hi:i<n){x:Int}(hb:mW i=x)(hx:x≠0):first mW n=x/\jd mW n=i:=by
 obtain⟨h1,h2⟩:=h;rw[show n-i=(n-(i+1))+1 by omega]at h1 h2;rw[t7,hb,aq hx]at h1;rw[BY,hb,aq hx]at h2;exact⟨h1,h2⟩
theorem FP.s1{mW:Nat->Int}{n i:Nat}(h:FP mW n i)(hi:i<n){x:Int}(hb:mW i=x/\x≠0):x=first mW n:=(h.stop hi hb.1 hb.2).1.symm
theorem FP.s2{mW:Nat->Int}{n i:Nat}(h:FP mW n i)(hi:i<n)(hb:mW i≠0):(i:Int)=jd mW n:=(h.stop hi rfl hb).2.symm
def gt{α:Type}[Inhabited α](l:List α)(i:Nat):α:=l.getD i default
theorem bB{α:Type}[Inhabited α]{l:List α}{i:Nat}(hi:i<l.length):gt l i=l[i]:=by simp[gt,hi]
theorem aT.el{α:Type}[Inhabited α]{h:aN}{e:Nat}{v:AV}{f:α->List AV}{l:List α}(H:aT h e v (l.map f)){i:Nat}(hi:i<l.length):
 (∀q,Gg (aj (aR h q)) e v (.int .i64 i)=Option.some (.ptr (sb v) (si v+i) 0,[]))/\(∀q g n o,0<n->o+n<=e->H8 (aj (aR h q)) g n (.ptr (sb v) (si v+i) o)=EN g (Option.some (((f (gt l i)).drop o).take n))):=by
 rw[bB hi];exact H.Uu hi
theorem aT.pv{α:Type}[Inhabited α]{h:aN}{e:Nat}{v:AV}{f:α->List AV}{l:List α}(H:aT h e v (l.map f)){i:Nat}(hi:i<l.length)(hl:l.length<=1000000):
 (0<(i:Int)->i64.wrap ((i:Int)-1)=((i-1:Nat):Int))/\(∀q,Gg (aj (aR h q)) e v (.int .i64 ((i-1:Nat):Int))=Option.some (.ptr (sb v) (si v+(i-1)) 0,[]))/\(∀q g n o,0<n->o+n<=e->H8 (aj (aR h q)) g n (.ptr (sb v) (si v+(i-1)) o)=EN g (Option.some (((f (gt l (i-1))).drop o).take n))):=
 ⟨prv Z,H.el (i:=i-1) Z⟩
theorem aT.rM{h:aN}{e:Nat}{v:AV}{es:List (List AV)}(H:aT h e v es)(k:Nat):ins v.rM (nb h k)=false:=by
 cases hq:ins v.rM (nb h k)with
 |false=>rfl
 |true=>
  have h1:=(oG _ _).1 hq;rcases H with⟨_,rfl|rfl|rfl⟩|⟨b,i,c,bS,bI,rfl,hb,hw,hc⟩
  .cases h1
  .cases h1
  .cases h1
  .simp only[AV.rM,mem_singleton]at h1;have:=ag hb;rw[<-h1,nb]at this;omega
theorem AiJ:i64.wrap 0=0:=aU Z Z
theorem WR:i64.wrap 1=1:=aU Z Z
theorem AiK:i64.wrap 2=2:=aU Z Z
theorem AiL:i64.wrap 3=3:=aU Z Z
theorem AiM:i64.wrap 4=4:=aU Z Z
theorem AiN:i64.wrap 5=5:=aU Z Z
theorem AiO:i64.wrap 6=6:=aU Z Z
theorem AiP:i64.wrap 7=7:=aU Z Z
theorem AiQ:i64.wrap 8=8:=aU Z Z
theorem AiR:i64.wrap 9=9:=aU Z Z
theorem Abi:i64.wrap 10=10:=aU Z Z
theorem Abj:i64.wrap 11=11:=aU Z Z
theorem Abk:i64.wrap 12=12:=aU Z Z
theorem Abl:i64.wrap 13=13:=aU Z Z
theorem Abm:i64.wrap 14=14:=aU Z Z
theorem Abn:i64.wrap 15=15:=aU Z Z
theorem Abo:i64.wrap 16=16:=aU Z Z
theorem aT.sbn{h:aN}{e:Nat}{v:AV}{es:List (List AV)}(H:aT h e v es){i:Nat}(hi:i<es.length)(k:Nat):Nat.beq (sb v) (nb h k)=false:=by
 rcases H with⟨rfl,_⟩|⟨b,j,c,bS,bI,rfl,hb,hw,hc⟩
 .simp at hi
 .have:=ag hb;show Nat.beq b (nb h k)=false;cases hq:Nat.beq b (nb h k)with
  |false=>rfl
  |true=>have:=Nat.eq_of_beq_eq_true hq;rw[nb]at this;omega
theorem aY.WS{h h':aN}{lg bq d d':List Nat}{l0:List (Option bp)}(k:aY ⟨aR h l0,lg,d⟩ ⟨h',bq,d'⟩)(j q:Nat)(hj:j<fY l0):Nat.beq (nb h j) (nb h' q)=false:=by
 have h2:=k.len;simp only[jR,nb]at h2;cases hq:Nat.beq (nb h j) (nb h' q)with
 |false=>rfl
 |true=>have:=Nat.eq_of_beq_eq_true hq;rw[nb,nb]at this;omega
def zA:eQ->Bool
 |.seq a b=>zA a&&zA b
 |.cond _ a b=>zA a&&zA b
 |.block _ c=>zA c
 |.loop c=>zA c
 |.rangeFunc ..=>false
 |_=>true
theorem qA{call:eX}{au:bR}{fu:Nat}:∀(c:eQ),zA c=true->∀T m,dY call au fu true c T m=dY call au fu false c T m
 |.skip,_,_,_=>rfl
 |.mW,_,_,_=>rfl
 |.exit _,_,_,_=>rfl
 |.ret,_,_,_=>rfl
 |.region _ _ _,_,_,_=>by simp only[dY]
 |.rangeFunc ..,h,_,_=>by cases h
 |.seq a b,h,T,m=>by
  simp only[zA,Bool.and_eq_true]at h;simp only[dY,qA a h.1,qA b h.2]
 |.cond c a b,h,T,m=>by
  simp only[zA,Bool.and_eq_true]at h;simp only[dY,qA a h.1,qA b h.2]
 |.block _ c,h,T,m=>by
  simp only[zA]at h;simp only[dY,qA c h]
 |.loop c,h,T,m=>by
  simp only[zA]at h;simp only[dY];rw[show dY call au fu true c=dY call au fu false c from funext λT=>funext λm=>qA c h T m]
section
variable{F:FuncId->Option bD}{au:bR}{sm:ct}{n fu:Nat}
def Ky(l:Nat)(d:List Nat)(Q:AV->Mem->Prop):cT->Tr->Mem->Prop:=λe _ m2=>
 match aj m2.ah l with
 |some (.loop r2)=>match e with
  |.normal=>Q (.bool true) {m2.apply ⟨l,some (.loop {r2 with state:=.ready,pending:=none}),[]⟩with aV:=d}
  |e=>Q (.bool false) {m2.apply ⟨l,some (.loop {r2 with state:=.done,pending:=some e}),[]⟩with aV:=d}
 |_=>False
def Kz(F:FuncId->Option bD)(au:bR)(sm:ct)(n:Nat)(l:Nat)(b:eQ)(d:List Nat)(Q:AV->Mem->Prop):cT->Tr->Mem->Prop:=λe T m1=>
 match e with
 |.normal=>match aj m1.ah l with
  |some (.loop r1)=>r1.state=.ready/\Wc (dJ F au sm n) (Wa F au sm n) au n b T (m1.apply ⟨l,some (.loop {r1 with state:=.busy}),[]⟩) (Ky l d Q)
  |_=>False
 |_=>False
theorem w_y{l:Nat}{args:List AV}{m:Mem}{Q:AV->Mem->Prop}{T T1:Tr}{ps:List cO}{a b:eQ}{pe:Option cT}
 (hb:aj m.ah l=some (.loop {state:=.ready,pending:=pe,tmps:=T1,params:=ps,assign:=a,body:=b})) (hl:args.length=ps.length) (ha:zA a=true) (sK:zA b=true) (ht:oH (iu T ps args) (iu T1 ps args))
 (h:Wc (dJ F au sm n) (Wa F au sm n) au n a (iu T ps args) {m with aV:=[]} (Kz F au sm n l b m.aV Q)):Wa F au sm (n+1) (.yield l) args m Q:=by
 have hK:Cl (Kz F au sm n l b m.aV Q):=λe T T' m' q k=>by
  cases e with
  |normal=>
   simp only[Kz]at k|-;split at k
   .refine⟨k.1,mc (dE n) n b T T' _ _ _ k.2 q λx T2 T3 m3 e' _ h'=>?_⟩;exact h'
   .exact k
  |ret=>exact k
  |exit j=>exact k
 have h:=mc (dE n) n a _ _ _ _ _ h ht λx T2 T3 m3 e' _ h'=>hK _ _ _ _ e' h'
 obtain⟨e,T2,m1,e1,h1⟩:=nO (λc vs m Q=>tC n c vs m Q) n _ _ _ _ h;show∃v m',dJ F au sm (n+1) (.yield l) args m=some (v,m')/\Q v m';rw[dJ,hb];simp only[hl,ne_eq,not_true_eq_false,if_false,qA a ha,e1];unfold Kz at h1;cases e with
 |normal=>
  simp only at h1|-;cases hq:aj m1.ah l with
  |none=>rw[hq]at h1;exact h1.elim
  |some x=>
   cases x with
   |loop r1=>
    rw[hq]at h1;obtain⟨s1,h1⟩:=h1;simp only[s1,qA b sK];obtain⟨e2,T4,m2,e3,h3⟩:=nO (λc vs m Q=>tC n c vs m Q) n _ _ _ _ h1;rw[e3];unfold Ky at h3;simp only;cases hq2:aj m2.ah l with
    |none=>rw[hq2]at h3;exact h3.elim
    |some x=>
     cases x with
     |loop r2=>
      rw[hq2]at h3;cases e2 with
      |normal=>exact⟨_,_,rfl,h3⟩
      |ret=>exact⟨_,_,rfl,h3⟩
      |exit j=>exact⟨_,_,rfl,h3⟩
     |_=>rw[hq2]at h3;exact h3.elim
   |_=>rw[hq]at h1;exact h1.elim
 |ret=>exact h1.elim
 |exit j=>exact h1.elim
def Kf(l:Nat)(T:Tr)(K:cT->Tr->Mem->Prop):AV->Mem->Prop:=λ_ m'=>
 match aj m'.ah l with
 |some (.loop r)=>match r.state with
  |.busy=>False
  |_=>K (r.pending.getD .normal) T (m'.apply ⟨l,none,[]⟩)
 |_=>False
theorem Ph{f:bE}{ps:List cO}{a b:eQ}{T:Tr}{m:Mem}{K:cT->Tr->Mem->Prop}{g:FuncId}{as cs:List AV}(hf:cP T f=.func g as cs)
 (h:∀T1,oH T T1->Wa F au sm n (.fn g) (as++[.yield (m.ah.length+1)]++cs) (({m.apply ⟨m.ah.length,some .nZ,[]⟩with aV:=m.ah.length::m.aV}:Mem).apply ⟨m.ah.length+1,some (.loop {state:=.ready,pending:=none,tmps:=T1,params:=ps,assign:=a,body:=b}),[]⟩) (Kf (m.ah.length+1) T K))
 (eV:(m.apply ⟨m.ah.length,some .nZ,[]⟩).ah.length=m.ah.length+1):Wc (dJ F au sm n) (Wa F au sm n) au fu (.rangeFunc f ps a b) T m K:=by
 rw[Wc];intro T1 ht;have hf1:cP T1 f=.func g as cs:=by rw[<-(show oH T T1 from ht).cP,hf]
 obtain⟨v,m',e1,h1⟩:=tC n _ _ _ _ (h T1 ht);rw[dY];simp only[cond_false,hf1,eV,e1];unfold Kf at h1;cases hq:aj m'.ah (m.ah.length+1)with
 |none=>rw[hq]at h1;exact h1.elim
 |some x=>
  cases x with
  |loop r=>
   rw[hq]at h1;simp only at h1|-;cases hs:r.state with
   |busy=>rw[hs]at h1;exact h1.elim
   |ready=>rw[hs]at h1;exact⟨_,_,rfl,h1⟩
   |done=>rw[hs]at h1;exact⟨_,_,rfl,h1⟩
  |_=>rw[hq]at h1;exact h1.elim
theorem oH.round{T T1:Tr}(h:oH T T1):∀(ps:List cO) (as:List AV),oH (iu T ps as) (iu T1 ps as):=λps=>by
 induction ps generalizing T T1 with
 |nil=>intro as;exact h
 |cons p ps ih=>intro as;cases as with
  |nil=>exact h
  |cons a as=>exact ih (h.set a p) as
end
def Kg(x:Option bp)(l:Nat)(T:Tr)(K:cT->Tr->Mem->Prop)(m':Mem):Prop:=
 match x with
 |some (.loop r)=>match r.state with
  |.busy=>False
  |_=>K (r.pending.getD .normal) T (m'.apply ⟨l,none,[]⟩)
 |_=>False
section
variable{l:Nat}{T T1:Tr}{K:cT->Tr->Mem->Prop}{m' m2:Mem}{v:AV}{ps:List cO}{a b b':eQ}{pe:Option cT}{d:List Nat}{Q:AV->Mem->Prop}{F:FuncId->Option bD}{au:bR}{sm:ct}{n:Nat}{s:El}
theorem AiS:Kf l T K v m'=Kg (aj m'.ah l) l T K m':=rfl
theorem AiT:Kg (some (.loop ⟨.ready,none,T1,ps,a,b⟩)) l T K m'=K .normal T (m'.apply ⟨l,none,[]⟩):=rfl
def Kh(x:Option bp)(l:Nat)(d:List Nat)(Q:AV->Mem->Prop)(e:cT)(m2:Mem):Prop:=
 match x with
 |some (.loop r2)=>match e with
  |.normal=>Q (.bool true) {m2.apply ⟨l,some (.loop {r2 with state:=.ready,pending:=none}),[]⟩with aV:=d}
  |e=>Q (.bool false) {m2.apply ⟨l,some (.loop {r2 with state:=.done,pending:=some e}),[]⟩with aV:=d}
 |_=>False
theorem AiU(e:cT):Ky l d Q e T m2=Kh (aj m2.ah l) l d Q e m2:=rfl
theorem AiV:Kh (some (.loop ⟨s,pe,T1,ps,a,b⟩)) l d Q .normal m2=Q (.bool true) {m2.apply ⟨l,some (.loop ⟨.ready,none,T1,ps,a,b⟩),[]⟩with aV:=d}:=rfl
def Ki(F:FuncId->Option bD)(au:bR)(sm:ct)(n:Nat)(x:Option bp)(l:Nat)(b:eQ)(d:List Nat)(Q:AV->Mem->Prop)(T:Tr)(m1:Mem):Prop:=
 match x with
 |some (.loop r1)=>r1.state=.ready/\Wc (dJ F au sm n) (Wa F au sm n) au n b T (m1.apply ⟨l,some (.loop {r1 with state:=.busy}),[]⟩) (Ky l d Q)
 |_=>False
theorem AiW:Kz F au sm n l b d Q .normal T m2=Ki F au sm n (aj m2.ah l) l b d Q T m2:=rfl
theorem AiX:Ki F au sm n (some (.loop ⟨.ready,pe,T1,ps,a,b'⟩)) l b d Q T m2=(Wc (dJ F au sm n) (Wa F au sm n) au n b T (m2.apply ⟨l,some (.loop ⟨.busy,pe,T1,ps,a,b'⟩),[]⟩) (Ky l d Q)):=by simp only[Ki,true_and]
theorem AiY(as:List AV):iu T [] as=T:=rfl
theorem AiZ(p:cO)(x:AV)(as:List AV):iu T (p::ps) (x::as)=iu (gq x p T) ps as:=rfl
end
section
variable{wc:gy}{au:bR}{pu:Bool}{bC i:Nat}{d:Option cO}{os:List cS}{cq free:List jN}{gu rd:List Nat}{T:Tr}{m:Mem}{v:AV}{mk:Bool}{s:Option Nat}{K:Tr->Mem->Prop}
theorem Ii(c:Prop)[Decidable c]:Wp wc au pu (Gl (if c then some v else none)) d os T m K=(c/\Wo wc au pu os (eU T d v) m K):=by
 by_cases h:c
 .rw[aG h,eq_true h,true_and,O4,Wk]
 .rw[aq h,eq_false h,false_and];rfl
theorem WT(c:Prop)[Decidable c]:Rp wc au bC i (Gl (if c then some v else none)) mk d s os cq free rd gu T m K=(c/\Rp wc au bC i (some (v,[])) mk d s os cq free rd gu T m K):=by
 by_cases h:c
 .rw[aG h,eq_true h,true_and,O4]
 .rw[aq h,eq_false h,false_and];rfl
end
def Ke{α:Type}(dM:List cO)(V:α->List AV)(P:α->Mem->Prop)(E:cT->Tr->Mem->Prop):cT->Tr->Mem->Prop
 |.normal,T,m=>∃a,dM.map (λp=>dL p T)=V a/\P a m
 |e,T,m=>E e T m
theorem e_n{α:Type}(dM:List cO)(V:α->List AV)(P:α->Mem->Prop)(E:cT->Tr->Mem->Prop)(T:Tr)(m:Mem):Ke dM V P E .normal T m=∃a,dM.map (λp=>dL p T)=V a/\P a m:=rfl
theorem e_e{α:Type}(dM:List cO)(V:α->List AV)(P:α->Mem->Prop)(E:cT->Tr->Mem->Prop)(T:Tr)(m:Mem)(i:Nat):Ke dM V P E (.exit i) T m=E (.exit i) T m:=rfl
theorem e_r{α:Type}(dM:List cO)(V:α->List AV)(P:α->Mem->Prop)(E:cT->Tr->Mem->Prop)(T:Tr)(m:Mem):Ke dM V P E .ret T m=E .ret T m:=rfl
theorem dz{α:Type}{F:FuncId->Option bD}{au:bR}{sm:ct}{n fu:Nat}{call:eX}{c:eQ}{T0:Tr}{m:Mem}{E:cT->Tr->Mem->Prop}(N:Nat)(dM:List cO)(V:Nat->α->List AV)(P:Nat->α->Mem->Prop)(hN:N<fu)(hE:Cl E)
 (h0:∃a,dM.map (λp=>dL p T0)=V 0 a/\P 0 a m)
 (hs:∀i a m g,i<N->P i a m->Wc call (Wa F au sm n) au fu c (uU dM (V i a) (uV g (ur dM (nX c)) T0)) m (Ke dM (V (i+1)) (P (i+1)) E))
 (hl:∀a m g,P N a m->Wc call (Wa F au sm n) au fu c (uU dM (V N a) (uV g (ur dM (nX c)) T0)) m (Kv dM [.undef] (λ_=>False) E)):Wc call (Wa F au sm n) au fu (.loop c) T0 m E:=by
 have key:∀i a T,Fr (nX c) T0 T->dM.map (λp=>dL p T)=V i a->oH (uU dM (V i a) (uV (λp=>dL p T) (ur dM (nX c)) T0)) T:=λi a T f hv q=>by
  rw[<-hv,vL (λp=>dL p T),vK];by_cases h1:q∈dM
  .rw[aG h1]
  .rw[aq h1];by_cases h2:q∈nX c
   .rw[aG ((nU _ _ _).2 ⟨h2,h1⟩)]
   .rw[aq (λh=>h2 ((nU _ _ _).1 h).1)];exact(f q h2).symm
 obtain⟨a0,h0⟩:=h0;refine Up N (λi T m=>Fr (nX c) T0 T/\∃a,dM.map (λp=>dL p T)=V i a/\P i a m) hN ⟨Fr.refl _ _,a0,h0⟩ (λi T m hi ⟨f,a,hv,hp⟩=>?_) (λT m ⟨f,a,hv,hp⟩=>?_)
 .refine mc (dE n) fu c _ T m _ _ (hs i a m (λp=>dL p T) hi hp) (key i a T f hv) λe T' sL m' e' f' q=>?_
  cases e with
  |normal=>
   obtain⟨a',q1,q2⟩:=q;exact⟨(f.trans f').sub (by simp),a',by rw[<-q1];exact map_congr_left λp _=>(e' p).symm,q2⟩
  |exit j=>exact hE _ _ _ _ e' q
  |ret=>exact hE _ _ _ _ e' q
 .refine mc (dE n) fu c _ T m _ _ (hl a m (λp=>dL p T) hp) (key N a T f hv) λe T' sL m' e' f' q=>?_
  cases e with
  |normal=>exact q.2
  |exit j=>exact hE _ _ _ _ e' q
  |ret=>exact hE _ _ _ _ e' q
theorem Sr{α:Type}{F:FuncId->Option bD}{au:bR}{sm:ct}{n fu:Nat}{call:eX}{c:eQ}{T0:Tr}{h:aN}{l0:List (Option bp)}{kq:List Nat}{E:cT->Tr->Mem->Prop}(N:Nat)(dM:List cO)(V:Nat->α->List AV)(P:Nat->α->aN->Prop)(hN:N<fu)(hE:Cl E)
 (h0:∃a,dM.map (λp=>dL p T0)=V 0 a/\P 0 a (aR h l0))
 (hs:∀i a h' bq g,i<N->P i a h'->aY ⟨aR h l0,kq,[]⟩ ⟨h',bq,[]⟩->Wc call (Wa F au sm n) au fu c (uU dM (V i a) (uV g (ur dM (nX c)) T0)) ⟨aR h' [],bq,[]⟩ (Ke dM (V (i+1)) (λa m'=>aY ⟨aR h l0,kq,[]⟩ m'/\P (i+1) a m'.ah) E))
 (hl:∀a h' bq g,P N a h'->aY ⟨aR h l0,kq,[]⟩ ⟨h',bq,[]⟩->Wc call (Wa F au sm n) au fu c (uU dM (V N a) (uV g (ur dM (nX c)) T0)) ⟨aR h' [],bq,[]⟩ (Kv dM [.undef] (λ_=>False) E)):Wc call (Wa F au sm n) au fu (.loop c) T0 ⟨aR h l0,kq,[]⟩ E:=by
 obtain⟨a0,q1,q2⟩:=h0;refine dz N dM V (λi a m'=>aY ⟨aR h l0,kq,[]⟩ m'/\P i a m'.ah) hN hE ⟨a0,q1,aY.refl _,q2⟩ (λi a m g hi ⟨k,p⟩=>?_) (λa m g ⟨k,p⟩=>?_)
 .obtain⟨h',bq,d'⟩:=m;obtain rfl:d'=[]:=k.aV;exact hs i a h' bq g hi p k
 .obtain⟨h',bq,d'⟩:=m;obtain rfl:d'=[]:=k.aV;exact hl a h' bq g p k
def Qk(m0:Mem)(P:AV->aN->Prop):AV->Mem->Prop:=λv m'=>aY m0 m'/\P v m'.ah
theorem mZ(m0:Mem)(P:AV->aN->Prop)(v:AV)(m':Mem):Qk m0 P v m'=(aY m0 m'/\P v m'.ah):=rfl
theorem fK{F:FuncId->Option bD}{au:bR}{sm:ct}{n:Nat}{c:hZ}{vs:List AV}{h:aN}{lg d:List Nat}{P:AV->aN->Prop}{Q:AV->Mem->Prop}(H:Wa F au sm n c vs ⟨h,lg,d⟩ (Qk ⟨h,lg,d⟩ P))
 (hQ:∀v h' bq,aY ⟨h,lg,d⟩ ⟨h',bq,d⟩->P v h'->Q v ⟨aR h' [],bq,d⟩):Wa F au sm n c vs ⟨h,lg,d⟩ Q:=
 dE n _ _ _ _ _ (λv m' ⟨k,p⟩=>by
  obtain⟨h',bq,d'⟩:=m';obtain rfl:d'=d:=k.aV;exact hQ v h' bq k p) H
theorem EO{h:aN}{b:Nat}{x:Option bp}(hb:b<h.length)(k:Nat):nb (aQ h b x) k=nb h k:=by rw[nb,nb,bJ hb]
theorem bg{h:aN}{b:Nat}(hb:b<h.length):
 (∀l x,aQ (aR h l) b x=aR (aQ h b x) l)/\(∀l x k,aj (aR (aQ h b x) l) (nb h k)=fj l k)/\(∀l x k y,bin l k=true->aQ (aR (aQ h b x) l) (nb h k) y=aR (aQ h b x) (wI l k y))/\
 (∀l x,(aR (aQ h b x) l).length=nb h (fY l))/\(∀l x,aj (aR (aQ h b x) l) b=x)/\(∀l x y,aQ (aR (aQ h b x) l) b y=aR (aQ h b y) l):=by
 have hl:∀x,b<(aQ h b x).length:=λx=>by rw[bJ hb];exact hb
 refine⟨λl x=>lF l h b x hb,λl x k=>?_,λl x k y q=>?_,λl x=>?_,λl x=>?_,λl x y=>?_⟩
 .rw[<-EO (x:=x) hb k,bj]
 .rw[<-EO (x:=x) hb k,tA q]
 .rw[jR,EO hb]
 .rw[an l _ b (hl x),eY hb,aG rfl]
 .rw[lF l _ b y (hl x),rY]
theorem bP{h:aN}{b c:Nat}(hb:b<h.length)(hc:c<h.length)(jV:c≠b)(l:List (Option bp))(x:Option bp):aj (aR (aQ h b x) l) c=aj h c:=by
 rw[an l _ c (by rw[bJ hb];exact hc),eY hb,aq jV]
theorem aY.bS{h h':aN}{lg bq dx d d':List Nat}{b:Nat}(k:aY ⟨h,lg,d⟩ ⟨h',bq,d'⟩)(hb:h.length<=b)(rF:b<h'.length)(x:Option bp)(l:List (Option bp))(hl:∃q,dx=q++bq/\∀y∈q,h.length<=y):aY ⟨h,lg,d⟩ ⟨aR (aQ h' b x) l,dx,d'⟩where
 len:=by
  have:=k.len;simp only at this|-;rw[bV,bJ rF];omega
 get:=λc hc=>by
  have h1:=k.get c hc;have h2:=k.len;simp only at h1 h2 hc|-;rw[bP rF Z Z,h1]
 aV:=k.aV
 hU:=by
  obtain⟨q,rfl,hq⟩:=hl;obtain⟨r,h1,h2⟩:=k.hU;simp only at h1 h2|-;subst h1;exact⟨q++r,by simp,λy hy=>by rcases mem_append.1 hy with hy|hy;exact hq y hy;exact h2 y hy⟩
theorem aT.bS{h:aN}{b e:Nat}{v:AV}{es:List (List AV)}(H:aT h e v es)(hb:b<h.length)(jV:∀c∈v.cj,c≠b)(x:Option bp)(l:List (Option bp)):aT (aR (aQ h b x) l) e v es:=by
 rcases H with⟨hn,hv⟩|⟨c,i,k,bS,bI,hv,hc,hw,hk⟩
 .exact .none hn hv
 .refine .some c i k bS bI hv ?_ hw hk;rw[bP hb (ag hc) (jV c (by rw[hv];simp[AV.cj])),hc]
theorem jY{h:aN}{b c:Nat}(hb:b<h.length)(hc:c<h.length)(hn:c≠b):
 (∀l x y,aQ (aR (aQ h b x) l) c y=aR (aQ (aQ h b x) c y) l)/\
 (∀l x y k,aj (aR (aQ (aQ h b x) c y) l) (nb h k)=fj l k)/\
 (∀l x y k z,bin l k=true->aQ (aR (aQ (aQ h b x) c y) l) (nb h k) z=aR (aQ (aQ h b x) c y) (wI l k z))/\
 (∀l x y,(aR (aQ (aQ h b x) c y) l).length=nb h (fY l))/\
 (∀l x y,aj (aR (aQ (aQ h b x) c y) l) c=y)/\(∀l x y,aj (aR (aQ (aQ h b x) c y) l) b=x)/\
 (∀l x y z,aQ (aR (aQ (aQ h b x) c y) l) c z=aR (aQ (aQ h b x) c z) l)/\
 (∀l x y z,aQ (aR (aQ (aQ h b x) c y) l) b z=aR (aQ (aQ h b z) c y) l)/\
 (∀l x,aj (aR (aQ h b x) l) c=aj h c):=by
 have hl:∀x,(aQ h b x).length=h.length:=λx=>bJ hb
 have EP:∀x,c<(aQ h b x).length:=λx=>by rw[hl];exact hc
 have xU:∀x y,(aQ (aQ h b x) c y).length=h.length:=λx y=>by rw[bJ (EP x),hl]
 have WU:∀x y k,nb (aQ (aQ h b x) c y) k=nb h k:=λx y k=>by rw[nb,nb,xU]
 refine⟨λl x y=>lF l _ c y (EP x),λl x y k=>?_,λl x y k z q=>?_,λl x y=>?_,λl x y=>?_,λl x y=>?_,λl x y z=>?_,λl x y z=>?_,λl x=>?_⟩
 .rw[<-WU x y k,bj]
 .rw[<-WU x y k,tA q]
 .rw[jR,WU]
 .rw[an l _ c (by rw[xU];exact hc),eY (EP x),aG rfl]
 .rw[an l _ b (by rw[xU];exact hb),eY (EP x),aq (Ne.symm hn),eY hb,aG rfl]
 .rw[lF l _ c z (by rw[xU];exact hc),rY]
 .rw[lF l _ b z (by rw[xU];exact hb),zy (aQ h b x) y z hn,rY]
 .exact bP hb hc hn l x
theorem kP{h:aN}{b c e:Nat}(hb:b<h.length)(hc:c<h.length)(he:e<h.length)(h1:e≠b)(h2:e≠c)(l:List (Option bp))(x y:Option bp):aj (aR (aQ (aQ h b x) c y) l) e=aj h e:=by
 have hl:(aQ h b x).length=h.length:=bJ hb;rw[bP (by rw[hl];exact hc) (by rw[hl];exact he) h2,eY hb,aq h1]
theorem aY.uW{h h':aN}{lg bq dx d d':List Nat}{b c:Nat}(k:aY ⟨h,lg,d⟩ ⟨h',bq,d'⟩)(hb:h.length<=b)(rF:b<h'.length)(hc:h.length<=c)(hc2:c<h'.length)(x y:Option bp)(l:List (Option bp))(hl:∃q,dx=q++bq/\∀y∈q,h.length<=y):aY ⟨h,lg,d⟩ ⟨aR (aQ (aQ h' b x) c y) l,dx,d'⟩:=
 (k.bS hb rF x [] ⟨[],rfl,λy hy=>by cases hy⟩).bS (bq:=bq) hc (by show c<(aQ h' b x).length;rw[bJ rF];exact hc2) y l hl
theorem aT.uW{h:aN}{b c e:Nat}{v:AV}{es:List (List AV)}(H:aT h e v es)(hb:b<h.length)(hc:c<h.length)(h1:∀q∈v.cj,q≠b)(h2:∀q∈v.cj,q≠c)(x y:Option bp)(l:List (Option bp)):aT (aR (aQ (aQ h b x) c y) l) e v es:=
 (show aT (aQ h b x) e v es from H.bS hb h1 x []).bS (by rw[bJ hb];exact hc) h2 y l
inductive dD(n:Nat)(lg:List Nat):List Nat->Prop
 |nil:dD n lg lg
 |cons {b:Nat} {l:List Nat}:n<=b->dD n lg l->dD n lg (b::l)
theorem dD.ok{n:Nat}{lg l:List Nat}(H:dD n lg l):∃q,l=q++lg/\∀y∈q,n<=y:=by
 induction H with
 |nil=>exact⟨[],rfl,λy hy=>by cases hy⟩
 |cons hb _ ih=>
  obtain⟨q,rfl,h2⟩:=ih;exact⟨_::q,rfl,λy hy=>by rcases mem_cons.1 hy with rfl|hy;exact hb;exact h2 y hy⟩
inductive cG(k:Nat)(h:aN)(e:Nat)(v:AV)(es:List (List AV)):Prop
 |nil (hn:es=[]) (hv:v=.aF)
 |some (b:Nat) (hv:v=.slice b 0 es.length none) (hk:k<=b) (hb:aj h b=some (.row true e es))
theorem cG.sl{k:Nat}{h:aN}{e:Nat}{v:AV}{es:List (List AV)}(H:cG k h e v es):aT h e v es:=by
 rcases H with⟨hn,hv⟩|⟨b,hv,hk,hb⟩
 .exact .none hn (.inl hv)
 .exact .some b 0 none true es hv hb (by rw[drop_zero,take_length]) (λ_ h=>by cases h)
theorem cG.Abp{k:Nat}{h:aN}{e:Nat}{v:AV}{es:List (List AV)}(H:cG k h e v es)(n:Nat):v≠.Hl n:=by
 rcases H with⟨hn,rfl⟩|⟨b,rfl,hk,hb⟩<;>intro h<;>cases h
theorem cG.bw{k:Nat}{m m':Mem}{e:Nat}{v:AV}{es:List (List AV)}(H:cG k m.ah e v es)(q:aY m m'):cG k m'.ah e v es:=by
 rcases H with⟨hn,hv⟩|⟨b,hv,hk,hb⟩
 .exact .nil hn hv
 .exact .some b hv hk ((q.get b (ag hb)).trans hb)
theorem cG.bx{k:Nat}{h:aN}{e:Nat}{v:AV}{es:List (List AV)}(H:cG k h e v es)(l:List (Option bp)):cG k (aR h l) e v es:=by
 rcases H with⟨hn,hv⟩|⟨b,hv,hk,hb⟩
 .exact .nil hn hv
 .exact .some b hv hk ((an l h b (ag hb)).trans hb)
structure iF where
 n:Int
 s:Int
 o:Int
 deriving DecidableEq,Inhabited
structure fR where
 id:iF
 jF:Int
 kZ:Int
 born:Int
 iO:Int
 eO:Int
 data:List UInt8
 deriving DecidableEq,Inhabited
structure rZ where
 id:iF
 Ss:Int
 deriving DecidableEq,Inhabited
structure kF where
 off:Int
 size:Int
 id:iF
 deriving DecidableEq,Inhabited
structure jt where
 g:Int
 n:Int
 r:Int
 bN:List kF
 deriving DecidableEq,Inhabited
structure iJ where
 g:Int
 r:Int
 f:Int
 cH:List (Int×Int)
 jW:List Int
 deriving DecidableEq,Inhabited
structure dT where
 node:Int
 nu:Int
 Md:Bool
 mX:Int
 send:jt
 recv:iJ
 deriving DecidableEq,Inhabited
structure je where
 node:Int
 C2:Int
 dF:iF
 held:List fR
 seen:List rZ
 bM:List dT
 deriving DecidableEq,Inhabited
structure Ij where
 node:Int
 iK:Int
 vM:Int
 uX:Int
 jZ:Int
 yi:Int
 sg:Int
 zC:Int
 w1:Int
 w2:Int
 w3:Int
 DM:Int
 DN:Int
 DO:Int
 zD:Int
 Me:Int
 deriving DecidableEq,Inhabited
structure jh where
 eB:Ij
 up:Bool
 st:je
 bM:List dT
 deriving DecidableEq,Inhabited
structure JU where
 src:Int
 dst:Int
 dh:List (List UInt8)
 deriving DecidableEq,Inhabited
structure kG where
 cA:Int
 bu:List jh
 gV:List JU
 deriving Inhabited
def gQ(x:iF):List AV:=[.int .i64 x.n,.int .u64 x.s,.int .i64 x.o]
def dt(b:fR):List AV:=[.int .i64 b.id.n,.int .u64 b.id.s,.int .i64 b.id.o,.int .i64 b.jF,.int .i64 b.kZ,.int .i64 b.born,.int .i64 b.iO,.int .i64 b.eO,.fN b.data]
def nV(x:rZ):List AV:=[.int .i64 x.id.n,.int .u64 x.id.s,.int .i64 x.id.o,.int .i64 x.Ss]
def gW(x:kF):List AV:=[.int .u64 x.off,.int .u64 x.size,.int .i64 x.id.n,.int .u64 x.id.s,.int .i64 x.id.o]
def lG(x:Int×Int):List AV:=[.int .u64 x.1,.int .u64 x.2]
def kU(x:Int):List AV:=[.int .u64 x]
def Su(x:Int×Int×Int):List AV:=[.int .i64 x.1,.int .i64 x.2.1,.int .i64 x.2.2]
def eG(S:jt)(s:AV):List AV:=[.int .u64 S.g,.int .u64 S.n,.int .u64 S.r,s]
def eZ(R:iJ)(t k:AV):List AV:=[.int .u64 R.g,.int .u64 R.r,.int .u64 R.f,t,k]
def dc(P:dT)(s t k:AV):List AV:=[.int .i64 P.node,.int .u64 P.nu,.bool (decide (P.Md=true)),.int .u64 P.mX,.int .u64 P.send.g,.int .u64 P.send.n,.int .u64 P.send.r,s,.int .u64 P.recv.g,.int .u64 P.recv.r,.int .u64 P.recv.f,t,k]
def Mf(c:Ij):List AV:=[.int .i64 c.node,.int .u64 c.iK,.int .u64 c.vM,.int .u64 c.uX,.int .u64 c.jZ,.int .i64 c.yi,.int .i64 c.sg,.int .i64 c.zC,.int .i64 c.w1,.int .i64 c.w2,.int .i64 c.w3,.int .i64 c.DM,.int .i64 c.DN,.int .i64 c.DO,.int .i64 c.zD,.int .i64 c.Me]
def mf(S:je)(b m p:AV):List AV:=[.int .i64 S.node,.int .u64 S.C2,.int .i64 S.dF.n,.int .u64 S.dF.s,.int .i64 S.dF.o,b,m,p]
def U(x:Int):Prop:=0<=x/\x<=18446744073709551615
def I(x:Int):Prop:=-9223372036854775808<=x/\x<=9223372036854775807
attribute [go_sem] Aax AhC Aay AhD AhE AhF AhG AhH AhI AhJ AhK AhL AhM Wk Ma AhN AhO AhP AhQ Wm Wn Aaz AaA AaB AhR AhS AhT AhU AaC Wu AhV AhW AhX AhY AhZ Ah0 Ah1 Ah2 Ah3 Ah4 Ah5 w_v fZ AaG AaH AaI Aih Aii Aij Aik Ail Aim Ain Aio Aip Aiq Air Ais r_p r_l r_k Ah6 Sf w_f u_s u_n u_e Pf Pg v_r Aiv WB Sk AaM AaN WC JQ AaO AaP AaQ AaR AaS AaT AaU WD AaV O4 AaW AaX AaY Aiw AaZ WE WG WH Aa0 O5 O6 Aix Aa1 Aa2 Aa3 WI Aa6 Aa7 Aa8 Aa9 Aba Ur Aiy Aiz AiA AiB Abb Abc AiC AiD AiE AiF WJ Sl tD WK O7 Ie O9 Pa Sm WL Sn Aa4 Pb Mb So WM Pc Aa5 Sp Mc Uq Ww AaJ j6.dZ eD wW cP lz eU cO.succ Mem.apply Mem.dX Mem.gC wI Hu Be kK Vp uv zg mG fG iT iX nJ mF hH gh AV.cj zh xL tQ bG nK fH eC.eq_1 eC.eq_2 eC.eq_3 wU dQ qi gR wV qf qg uy Di tB j6.qz j6.mu L7 ins uU uV ur Ih nX Pd Gm Nat.ble Nat.beq q_e Aan Ul Aao Um Aap Un Aaq Aar Aas Aat Aau Aav cond_false cond_true cO.l.injEq cO.r.injEq if_false if_true map_some map_none Int.toNat_natCast Int.natCast_nonneg and_self and_true true_and Nat.zero_add nil_append append_nil singleton_append cons_append length_cons length_nil Bool.false_eq_true Bool.not_true Bool.not_false jR bj tA Aak Aal Aam gG decide_true decide_false not_true_eq_false not_false_eq_true beq_self_eq_true all_cons all_nil Sd Wd We Wh Ge LW OW LY Wj Se OX Bool.and_self Bool.and_true Bool.true_and Bool.and_false Bool.false_and Bool.or_true Bool.true_or Bool.or_false Bool.false_or drop_zero drop_succ_cons take_succ_cons take_zero drop_nil take_nil getElem?_cons_zero getElem?_cons_succ set_cons_zero set_cons_succ flatten_cons flatten_nil map_cons map_nil Nat.add_zero Nat.lt_irrefl eq_self gt_iff_lt ge_iff_le getD_some isSome_some isSome_none isNone_none _root_.or_self or_false false_or or_true true_or and_false false_and isEmpty_nil isEmpty_cons replicate_succ replicate_zero true_implies forall_const implies_true Classical.not_not Abg ieq Abh AiH AiI AiJ WR AiK AiL AiM AiN AiO AiP AiQ AiR Abi Abj Abk Abl Abm Abn Abo AiG WQ Sq Aif Aig Ah7 Ah8 Ah9 AaD AaE Aia Aib Aic Aid Aie AaF ne_eq AV.int.injEq AV.tuple.injEq AV.bool.injEq AV.agg.injEq List.cons.injEq Prod.mk.injEq length_map
end Go.Abs
end
