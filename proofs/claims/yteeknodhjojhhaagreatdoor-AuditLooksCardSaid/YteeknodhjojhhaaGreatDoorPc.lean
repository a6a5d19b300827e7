/- Functions of the program on symbolic values
   Conditions: none. -/
import Derived.Test.YteeknodhjojhhaaGreatDoorPb
import Derived.KernelRfl
set_option linter.unusedSimpArgs false
set_option linter.unusedVariables false
set_option maxRecDepth 100000
set_option maxHeartbeats 16000000
noncomputable section
namespace Go.Abs
open List Option IntKind
variable(j n:Nat)(h:aN)
section
variable{F:FuncId->Option bD}{au:bR}{sm:ct}
end
section
variable{F:FuncId->Option bD}{au:bR}{sm:ct}
theorem Al4(mD:Bool)(rd gu:List Nat)(h:aN)(bU:Nat)(T:Tr)(x:bE):Ro mD rd gu h bU T (.mv x)=some (cP T x,[]):=by cases mD<;>rfl
theorem aY.Aj8{h h2:aN}{dx d d2:List Nat}(k:aY ⟨h,[],d⟩ ⟨h2,dx,d2⟩){b:Nat}(hb:b<h.length):ins dx b=false:=by
 cases hq:ins dx b with
 |false=>rfl
 |true=>
  obtain⟨q,h1,h2⟩:=k.hU;simp only[append_nil]at h1 h2;subst h1;have:=h2 _ ((oG _ _).1 hq);omega
end
section
variable{F:FuncId->Option bD}{au:bR}{sm:ct}
end
section
variable{F:FuncId->Option bD}{au:bR}{sm:ct}
end
section
variable{F:FuncId->Option bD}{au:bR}{sm:ct}
def vr(l:List fR):Bool:=l.all λb=>decide (¬1100<(b.data.length:Int))
def zO(x:PX):Prop:=¬30<(x.p.send.bN.length:Int)/\¬30<(x.p.recv.cH.length:Int)/\¬30<(x.p.recv.jW.length:Int)
instance Amt(x:PX):Decidable (zO x):=by unfold zO;infer_instance
def nC(l:List PX):Bool:=l.all λx=>decide (zO x)
theorem E21(l:List fR)(v:AV)(m:Mem)(hv:aT m.ah 9 v (l.map dt))(hw:l.length<=1000)(q_:2<=j:=by omega):SM j 21 [v] m=some (.bool (decide (vr l=true)),m):=by
 obtain⟨h,lg,d⟩:=m;refine aP 1999 q_ λn=>?_
 have lv:=hv.len;refine aS ?_;refine bL l.length [X3] (λi=>[Ei i]) (λi=>vr l=vr (l.drop i)) Z aX ⟨rfl,rfl⟩ (λi h' bq g hi hP hK=>?_) (λh' bq g hP hK=>?_)
 .have a:=hK.aA lg d;have e:=(hK.sl hv).el hi;have r:=fh hi Z;unfold dt at e;rw[drop_eq_getElem_cons hi,vr,vr,all_cons,<-bB hi]at hP;refine aW (Z4 a e r lv) ?_;refine⟨λc=>?_,λc=>?_⟩
  .symm;apply decide_eq_false;rw[vr,hP,decide_eq_false (λq=>q c)];simp
  .rw[vr,hP,decide_eq_true c];rfl
 .have a:=hK.aA lg d;have r:=cY l.length;refine aW (Z3 a r lv) ?_;rw[hP,drop_length];rfl
theorem E20(l:List PX)(v:AV)(m:Mem)(hv:df m.ah v l)(hw:l.length<=1000)(q_:1<=j:=by omega):SM j 20 [v] m=some (.bool (decide (nC l=true)),m):=by
 obtain⟨h,lg,d⟩:=m;refine aP 1999 q_ λn=>?_
 have lv:=hv.v.len;refine aS ?_;refine bL l.length [X3] (λi=>[Ei i]) (λi=>nC l=nC (l.drop i)) Z aX ⟨rfl,rfl⟩ (λi h' bq g hi hP hK=>?_) (λh' bq g hP hK=>?_)
 .have a:=hK.aA lg d;have hp:=hK.ps hv;have e:=hp.v.el hi;have r:=fh hi Z;have hx:=hp.p _ (bA hi);have d1:=hx.s.s.sc;have d2:=hx.r.t.sc;have d3:=hx.r.k.sc;have l1:=hx.s.s.len;have l2:=hx.r.t.len;have l3:=hx.r.k.len;unfold wh dc at e;rw[drop_eq_getElem_cons hi,nC,nC,all_cons,<-bB hi]at hP;refine aW (Z7 a e r lv l1 l2 l3) ?_;have sp:zO (gt l i)↔(¬30<((gt l i).p.send.bN.length:Int)/\¬30<((gt l i).p.recv.cH.length:Int)/\¬30<((gt l i).p.recv.jW.length:Int)):=Iff.rfl;have no:¬zO (gt l i)->false=decide (nC l=true):=λq=>by
   symm;apply decide_eq_false;rw[nC,hP,decide_eq_false q];simp
  have yes:zO (gt l i)->nC l=nC (l.drop (i+1)):=λq=>by
   rw[nC,hP,decide_eq_true q];rfl
  refine⟨λc=>no λq=>(sp.1 q).1 c,λc=>⟨λc2=>no λq=>(sp.1 q).2.1 c2,λc2=>⟨λc3=>no λq=>(sp.1 q).2.2 c3,λc3=>yes (sp.2 ⟨c,c2,c3⟩)⟩⟩⟩
 .have a:=hK.aA lg d;have r:=cY l.length;refine aW (Z3 a r lv) ?_;rw[hP,drop_length];rfl
structure ue(h:aN)(x:VX):Prop where
 b:aT h 9 x.b (x.v.st.held.map dt)
 m:aT h 4 x.m (x.v.st.seen.map nV)
 p:df h x.p x.lp
 q:df h x.q x.lq
theorem ue.bw{m m':Mem}{x:VX}(H:ue m.ah x)(k:aY m m'):ue m'.ah x:=⟨H.b.bw k,H.m.bw k,H.p.bw k,H.q.bw k⟩
structure iM(h:aN)(s:cE):Prop where
 v:aT h 26 s.nv (s.vs.map dI)
 l:aT h 3 s.lv (s.ls.map jB)
 va:∀x∈s.vs,ue h x
 la:∀x∈s.ls,aT h 1 x.f (x.l.dh.map oI)
theorem iM.bw{m m':Mem}{s:cE}(H:iM m.ah s)(k:aY m m'):iM m'.ah s:=⟨H.v.bw k,H.l.bw k,λx hx=>(H.va x hx).bw k,λx hx=>(H.la x hx).bw k⟩
theorem iM.bx{h:aN}{s:cE}(H:iM h s)(l:List (Option bp)):iM (aR h l) s:=iM.bw (m:=⟨h,[],[]⟩) (m':=⟨aR h l,[],[]⟩) H ⟨by show h.length<=(aR h l).length;rw[bV];omega,λb hb=>an l h b hb,rfl,[],rfl,λ_ h=>by cases h⟩
structure PJ(x:VX):Prop where
 b:x.v.st.held.length<=15
 m:x.v.st.seen.length<=30
 p:x.lp.length<=18
 q:x.lq.length<=18
 p':nC x.lp=true
 q':nC x.lq=true
 d:vr x.v.st.held=true
structure IG(s:cE):Prop where
 n:s.vs.length<=18
 k:s.ls.length<=245
 v:∀x∈s.vs,PJ x
 f:∀x∈s.ls,x.l.dh.length<=200
 g:∀x∈s.ls,∀f∈x.l.dh,f.length<=1300
theorem N4(lg d:List Nat)(s:cE)(H:iM h s)(q_:2<=j:=by omega):Wa FT MT (SM j) (n+2000) (.fn 4) [.agg (cJ s)] ⟨aR h [],lg,d⟩ (Qk ⟨h,lg,d⟩ λw _=>∃b:Bool,w=.bool b/\(b=true->IG s)):=by
 refine aI ?_;have c1:=H.v.sc;have c2:=H.l.sc;have l1:=H.v.len;have l2:=H.l.len;refine aW (Z6 @cJ.eq_1 c1 c2 l1 l2 @mZ) ?_;refine⟨λc=>⟨false,rfl,λq=>by cases q⟩,λe1=>⟨λc=>⟨false,rfl,λq=>by cases q⟩,λe2=>?_⟩⟩;refine bL s.vs.length [X3] (λi=>[Ei i]) (λi=>∀x∈s.vs.take i,PJ x) Z aX ⟨rfl,λx hx=>by simp at hx⟩ (λi h' bq g hi hP hK=>?_) (λh' bq g hP hK=>?_)
 .have a:=hK.aA lg d;have tR:iM h' s:=iM.bw (m:=⟨aR h _,_,[]⟩) (m':=⟨h',bq,[]⟩) (H.bx _) hK;have e:=tR.v.el hi;have r:=fh hi Z;have hx:=tR.va _ (bA hi);have d1:=hx.b.sc;have d2:=hx.m.sc;have d3:=hx.p.v.sc;have d4:=hx.q.v.sc;have m1:=hx.b.len;have m2:=hx.m.len;have m3:=hx.p.v.len;have m4:=hx.q.v.len;have g1:=λ(c:¬18<((gt s.vs i).lq.length:Int)) l lg d=>E20 j (gt s.vs i).lq (gt s.vs i).q ⟨aR h' l,lg,d⟩ (hx.q.bx l) Z
  have g2:=λ(c:¬18<((gt s.vs i).lp.length:Int)) l lg d=>E20 j (gt s.vs i).lp (gt s.vs i).p ⟨aR h' l,lg,d⟩ (hx.p.bx l) Z
  have g3:=λ(c:¬15<((gt s.vs i).v.st.held.length:Int)) l lg d=>E21 j (gt s.vs i).v.st.held (gt s.vs i).b ⟨aR h' l,lg,d⟩ (hx.b.bx l) Z
  unfold dI at e;refine aW (gX a e r l1 d1 d2 d3 d4 m1 m2 m3 (Z4 m4 g1 g2 g3)) ?_;have no:∀q dx,dm h' bq dx->Qk ⟨h,lg,d⟩ (λw _=>∃b:Bool,w=.bool b/\(b=true->IG s)) (.bool false) ⟨aR h' q,dx,d⟩:=λq dx hq=>⟨a.2.2 _ _ hq,false,rfl,λq=>by cases q⟩
  refine⟨λc1=>no _ _ aL,λc1=>⟨λc2=>no _ _ aL,λc2=>⟨λc3=>no _ _ aL,λc3=>⟨λc4=>no _ _ aL,λc4=>⟨λc5=>no _ _ aL,λc5=>⟨λc6=>no _ _ aL,λc6=>⟨λc7=>no _ _ aL,λc7 x hx=>?_⟩⟩⟩⟩⟩⟩⟩;rw[take_add_one,getElem?_eq_getElem hi,toList_some,mem_append,mem_singleton,<-bB hi]at hx;rcases hx with hx|rfl
  .exact hP x hx
  .exact⟨Z,Z,Z,Z,c6,c5,c7⟩
 .have a:=hK.aA lg d;have r:=cY s.vs.length;rw[take_length]at hP;refine aW (Z3 a r l1) ?_;refine Sr (α:=Nat) s.ls.length [X6,X5] (λi n=>[Ei i,Ei n]) (λi n _=>n<=200/\∀x∈s.ls.take i,x.l.dh.length<=200/\∀f∈x.l.dh,f.length<=1300) Z aX ⟨0,rfl,Z,λx hx=>by simp at hx⟩ (λi n1 h2 dx g2 hi mh iL=>?_) (λn1 h2 dx g2 mh iL=>?_)
  .have kk:=hK.trans iL;have a:=aY.aA kk lg d;have r:=fh hi Z;refine aW (Z3 a r l2) ?_;refine bL (min (gt s.ls i).l.dh.length (200-n1)) [X7,X5] (λk=>[Ei k,Ei ((n1+k:Nat):Int)]) (λk=>∀f∈(gt s.ls i).l.dh.take k,f.length<=1300) Z (by repeat first|apply Gp|apply Gq|apply Gn|apply SI|apply SJ) ⟨rfl,λf hf=>by simp at hf⟩ (λk h3 dH g3 hk hP3 S7=>?_) (λh3 dH g3 hP3 S7=>?_)
   .have kk:=(hK.trans iL).trans S7;have a:=aY.aA kk lg d;have KG:iM h3 s:=iM.bw (m:=⟨aR h _,_,[]⟩) (m':=⟨h3,dH,[]⟩) (H.bx _) kk;have e:=KG.l.el hi;have hf:=KG.la _ (bA hi);have lf:=hf.len;have ef:=hf.el (i:=k) Z;have r1:((k:Int)<((gt s.ls i).l.dh.length:Int))=True:=dy;have r2:i64.wrap (((n1+k:Nat):Int)+1)=((n1+(k+1):Nat):Int):=by rw[aU Z Z];omega
    have r3:(200<((n1+(k+1):Nat):Int))=False:=cR;have r4:i64.wrap ((k:Int)+1)=((k+1:Nat):Int):=by rw[aU Z Z];omega
    unfold jB at e;unfold oI at ef;refine aW (Z9 a e lf ef r1 r2 r3 r4 @mZ) ?_;refine⟨λ_=>⟨false,rfl,λq=>by cases q⟩,λc=>⟨S7,λf hf=>?_⟩⟩;rw[take_add_one,getElem?_eq_getElem Z,toList_some,mem_append,mem_singleton,<-bB Z]at hf;rcases hf with hf|rfl
    .exact hP3 f hf
    .omega
   .have kk:=(hK.trans iL).trans S7;have a:=aY.aA kk lg d;have KG:iM h3 s:=iM.bw (m:=⟨aR h _,_,[]⟩) (m':=⟨h3,dH,[]⟩) (H.bx _) kk;have e:=KG.l.el hi;have hf:=KG.la _ (bA hi);have lf:=hf.len;unfold jB at e;generalize hN:min (gt s.ls i).l.dh.length (200-n1)=N;by_cases oT:(gt s.ls i).l.dh.length<=200-n1
    .have r1:((N:Int)<((gt s.ls i).l.dh.length:Int))=False:=cR;refine aW (Z5 a e lf r1 r) ?_;refine⟨n1+N,rfl,iL.trans S7,Z,λx hx=>?_⟩;rw[take_add_one,getElem?_eq_getElem hi,toList_some,mem_append,mem_singleton,<-bB hi]at hx;rcases hx with hx|rfl
     .exact mh.2 x hx
     .exact⟨Z,λf hf=>hP3 f (by rw[take_of_length_le Z];exact hf)⟩
    .have r1:((N:Int)<((gt s.ls i).l.dh.length:Int))=True:=dy;have r2:i64.wrap (((n1+N:Nat):Int)+1)=201:=by rw[aU Z Z];omega
     refine aW (Z6 a e lf r1 r2 @mZ) ?_;exact⟨false,rfl,λq=>by cases q⟩
  .have kk:=hK.trans iL;have a2:=iL.aA bq d;have a:=aY.aA kk lg d;have r:=cY s.ls.length;rw[take_length]at mh;refine aW (Z4 a r l2 @mZ) ?_;exact⟨true,rfl,λ_=>⟨Z,Z,hP,λx hx=>(mh.2 x hx).1,λx hx=>(mh.2 x hx).2⟩⟩
end
section
variable{F:FuncId->Option bD}{au:bR}{sm:ct}
theorem aT.IH{h:aN}{e:Nat}{v:AV}{es:List (List AV)}(H:aT h e v es)(l:List (Option bp)):eW (aj (aR h l)) e v=Option.some es:=by
 rcases H with⟨rfl,rfl|rfl|rfl⟩|⟨b,i,c,bS,bI,rfl,hb,hw,hk⟩
 .rfl
 .rfl
 .rfl
 .exact aT.els (.some b i c bS bI rfl hb hw hk) (λn h=>by cases h) l
structure nD(k:Nat)(h:aN)(e:Nat)(v:AV)(es:List (List AV)):Prop where
 sl:aT h e v es
 no:kS v
 fr:∀c∈v.cj,k<=c
theorem nD.bw{k:Nat}{m m':Mem}{e:Nat}{v:AV}{es:List (List AV)}(H:nD k m.ah e v es)(q:aY m m'):nD k m'.ah e v es:=⟨H.sl.bw q,H.no,H.fr⟩
theorem nD.bx{k:Nat}{h:aN}{e:Nat}{v:AV}{es:List (List AV)}(H:nD k h e v es)(l:List (Option bp)):nD k (aR h l) e v es:=⟨H.sl.bx l,H.no,H.fr⟩
theorem nD.le{k k':Nat}{h:aN}{e:Nat}{v:AV}{es:List (List AV)}(H:nD k h e v es)(q:k'<=k):nD k' h e v es:=⟨H.sl,H.no,λc hc=>bK q (H.fr c hc)⟩
theorem nD.below{k:Nat}{h:aN}{b e:Nat}{v:AV}{es:List (List AV)}(H:nD k h e v es)(hb:b<h.length)(hk:b<k)(x:Option bp)(l:List (Option bp)):nD k (aR (aQ h b x) l) e v es:=⟨H.sl.bS hb (λc hc q=>by have:=H.fr c hc;omega) x l,H.no,H.fr⟩
theorem nD.mN{k:Nat}{h:aN}{b e e':Nat}{bS:Bool}{bI:List (List AV)}{v:AV}{es:List (List AV)}(H:nD k h e v es)(hb:aj h b=some (.row bS e' bI))(jV:e≠e')(x:Option bp)(l:List (Option bp)):nD k (aR (aQ h b x) l) e v es:=⟨H.sl.bS (ag hb) (H.sl.gz hb jV) x l,H.no,H.fr⟩
theorem yJ{k:Nat}{h:aN}{e:Nat}:nD k h e .fg []:=⟨.none rfl (.inr (.inl rfl)),λn h=>by(cases h),λc hc=>by cases hc⟩
theorem yK{k:Nat}{h:aN}{b e n:Nat}{bS:Bool}{es:List (List AV)}(hb:aj h b=some (.row bS e es))(hn:n=es.length)(hk:k<=b):nD k h e (.slice b 0 n none) es:=
 ⟨.some b 0 none bS es (by rw[hn]) hb (by rw[drop_zero,take_length]) (λ_ h=>by cases h),λn h=>by(cases h),λc hc=>by simp only[AV.cj,mem_singleton]at hc;omega⟩
theorem qE(get:Nat->Option bp)(bU e b:Nat)(x:AV)(hx:eW get e x=some []):eC get bU e b .fg x=some (.fg,[]):=by simp only[eC,hx]
theorem qF(get:Nat->Option bp)(bU e bt:Nat)(x:AV)(xs:List (List AV))(h1:eW get e x=some xs)(h2:xs≠[])(h5:xs.length*bt<=dQ):eC get bU e bt .fg x=some (.slice bU 0 xs.length none,[⟨bU,(aO e xs),gh xs⟩]):=by
 cases xs with
 |nil=>exact absurd rfl h2
 |cons y ys=>
  simp only[eC,h1];rw[aG h5]
theorem N27(lg d:List Nat)(l:List fR)(v:AV)(hv:aT h 9 v (l.map dt))(hw:l.length<=1000)(q_:0<=j:=by omega):Wa FT MT (SM j) (n+1000) (.fn 27) [v] ⟨aR h [],lg,d⟩ (Qk ⟨h,lg,d⟩ λw h'=>nD h.length h' 9 w (l.map dt)):=by
 refine aI ?_;have el:=hv.IH;by_cases hn:l=[]
 .subst hn;have ap:=λq bU=>qE (aj (aR h q)) bU 9 80 v (el q)
  refine aW (Z2 @mZ ap) ?_;exact yJ
 .have ap:=λq bU=>qF (aj (aR h q)) bU 9 80 v _ (el q) (λz=>hn (map_eq_nil_iff.1 z)) (by rw[length_map,show dQ=1000000000000 from rfl];omega)
  refine aW (Z2 @mZ ap) ?_;exact yK bj (by simp) aB
theorem N28(lg d:List Nat)(l:List rZ)(v:AV)(hv:aT h 4 v (l.map nV))(hw:l.length<=1000)(q_:0<=j:=by omega):Wa FT MT (SM j) (n+1000) (.fn 28) [v] ⟨aR h [],lg,d⟩ (Qk ⟨h,lg,d⟩ λw h'=>nD h.length h' 4 w (l.map nV)):=by
 refine aI ?_;have el:=hv.IH;by_cases hn:l=[]
 .subst hn;have ap:=λq bU=>qE (aj (aR h q)) bU 4 32 v (el q)
  refine aW (Z2 @mZ ap) ?_;exact yJ
 .have ap:=λq bU=>qF (aj (aR h q)) bU 4 32 v _ (el q) (λz=>hn (map_eq_nil_iff.1 z)) (by rw[length_map,show dQ=1000000000000 from rfl];omega)
  refine aW (Z2 @mZ ap) ?_;exact yK bj (by simp) aB
theorem N30(lg d:List Nat)(l:List (List UInt8))(v:AV)(hv:aT h 1 v (l.map oI))(hw:l.length<=1000)(q_:0<=j:=by omega):Wa FT MT (SM j) (n+1000) (.fn 30) [v] ⟨aR h [],lg,d⟩ (Qk ⟨h,lg,d⟩ λw h'=>nD h.length h' 1 w (l.map oI)):=by
 refine aI ?_;have el:=hv.IH;by_cases hn:l=[]
 .subst hn;have ap:=λq bU=>qE (aj (aR h q)) bU 1 16 v (el q)
  refine aW (Z2 @mZ ap) ?_;exact yJ
 .have ap:=λq bU=>qF (aj (aR h q)) bU 1 16 v _ (el q) (λz=>hn (map_eq_nil_iff.1 z)) (by rw[length_map,show dQ=1000000000000 from rfl];omega)
  refine aW (Z2 @mZ ap) ?_;exact yK bj (by simp) aB
theorem Aj9(lg d:List Nat)(S:jt)(s:AV)(H:jS h S s)(hw:S.bN.length<=1000)(q_:0<=j:=by omega):Wa FT MT (SM j) (n+1000) (.fn 119) [.agg (eG S s)] ⟨aR h [],lg,d⟩ (Qk ⟨h,lg,d⟩ λw h'=>∃s',w=.agg (eG S s')/\nD h.length h' 5 s' (S.bN.map gW)):=by
 refine aI ?_;have c1:=H.s.sc;have el:=H.s.IH;by_cases hn:S.bN=[]
 .rw[hn,map_nil]at el|-;have ap:=λq bU=>qE (aj (aR h q)) bU 5 40 s (el q)
  refine aW (Z4 @eG.eq_1 c1 @mZ ap) ?_;exact⟨_,rfl,yJ⟩
 .have ap:=λq bU=>qF (aj (aR h q)) bU 5 40 s _ (el q) (λz=>hn (map_eq_nil_iff.1 z)) (by rw[length_map,show dQ=1000000000000 from rfl];omega)
  refine aW (Z4 @eG.eq_1 c1 @mZ ap) ?_;exact⟨_,rfl,yK bj (by simp) aB⟩
theorem Aka(lg d:List Nat)(R:iJ)(t k:AV)(H:lx h R t k)(hw:R.cH.length<=1000)(hx:R.jW.length<=1000)(q_:0<=j:=by omega):Wa FT MT (SM j) (n+1000) (.fn 120) [.agg (eZ R t k)] ⟨aR h [],lg,d⟩ (Qk ⟨h,lg,d⟩ λw h'=>∃t' k',w=.agg (eZ R t' k')/\nD h.length h' 2 t' (R.cH.map lG)/\nD h.length h' 1 k' (R.jW.map kU)):=by
 refine aI ?_;have c1:=H.t.sc;have c2:=H.k.sc;have el:=H.t.IH;have Zb:=H.k.IH;have rm:dQ=1000000000000:=rfl;by_cases hn:R.cH=[]
 .rw[hn,map_nil]at el|-;have ap:=λq bU=>qE (aj (aR h q)) bU 2 16 t (el q)
  by_cases hm:R.jW=[]
  .rw[hm,map_nil]at Zb|-;have XA:=λq bU=>qE (aj (aR h q)) bU 1 8 k (Zb q)
   refine aW (Z6 @eZ.eq_1 c1 c2 @mZ ap XA) ?_;exact⟨_,_,⟨rfl,rfl⟩,yJ,yJ⟩
  .have XA:=λq bU=>qF (aj (aR h q)) bU 1 8 k _ (Zb q) (λz=>hm (map_eq_nil_iff.1 z)) (by rw[length_map,rm];omega)
   refine aW (Z6 @eZ.eq_1 c1 c2 @mZ ap XA) ?_;exact⟨_,_,⟨rfl,rfl⟩,yJ,yK bj (by simp) aB⟩
 .have ap:=λq bU=>qF (aj (aR h q)) bU 2 16 t _ (el q) (λz=>hn (map_eq_nil_iff.1 z)) (by rw[length_map,rm];omega)
  by_cases hm:R.jW=[]
  .rw[hm,map_nil]at Zb|-;have XA:=λq bU=>qE (aj (aR h q)) bU 1 8 k (Zb q)
   refine aW (Z6 @eZ.eq_1 c1 c2 @mZ ap XA) ?_;exact⟨_,_,⟨rfl,rfl⟩,yK bj (by simp) aB,yJ⟩
  .have XA:=λq bU=>qF (aj (aR h q)) bU 1 8 k _ (Zb q) (λz=>hm (map_eq_nil_iff.1 z)) (by rw[length_map,rm];omega)
   refine aW (Z6 @eZ.eq_1 c1 c2 @mZ ap XA) ?_;exact⟨_,_,⟨rfl,rfl⟩,yK bj (by simp) aB,yK bj (by simp) aB⟩
end
section
variable{F:FuncId->Option bD}{au:bR}{sm:ct}
structure kI(k:Nat)(h:aN)(P:dT)(s t q:AV):Prop where
 s:nD k h 5 s (P.send.bN.map gW)
 t:nD k h 2 t (P.recv.cH.map lG)
 q:nD k h 1 q (P.recv.jW.map kU)
theorem kI.bw{k:Nat}{m m':Mem}{P:dT}{s t q:AV}(H:kI k m.ah P s t q)(K:aY m m'):kI k m'.ah P s t q:=⟨H.s.bw K,H.t.bw K,H.q.bw K⟩
theorem kI.bx{k:Nat}{h:aN}{P:dT}{s t q:AV}(H:kI k h P s t q)(l:List (Option bp)):kI k (aR h l) P s t q:=⟨H.s.bx l,H.t.bx l,H.q.bx l⟩
theorem kI.le{k k':Nat}{h:aN}{P:dT}{s t q:AV}(H:kI k h P s t q)(c:k'<=k):kI k' h P s t q:=⟨H.s.le c,H.t.le c,H.q.le c⟩
theorem kI.below{k:Nat}{h:aN}{P:dT}{s t q:AV}{b:Nat}(H:kI k h P s t q)(hb:b<h.length)(hk:b<k)(x:Option bp)(l:List (Option bp)):kI k (aR (aQ h b x) l) P s t q:=⟨H.s.below hb hk x l,H.t.below hb hk x l,H.q.below hb hk x l⟩
theorem kI.mN{k:Nat}{h:aN}{P:dT}{s t q:AV}{b e':Nat}{bS:Bool}{bI:List (List AV)}(H:kI k h P s t q)(hb:aj h b=some (.row bS e' bI))(jV:5<e')(x:Option bp)(l:List (Option bp)):kI k (aR (aQ h b x) l) P s t q:=⟨H.s.mN hb Z x l,H.t.mN hb Z x l,H.q.mN hb Z x l⟩
theorem N64(lg d:List Nat)(P:dT)(s t k:AV)(H:ic h P s t k)(w1:P.send.bN.length<=1000)(w2:P.recv.cH.length<=1000)(w3:P.recv.jW.length<=1000)(q_:0<=j:=by omega):Wa FT MT (SM j) (n+1500) (.fn 64) [.agg (dc P s t k)] ⟨aR h [],lg,d⟩ (Qk ⟨h,lg,d⟩ λw h'=>∃s' t' k',w=.agg (dc P s' t' k')/\kI h.length h' P s' t' k'):=by
 refine aI ?_;have c1:=H.s.s.sc;have c2:=H.r.t.sc;have c3:=H.r.k.sc;refine aW (Z4 @dc.eq_1 c1 c2 c3) ?_;rw[<-fZ];refine fK (Aj9 j (n+499) (aR h [(aO 13 [dc P s t k]),(aO 13 [[Ei 0,Eu 0,.bool false,Eu 0,Eu 0,Eu 0,Eu 0,.aF,Eu 0,Eu 0,Eu 0,.aF,.aF]])]) _ _ P.send s (H.s.bx _) w1) (λw h2 dx k2 og=>?_);obtain⟨s',rfl,o2⟩:=og;have l0:nb h 0<h2.length:=by have:=k2.len;rw[bV]at this;simp only[length_cons,length_nil]at this;simp only[nb];omega
 have l1:nb h 1<h2.length:=by have:=k2.len;rw[bV]at this;simp only[length_cons,length_nil]at this;simp only[nb];omega
 have z0:aj h2 (nb h 0)=(aO 13 [dc P s t k]):=(k2.get _ (by rw[bV];simp[nb])).trans bj;have z1:aj h2 (nb h 1)=(aO 13 [[Ei 0,Eu 0,.bool false,Eu 0,Eu 0,Eu 0,Eu 0,.aF,Eu 0,Eu 0,Eu 0,.aF,.aF]]):=(k2.get _ (by rw[bV];simp[nb])).trans bj;have b0:∀q,aj (aR h2 q) (nb h 0)=(aO 13 [dc P s t k]):=λq=>(an q h2 _ l0).trans z0
 have ob:=bg l0;have d1:=o2.sl.sc;have N2:∀x,lx (aQ h2 (nb h 0) x) P.recv t k:=λx=>by
  have q1:aT h2 2 t (P.recv.cH.map lG):=aT.bw (m:=⟨_,_,_⟩) (m':=⟨h2,dx,_⟩) (H.r.t.bx _) k2;have q2:aT h2 1 k (P.recv.jW.map kU):=aT.bw (m:=⟨_,_,_⟩) (m':=⟨h2,dx,_⟩) (H.r.k.bx _) k2;exact⟨q1.bS l0 (q1.gz z0 Z) x [],q2.bS l0 (q2.gz z0 Z) x [],H.r.g0,H.r.g1⟩
 unfold dc at b0;refine aW (Z4 @eG.eq_1 b0 ob d1) ?_;rw[<-fZ];refine fK (Aka j (n+499) (aQ h2 (nb h 0) ((aO 13 [dc P s' t k]))) _ _ P.recv t k (N2 _) w2 w3) (λw h3 dH k3 LB=>?_);obtain⟨t',k',rfl,o3,o4⟩:=LB;obtain⟨X,hX⟩:∃X:Option bp,X=(aO 13 [dc P s' t k]):=⟨_,rfl⟩;have lm:(aQ h2 (nb h 0) X).length=h2.length:=bJ l0;have k3:aY ⟨aQ h2 (nb h 0) X,nb h 0::dx,[]⟩ ⟨h3,dH,[]⟩:=by rw[hX];exact k3
 have le3:h2.length<=h3.length:=by have:=k3.len;simp only[lm]at this;exact this
 have l3:nb h 0<h3.length:=gA l0 le3;have y0:aj h3 (nb h 0)=(aO 13 [dc P s' t k]):=(k3.get (nb h 0) (by show _<(aQ h2 _ X).length;rw[lm];exact l0)).trans (by show aj (aQ h2 (nb h 0) X) (nb h 0)=_;rw[eY l0,aG rfl,hX]);have Xy:nb h 1≠nb h 0:=by rw[ne_eq,gG];omega
 have y1:aj h3 (nb h 1)=(aO 13 [[Ei 0,Eu 0,.bool false,Eu 0,Eu 0,Eu 0,Eu 0,.aF,Eu 0,Eu 0,Eu 0,.aF,.aF]]):=((k3.get (nb h 1) (by show _<(aQ h2 _ X).length;rw[lm];exact l1)).trans (by show aj (aQ h2 (nb h 0) X) (nb h 1)=aj h2 (nb h 1);rw[eY l0,aq Xy])).trans z1;have b3:∀q,aj (aR h3 q) (nb h 0)=(aO 13 [dc P s' t k]):=λq=>(an q h3 _ l3).trans y0
 have b1:∀q x,aj (aR (aQ h3 (nb h 0) x) q) (nb h 1)=_:=λq x=>(bP l3 (ag y1) Xy q x).trans y1
 have o:=bg l3;have l13:∀x,nb h 1<(aQ h3 (nb h 0) x).length:=λx=>by rw[bJ l3];exact ag y1
 have oo:=λx=>bg (h:=aQ h3 (nb h 0) x) (b:=nb h 1) (l13 x)
 have d3:=o3.sl.sc;have d4:=o4.sl.sc;unfold dc at b3;refine aW (Z9 @eZ.eq_1 b3 b1 o oo d1 d3 d4 @mZ) ?_;have K2:aY ⟨h,lg,[]⟩ ⟨h2,dx,[]⟩:=(aH aL).trans k2;have K3:aY ⟨h,lg,[]⟩ ⟨h3,dH,[]⟩:=(K2.bS aB l0 X [] (dx:=nb h 0::dx) (dD.ok (.cons aB .nil))).trans k3;have S2:nD h.length h2 5 s' (P.send.bN.map gW):=o2.le (by rw[bV];omega);have S3:nD h.length h3 5 s' (P.send.bN.map gW):=nD.bw (m:=⟨aQ h2 (nb h 0) X,nb h 0::dx,[]⟩) (m':=⟨h3,dH,[]⟩) (S2.mN z0 Z X []) k3;have hl:h.length<=(aQ h2 (nb h 0) ((aO 13 [dc P s' t k]))).length:=by rw[bJ l0];exact K2.len
 have P3:kI h.length h3 P s' t' k':=⟨S3,o3.le hl,o4.le hl⟩;have P4:=λx=>P3.mN y0 Z x []
 exact⟨(K3.sub (d:=d)).uW aB l3 aB (ag y1) _ _ _ (dD.ok (by repeat first|exact dD.nil|refine dD.cons (by first|exact aB|exact bK (K3.len) aB|assumption) ?_)),s',t',k',⟨rfl,rfl,rfl⟩,(P4 _).mN (b1 [] _) Z _ []⟩
end
section
variable{F:FuncId->Option bD}{au:bR}{sm:ct}
structure jD(k:Nat)(h:aN)(v:AV)(l:List PX):Prop where
 v:nD k h 13 v (l.map wh)
 p:∀x∈l,kI k h x.p x.s x.t x.k
theorem jD.bw{k:Nat}{m m':Mem}{v:AV}{l:List PX}(H:jD k m.ah v l)(K:aY m m'):jD k m'.ah v l:=⟨H.v.bw K,λx hx=>(H.p x hx).bw K⟩
theorem jD.le{k k':Nat}{h:aN}{v:AV}{l:List PX}(H:jD k h v l)(c:k'<=k):jD k' h v l:=⟨H.v.le c,λx hx=>(H.p x hx).le c⟩
theorem jD.below{k:Nat}{h:aN}{v:AV}{l:List PX}{b:Nat}(H:jD k h v l)(hb:b<h.length)(hk:b<k)(x:Option bp)(q:List (Option bp)):jD k (aR (aQ h b x) q) v l:=⟨H.v.below hb hk x q,λy hy=>(H.p y hy).below hb hk x q⟩
theorem cG.slo{k:Nat}{h:aN}{e:Nat}{v:AV}{es:List (List AV)}(H:cG k h e v es):nD k h e v es:=⟨H.sl,H.Abp,λc hc=>by
 rcases H with⟨hn,rfl⟩|⟨b,rfl,hk,hb⟩
 .cases hc
 .simp only[AV.cj,mem_singleton]at hc;omega⟩
def PL(P:dT):Prop:=P.send.bN.length<=1000/\P.recv.cH.length<=1000/\P.recv.jW.length<=1000
theorem N29(lg d:List Nat)(l:List PX)(v:AV)(H:df h v l)(hl:l.length<=1000)(hp:∀x∈l,PL x.p)(q_:0<=j:=by omega):Wa FT MT (SM j) (n+2000) (.fn 29) [v] ⟨aR h [],lg,d⟩ (Qk ⟨h,lg,d⟩ λw h'=>∃l',jD h.length h' w l'/\l'.map (·.p)=l.map (·.p)):=by
 refine aI ?_;refine aS ?_;refine dz (α:=AV×List PX) l.length [X4,X3] (λi a=>[Ei i,a.1]) (λi a m'=>aY ⟨h,lg,[]⟩ m'/\cG h.length m'.ah 13 a.1 (a.2.map wh)/\(∀x∈a.2,kI h.length m'.ah x.p x.s x.t x.k)/\a.2.map (·.p)=(l.take i).map (·.p)) Z aX ⟨(.aF,[]),rfl,aH aL,.nil rfl rfl,λx hx=>by(cases hx),rfl⟩ (λi a m' g hi hP=>?_) (λa m' g hP=>?_)
 .obtain⟨h',bq,d'⟩:=m';obtain⟨vo,L⟩:=a;obtain⟨k,ho,hL,eL⟩:=hP;obtain rfl:d'=[]:=k.aV;simp only at ho hL eL;have Et:df h' v l:=df.bw (m:=⟨h,lg,[]⟩) (m':=⟨h',bq,[]⟩) H k;have e:=Et.v.el hi;have XB:=Et.v.len;have r:=fh hi Z;have hx:=Et.p _ (bA hi);have pl:=hp _ (bA hi);have PF:L.length<=1000:=by
   have:=congrArg List.length eL;rw[length_map,length_map,length_take]at this;omega
  have et:(l.take (i+1)).map (·.p)=(l.take i).map (·.p)++[(gt l i).p]:=by
   rw[take_add_one,getElem?_eq_getElem hi,toList_some,map_append,bB hi];rfl
  unfold wh dc at e;refine bH ?_;refine aW (Z3 e r XB) ?_;rw[<-fZ];refine fK (N64 j (n+499) h' _ _ (gt l i).p (gt l i).s (gt l i).t (gt l i).k hx pl.1 pl.2.1 pl.2.2) (λw h2 dx k2 og=>?_);obtain⟨s',t',q',rfl,op⟩:=og;have kk:aY ⟨h,lg,[]⟩ ⟨h2,dx,[]⟩:=k.trans k2;have Zc:=op.le k.len;have ho2:cG h.length h2 13 vo (L.map wh):=cG.bw (m:=⟨h',bq,[]⟩) (m':=⟨h2,dx,[]⟩) ho k2;have hL2:∀x∈L,kI h.length h2 x.p x.s x.t x.k:=λx hx=>kI.bw (m:=⟨h',bq,[]⟩) (m':=⟨h2,dx,[]⟩) (hL x hx) k2
  have f1:=op.s.sl.sc;have f2:=op.t.sl.sc;have f3:=op.q.sl.sc;have AfP:∀(hq:aN),(∀x∈L,kI h.length hq x.p x.s x.t x.k)->kI h.length hq (gt l i).p s' t' q'->∀x∈L++[(⟨(gt l i).p,s',t',q'⟩:PX)],kI h.length hq x.p x.s x.t x.k:=λhq h1 h2 x hx=>by
   rcases mem_append.1 hx with hx|hx
   .exact h1 x hx
   .rw[mem_singleton]at hx;subst hx;exact h2
  have eE:(L++[(⟨(gt l i).p,s',t',q'⟩:PX)]).map (·.p)=(l.take (i+1)).map (·.p):=by rw[map_append,eL,et];rfl
  rcases ho2 with⟨hn,rfl⟩|⟨bo,rfl,hk,No⟩
  .refine aW (Z5 @dc.eq_1 r f1 f2 f3) ?_;refine⟨(.slice (nb h2 1) 0 1 none,L++[⟨(gt l i).p,s',t',q'⟩]),rfl,kk.trans (aH aL),?_,AfP _ (λx hx=>(hL2 x hx).bx _) (Zc.bx _),eE⟩;rw[map_append,hn];exact .some (nb h2 1) rfl (bK kk.len aB) bj
  .have o:=bg (ag No);have Akb:∀l,aj (aR h2 l) bo=_:=λl=>(an l h2 _ (ag No)).trans No
   have fA:(1000000000000<(L.length+1)*152)=False:=by simp;omega
   have fC:List.take L.length (L.map wh)=L.map wh:=take_of_length_le (by simp);rw[length_map];refine aW (yA @dc.eq_1 r f1 f2 f3 o Akb fA @fB fC) ?_;refine⟨(.slice (nb h2 1) 0 (L.length+1) none,L++[⟨(gt l i).p,s',t',q'⟩]),rfl,kk.bS hk (ag No) _ _ (dD.ok (by repeat first|exact dD.nil|refine dD.cons (by first|exact aB|exact bK (kk.len) aB|assumption) ?_)),?_,AfP _ (λx hx=>(hL2 x hx).mN No Z _ _) (Zc.mN No Z _ _),eE⟩;rw[map_append];exact .some (nb h2 1) (by simp) (bK kk.len aB) (o.2.1 _ _ _)
 .obtain⟨h',bq,d'⟩:=m';obtain⟨vo,L⟩:=a;obtain⟨k,ho,hL,eL⟩:=hP;obtain rfl:d'=[]:=k.aV;simp only at ho hL eL;have Et:df h' v l:=df.bw (m:=⟨h,lg,[]⟩) (m':=⟨h',bq,[]⟩) H k;have XB:=Et.v.len;have r:=cY l.length;rw[take_length]at eL;refine bH ?_;refine aW (Z3 r @mZ XB) ?_;exact⟨k.sub (d:=d),L,⟨ho.slo,hL⟩,eL⟩
end
theorem o4{a b c d e:Prop}(h:a/\b/\c/\d/\e):a/\b/\c/\e:=⟨h.1,h.2.1,h.2.2.1,h.2.2.2.2⟩
section
variable{F:FuncId->Option bD}{au:bR}{sm:ct}
structure jo(k:Nat)(h:aN)(x:VX):Prop where
 b:nD k h 9 x.b (x.v.st.held.map dt)
 m:nD k h 4 x.m (x.v.st.seen.map nV)
 p:jD k h x.p x.lp
 q:jD k h x.q x.lq
 e:x.v.st.bM=x.lp.map (·.p)
 f:x.v.bM=x.lq.map (·.p)
theorem jo.bw{k:Nat}{m m':Mem}{x:VX}(H:jo k m.ah x)(K:aY m m'):jo k m'.ah x:=⟨H.b.bw K,H.m.bw K,H.p.bw K,H.q.bw K,H.e,H.f⟩
theorem jo.le{k k':Nat}{h:aN}{x:VX}(H:jo k h x)(c:k'<=k):jo k' h x:=⟨H.b.le c,H.m.le c,H.p.le c,H.q.le c,H.e,H.f⟩
theorem jo.below{k:Nat}{h:aN}{x:VX}{b:Nat}(H:jo k h x)(hb:b<h.length)(hk:b<k)(y:Option bp)(q:List (Option bp)):jo k (aR (aQ h b y) q) x:=⟨H.b.below hb hk y q,H.m.below hb hk y q,H.p.below hb hk y q,H.q.below hb hk y q,H.e,H.f⟩
theorem jD.UJ{k:Nat}{h:aN}{v:AV}{l:List PX}{b e':Nat}{bS:Bool}{bI:List (List AV)}(H:jD k h v l)(hb:aj h b=some (.row bS e' bI))(jV:e'=26\/e'=3)(x:Option bp)(q:List (Option bp)):jD k (aR (aQ h b x) q) v l:=
 ⟨H.v.mN hb Z x q,λy hy=>⟨(H.p y hy).s.mN hb Z x q,(H.p y hy).t.mN hb Z x q,(H.p y hy).q.mN hb Z x q⟩⟩
theorem jo.UJ{k:Nat}{h:aN}{x:VX}{b e':Nat}{bS:Bool}{bI:List (List AV)}(H:jo k h x)(hb:aj h b=some (.row bS e' bI))(jV:e'=26\/e'=3)(y:Option bp)(q:List (Option bp)):jo k (aR (aQ h b y) q) x:=⟨H.b.mN hb Z y q,H.m.mN hb Z y q,H.p.UJ hb jV y q,H.q.UJ hb jV y q,H.e,H.f⟩
structure Akc(h:aN)(lg:List Nat)(s:cE)(i:Nat)(a:AV×List VX)(m:Mem):Prop where
 k:aY ⟨h,lg,[]⟩ m
 b0:aj m.ah (nb h 0)=(aO 3 [[Ei s.cA,s.nv,s.lv]])
 b1:aj m.ah (nb h 1)=(aO 3 [[Ei 0,.aF,.aF]])
 b2:aj m.ah (nb h 2)=(aO 3 [[Ei s.cA,a.1,.aF]])
 ho:cG (nb h 3) m.ah 26 a.1 (a.2.map dI)
 hv:∀x∈a.2,jo (nb h 3) m.ah x
 e:a.2.map (·.v)=(s.vs.take i).map (·.v)
structure Akd(h:aN)(lg:List Nat)(s:cE)(vo:AV)(L:List VX)(i:Nat)(a:AV×List LX)(m:Mem):Prop where
 k:aY ⟨h,lg,[]⟩ m
 b0:aj m.ah (nb h 0)=(aO 3 [[Ei s.cA,s.nv,s.lv]])
 b1:aj m.ah (nb h 1)=(aO 3 [[Ei 0,.aF,.aF]])
 b2:aj m.ah (nb h 2)=(aO 3 [[Ei s.cA,vo,a.1]])
 ho:nD (nb h 3) m.ah 26 vo (L.map dI)
 hv:∀x∈L,jo (nb h 3) m.ah x
 eL:L.map (·.v)=s.vs.map (·.v)
 hl:cG (nb h 3) m.ah 3 a.1 (a.2.map jB)
 hf:∀x∈a.2,nD (nb h 3) m.ah 1 x.f (x.l.dh.map oI)
 e:a.2.map (·.l)=(s.ls.take i).map (·.l)
structure S8(k:Nat)(h:aN)(s:cE):Prop where
 v:nD k h 26 s.nv (s.vs.map dI)
 l:nD k h 3 s.lv (s.ls.map jB)
 va:∀x∈s.vs,jo k h x
 la:∀x∈s.ls,nD k h 1 x.f (x.l.dh.map oI)
structure UK(s:cE):Prop where
 p:∀x∈s.vs,∀y∈x.lp,PL y.p
 q:∀x∈s.vs,∀y∈x.lq,PL y.p
theorem N6(lg d:List Nat)(s:cE)(H:bQ h s)(hL:UK s)(q_:0<=j:=by omega):Wa FT MT (SM j) (n+3000) (.fn 6) [.agg (cJ s)] ⟨aR h [],lg,d⟩ (Qk ⟨h,lg,d⟩ λw h'=>∃s',w=.agg (cJ s')/\S8 h.length h' s'/\s'.d=s.d):=by
 refine aI ?_;have c1:=H.v.sc;have c2:=H.l.sc;refine aW (Z3 @cJ.eq_1 c1 c2) ?_;refine dz (α:=AV×List VX) s.vs.length [X4] (λi a=>[Ei i]) (Akc h lg s) (by have:=H.w1;omega) aX ⟨(.aF,[]),rfl,⟨aH aL,bj,bj,bj,.nil rfl rfl,λx hx=>by(cases hx),rfl⟩⟩ (λi a m' g hi hP=>?_) (λa m' g hP=>?_)
 .obtain⟨h',bq,d'⟩:=m';obtain⟨vo,L⟩:=a;obtain⟨k,b0,b1,b2,ho,HH,eL⟩:=hP;obtain rfl:d'=[]:=k.aV;simp only at b0 b1 b2 ho HH eL;have tR:bQ h' s:=bQ.bw (m:=⟨h,lg,[]⟩) (m':=⟨h',bq,[]⟩) H k;have e:=tR.v.el hi;have Nn:=tR.v.len;have r:=fh hi (by have:=H.w1;omega);have hx:=tR.va _ (bA hi);have d1:=hx.s.b.sc;have d2:=hx.s.m.sc;have d3:=hx.s.p.v.sc;have d4:=hx.q.v.sc;have yG:∀l,aj (aR h' l) (nb h 0)=_:=λl=>(an l h' _ (ag b0)).trans b0
  unfold dI at e;refine bH ?_;refine aW (Z9 e r d1 d2 d3 d4 yG Nn @MD) ?_;rw[<-fZ];have ge3:h.length<=h'.length:=k.len;refine fK (N27 j (n+1999) (aR h' [(aO 1 ((dI (gt s.vs i)).map λc=>[c]))]) [] [] (gt s.vs i).v.st.held (gt s.vs i).b (hx.s.b.bx _) hx.s.w1) (λw8 h2 dx k2 S9=>?_);have z2:aj h2 (nb h' 0)=(aO 1 ((dI (gt s.vs i)).map λc=>[c])):=(k2.get _ (by rw[bV];simp[nb])).trans bj;have l2:nb h' 0<h2.length:=ag z2;have i2:ins dx (nb h' 0)=false:=k2.Aj1 (by simp);have UL:∀q,aj (aR h2 q) (nb h' 0)=(aO 1 ((dI (gt s.vs i)).map λc=>[c])):=λq=>(an q h2 _ l2).trans z2
  have K2:aY ⟨h',bq,[]⟩ ⟨h2,dx++(nb h' 0::nb h' 0::bq),[]⟩:=(aH (l:=[(aO 1 ((dI (gt s.vs i)).map λc=>[c]))]) aL).trans (k2.lg _ []);have x2:jA h2 (gt s.vs i):=jA.bw (m:=⟨h',bq,[]⟩) (m':=⟨h2,_,[]⟩) hx K2;have UM:=S9.sl.sc;have ce8:=S9.sl.cells;unfold dI at UL;simp only[map_cons,map_nil]at UL;refine aW (Z4 UL i2 @MD @Xx) ?_;rw[<-fZ];refine fK (N28 j (n+1999) h2 [] [] (gt s.vs i).v.st.seen (gt s.vs i).m x2.s.m x2.s.w2) (λNp h3 dH k3 XC=>?_);have z3:aj h3 (nb h' 0)=(aO 1 ((dI (gt s.vs i)).map λc=>[c])):=(k3.get _ l2).trans z2;have l3:nb h' 0<h3.length:=ag z3;have b33:∀q,aj (aR h3 q) (nb h' 0)=(aO 1 ((dI (gt s.vs i)).map λc=>[c])):=λq=>(an q h3 _ l3).trans z3
  have K3:=K2.trans (k3.lg _ []);have XD:=XC.sl.sc;have Ake:=XC.sl.cells;have ob3:=bg l3;unfold dI at b33;simp only[map_cons,map_nil]at b33;refine aW (Z8 b33 ob3 UM XD ce8 Ake @MD @Xx) ?_;rw[<-fZ];obtain⟨R1,hR1⟩:∃R1:Option bp,R1=(aO 1 ((dI ⟨(gt s.vs i).v,w8,Np,(gt s.vs i).p,(gt s.vs i).lp,(gt s.vs i).q,(gt s.vs i).lq⟩).map λc=>[c])):=⟨_,rfl⟩;have GL:h'.length<=nb h' 0:=aB;have lM:(aQ h3 (nb h' 0) R1).length=h3.length:=bJ l3;have KM:=K3.bS (b:=nb h' 0) GL l3 R1 [] (dx:=nb h' 0::nb h' 0::(dH++(dx++(nb h' 0::nb h' 0::bq)))) (dD.ok (.cons GL (.cons GL .nil)));have xM:jA (aQ h3 (nb h' 0) R1) (gt s.vs i):=jA.bw (m:=⟨h',bq,[]⟩) (m':=⟨aQ h3 (nb h' 0) R1,_,[]⟩) hx KM;have gM:=N29 j (n+999) (aQ h3 (nb h' 0) R1) [] [] (gt s.vs i).lp (gt s.vs i).p xM.s.p xM.s.w3 (hL.p _ (bA hi));rw[hR1]at gM;refine fK gM (λRi h4 fi k4 XE=>?_);have k4:aY ⟨aQ h3 (nb h' 0) R1,[],[]⟩ ⟨h4,fi,[]⟩:=by rw[hR1];exact k4
  have XE:∃l',jD (aQ h3 (nb h' 0) R1).length h4 Ri l'/\l'.map (·.p)=(gt s.vs i).lp.map (·.p):=by rw[hR1];exact XE
  obtain⟨Ta,Zc,ep'⟩:=XE;have zM:aj (aQ h3 (nb h' 0) R1) (nb h' 0)=R1:=by rw[eY l3,aG rfl]
  have l4:nb h' 0<h4.length:=gA (by rw[<-lM]at l3;exact l3) k4.len;have z4:aj h4 (nb h' 0)=(aO 1 ((dI ⟨(gt s.vs i).v,w8,Np,(gt s.vs i).p,(gt s.vs i).lp,(gt s.vs i).q,(gt s.vs i).lq⟩).map λc=>[c])):=((k4.get (nb h' 0) (by show _<(aQ h3 _ R1).length;rw[lM];exact l3)).trans zM).trans hR1;have i4:ins fi (nb h' 0)=false:=k4.Aj8 (by rw[lM];exact l3);have b44:∀q,aj (aR h4 q) (nb h' 0)=_:=λq=>(an q h4 _ l4).trans z4
  have K4:=KM.trans (k4.lg _ []);have x4:jA h4 (gt s.vs i):=jA.bw (m:=⟨h',bq,[]⟩) (m':=⟨h4,_,[]⟩) hx K4;have AfQ:=Zc.v.sl.sc;have AfR:=Zc.v.sl.cells;unfold dI at b44;simp only[map_cons,map_nil]at b44;refine aW (Z4 b44 i4 @MD @Xx) ?_;rw[<-fZ];refine fK (N29 j (n+999) h4 [] [] (gt s.vs i).lq (gt s.vs i).q x4.q x4.w (hL.q _ (bA hi))) (λE9 h5 jg k5 AfS=>?_);obtain⟨GM,oq',eq'⟩:=AfS;have z5:aj h5 (nb h' 0)=(aO 1 ((dI ⟨(gt s.vs i).v,w8,Np,(gt s.vs i).p,(gt s.vs i).lp,(gt s.vs i).q,(gt s.vs i).lq⟩).map λc=>[c])):=(k5.get _ l4).trans z4;have l5:nb h' 0<h5.length:=ag z5;have b55:∀q,aj (aR h5 q) (nb h' 0)=_:=λq=>(an q h5 _ l5).trans z5
  have K5:=K4.trans (k5.lg _ []);have UN:=oq'.v.sl.sc;have UO:=oq'.v.sl.cells;have ob5:=bg l5;have y2:aj h5 (nb h 2)=(aO 3 [[Ei s.cA,vo,.aF]]):=(K5.get _ (ag b2)).trans b2;have n20:nb h 2≠nb h' 0:=λq=>by have:=ag b2;rw[q]at this;simp only[nb]at this;omega
  have XF:∀q x,aj (aR (aQ h5 (nb h' 0) x) q) (nb h 2)=_:=λq x=>(bP l5 (ag y2) n20 q x).trans y2
  have AL:∀x,nb h 2<(aQ h5 (nb h' 0) x).length:=λx=>by rw[bJ l5];exact ag y2
  have XG:=λx=>bg (h:=aQ h5 (nb h' 0) x) (b:=nb h 2) (AL x)
  unfold dI at b55;simp only[map_cons,map_nil]at b55;have Zd:cG (nb h 3) h5 26 vo (L.map dI):=cG.bw (m:=⟨h',bq,[]⟩) (m':=⟨h5,_,[]⟩) ho K5;have Rj:∀x∈L,jo (nb h 3) h5 x:=λx hx=>jo.bw (m:=⟨h',bq,[]⟩) (m':=⟨h5,_,[]⟩) (HH x hx) K5
  have PF:L.length<=1000:=by
   have:=congrArg List.length eL;rw[length_map,length_map,length_take]at this;have:=H.w1;omega
  have KN:∀R,aY ⟨h',bq,[]⟩ ⟨aQ h5 (nb h' 0) R,_,[]⟩:=λR=>K5.bS GL l5 R [] ⟨[],rfl,λy hy=>by cases hy⟩
  have gB:∀R,h.length<=(aQ h5 (nb h' 0) R).length:=λR=>bK ge3 (KN R).len
  have lB:∀R,(aQ h5 (nb h' 0) R).length=h5.length:=λR=>bJ l5
  have UP:h.length<=nb h' 0:=bK ge3 GL;have MI:nb h 2<h'.length:=ag b2;have Ze:nb h 3<=nb h' 1:=by simp only[nb]at MI|-;omega
  have gB2:∀R,nb h 3<=nb (aQ h5 (nb h' 0) R) 1:=λR=>by have:=(KN R).len;simp only[nb]at MI this|-;omega
  have lb2:nb h' 1<=h2.length:=by have:=k2.len;simp only[bV,nb]at this|-;exact this
  have lb3:nb h' 1<=h3.length:=bK lb2 k3.len;have lb4:nb h' 1<=h4.length:=bK (bK lb3 (Nat.le_of_eq lM.symm)) k4.len;have nvA:jo (nb h' 1) h5 ⟨(gt s.vs i).v,w8,Np,Ri,Ta,E9,GM⟩:=by
   have q8:nD (nb h' 1) h2 9 w8 ((gt s.vs i).v.st.held.map dt):=S9.le (by rw[bV];exact cB);have q26:nD (nb h' 1) h3 4 Np ((gt s.vs i).v.st.seen.map nV):=XC.le lb2;have q27:jD (nb h' 1) h4 Ri Ta:=Zc.le (by rw[lM];exact lb3);have Akf:jD (nb h' 1) h5 E9 GM:=oq'.le lb4;have q8b:=(nD.bw (m:=⟨h2,[],[]⟩) (m':=⟨h3,dH,[]⟩) q8 k3).below l3 (by simp[nb]) R1 [];have Akg:=q26.below l3 (by simp[nb]) R1 [];refine⟨?_,?_,?_,Akf,?_,?_⟩
   .exact nD.bw (m:=⟨h4,[],[]⟩) (m':=⟨h5,jg,[]⟩) (nD.bw (m:=⟨aQ h3 (nb h' 0) R1,[],[]⟩) (m':=⟨h4,fi,[]⟩) q8b k4) k5
   .exact nD.bw (m:=⟨h4,[],[]⟩) (m':=⟨h5,jg,[]⟩) (nD.bw (m:=⟨aQ h3 (nb h' 0) R1,[],[]⟩) (m':=⟨h4,fi,[]⟩) Akg k4) k5
   .exact jD.bw (m:=⟨h4,[],[]⟩) (m':=⟨h5,jg,[]⟩) q27 k5
   .exact hx.s.e.trans ep'.symm
   .exact hx.e.trans eq'.symm
  have nv:∀R R3 q,jo (nb h 3) (aR (aQ (aQ h5 (nb h' 0) R) (nb h 2) R3) q) ⟨(gt s.vs i).v,w8,Np,Ri,Ta,E9,GM⟩:=λR R3 q=>((nvA.below l5 (by simp[nb]) R []).below (AL R) (gA (by simp[nb]) Ze) R3 q).le Ze
  have ov:∀R R3 q,∀x∈L,jo (nb h 3) (aR (aQ (aQ h5 (nb h' 0) R) (nb h 2) R3) q) x:=λR R3 q x hx=>(jo.bw (m:=⟨h',bq,[]⟩) (m':=⟨aQ h5 (nb h' 0) R,_,[]⟩) (HH x hx) (KN R)).below (AL R) (by simp[nb]) R3 q
  have av:∀R R3 q,∀x∈L++[(⟨(gt s.vs i).v,w8,Np,Ri,Ta,E9,GM⟩:VX)],jo (nb h 3) (aR (aQ (aQ h5 (nb h' 0) R) (nb h 2) R3) q) x:=λR R3 q x hx=>by
   rcases mem_append.1 hx with hx|hx
   .exact ov R R3 q x hx
   .rw[mem_singleton]at hx;subst hx;exact nv R R3 q
  have eE:(L++[(⟨(gt s.vs i).v,w8,Np,Ri,Ta,E9,GM⟩:VX)]).map (·.v)=(s.vs.take (i+1)).map (·.v):=by
   rw[map_append,eL,take_add_one,getElem?_eq_getElem hi,toList_some,map_append,bB hi];rfl
  have c0:∀R R3 q,aj (aR (aQ (aQ h5 (nb h' 0) R) (nb h 2) R3) q) (nb h 0)=_:=λR R3 q=>(bP (AL R) (gA (ag b0) (KN R).len) (by simp[nb]) q R3).trans (((KN R).get _ (ag b0)).trans b0)
  have A4:∀R R3 q,aj (aR (aQ (aQ h5 (nb h' 0) R) (nb h 2) R3) q) (nb h 1)=_:=λR R3 q=>(bP (AL R) (gA (ag b1) (KN R).len) (by simp[nb]) q R3).trans (((KN R).get _ (ag b1)).trans b1)
  rcases ho with⟨hn,rfl⟩|⟨bo,rfl,hk,No⟩
  .refine aW (gX b55 (o4 ob5) XF (λx=>o4 (XG x)) UM XD AfQ UN AfR UO r @MD) ?_;refine⟨(.slice (nb (aQ h5 (nb h' 0) _) 1) 0 1 none,L++[⟨(gt s.vs i).v,w8,Np,Ri,Ta,E9,GM⟩]),(k.trans K5).uW UP l5 aB (ag y2) _ _ _ (dD.ok (.cons aB (.cons (bK (gB _) aB) (.cons (bK (gB _) aB) (.cons UP (.cons UP .nil)))))),c0 _ _ _,A4 _ _ _,(XG _).2.2.2.2.1 _ _,?_,av _ _ _,eE⟩;rw[map_append,hn];exact .some _ rfl (gB2 _) ((XG _).2.1 _ _ _)
  .have lo':=ag No;have Rm:∀R,aj (aQ h5 (nb h' 0) R) bo=_:=λR=>((KN R).get _ lo').trans No
   have GN:∀R,bo<(aQ h5 (nb h' 0) R).length:=λR=>ag (Rm R)
   have XH:∀R q,aj (aR (aQ h5 (nb h' 0) R) q) bo=_:=λR q=>(an q _ _ (GN R)).trans (Rm R)
   have XI:∀x,aj (aQ h5 (nb h' 0) x) (nb h 2)=_:=XF [];have n2o:nb h 2≠bo:=λq=>by rw[<-q]at hk;simp[nb]at hk
   have obo:=λR=>bg (h:=aQ h5 (nb h' 0) R) (b:=bo) (GN R)
   have XJ:=λR=>jY (h:=aQ h5 (nb h' 0) R) (b:=bo) (c:=nb h 2) (GN R) (AL R) n2o
   have fA:(1000000000000<(L.length+1)*272)=False:=by simp;omega
   have fC:List.take L.length (L.map dI)=L.map dI:=take_of_length_le (by simp);rw[length_map]at*;refine aW (gX b55 (o4 ob5) XF XI (λx=>o4 (obo x)) (λx=>o4 (XJ x)) XH UM XD AfQ UN (Z7 AfR UO r @MD fA @fB fC)) ?_;have nvo:∀R R3 q,jo (nb h 3) (aR (aQ (aQ (aQ h5 (nb h' 0) R) bo none) (nb h 2) R3) q) ⟨(gt s.vs i).v,w8,Np,Ri,Ta,E9,GM⟩:=λR R3 q=>(((nvA.below l5 (by simp[nb]) R []).below (b:=bo) (GN R) (by simp[nb];omega) none []).below (by show nb h 2<(aQ (aQ h5 (nb h' 0) R) bo none).length;rw[bJ (GN R)];exact AL R) (gA (by simp[nb]) Ze) R3 q).le Ze
   have ovo:∀R R3 q,∀x∈L,jo (nb h 3) (aR (aQ (aQ (aQ h5 (nb h' 0) R) bo none) (nb h 2) R3) q) x:=λR R3 q x hx=>((jo.bw (m:=⟨h',bq,[]⟩) (m':=⟨aQ h5 (nb h' 0) R,_,[]⟩) (HH x hx) (KN R)).UJ (Rm R) (.inl rfl) none []).below (by show nb h 2<(aQ (aQ h5 (nb h' 0) R) bo none).length;rw[bJ (GN R)];exact AL R) (by simp[nb]) R3 q
   have avo:∀R R3 q,∀x∈L++[(⟨(gt s.vs i).v,w8,Np,Ri,Ta,E9,GM⟩:VX)],jo (nb h 3) (aR (aQ (aQ (aQ h5 (nb h' 0) R) bo none) (nb h 2) R3) q) x:=λR R3 q x hx=>by
    rcases mem_append.1 hx with hx|hx
    .exact ovo R R3 q x hx
    .rw[mem_singleton]at hx;subst hx;exact nvo R R3 q
   have c0o:∀R R3 q,aj (aR (aQ (aQ (aQ h5 (nb h' 0) R) bo none) (nb h 2) R3) q) (nb h 0)=_:=λR R3 q=>(kP (GN R) (AL R) (gA (ag b0) (KN R).len) (λz=>by rw[<-z]at hk;simp only[nb]at hk;omega) (by simp[nb]) q none R3).trans (((KN R).get _ (ag b0)).trans b0)
   have c1o:∀R R3 q,aj (aR (aQ (aQ (aQ h5 (nb h' 0) R) bo none) (nb h 2) R3) q) (nb h 1)=_:=λR R3 q=>(kP (GN R) (AL R) (gA (ag b1) (KN R).len) (λz=>by rw[<-z]at hk;simp only[nb]at hk;omega) (by simp[nb]) q none R3).trans (((KN R).get _ (ag b1)).trans b1)
   have hko:h.length<=bo:=bK aB hk;refine⟨(.slice (nb (aQ h5 (nb h' 0) _) 1) 0 (L.length+1) none,L++[⟨(gt s.vs i).v,w8,Np,Ri,Ta,E9,GM⟩]),(k.trans (KN _)).uW hko (GN _) aB (AL _) _ _ _ (dD.ok (.cons aB (.cons (bK (gB _) aB) (.cons hko (.cons (bK (gB _) aB) (.cons UP (.cons UP .nil))))))),c0o _ _ _,c1o _ _ _,(XJ _).2.2.2.2.1 _ _ _,?_,avo _ _ _,eE⟩;rw[map_append];exact .some _ (by simp) (gB2 _) ((XJ _).2.1 _ _ _ _)
 .obtain⟨h',bq,d'⟩:=m';obtain⟨vo,L⟩:=a;obtain⟨k,b0,b1,b2,ho,HH,eL⟩:=hP;obtain rfl:d'=[]:=k.aV;simp only at b0 b1 b2 ho HH eL;have tR:bQ h' s:=bQ.bw (m:=⟨h,lg,[]⟩) (m':=⟨h',bq,[]⟩) H k;have Nn:=tR.v.len;have Mz:=tR.l.len;have r:=cY s.vs.length;rw[take_length]at eL;refine bH ?_;have yG:∀l,aj (aR h' l) (nb h 0)=_:=λl=>(an l h' _ (ag b0)).trans b0
  refine aW (Z3 r Nn yG) ?_;have Al5:=H.w2;refine dz (α:=AV×List LX) s.ls.length [X6] (λi a=>[Ei i]) (Akd h lg s vo L) Z aX ⟨(.aF,[]),rfl,⟨k,b0,b1,b2,ho.slo,λx hx=>HH x hx,eL,.nil rfl rfl,λx hx=>by(cases hx),rfl⟩⟩ (λi a m' g hi hP=>?_) (λa m' g hP=>?_)
  .obtain⟨h',bq,d'⟩:=m';obtain⟨wo,K⟩:=a;obtain⟨k,b0,b1,b2,ho,HH,eL,hl,hf,eK⟩:=hP;obtain rfl:d'=[]:=k.aV;simp only at b0 b1 b2 ho HH eL hl hf eK;have tR:bQ h' s:=bQ.bw (m:=⟨h,lg,[]⟩) (m':=⟨h',bq,[]⟩) H k;have e:=tR.l.el hi;have Mz:=tR.l.len;have r:=fh hi (by have:=H.w2;omega);have hx:=tR.la _ (bA hi);have d1:=hx.1.sc;have yG:∀l,aj (aR h' l) (nb h 0)=_:=λl=>(an l h' _ (ag b0)).trans b0
   unfold jB at e;refine bH ?_;refine aW (Z5 e r d1 yG Mz) ?_;rw[<-fZ];have ge3:h.length<=h'.length:=k.len;refine fK (N30 j (n+1999) (aR h' [(aO 3 [jB (gt s.ls i)])]) _ _ (gt s.ls i).l.dh (gt s.ls i).f (hx.1.bx _) hx.2) (λw8 h2 dx k2 S9=>?_);have z2:aj h2 (nb h' 0)=(aO 3 [jB (gt s.ls i)]):=(k2.get _ (by rw[bV];simp[nb])).trans bj;have l2:nb h' 0<h2.length:=ag z2;have UL:∀q,aj (aR h2 q) (nb h' 0)=(aO 3 [jB (gt s.ls i)]):=λq=>(an q h2 _ l2).trans z2
   have K2:aY ⟨h',bq,[]⟩ ⟨h2,dx,[]⟩:=(aH (l:=[(aO 3 [jB (gt s.ls i)])]) aL).trans k2;have UM:=S9.sl.sc;have ce8:=S9.sl.cells;have GL:h'.length<=nb h' 0:=aB;have ob5:=bg l2;have y2:aj h2 (nb h 2)=(aO 3 [[Ei s.cA,vo,wo]]):=(K2.get _ (ag b2)).trans b2;have n20:nb h 2≠nb h' 0:=λq=>by have:=ag b2;rw[q]at this;simp only[nb]at this;omega
   have XF:∀q x,aj (aR (aQ h2 (nb h' 0) x) q) (nb h 2)=_:=λq x=>(bP l2 (ag y2) n20 q x).trans y2
   have AL:∀x,nb h 2<(aQ h2 (nb h' 0) x).length:=λx=>by rw[bJ l2];exact ag y2
   have XG:=λx=>bg (h:=aQ h2 (nb h' 0) x) (b:=nb h 2) (AL x)
   unfold jB at UL;have KN:∀R,aY ⟨h',bq,[]⟩ ⟨aQ h2 (nb h' 0) R,_,[]⟩:=λR=>K2.bS GL l2 R [] ⟨[],rfl,λy hy=>by cases hy⟩
   have gB:∀R,h.length<=(aQ h2 (nb h' 0) R).length:=λR=>bK ge3 (KN R).len
   have UP:h.length<=nb h' 0:=bK ge3 GL;have MI:nb h 2<h'.length:=ag b2;have Ze:nb h 3<=nb h' 1:=by simp only[nb]at MI|-;omega
   have gB2:∀R k,1<=k->nb h 3<=nb (aQ h2 (nb h' 0) R) k:=λR k hk=>by have:=(KN R).len;simp only[nb]at MI this|-;omega
   have gB0:∀R k,nb h 3<=nb (aQ h2 (nb h' 0) R) k:=λR k=>by have:=(KN R).len;simp only[nb]at MI this|-;omega
   have PF:K.length<=1000:=by
    have:=congrArg List.length eK;rw[length_map,length_map,length_take]at this;have:=H.w2;omega
   have q8:nD (nb h' 1) h2 1 w8 ((gt s.ls i).l.dh.map oI):=S9.le (by rw[bV];exact cB);have eE:(K++[(⟨(gt s.ls i).l,w8⟩:LX)]).map (·.l)=(s.ls.take (i+1)).map (·.l):=by
    rw[map_append,eK,take_add_one,getElem?_eq_getElem hi,toList_some,map_append,bB hi];rfl
   have c0:∀R R3 q,aj (aR (aQ (aQ h2 (nb h' 0) R) (nb h 2) R3) q) (nb h 0)=_:=λR R3 q=>(bP (AL R) (gA (ag b0) (KN R).len) (by simp[nb]) q R3).trans (((KN R).get _ (ag b0)).trans b0)
   have A4:∀R R3 q,aj (aR (aQ (aQ h2 (nb h' 0) R) (nb h 2) R3) q) (nb h 1)=_:=λR R3 q=>(bP (AL R) (gA (ag b1) (KN R).len) (by simp[nb]) q R3).trans (((KN R).get _ (ag b1)).trans b1)
   have hoB:∀R,nD (nb h 3) (aQ h2 (nb h' 0) R) 26 vo (L.map dI):=λR=>nD.bw (m:=⟨h',bq,[]⟩) (m':=⟨aQ h2 (nb h' 0) R,_,[]⟩) ho (KN R)
   have hvB:∀R,∀x∈L,jo (nb h 3) (aQ h2 (nb h' 0) R) x:=λR x hx=>jo.bw (m:=⟨h',bq,[]⟩) (m':=⟨aQ h2 (nb h' 0) R,_,[]⟩) (HH x hx) (KN R)
   have hfB:∀R,∀x∈K,nD (nb h 3) (aQ h2 (nb h' 0) R) 1 x.f (x.l.dh.map oI):=λR x hx=>nD.bw (m:=⟨h',bq,[]⟩) (m':=⟨aQ h2 (nb h' 0) R,_,[]⟩) (hf x hx) (KN R)
   have n8B:∀R,nD (nb h 3) (aQ h2 (nb h' 0) R) 1 w8 ((gt s.ls i).l.dh.map oI):=λR=>(q8.below l2 (by simp[nb]) R []).le Ze
   have fE:∀(hq:aN),(∀x∈K,nD (nb h 3) hq 1 x.f (x.l.dh.map oI))->nD (nb h 3) hq 1 w8 ((gt s.ls i).l.dh.map oI)->∀x∈K++[(⟨(gt s.ls i).l,w8⟩:LX)],nD (nb h 3) hq 1 x.f (x.l.dh.map oI):=λhq h1 h2 x hx=>by
    rcases mem_append.1 hx with hx|hx
    .exact h1 x hx
    .rw[mem_singleton]at hx;subst hx;exact h2
   rcases hl with⟨hn,rfl⟩|⟨bo,rfl,hk,No⟩
   .refine aW (Z7 UL (o4 ob5) XF (λx=>o4 (XG x)) UM ce8 r) ?_;refine⟨(.slice (nb (aQ h2 (nb h' 0) _) 1) 0 1 none,K++[⟨(gt s.ls i).l,w8⟩]),(k.trans (KN _)).bS aB (AL _) _ _ (dD.ok (.cons aB (.cons (bK (gB _) aB) (.cons (bK (gB _) aB) (.cons UP .nil))))),c0 _ _ _,A4 _ _ _,(XG _).2.2.2.2.1 _ _,(hoB _).below (AL _) (by simp[nb]) _ _,λx hx=>(hvB _ x hx).below (AL _) (by simp[nb]) _ _,eL,?_,fE _ (λx hx=>(hfB _ x hx).below (AL _) (by simp[nb]) _ _) ((n8B _).below (AL _) (by simp[nb]) _ _),eE⟩;rw[map_append,hn];exact .some _ rfl (gB2 _ 1 (Nat.le_refl 1)) ((XG _).2.1 _ _ _)
   .have lo':=ag No;have Rm:∀R,aj (aQ h2 (nb h' 0) R) bo=_:=λR=>((KN R).get _ lo').trans No
    have GN:∀R,bo<(aQ h2 (nb h' 0) R).length:=λR=>ag (Rm R)
    have XH:∀R q,aj (aR (aQ h2 (nb h' 0) R) q) bo=_:=λR q=>(an q _ _ (GN R)).trans (Rm R)
    have XI:∀x,aj (aQ h2 (nb h' 0) x) (nb h 2)=_:=XF [];have n2o:nb h 2≠bo:=λq=>by rw[<-q]at hk;simp[nb]at hk
    have obo:=λR=>bg (h:=aQ h2 (nb h' 0) R) (b:=bo) (GN R)
    have XJ:=λR=>jY (h:=aQ h2 (nb h' 0) R) (b:=bo) (c:=nb h 2) (GN R) (AL R) n2o
    have fA:(1000000000000<(K.length+1)*40)=False:=by simp;omega
    have fC:List.take K.length (K.map jB)=K.map jB:=take_of_length_le (by simp);rw[length_map]at*;refine aW (gX UL (o4 ob5) XF XI (λx=>o4 (obo x)) (λx=>o4 (XJ x)) XH UM ce8 r fA (Z2 @fB fC)) ?_;have hko:h.length<=bo:=bK aB hk;have lbb:∀R,nb h 2<(aQ (aQ h2 (nb h' 0) R) bo none).length:=λR=>by rw[bJ (GN R)];exact AL R
    have c0o:∀R R3 q,aj (aR (aQ (aQ (aQ h2 (nb h' 0) R) bo none) (nb h 2) R3) q) (nb h 0)=_:=λR R3 q=>(kP (GN R) (AL R) (gA (ag b0) (KN R).len) (λz=>by rw[<-z]at hk;simp only[nb]at hk;omega) (by simp[nb]) q none R3).trans (((KN R).get _ (ag b0)).trans b0)
    have c1o:∀R R3 q,aj (aR (aQ (aQ (aQ h2 (nb h' 0) R) bo none) (nb h 2) R3) q) (nb h 1)=_:=λR R3 q=>(kP (GN R) (AL R) (gA (ag b1) (KN R).len) (λz=>by rw[<-z]at hk;simp only[nb]at hk;omega) (by simp[nb]) q none R3).trans (((KN R).get _ (ag b1)).trans b1)
    refine⟨(.slice (nb (aQ h2 (nb h' 0) _) 1) 0 (K.length+1) none,K++[⟨(gt s.ls i).l,w8⟩]),(k.trans (KN _)).uW hko (GN _) aB (AL _) _ _ _ (dD.ok (.cons aB (.cons (bK (gB _) aB) (.cons hko (.cons (bK (gB _) aB) (.cons UP .nil)))))),c0o _ _ _,c1o _ _ _,(XJ _).2.2.2.2.1 _ _ _,((hoB _).mN (Rm _) Z none []).below (lbb _) (by simp[nb]) _ _,λx hx=>((hvB _ x hx).UJ (Rm _) (.inr rfl) none []).below (lbb _) (by simp[nb]) _ _,eL,?_,fE _ (λx hx=>((hfB _ x hx).mN (Rm _) Z none []).below (lbb _) (by simp[nb]) _ _) (((n8B _).mN (Rm _) Z none []).below (lbb _) (by simp[nb]) _ _),eE⟩;rw[map_append];exact .some _ (by simp) (gB2 _ 1 (Nat.le_refl 1)) ((XJ _).2.1 _ _ _ _)
  .obtain⟨h',bq,d'⟩:=m';obtain⟨wo,K⟩:=a;obtain⟨k,b0,b1,b2,ho,HH,eL,hl,hf,eK⟩:=hP;obtain rfl:d'=[]:=k.aV;simp only at b0 b1 b2 ho HH eL hl hf eK;have tR:bQ h' s:=bQ.bw (m:=⟨h,lg,[]⟩) (m':=⟨h',bq,[]⟩) H k;have Mz:=tR.l.len;have r:=cY s.ls.length;rw[take_length]at eK;have yG:∀l,aj (aR h' l) (nb h 0)=_:=λl=>(an l h' _ (ag b0)).trans b0
   have Kn:∀l,aj (aR h' l) (nb h 1)=_:=λl=>(an l h' _ (ag b1)).trans b1
   have b2':∀l,aj (aR h' l) (nb h 2)=_:=λl=>(an l h' _ (ag b2)).trans b2
   have ob1:=bg (ag b1);have v1:=ho.sl.sc;have v2:=hl.slo.sl.sc;refine bH ?_;refine aW (Z9 r @mZ Mz yG Kn b2' ob1 v1 v2) ?_;refine⟨(k.bS (b:=nb h 1) aB (ag b1) ((aO 3 [[Ei s.cA,vo,wo]])) [] (dx:=nb h 1::bq) (dD.ok (.cons aB .nil))).sub (d:=d),⟨s.cA,vo,L,wo,K⟩,⟨rfl,rfl,rfl⟩,⟨(ho.below (ag b1) (by simp[nb]) _ _).le aB,(hl.slo.below (ag b1) (by simp[nb]) _ _).le aB,λx hx=>((HH x hx).below (ag b1) (by simp[nb]) _ _).le aB,λx hx=>((hf x hx).below (ag b1) (by simp[nb]) _ _).le aB⟩,?_⟩;simp only[cE.d,eL,eK]
end
section
variable{F:FuncId->Option bD}{au:bR}{sm:ct}
theorem Akh(l:List fR)(v w:AV)(m:Mem)(hv:aT m.ah 9 v (l.map dt))(hu:aT m.ah 9 w (l.map dt))(hw:l.length<=1000)(q_:336<=j:=by omega):SM j 104 [v,w] m=some (.bool true,m):=by
 obtain⟨h,lg,d⟩:=m;refine aP 1999 q_ λn=>?_
 have lv:=hv.len;have lw:=hu.len;refine aW (Z2 lv lw) ?_;refine bL l.length [X5] (λi=>[Ei i]) (λi=>True) Z aX ⟨rfl,trivial⟩ (λi h' bq g hi hP hK=>?_) (λh' bq g hP hK=>?_)
 .have a:=hK.aA lg d;have e:=(hK.sl hv).el hi;have e2:=(hK.sl hu).el hi;have r:=fh hi Z;unfold dt at e e2;exact aC (Z5 a e e2 r lv)
 .have a:=hK.aA lg d;have r:=cY l.length;exact aC (Z3 a r lv)
theorem Aki(l:List rZ)(v w:AV)(m:Mem)(hv:aT m.ah 4 v (l.map nV))(hu:aT m.ah 4 w (l.map nV))(hw:l.length<=1000)(q_:337<=j:=by omega):SM j 105 [v,w] m=some (.bool true,m):=by
 obtain⟨h,lg,d⟩:=m;refine aP 1999 q_ λn=>?_
 have lv:=hv.len;have lw:=hu.len;refine aW (Z2 lv lw) ?_;refine bL l.length [X5] (λi=>[Ei i]) (λi=>True) Z aX ⟨rfl,trivial⟩ (λi h' bq g hi hP hK=>?_) (λh' bq g hP hK=>?_)
 .have a:=hK.aA lg d;have e:=(hK.sl hv).el hi;have e2:=(hK.sl hu).el hi;have r:=fh hi Z;unfold nV at e e2;exact aC (Z5 a e e2 r lv)
 .have a:=hK.aA lg d;have r:=cY l.length;exact aC (Z3 a r lv)
theorem E52(l:List (List UInt8))(v w:AV)(m:Mem)(hv:aT m.ah 1 v (l.map oI))(hu:aT m.ah 1 w (l.map oI))(hw:l.length<=1000)(q_:343<=j:=by omega):SM j 52 [v,w] m=some (.bool true,m):=by
 obtain⟨h,lg,d⟩:=m;refine aP 1999 q_ λn=>?_
 have lv:=hv.len;have lw:=hu.len;refine aW (Z2 lv lw) ?_;refine bL l.length [X5] (λi=>[Ei i]) (λi=>True) Z aX ⟨rfl,trivial⟩ (λi h' bq g hi hP hK=>?_) (λh' bq g hP hK=>?_)
 .have a:=hK.aA lg d;have e:=(hK.sl hv).el hi;have e2:=(hK.sl hu).el hi;have r:=fh hi Z;unfold oI at e e2;exact aC (Z5 a e e2 r lv)
 .have a:=hK.aA lg d;have r:=cY l.length;exact aC (Z3 a r lv)
theorem Akj(S:jt)(s t:AV)(m:Mem)(H:jS m.ah S s)(K:jS m.ah S t)(hw:S.bN.length<=1000)(q_:338<=j:=by omega):SM j 238 [.agg (eG S s),.agg (eG S t)] m=some (.bool true,m):=by
 obtain⟨h,lg,d⟩:=m;refine aP 1999 q_ λn=>?_
 have lv:=H.s.len;have lw:=K.s.len;have c1:=H.s.sc;have c2:=K.s.sc;refine aW (Z5 @eG.eq_1 c1 c2 lv lw) ?_;refine bL S.bN.length [X5] (λi=>[Ei i]) (λi=>True) Z aX ⟨rfl,trivial⟩ (λi h' bq g hi hP hK=>?_) (λh' bq g hP hK=>?_)
 .have a:=hK.aA lg d;have e:=(hK.sl H.s).el hi;have e2:=(hK.sl K.s).el hi;have r:=fh hi Z;unfold gW at e e2;exact aC (Z5 a e e2 r lv)
 .have a:=hK.aA lg d;have r:=cY S.bN.length;exact aC (Z3 a r lv)
theorem Akk(R:iJ)(t k t' k':AV)(m:Mem)(H:lx m.ah R t k)(K:lx m.ah R t' k')(hw:R.cH.length<=1000)(hx:R.jW.length<=1000)(q_:339<=j:=by omega):SM j 239 [.agg (eZ R t k),.agg (eZ R t' k')] m=some (.bool true,m):=by
 obtain⟨h,lg,d⟩:=m;refine aP 1999 q_ λn=>?_
 have l1:=H.t.len;have l2:=H.k.len;have l3:=K.t.len;have l4:=K.k.len;have c1:=H.t.sc;have c2:=H.k.sc;have c3:=K.t.sc;have c4:=K.k.sc;refine aW (Z9 @eZ.eq_1 c1 c2 c3 c4 l1 l2 l3 l4) ?_;refine bL R.cH.length [X5] (λi=>[Ei i]) (λi=>True) Z aX ⟨rfl,trivial⟩ (λi h' bq g hi hP hK=>?_) (λh' bq g hP hK=>?_)
 .have a:=hK.aA lg d;have e:=(hK.sl H.t).el hi;have e2:=(hK.sl K.t).el hi;have r:=fh hi Z;unfold lG at e e2;exact aC (Z5 a e e2 r l1)
 .have a:=hK.aA lg d;have r:=cY R.cH.length;refine aW (Z3 a r l1) ?_;refine bL R.jW.length [X6] (λi=>[Ei i]) (λi=>True) Z aX ⟨rfl,trivial⟩ (λi h2 dx g hi hP iL=>?_) (λh2 dx g hP iL=>?_)
  .have hQ:=hK.trans iL;have a:=hQ.aA lg d;have e:=(hQ.sl H.k).el hi;have e2:=(hQ.sl K.k).el hi;have r:=fh hi Z;unfold kU at e e2;refine aW (Z5 a e e2 r l2) ?_;exact iL
  .have a:=(hK.trans iL).all (lg:=lg) (d:=d) aL;have r:=cY R.jW.length;exact aC (Z3 a r l2)
theorem Akl(P:dT)(s t k s' t' k':AV)(m:Mem)(H:ic m.ah P s t k)(K:ic m.ah P s' t' k')(hw:PL P)(q_:340<=j:=by omega):SM j 167 [.agg (dc P s t k),.agg (dc P s' t' k')] m=some (.bool true,m):=by
 obtain⟨h,lg,d⟩:=m;refine aP 1999 q_ λn=>?_
 have c1:=H.s.s.sc;have c2:=H.r.t.sc;have c3:=H.r.k.sc;have c4:=K.s.s.sc;have c5:=K.r.t.sc;have c6:=K.r.k.sc;have g1:=λl bq=>Akj 339 P.send s s' ⟨aR h l,bq,[]⟩ (H.s.bx l) (K.s.bx l) hw.1
 have g2:=λl bq=>Akk 339 P.recv t k t' k' ⟨aR h l,bq,[]⟩ (H.r.bx l) (K.r.bx l) hw.2.1 hw.2.2
 unfold eG at g1;unfold eZ at g2;exact aC (Z9 @dc.eq_1 c1 c2 c3 c4 c5 c6 g1 g2)
theorem AfT(l l':List PX)(v w:AV)(m:Mem)(hv:df m.ah v l)(hu:df m.ah w l')(he:l.map (·.p)=l'.map (·.p))(hw:l.length<=1000)(hp:(∀x∈l,PL x.p))(q_:341<=j:=by omega):SM j 106 [v,w] m=some (.bool true,m):=by
 obtain⟨h,lg,d⟩:=m;refine aP 2999 q_ λn=>?_
 have lv:=hv.v.len;have lw:=hu.v.len;have ll:l'.length=l.length:=by have:=congrArg List.length he;simpa using this.symm
 refine aW (Z3 lv lw ll) ?_;refine bL l.length [X5] (λi=>[Ei i]) (λi=>True) Z aX ⟨rfl,trivial⟩ (λi h' bq g hi hP hK=>?_) (λh' bq g hP hK=>?_)
 .have a:=hK.aA lg d;have h1:=hK.ps hv;have h2:=hK.ps hu;have Rb:i<l'.length:=Z;have e:=h1.v.el hi;have e2:=h2.v.el Rb;have r:=fh hi Z;have x1:=h1.p _ (bA hi);have x2:=h2.p _ (bA Rb);have ep:(gt l' i).p=(gt l i).p:=by
   have:=congrArg (λq=>q[i]?) he;simp only[getElem?_map,getElem?_eq_getElem hi,getElem?_eq_getElem Rb,map_some,Option.some.injEq]at this;rw[bB hi,bB Rb];exact this.symm
  rw[ep]at x2;have c1:=x1.s.s.sc;have c2:=x1.r.t.sc;have c3:=x1.r.k.sc;have c4:=x2.s.s.sc;have c5:=x2.r.t.sc;have c6:=x2.r.k.sc;have g1:=λq bq=>Akl 340 (gt l i).p _ _ _ _ _ _ ⟨aR h' q,bq,[]⟩ (x1.bx q) (x2.bx q) (hp _ (bA hi))
  unfold wh dc at e e2;unfold dc at g1;rw[ep]at e2;exact aC (Z6 a e e2 r lv g1)
 .have a:=hK.aA lg d;have r:=cY l.length;exact aC (Z3 a r lv)
end
section
variable{F:FuncId->Option bD}{au:bR}{sm:ct}
theorem ue.bx{h:aN}{x:VX}(H:ue h x)(l:List (Option bp)):ue (aR h l) x:=⟨H.b.bx l,H.m.bx l,H.p.bx l,H.q.bx l⟩
structure Aq(h:aN)(x y:VX):Prop where
 e:x.v=y.v
 a:ue h x
 b:ue h y
 p:y.lp.map (·.p)=x.lp.map (·.p)
 q:y.lq.map (·.p)=x.lq.map (·.p)
 w1:y.v.st.held.length<=1000
 w2:y.v.st.seen.length<=1000
 w3:y.lp.length<=1000
 w4:y.lq.length<=1000
 l1:∀z∈y.lp,PL z.p
 l2:∀z∈y.lq,PL z.p
theorem Aq.bw{m m':Mem}{x y:VX}(H:Aq m.ah x y)(k:aY m m'):Aq m'.ah x y:=⟨H.e,H.a.bw k,H.b.bw k,H.p,H.q,H.w1,H.w2,H.w3,H.w4,H.l1,H.l2⟩
theorem Aq.bx{h:aN}{x y:VX}(H:Aq h x y)(l:List (Option bp)):Aq (aR h l) x y:=⟨H.e,H.a.bx l,H.b.bx l,H.p,H.q,H.w1,H.w2,H.w3,H.w4,H.l1,H.l2⟩
theorem E51(x y:VX)(m:Mem)(H:Aq m.ah y x)(q_:342<=j:=by omega):SM j 51 [.agg (dI y),.agg (dI x)] m=some (.bool true,m):=by
 obtain⟨h,lg,d⟩:=m;refine aP 3999 q_ λn=>?_
 have hb:=H.a.b;have hm:=H.a.m;rw[H.e]at hb hm;have c1:=H.a.b.sc;have c2:=H.a.m.sc;have c3:=H.a.p.v.sc;have c4:=H.a.q.v.sc;have c5:=H.b.b.sc;have c6:=H.b.m.sc;have c7:=H.b.p.v.sc;have c8:=H.b.q.v.sc;have g1:=λl bq=>Akh 341 _ y.b x.b ⟨aR h l,bq,[]⟩ (hb.bx l) (H.b.b.bx l) H.w1
 have g2:=λl bq=>Aki 341 _ y.m x.m ⟨aR h l,bq,[]⟩ (hm.bx l) (H.b.m.bx l) H.w2
 have pl1:y.lp.length<=1000:=by have:=congrArg List.length H.p;rw[length_map,length_map]at this;rw[<-this];exact H.w3
 have pl2:y.lq.length<=1000:=by have:=congrArg List.length H.q;rw[length_map,length_map]at this;rw[<-this];exact H.w4
 have pp:∀{a b:List PX},a.map (·.p)=b.map (·.p)->(∀z∈a,PL z.p)->∀z∈b,PL z.p:=λ{a b} q ha z hz=>by
  have:z.p∈b.map (·.p):=List.mem_map_of_mem hz;rw[<-q]at this;obtain⟨u,hu,hq⟩:=mem_map.1 this;rw[<-hq];exact ha u hu
 have g3:=λl bq=>AfT 341 y.lp x.lp y.p x.p ⟨aR h l,bq,[]⟩ (H.a.p.bx l) (H.b.p.bx l) H.p.symm pl1 (pp H.p H.l1)
 have g4:=λl bq=>AfT 341 y.lq x.lq y.q x.q ⟨aR h l,bq,[]⟩ (H.a.q.bx l) (H.b.q.bx l) H.q.symm pl2 (pp H.q H.l2)
 have ev:=H.e;unfold dI;rw[ev];exact aC (gX c1 c2 c3 c4 c5 c6 c7 c8 g1 g2 g3 g4)
structure uf(h:aN)(x y:cE):Prop where
 cA:x.cA=y.cA
 v:aT h 26 x.nv (x.vs.map dI)
 v':aT h 26 y.nv (y.vs.map dI)
 l:aT h 3 x.lv (x.ls.map jB)
 l':aT h 3 y.lv (y.ls.map jB)
 nv:x.vs.length=y.vs.length
 nl:x.ls.length=y.ls.length
 sv:∀i,i<y.vs.length->Aq h (gt x.vs i) (gt y.vs i)
 sl:∀i,i<y.ls.length->(gt x.ls i).l=(gt y.ls i).l/\aT h 1 (gt x.ls i).f ((gt y.ls i).l.dh.map oI)/\aT h 1 (gt y.ls i).f ((gt y.ls i).l.dh.map oI)/\(gt y.ls i).l.dh.length<=1000
 w1:y.vs.length<=1000
 w2:y.ls.length<=1000
theorem uf.bw{m m':Mem}{x y:cE}(H:uf m.ah x y)(k:aY m m'):uf m'.ah x y:=⟨H.cA,H.v.bw k,H.v'.bw k,H.l.bw k,H.l'.bw k,H.nv,H.nl,λi hi=>(H.sv i hi).bw k,λi hi=>⟨(H.sl i hi).1,(H.sl i hi).2.1.bw k,(H.sl i hi).2.2.1.bw k,(H.sl i hi).2.2.2⟩,H.w1,H.w2⟩
theorem uf.bx{h:aN}{x y:cE}(H:uf h x y)(l:List (Option bp)):uf (aR h l) x y:=⟨H.cA,H.v.bx l,H.v'.bx l,H.l.bx l,H.l'.bx l,H.nv,H.nl,λi hi=>(H.sv i hi).bx l,λi hi=>⟨(H.sl i hi).1,(H.sl i hi).2.1.bx l,(H.sl i hi).2.2.1.bx l,(H.sl i hi).2.2.2⟩,H.w1,H.w2⟩
theorem aY.ss{h h':aN}{kq bq:List Nat}{l0:List (Option bp)}(k:aY ⟨aR h l0,kq,[]⟩ ⟨h',bq,[]⟩){x y:cE}(H:uf h x y):uf h' x y:=uf.bw (m:=⟨aR h l0,kq,[]⟩) (m':=⟨h',bq,[]⟩) (H.bx l0) k
theorem E18(x y:cE)(m:Mem)(H:uf m.ah x y)(q_:344<=j:=by omega):SM j 18 [.agg (cJ x),.agg (cJ y)] m=some (.bool true,m):=by
 obtain⟨h,lg,d⟩:=m;refine aP 4999 q_ λn=>?_
 have c1:=H.v.sc;have c2:=H.v'.sc;have c3:=H.l.sc;have c4:=H.l'.sc;have l1:=H.v.len;have l2:=H.v'.len;have l3:=H.l.len;have l4:=H.l'.len;have n1:=H.nv;have n2:=H.nl;have n3:=H.cA;refine aW (gX @cJ.eq_1 c1 c2 c3 c4 l1 l2 l3 l4 n1 n2 n3) ?_;refine bL y.vs.length [X5] (λi=>[Ei i]) (λi=>True) (by have:=H.w1;omega) aX ⟨rfl,trivial⟩ (λi h' bq g hi hP hK=>?_) (λh' bq g hP hK=>?_)
 .have a:=hK.aA lg d;have H':=hK.ss H;have Rb:i<x.vs.length:=Z;have e:=H'.v.el Rb;have e2:=H'.v'.el hi;have r:=fh hi (by have:=H.w1;omega);have hx:=H'.sv i hi;have g1:=λq bq=>E51 343 _ _ ⟨aR h' q,bq,[]⟩ (hx.bx q)
  unfold dI at e e2 g1;exact aC (Z7 a e e2 r l1 n1 g1)
 .have a:=hK.aA lg d;have r:=cY y.vs.length;refine aW (Z4 a r l1 n1) ?_;refine bL y.ls.length [X6] (λi=>[Ei i]) (λi=>True) (by have:=H.w2;omega) aX ⟨rfl,trivial⟩ (λi h2 dx g hi hP iL=>?_) (λh2 dx g hP iL=>?_)
  .have hQ:=hK.trans iL;have a:=hQ.aA lg d;have H':=hQ.ss H;have Rb:i<x.ls.length:=Z;have e:=H'.l.el Rb;have e2:=H'.l'.el hi;have r:=fh hi (by have:=H.w2;omega);obtain⟨y1,y2,y3,y4⟩:=H'.sl i hi;have d1:=y2.sc;have d2:=y3.sc;have g1:=λq bq=>E52 343 _ _ _ ⟨aR h2 q,bq,[]⟩ (y2.bx q) (y3.bx q) y4
   unfold jB at e e2;rw[y1]at e;refine aW (Z7 a e e2 r l3 n2 g1) ?_;exact iL
  .have a:=(hK.trans iL).all (lg:=lg) (d:=d) aL;have r:=cY y.ls.length;exact aC (Z4 a r l3 n2)
end
section
variable{F:FuncId->Option bD}{au:bR}{sm:ct}
structure Tb(P:dT):Prop where
 a:0<=P.send.r
 b:0<=P.send.n
 c:P.send.g<=18446744073709551615
 d:P.send.n<=18446744073709551615
 e:∀x∈P.send.bN,0<=x.off/\0<=x.size
 f:0<=P.recv.r
 g:P.recv.g<=18446744073709551615
 i:0<=P.recv.f
 j:0<=P.mX
structure PK(v:jh):Prop where
 w:0<=v.eB.uX
 l:0<=v.eB.jZ
 q:0<=v.eB.iK
 b:∀b∈v.st.held,0<=b.id.s/\I b.eO
 p:∀p∈v.st.bM,Tb p
 r:∀p∈v.bM,Tb p
structure AfU(v:jh):Prop where
 n:PK v
 d:∀b∈v.st.held,b.data.length<=1000000
 w1:v.st.held.length<=1000
 w2:v.st.seen.length<=1000
 w3:v.st.bM.length<=1000
 w4:v.bM.length<=1000
 p:∀p∈v.st.bM,PL p
 r:∀p∈v.bM,PL p
structure CA(d:kG):Prop where
 v:∀v∈d.bu,AfU v
 f:∀l∈d.gV,l.dh.length<=1000
 w1:d.bu.length<=1000
 w2:d.gV.length<=1000
def wP(x:VX):Prop:=x.v.st.bM=x.lp.map (·.p)/\x.v.bM=x.lq.map (·.p)
theorem Tc{s:cE}(hn:∀x∈s.vs,PK x.v)(he:∀x∈s.vs,wP x)(hl:IG s):CA s.d where
 v:=λv hv=>by
  obtain⟨x,hx,rfl⟩:=mem_map.1 hv;have L:=hl.v x hx;obtain⟨e1,e2⟩:=he x hx;have l1:=L.b;have l2:=L.m;have l3:=L.p;have l4:=L.q;have sm:∀l:List PX,nC l=true->∀p∈l.map (·.p),PL p:=λl q p hp=>by
   obtain⟨y,hy,rfl⟩:=mem_map.1 hp;have:=List.all_eq_true.1 q y hy;obtain⟨h1,h2,h3⟩:=of_decide_eq_true this;exact⟨Z,Z,Z⟩
  refine⟨hn x hx,λb hb=>?_,Z,Z,by rw[e1,length_map];omega,by rw[e2,length_map];omega,?_,?_⟩
  .have:=List.all_eq_true.1 L.d b hb;simp only[decide_eq_true_eq]at this;omega
  .rw[e1];exact sm _ L.p'
  .rw[e2];exact sm _ L.q'
 f:=λl h=>by
  obtain⟨x,hx,rfl⟩:=mem_map.1 h;have:=hl.f x hx;omega
 w1:=by have:=hl.n;simp only[cE.d,length_map];omega
 w2:=by have:=hl.k;simp only[cE.d,length_map];omega
theorem oO{h:aN}{s:cE}(R:iM h s)(he:∀x∈s.vs,wP x)(G:CA s.d):bQ h s where
 v:=R.v
 l:=R.l
 va:=λx hx=>by
  have g:=G.v x.v (List.mem_map_of_mem hx);have r:=R.va x hx;obtain⟨e1,e2⟩:=he x hx;refine⟨⟨r.b,r.m,r.p,e1,g.w1,g.w2,by have:=g.w3;rw[e1,length_map]at this;exact this,λb hb=>⟨g.d b hb,(g.n.b b hb).2⟩⟩,r.q,e2,by have:=g.w4;rw[e2,length_map]at this;exact this,g.n.w,g.n.l⟩
 la:=λx hx=>⟨R.la x hx,G.f x.l (List.mem_map_of_mem hx)⟩
 w1:=by have:=G.w1;simp only[cE.d,length_map]at this;exact this
 w2:=by have:=G.w2;simp only[cE.d,length_map]at this;exact this
theorem PM{s:cE}(he:∀x∈s.vs,wP x)(G:CA s.d):yI s where
 q:=λx hx=>(G.v x.v (List.mem_map_of_mem hx)).n.q
 h:=λx hx b hb=>((G.v x.v (List.mem_map_of_mem hx)).n.b b hb).1
 p:=λx hx y hy=>by
  have g:=G.v x.v (List.mem_map_of_mem hx);have hp:y.p∈x.v.st.bM:=by rw[(he x hx).1];exact List.mem_map_of_mem hy
  exact⟨(g.p _ hp).2.1,(g.n.p _ hp).i,(g.n.p _ hp).j,(g.n.p _ hp).f⟩
 r:=λx hx y hy=>by
  have g:=G.v x.v (List.mem_map_of_mem hx);have hp:y.p∈x.v.bM:=by rw[(he x hx).2];exact List.mem_map_of_mem hy
  exact⟨(g.r _ hp).2.1,(g.n.r _ hp).i,(g.n.r _ hp).j,(g.n.r _ hp).f⟩
theorem XK{s:cE}(he:∀x∈s.vs,wP x)(G:CA s.d):UK s where
 p:=λx hx y hy=>(G.v x.v (List.mem_map_of_mem hx)).p _ (by rw[(he x hx).1];exact List.mem_map_of_mem hy)
 q:=λx hx y hy=>(G.v x.v (List.mem_map_of_mem hx)).r _ (by rw[(he x hx).2];exact List.mem_map_of_mem hy)
theorem D3{k:Nat}{h:aN}{v:AV}{l:List PX}(H:jD k h v l)(hp:∀p∈l.map (·.p),Tb p):df h v l:=
 ⟨H.v.sl,λx hx=>by
  have g:=hp _ (List.mem_map_of_mem hx);have o:=H.p x hx;exact⟨⟨o.s.sl,g.a,g.b,g.c,g.d,g.e⟩,⟨o.t.sl,o.q.sl,g.f,g.g⟩⟩⟩
theorem AfV{k:Nat}{h:aN}{s:cE}(H:S8 k h s):∀x∈s.vs,wP x:=λx hx=>⟨(H.va x hx).e,(H.va x hx).f⟩
theorem AfW{k:Nat}{h:aN}{s:cE}(H:S8 k h s)(G:CA s.d):iM h s where
 v:=H.v.sl
 l:=H.l.sl
 va:=λx hx=>by
  have g:=(G.v x.v (List.mem_map_of_mem hx)).n;have o:=H.va x hx;exact⟨o.b.sl,o.m.sl,D3 o.p (by rw[<-o.e];exact g.p),D3 o.q (by rw[<-o.f];exact g.r)⟩
 la:=λx hx=>(H.la x hx).sl
theorem AfX{k:Nat}{h:aN}{s:cE}(H:S8 k h s):Cz s where
 p:=λx hx y hy=>by
  have o:=((H.va x hx).p.p y hy);exact⟨o.s.no,o.t.no,o.q.no⟩
 r:=λx hx y hy=>by
  have o:=((H.va x hx).q.p y hy);exact⟨o.s.no,o.t.no,o.q.no⟩
theorem D4{α β:Type}[Inhabited α][Inhabited β]{f:α->β}{l:List α}{i:Nat}(hi:i<l.length):gt (l.map f) i=f (gt l i):=by
 rw[bB (by rw[length_map];exact hi),bB hi,getElem_map]
theorem Td{h:aN}{x y:cE}(H:iM h x)(K:iM h y)(hx:∀z∈x.vs,wP z)(hy:∀z∈y.vs,wP z)(hd:x.d=y.d)(G:CA y.d):uf h x y:=by
 have dv:x.vs.map (·.v)=y.vs.map (·.v):=congrArg kG.bu hd;have dl:x.ls.map (·.l)=y.ls.map (·.l):=congrArg kG.gV hd;have nv:x.vs.length=y.vs.length:=by have:=congrArg List.length dv;simpa using this
 have nl:x.ls.length=y.ls.length:=by have:=congrArg List.length dl;simpa using this
 have w1:=G.w1;have w2:=G.w2;simp only[cE.d,length_map]at w1 w2;refine⟨congrArg kG.cA hd,H.v,K.v,H.l,K.l,nv,nl,λi hi=>?_,λi hi=>?_,w1,w2⟩
 .have lV:i<x.vs.length:=Z;have e:(gt x.vs i).v=(gt y.vs i).v:=by
   have:=congrArg (λl=>gt l i) dv;simp only[D4 hi,D4 lV]at this;exact this
  have m1:=bA lV;have m2:=bA hi;have g:=G.v _ (List.mem_map_of_mem (f:=(·.v)) m2);obtain⟨a1,a2⟩:=hx _ m1;obtain⟨b1,b2⟩:=hy _ m2;refine⟨e,H.va _ m1,K.va _ m2,by rw[<-b1,<-a1,e],by rw[<-b2,<-a2,e],g.w1,g.w2,by have:=g.w3;rw[b1,length_map]at this;exact this,by have:=g.w4;rw[b2,length_map]at this;exact this,λz hz=>g.p _ (by rw[b1];exact List.mem_map_of_mem hz),λz hz=>g.r _ (by rw[b2];exact List.mem_map_of_mem hz)⟩
 .have lV:i<x.ls.length:=Z;have e:(gt x.ls i).l=(gt y.ls i).l:=by
   have:=congrArg (λl=>gt l i) dl;simp only[D4 hi,D4 lV]at this;exact this
  have q:=H.la _ (bA lV);rw[e]at q;exact⟨e,q,K.la _ (bA hi),G.f _ (List.mem_map_of_mem (f:=(·.l)) (bA hi))⟩
end
section
variable{F:FuncId->Option bD}{au:bR}{sm:ct}
end
theorem D5{x:bp}:∀(f k:Nat) (t:Mt),k<f->CU t k=some x->uj (some x) f k t=t
 |0,k,t,hk,_=>absurd hk Z
 |f+1,0,t,_,h=>by cases t with
  |e=>cases h
  |n v l r=>rw[rN]at h;rw[jG,<-h]
 |f+1,k+1,t,hk,h=>by
  cases t with
  |e=>cases h
  |n v l r=>
   rw[j7]at h;rw[eN];cases hb:Nat.beq (k%2) 0<;>rw[hb]at h<;>simp only[cond]at h|-<;>rw[D5 f (k/2) _ Z h]
theorem MJ{h:aN}{b:Nat}{x:bp}(hb:aj h b=some x):aQ h b (some x)=h:=by
 have hl:=ag hb;have e1:=bJ (x:=some x) hl;have e2:(aQ h b (some x)).zd=h.zd:=D5 (b+1) b h.zd Z (by
  rw[aj]at hb
  rw[show Nat.blt b h.length=true by rw[Nat.blt_eq];exact hl]at hb
  exact hb)
 cases h1:aQ h b (some x);cases h;rw[h1]at e1 e2;simp only at e1 e2;rw[e1,e2]
section
variable{F:FuncId->Option bD}{au:bR}{sm:ct}
end
section
variable{F:FuncId->Option bD}{au:bR}{sm:ct}
def CB(x:Int):Bool:=decide (1<=x)&&decide (x<=16)
theorem Akm(l:List Int)(v:AV)(m:Mem)(hv:aT m.ah 1 v (l.map n9))(hw:l.length<=1000)(q_:162<=j:=by omega):SM j 138 [v] m=some (.bool (decide (l.all CB=true)),m):=by
 obtain⟨h,lg,d⟩:=m;refine aP 1999 q_ λn=>?_
 have lv:=hv.len;refine aW lv ?_;refine bL l.length [X7] (λi=>[Ei i]) (λi=>l.all CB=(l.drop i).all CB) Z aX ⟨rfl,rfl⟩ (λi h' bq g hi hP hK=>?_) (λh' bq g hP hK=>?_)
 .have a:=hK.aA lg d;have e:=(hK.sl hv).Uu hi;have r:=fh hi Z;unfold n9 at e;rw[drop_eq_getElem_cons hi,all_cons]at hP;refine aW (Z3 a e r) ?_;exact⟨λc=>by simp[hP,CB];omega,λc=>⟨λc'=>by simp[hP,CB];omega,λc'=>by simp[hP,CB];omega⟩⟩
 .have a:=hK.aA lg d;have r:=cY l.length;refine aW (Z2 a r) ?_;simpa using hP
def yL(c:bF):Int:=if cF c then 0 else 2
theorem pV(c:bF):yL c=0↔cF c:=by unfold yL;split<;>simp_all
theorem E88(c:bF)(m:Mem)(q_:265<=j:=by omega):SM j 88 [.agg (bY c)] m=some (Ei (yL c),m):=by
 obtain⟨h,lg,d⟩:=m;refine aP 1999 q_ λn=>?_
 refine aW @bY.eq_1 ?_;(repeat' first|apply And.intro|intro _)<;>(simp only[yL,cF]<;>(repeat' split)<;>first|rfl|omega)
theorem E84(c:bF)(m:Mem)(q_:163<=j:=by omega):SM j 84 [.agg (bY c)] m=some (Ei (yL c),m):=by
 obtain⟨h,lg,d⟩:=m;refine aP 1999 q_ λn=>?_
 have g:=λl lg d (q:fj l 1=(aO 1 [[Ei c.f],[Ei c.t]]))=>Akm 162 [c.f,c.t] (.slice (nb h 1) 0 2 (some 2)) ⟨aR h l,lg,d⟩ (.some (nb h 1) 0 (some 2) true _ rfl (by rw[bj,q]) rfl (λ_ h=>by cases h;simp)) (by simp)
 simp only[all_cons,all_nil,CB]at g;refine aW (Z2 @bY.eq_1 g) ?_;(repeat' first|apply And.intro|intro _)<;>(simp only[yL,cF]<;>(repeat' split)<;>first|rfl|omega)
theorem E89(a b:bF)(m:Mem)(q_:266<=j:=by omega):SM j 89 [.agg (bY a),.agg (bY b)] m=some (.bool (decide (m7 a b)),m):=by
 obtain⟨h,lg,d⟩:=m;refine aP 1999 q_ λn=>?_
 refine aW @bY.eq_1 ?_;refine⟨λq=>?_,λq=>⟨λq'=>?_,λq'=>?_⟩⟩<;>(apply decide_eq_decide.2;unfold m7;omega)
theorem E90(a b:bF)(m:Mem)(q_:267<=j:=by omega):SM j 90 [.agg (bY a),.agg (bY b)] m=some (.bool (decide (a.f=b.f/\a.t=b.t)),m):=by
 obtain⟨h,lg,d⟩:=m;refine aP 1999 q_ λn=>?_
 exact aC @bY.eq_1
theorem E86(c:bF)(m:Mem)(q_:165<=j:=by omega):SM j 86 [.agg (bY c)] m=some (.agg [Ei c.f,Ei c.t],m):=by
 obtain⟨h,lg,d⟩:=m;refine aP 1999 q_ λn=>?_
 exact aC @bY.eq_1
def MK(a b:bF):Int:=if gI a.s b.s≠0 then gI a.s b.s else if gI a.f b.f≠0 then gI a.f b.f else gI a.t b.t
theorem yM(a b:bF):0<=MK a b↔¬m7 a b:=by
 unfold MK gI m7;repeat' split
 all_goals omega
theorem E85(a b:bF)(m:Mem)(q_:164<=j:=by omega):SM j 85 [.agg (bY a),.agg (bY b)] m=some (Ei (MK a b),m):=by
 obtain⟨h,lg,d⟩:=m;refine aP 1999 q_ λn=>?_
 have g1:=λx y=>Px 163 x y
 have g:=λl lg d (q:fj l 2=(aO 1 [[Ei (gI a.s b.s)],[Ei (gI a.f b.f)],[Ei (gI a.t b.t)]]))=>Xm 163 [gI a.s b.s,gI a.f b.f,gI a.t b.t] (.slice (nb h 2) 0 3 (some 3)) ⟨aR h l,lg,d⟩ (.some (nb h 2) 0 (some 3) true _ rfl (by rw[bj,q]) rfl (λ_ h=>by cases h;simp)) (by simp)
 simp only[Ra]at g;refine aW (Z3 @bY.eq_1 g g1) ?_;(repeat' first|apply And.intro|intro _)<;>(simp only[MK]<;>(repeat' split)<;>first|rfl|omega)
end
section
variable{F:FuncId->Option bD}{au:bR}{sm:ct}
theorem AfY{a b A B:Int}(h1:0<=a)(h2:a<=A)(h3:0<=b)(h4:b<=B):0<=a*b/\a*b<=A*B:=
 ⟨Int.mul_nonneg h1 h3,Int.le_trans (Int.mul_le_mul_of_nonneg_left h4 h1) (Int.mul_le_mul_of_nonneg_right h2 Z)⟩
end
section
variable{F:FuncId->Option bD}{au:bR}{sm:ct}
def eA(l:List bF):Int×Int:=if 200<(l.length:Int)then(5,0)else(first (fO l) l.length,jd (fO l) l.length)
theorem Fa{l:List bF}{i:Nat}(h:¬yL (gt l i)=0):fO l i=2:=by
 unfold fO;rw[aG (λq=>h ((pV _).2 q))]
theorem CC{l:List bF}{i:Nat}(h:yL (gt l i)=0)(h0:0<i)(hb:¬m7 (gt l (i-1)) (gt l i)):fO l i=19:=by
 unfold fO;rw[aq (λq=>q ((pV _).1 h)),aG ⟨h0,hb⟩]
theorem pW{l:List bF}{i:Nat}(h:yL (gt l i)=0)(hb:0<i->m7 (gt l (i-1)) (gt l i)):fO l i=if qB l i=true then 12 else 0:=by
 unfold fO;rw[aq (λq=>q ((pV _).1 h)),aq (λq=>q.2 (hb q.1))]
theorem E41(l:List bF)(v:AV)(m:Mem)(hv:aT m.ah 6 v (l.map bY))(hw:l.length<=1000000)(q_:268<=j:=by omega):SM j 41 [v] m=some (.tuple [Ei (eA l).1,Ei (eA l).2],m):=by
 obtain⟨h,lg,d⟩:=m;refine aP 1999 q_ λn=>?_
 have lv:=hv.len;refine aW lv ?_;refine⟨λq=>by rw[eA,aG q];exact⟨rfl,rfl⟩,λq=>?_⟩;have e0:eA l=(first (fO l) l.length,jd (fO l) l.length):=by rw[eA,aq q]
 rw[e0];refine bL l.length [X4] (λi=>[Ei i]) (FP (fO l) l.length) Z aX ⟨rfl,FP.zero _ _⟩ (λi h' bq g hi hP hK=>?_) (λh' bq g hP hK=>?_)
 .have a:=hK.aA lg d;have e:=(hK.sl hv).el hi;have p:=(hK.sl hv).pv hi Z;have r:=fh hi Z;have g1:=E88 267 (gt l i);have g2:=E89 267 (gt l (i-1)) (gt l i);unfold bY at e p g1 g2;refine aW (Z7 a e p r g1 g2 lv) ?_;have kj:yL (gt l i)=0->(0<i->m7 (gt l (i-1)) (gt l i))->∀k,k<=i->(qB l i=true↔∃j,j<i/\(gt l j).f=(gt l i).f/\(gt l j).t=(gt l i).t/\(gt l i).s<(gt l j).e):=λ_ _ _ _=>by
   unfold qB;rw[List.any_eq_true];constructor
   .rintro ⟨x,hx,c⟩;obtain⟨j,hj,rfl⟩:=mem_take_iff_getElem.1 hx;simp only[decide_eq_true_eq]at c;exact⟨j,Z,by rw[bB (show j<l.length by omega)];exact c⟩
   .rintro ⟨j,hj,c⟩;refine⟨gt l j,?_,decide_eq_true c⟩;rw[bB (show j<l.length by omega)];exact mem_take_iff_getElem.2 ⟨j,Z,rfl⟩
  refine⟨λc=>?_,λc=>⟨λh0=>⟨λhb=>?_,λhb=>?_⟩,λh0=>?_⟩⟩
  .have:=hP.stop hi (Fa c) Z;exact⟨this.1.symm,this.2.symm⟩
  .have:=hP.stop hi (CC c Z hb) Z;exact⟨this.1.symm,this.2.symm⟩
  all_goals
   have rF:0<i->m7 (gt l (i-1)) (gt l i):=λq=>by first|exact hb|omega
   have cb:=pW c rF;have ov:=kj c rF 0 (Nat.zero_le _);refine bL i [X5] (λk=>[Ei k]) (λk=>∀j,j<k->¬((gt l j).f=(gt l i).f/\(gt l j).t=(gt l i).t/\(gt l i).s<(gt l j).e)) Z (by repeat first|apply Gp|apply Gq|apply Gn|apply SI) ⟨rfl,λj hj=>absurd hj Z⟩ (λk h2 dx g2 hk mh iL=>?_) (λh2 dx g2 mh iL=>?_)
   .have kk:=hK.trans iL;have a:=aY.aA kk lg d;have a2:=iL.aA bq d;have e:=(kk.sl hv).el hi;have ek:=(kk.sl hv).el (show k<l.length by omega);have r:=fh hk Z;have g3:=E90 267 (gt l k) (gt l i);unfold bY at e ek g3;refine aW (Z6 a a2 e ek r g3) ?_;have nx:¬((gt l k).f=(gt l i).f/\(gt l k).t=(gt l i).t/\(gt l i).s<(gt l k).e)->∀j,j<k+1->¬((gt l j).f=(gt l i).f/\(gt l j).t=(gt l i).t/\(gt l i).s<(gt l j).e):=λc' j hj=>by
     rcases Nat.lt_or_ge j k with g|g
     .exact mh j g
     .rw[show j=k by omega];exact c'
    refine⟨λc1=>⟨λc2=>?_,λc2=>nx λc'=>c2 c'.2.2⟩,λc1=>nx λc'=>c1 ⟨c'.1,c'.2.1⟩⟩;have:=hP.stop hi (cb.trans (aG (ov.2 ⟨k,hk,c1.1,c1.2,c2⟩))) Z;exact⟨this.1.symm,this.2.symm⟩
   .have kk:=hK.trans iL;have a:=aY.aA kk lg d;have r:=fh hi Z;have r2:=cY i;refine aW (Z3 a r r2) ?_;exact hP.next hi (cb.trans (aq λc'=>by
     obtain⟨j,hj,c'⟩:=ov.1 c';exact mh j hj c'))
 .have a:=hK.aA lg d;have r:=cY l.length;refine aW (Z3 a r lv) ?_;have:=hP.dF;exact⟨this.1.symm,this.2.symm⟩
theorem E39(l:List bF)(v:AV)(m:Mem)(hv:aT m.ah 6 v (l.map bY))(hw:l.length<=1000000)(q_:166<=j:=by omega):SM j 39 [v] m=some (.tuple [Ei (eA l).1,Ei (eA l).2],m):=by
 obtain⟨h,lg,d⟩:=m;refine aP 1999 q_ λn=>?_
 have lv:=hv.len;refine aW lv ?_;refine⟨λq=>by rw[eA,aG q];exact⟨rfl,rfl⟩,λq=>?_⟩;have e0:eA l=(first (fO l) l.length,jd (fO l) l.length):=by rw[eA,aq q]
 rw[e0];refine dV l.length [JX] (λi=>[Ei i]) (λi m'=>aY ⟨h,lg,[]⟩ m'/\aj m'.ah (nb h 0)=some (.map (Pm (AI l i)))/\FP (fO l) l.length i/\∀k,k<i->fO l k=0) Z aX ⟨rfl,aH aL,bj,FP.zero _ _,λk hk=>absurd hk Z⟩ (λi m' g hi hP=>?_) (λm' g hP=>?_)
 .obtain⟨h3,dH,d3⟩:=m';obtain⟨k,b0,hP,hz⟩:=hP;obtain rfl:d3=[]:=k.aV;simp only at b0;have C6:aT h3 6 v (l.map bY):=aT.bw (m:=⟨h,lg,[]⟩) (m':=⟨h3,dH,[]⟩) hv k;have e:=C6.el hi;have p:=C6.pv hi Z;have r:=fh hi Z;have yG:∀q,aj (aR h3 q) (nb h 0)=_:=λq=>(an q h3 _ (ag b0)).trans b0
  have o:=bg (ag b0);have g1:=E84 165 (gt l i);have g2:=E85 165 (gt l (i-1)) (gt l i);have g3:=E86 165 (gt l i);have p1:=Pn ((gt l i).f,(gt l i).t) ((gt l i).f,(gt l i).t);rw[decide_eq_true rfl]at p1;have f1:=Pp ((gt l i).f,(gt l i).t) (AI l i);have f2:=Uy ((gt l i).f,(gt l i).t) (gt l i).e (AI l i);have lk:=DR l (gt l i).f (gt l i).t i;have q4:Nat.beq (nb h3 0) (nb h 0)=false:=iD (ag b0);simp only at p1 f1 f2;unfold bY at e p g1 g2 g3;refine bH ?_;have K0:=λq dx (hq:dm h3 dH dx)=>(k.sub (d:=d)).trans (aH (l:=q) (d:=d) hq)
  have S2:=λ{x:Int} (c:fO l i=x) (hx:x≠0)=>show x=first (fO l) l.length/\(i:Int)=jd (fO l) l.length from⟨(hP.stop hi c hx).1.symm,(hP.stop hi c hx).2.symm⟩
  cases hq:u5 ((gt l i).f,(gt l i).t) (AI l i)with
  |none=>
   rw[hq]at f1 lk;have ow:yL (gt l i)=0->(qB l i=true↔(gt l i).s<0):=λc=>by
    have v:=(pV _).1 c;have:=Gs hi hz v.2.2.2.1;rw[<-lk]at this;exact this
   refine aW (yA e p r yG f1 f2 o g1 g2 g3) ?_;have N:yL (gt l i)=0->(0<i->m7 (gt l (i-1)) (gt l i))->¬(gt l i).s<0->FP (fO l) l.length (i+1)/\∀k,k<i+1->fO l k=0:=λc c2 c3=>by
    have cz:fO l i=0:=(pW c c2).trans (aq λq=>c3 ((ow c).1 q));refine⟨hP.next hi cz,λj hj=>?_⟩;rcases Nat.lt_or_ge j i with g|g
    .exact hz j g
    .rw[show j=i by omega];exact cz
   have bz:=λ(c2:¬0<=MK (gt l (i-1)) (gt l i)) (_:0<i)=>show m7 (gt l (i-1)) (gt l i) by
    by_cases q:m7 (gt l (i-1)) (gt l i)
    .exact q
    .exact absurd ((yM _ _).2 q) c2
   have bn:¬(0:Int)<i->0<i->m7 (gt l (i-1)) (gt l i):=λc q=>Z
   refine⟨λc=>⟨S2 (Fa c) Z,K0 _ _ aL⟩,λc=>⟨λh0=>⟨λc2=>⟨S2 (CC c Z ((yM _ _).1 c2)) Z,K0 _ _ aL⟩,λc2=>⟨λc3=>⟨S2 ((pW c (bz c2)).trans (aG ((ow c).2 c3))) Z,K0 _ _ aL⟩,λc3=>?_⟩⟩,λh0=>⟨λc3=>⟨S2 ((pW c (bn h0)).trans (aG ((ow c).2 c3))) Z,K0 _ _ aL⟩,λc3=>?_⟩⟩⟩
   .exact⟨k.bS (b:=nb h 0) aB (ag b0) _ _ (dD.ok (by repeat first|exact dD.nil|refine dD.cons (by first|exact aB|exact bK (k.len) aB|assumption) ?_)),rfl,N c (bz c2) c3⟩
   .exact⟨k.bS (b:=nb h 0) aB (ag b0) _ _ (dD.ok (by repeat first|exact dD.nil|refine dD.cons (by first|exact aB|exact bK (k.len) aB|assumption) ?_)),rfl,N c (bn h0) c3⟩
  |some w=>
   rw[hq]at f1 lk;have ow:yL (gt l i)=0->(qB l i=true↔(gt l i).s<w):=λc=>by
    have v:=(pV _).1 c;have:=Gs hi hz v.2.2.2.1;rw[<-lk]at this;exact this
   refine aW (yA e p r yG f1 f2 o g1 g2 g3) ?_;have N:yL (gt l i)=0->(0<i->m7 (gt l (i-1)) (gt l i))->¬(gt l i).s<w->FP (fO l) l.length (i+1)/\∀k,k<i+1->fO l k=0:=λc c2 c3=>by
    have cz:fO l i=0:=(pW c c2).trans (aq λq=>c3 ((ow c).1 q));refine⟨hP.next hi cz,λj hj=>?_⟩;rcases Nat.lt_or_ge j i with g|g
    .exact hz j g
    .rw[show j=i by omega];exact cz
   have bz:=λ(c2:¬0<=MK (gt l (i-1)) (gt l i)) (_:0<i)=>show m7 (gt l (i-1)) (gt l i) by
    by_cases q:m7 (gt l (i-1)) (gt l i)
    .exact q
    .exact absurd ((yM _ _).2 q) c2
   have bn:¬(0:Int)<i->0<i->m7 (gt l (i-1)) (gt l i):=λc q=>Z
   refine⟨λc=>⟨S2 (Fa c) Z,K0 _ _ aL⟩,λc=>⟨λh0=>⟨λc2=>⟨S2 (CC c Z ((yM _ _).1 c2)) Z,K0 _ _ aL⟩,λc2=>⟨λc3=>⟨S2 ((pW c (bz c2)).trans (aG ((ow c).2 c3))) Z,K0 _ _ aL⟩,λc3=>?_⟩⟩,λh0=>⟨λc3=>⟨S2 ((pW c (bn h0)).trans (aG ((ow c).2 c3))) Z,K0 _ _ aL⟩,λc3=>?_⟩⟩⟩
   .exact⟨k.bS (b:=nb h 0) aB (ag b0) _ _ (dD.ok (by repeat first|exact dD.nil|refine dD.cons (by first|exact aB|exact bK (k.len) aB|assumption) ?_)),rfl,N c (bz c2) c3⟩
   .exact⟨k.bS (b:=nb h 0) aB (ag b0) _ _ (dD.ok (by repeat first|exact dD.nil|refine dD.cons (by first|exact aB|exact bK (k.len) aB|assumption) ?_)),rfl,N c (bn h0) c3⟩
 .obtain⟨h3,dH,d3⟩:=m';obtain⟨k,b0,hP,hz⟩:=hP;obtain rfl:d3=[]:=k.aV;have r:=cY l.length;refine bH ?_;refine aW r ?_;have:=hP.dF;exact⟨⟨this.1.symm,this.2.symm⟩,k.sub⟩
end
section
variable{F:FuncId->Option bD}{au:bR}{sm:ct}
theorem vu{c:bF}(h:cF c):1<=ku c/\ku c<=1152921504606846976:=by
 obtain⟨_,_,_,h4,h5,h6,h7,h8,_,_⟩:=h;unfold ku;have a:=AfY (a:=c.r) (b:=c.e-c.s) (A:=1048576) (B:=1099511627776) Z h8 Z Z;have b:=Int.mul_pos (a:=c.r) (b:=c.e-c.s) Z Z;omega
theorem zP{c:bF}(h:cF c)(x:Int):0<=fx c x/\fx c x<=ku c:=by
 have v:=vu h;obtain⟨_,_,_,h4,h5,h6,h7,h8,_,_⟩:=h;unfold fx;split
 .omega
 .refine⟨Int.mul_nonneg Z Z,Int.mul_le_mul_of_nonneg_left Z Z⟩
def Fb(c:bF)(p:Int):Int:=c.s+(p+c.r-1)/c.r
theorem II{c:bF}(h:cF c){p:Int}(h0:0<=p)(h1:p<=ku c):0<=(p+c.r-1)/c.r/\(p+c.r-1)/c.r<=1099511627777:=by
 obtain⟨_,_,_,h4,h5,h6,h7,h8,h9,Mi⟩:=h;refine⟨Int.ediv_nonneg Z Z,?_⟩;have e1:(p+c.r-1)/c.r<=(ku c+(c.r-1))/c.r:=Int.ediv_le_ediv Z Z;have e2:ku c+(c.r-1)=(c.r-1)+c.r*(c.e-c.s):=by unfold ku;omega
 rw[e2,Int.add_mul_ediv_left _ _ Z,Int.ediv_eq_zero_of_lt (a:=c.r-1) (b:=c.r) Z Z]at e1;omega
theorem AfZ(x a b:Int)(m:Mem)(q_:197<=j:=by omega):SM j 370 [Ei x,Ei a,Ei b] m=some (.bool (decide (a<=x/\x<=b)),m):=by
 obtain⟨h,lg,d⟩:=m;refine aP 1999 q_ λn=>?_
 exact aK
theorem Akn(x:Int)(m:Mem)(q_:198<=j:=by omega):SM j 365 [Ei x] m=some (.bool (decide (0<=x/\x<=1099511627776)),m):=by
 obtain⟨h,lg,d⟩:=m;refine aP 1999 q_ λn=>?_
 have g:=λm=>AfZ 197 x 0 1099511627776 m
 exact aC g
theorem Ako(x:Int)(m:Mem)(q_:200<=j:=by omega):SM j 367 [Ei x] m=some (.bool (decide (1<=x/\x<=1099511627776)),m):=by
 obtain⟨h,lg,d⟩:=m;refine aP 1999 q_ λn=>?_
 have g:=λm=>AfZ 199 x 1 1099511627776 m
 exact aC g
theorem Akp(c:bF)(m:Mem)(hc:cF c)(q_:199<=j:=by omega):SM j 366 [.agg (bY c)] m=some (Ei (ku c),m):=by
 obtain⟨h,lg,d⟩:=m;refine aP 1999 q_ λn=>?_
 have v:=vu hc;have w1:i64.wrap (c.e-c.s)=c.e-c.s:=aU (by have:=hc.2.2.2;omega) (by have:=hc.2.2.2;omega);have w2:i64.wrap (c.r*(c.e-c.s))=ku c:=aU (by unfold ku at v;omega) (by unfold ku at v;omega);exact aC (Z3 @bY.eq_1 w1 w2)
theorem Af0(c:bF)(m:Mem)(hc:cF c)(q_:295<=j:=by omega):SM j 358 [.agg (bY c)] m=some (Ei (ku c),m):=by
 obtain⟨h,lg,d⟩:=m;refine aP 1999 q_ λn=>?_
 have v:=vu hc;have w1:i64.wrap (c.e-c.s)=c.e-c.s:=aU (by have:=hc.2.2.2;omega) (by have:=hc.2.2.2;omega);have w2:i64.wrap (c.r*(c.e-c.s))=ku c:=aU (by unfold ku at v;omega) (by unfold ku at v;omega);exact aC (Z3 @bY.eq_1 w1 w2)
theorem Akq(c:bF)(x:Int)(m:Mem)(hc:cF c)(hx:(0<=x/\x<=kv))(q_:201<=j:=by omega):SM j 371 [.agg (bY c),Ei x] m=some (Ei (fx c x),m):=by
 obtain⟨h,lg,d⟩:=m;refine aP 1999 q_ λn=>?_
 have v:=vu hc;have p:=zP hc x;unfold kv at hx;have EP:=hc.2.2.2;have w1:i64.wrap (min x c.e-c.s)=min x c.e-c.s:=aU Z Z;have w2:¬x<=c.s->i64.wrap (c.r*(min x c.e-c.s))=c.r*(min x c.e-c.s):=λq=>aU (by unfold fx at p;rw[aq q]at p;omega) (by unfold fx at p;rw[aq q]at p;omega)
 have e:(if c.e<x then c.e else x)=min x c.e:=Z;refine aW (Z4 @bY.eq_1 e w1 w2) ?_;(repeat' first|apply And.intro|intro _)<;>(simp only[fx]<;>(repeat' split)<;>first|rfl|omega)
theorem Akr(c:bF)(x:Int)(m:Mem)(hc:cF c)(hx:(0<=x/\x<=kv))(q_:296<=j:=by omega):SM j 359 [.agg (bY c),Ei x] m=some (Ei (fx c x),m):=by
 obtain⟨h,lg,d⟩:=m;refine aP 1999 q_ λn=>?_
 have v:=vu hc;have p:=zP hc x;unfold kv at hx;have EP:=hc.2.2.2;have g:=λm=>Af0 295 c m hc
 unfold bY at g;have w1:i64.wrap (x-c.s)=x-c.s:=aU Z Z;have e2:¬x<=c.s->¬c.e<=x->c.r*(x-c.s)=fx c x:=λq q'=>by unfold fx;rw[aq q,Int.min_eq_left Z]
 have w2:¬x<=c.s->¬c.e<=x->i64.wrap (c.r*(x-c.s))=fx c x:=λq q'=>by rw[e2 q q'];exact aU Z Z
 refine aW (Z4 @bY.eq_1 g w1 w2) ?_;refine⟨λq=>?_,λq q'=>?_⟩
 .unfold fx;rw[aG q]
 .unfold fx ku;rw[aq q,Int.min_eq_right Z]
theorem Aks(c:bF)(x:Int)(m:Mem)(hc:cF c)(hx:(0<=x/\x<=kv))(q_:202<=j:=by omega):SM j 368 [.agg (bY c),Ei 0,Ei x] m=some (Ei (fx c x),m):=by
 obtain⟨h,lg,d⟩:=m;refine aP 1999 q_ λn=>?_
 have p:=zP hc x;have g:=λm=>Akq 201 c x m hc hx
 unfold bY at g;have e:(if 0<fx c x then fx c x else 0)=fx c x:=Z;exact aC (Z3 @bY.eq_1 g e)
theorem Akt(c:bF)(p:Int)(m:Mem)(hc:cF c)(hp:(0<=p/\p<=ku c))(q_:203<=j:=by omega):SM j 369 [.agg (bY c),Ei p] m=some (Ei (Fb c p),m):=by
 obtain⟨h,lg,d⟩:=m;refine aP 1999 q_ λn=>?_
 have v:=vu hc;have t:=II hc hp.1 hp.2;have EP:=hc.2.2.2;have w1:i64.wrap (p+c.r)=p+c.r:=aU Z Z;have w2:i64.wrap (p+c.r-1)=p+c.r-1:=aU Z Z;have w3:i64.wrap (Int.tdiv (p+c.r-1) c.r)=(p+c.r-1)/c.r:=by
  rw[Int.tdiv_eq_ediv_of_nonneg Z];exact aU Z Z
 have w4:i64.wrap (c.s+(p+c.r-1)/c.r)=Fb c p:=aU Z Z;have z:(c.r=0)=False:=by simp;omega
 exact aC (Z6 @bY.eq_1 w1 w2 w3 w4 z)
def CD(c:bF)(z x:Int):Option Int:=if 1099511627776<x\/ku c<fx c x+z then none else some (Fb c (fx c x+z))
theorem GO{c:bF}{z x:Int}(hx:0<=x):gE c z x=(CD c z x).map (·+c.d):=by
 unfold gE CD Fb;by_cases q:1099511627776<x\/ku c<fx c x+z
 .rw[aG Z,aG q];rfl
 .rw[aq Z,aq q];rfl
def lI(c:bF)(z x:Int):Int:=if 1099511627776<x then 2 else if ku c<fx c x+z then 16 else 0
def qG(c:bF)(z x:Int):Int:=if lI c z x=0 then fx c x+z else 0
def j5(c:bF)(z x:Int):Int:=if lI c z x=0 then Fb c (fx c x+z)else 0
theorem D6{c:bF}{z x:Int}:(lI c z x=0↔(CD c z x).isSome=true)/\j5 c z x=(CD c z x).getD 0:=by
 unfold j5 lI CD;by_cases q:1099511627776<x
 .rw[aG q,aG (.inl q)];simp
 .by_cases q2:ku c<fx c x+z
  .rw[aq q,aG q2,aG (.inr q2)];simp
  .rw[aq q,aq q2,aq Z];simp
theorem Aku(c:bF)(z x:Int)(m:Mem)(hc:cF c)(hz:(1<=z/\z<=1200))(hx:(0<=x/\x<=kv))(q_:204<=j:=by omega):SM j 361 [.agg (bY c),Ei 0,Ei x,Ei z] m=some (.tuple [Ei (j5 c z x),Ei (qG c z x),Ei (lI c z x)],m):=by
 obtain⟨h,lg,d⟩:=m;refine aP 1999 q_ λn=>?_
 have v:=vu hc;have p:=zP hc x;have g1:=λm=>E84 203 c m
 rw[(pV c).2 hc]at g1;have g2:=λm=>Akn 203 x m
 have g3:=λm=>Akp 203 c m hc
 have g4:=λm=>Ako 203 z m
 have g5:=λm=>Aks 203 c x m hc hx
 have g6:=λm (q:¬ku c<fx c x+z)=>Akt 203 c (fx c x+z) m hc ⟨Z,Z⟩
 rw[decide_eq_true (by omega:1<=z/\z<=1099511627776)]at g4;have w1:i64.wrap (fx c x+z)=fx c x+z:=aU Z Z;have vn:(ku c<0)=False:=by simp;omega
 unfold bY at g1 g3 g5 g6;by_cases q:1099511627776<x
 .rw[decide_eq_false Z]at g2;have e:lI c z x=2:=by unfold lI;rw[aG q]
  have e2:j5 c z x=0:=by unfold j5;rw[e];rfl
  have e3:qG c z x=0:=by unfold qG;rw[e];rfl
  rw[e,e2,e3];exact aC (Z3 @bY.eq_1 g1 g2)
 .rw[decide_eq_true Z]at g2;by_cases q2:ku c<fx c x+z
  .have e:lI c z x=16:=by unfold lI;rw[aq q,aG q2]
   have e2:j5 c z x=0:=by unfold j5;rw[e];rfl
   have e3:qG c z x=0:=by unfold qG;rw[e];rfl
   rw[e,e2,e3];exact aC (Z9 @bY.eq_1 g1 g2 g3 g4 g5 w1 q2 vn)
  .have g6:=λm=>g6 m q2
   have e:lI c z x=0:=by unfold lI;rw[aq q,aq q2]
   have e2:j5 c z x=Fb c (fx c x+z):=by unfold j5;rw[aG e]
   have e3:qG c z x=fx c x+z:=by unfold qG;rw[aG e]
   rw[e,e2,e3];exact aC (yA @bY.eq_1 g1 g2 g3 g4 g5 g6 w1 q2 vn)
theorem Akv(c:bF)(z x:Int)(m:Mem)(hc:cF c)(hz:(1<=z/\z<=1200))(hx:(0<=x/\x<=kv))(q_:205<=j:=by omega):SM j 350 [.agg (bY c),Ei x,Ei z] m=some (.tuple [Ei (j5 c z x),Ei (lI c z x)],m):=by
 obtain⟨h,lg,d⟩:=m;refine aP 1999 q_ λn=>?_
 have g:=λm=>Aku 204 c z x m hc hz hx
 unfold bY at g;exact aC (Z2 @bY.eq_1 g)
def IJ(c:bF)(z x:Int):Int:=(gE c z x).getD (if 1099511627776<x then 0 else c.d)
theorem GP{c:bF}{z x:Int}(hc:cF c)(hz:1<=z):0<=j5 c z x/\j5 c z x<=2199023255553:=by
 unfold j5;split
 .rename_i q;unfold lI at q;have p:=zP hc x;have t:=II hc (p:=fx c x+z) Z (by split at q;omega;split at q;omega;omega);unfold Fb;have:=hc.2.2.2;omega
 .omega
theorem Te(c:bF)(z x:Int)(m:Mem)(hc:cF c)(hz:(1<=z/\z<=1200))(hx:(0<=x/\x<=kv))(q_:206<=j:=by omega):SM j 331 [.agg (bY c),Ei x,Ei z] m=some (.tuple [Ei (IJ c z x),.bool (gE c z x).isSome],m):=by
 obtain⟨h,lg,d⟩:=m;refine aP 1999 q_ λn=>?_
 have g:=λm=>Akv 205 c z x m hc hz hx
 unfold bY at g;have b:=GP (x:=x) hc hz.1;have EP:=hc.2.2.2;have w1:i64.wrap (j5 c z x+c.d)=j5 c z x+c.d:=aU Z Z;have s:=D6 (c:=c) (z:=z) (x:=x);have hb:=GO (c:=c) (z:=z) hx.1;refine aW (Z3 @bY.eq_1 g w1) ?_;refine⟨λq=>?_,λq=>?_⟩
 .have:gE c z x=none:=by unfold gE;rw[aG Z]
  rw[IJ,this,aG q];exact⟨rfl,rfl⟩
 .rw[IJ,hb,s.2,aq q];cases e:CD c z x with
  |none=>rw[e]at s;simpa using s.1
  |some t=>rw[e]at s;simpa using s.1
end
section
variable{F:FuncId->Option bD}{au:bR}{sm:ct}
def UQ(x:Int×Int):List AV:=[Ei x.1,Ei x.2]
structure sM(h:aN)(q b:Nat)(c:Option Nat)(L:List (Int×Int))(bI:List (List AV)):Prop where
 hq:aj h q=(aO 1 [[.slice b 0 L.length c]])
 hb:aj h b=(aO 2 bI)
 hr:bI.take L.length=L.map UQ
 hl:L.length<=bI.length
 hc:c=none\/c=some bI.length
theorem sM.ne{h:aN}{q b:Nat}{c:Option Nat}{L:List (Int×Int)}{bI:List (List AV)}(H:sM h q b c L bI):q≠b:=λe=>by
 have h1:=H.hq;have h2:=H.hb;rw[e,h2]at h1;simp at h1
theorem sM.row{h:aN}{q b:Nat}{c:Option Nat}{L:List (Int×Int)}{bI:List (List AV)}(H:sM h q b c L bI){k:Nat}(hk:k<L.length):bI[k]?=some (UQ (gt L k)):=by
 have h1:(bI.take L.length)[k]?=(L.map UQ)[k]?:=by rw[H.hr]
 rw[getElem?_take,aG hk,getElem?_map,getElem?_eq_getElem hk,<-bB hk]at h1;exact h1
theorem sM.rg{h:aN}{q b:Nat}{c:Option Nat}{L:List (Int×Int)}{bI:List (List AV)}(H:sM h q b c L bI){k:Nat}(hk:k<L.length):
 fG 2 bI k 1 1=some [Ei (gt L k).2]/\fG 2 bI k 0 2=some [Ei (gt L k).1,Ei (gt L k).2]/\(decide (k<L.length)=true):=by
 have e:=H.row hk;refine⟨?_,?_,by simpa using hk⟩
 .simp only[fG,Nat.ble,cond_false,iT,e];rfl
 .simp only[fG,Nat.ble,cond_false,iT,e];rfl
theorem rs2{bI:List (List AV)}{k:Nat}{x y:AV}{r:List AV}(hk:bI[k]?=some r) (hr:r.length=2):iX 2 bI k 0 [x,y]=some (bI.set k [x,y]):=by
 have:r.drop 2=[]:=drop_eq_nil_of_le Z;simp only[iX,Nat.ble,cond_false,nJ,hk,length_cons,length_nil,Nat.zero_add,take_zero,nil_append];rw[aG Z,this,append_nil]
theorem sM.sw{h:aN}{q b:Nat}{c:Option Nat}{L:List (Int×Int)}{bI:List (List AV)}(H:sM h q b c L bI){i j:Nat}(hi:i<L.length)(hj:j<L.length)(l:List (Option bp)):
 sM (aR (aQ h b ((aO 2 ((bI.set i (UQ (gt L j))).set j (UQ (gt L i)))))) l) q b c (sw L i j) ((bI.set i (UQ (gt L j))).set j (UQ (gt L i)))where
 hq:=by rw[bP (ag H.hb) (ag H.hq) H.ne,qV];exact H.hq
 hb:=(bg (ag H.hb)).2.2.2.2.1 _ _
 hr:=by
  rw[qV];unfold Go.Abs.sw;rw[map_set,map_set,<-H.hr,take_set,take_set]
 hl:=by rw[qV];simpa using H.hl
 hc:=by simpa using H.hc
theorem sM.sl{h:aN}{q b:Nat}{c:Option Nat}{L:List (Int×Int)}{bI:List (List AV)}(H:sM h q b c L bI):(∀l,aj (aR h l) q=(aO 1 [[.slice b 0 L.length c]]))/\(∀l,aj (aR h l) b=(aO 2 bI)):=
 ⟨λl=>(an l h q (ag H.hq)).trans H.hq,λl=>(an l h b (ag H.hb)).trans H.hb⟩
theorem sM.rs{h:aN}{q b:Nat}{c:Option Nat}{L:List (Int×Int)}{bI:List (List AV)}(H:sM h q b c L bI){i j:Nat}(hi:i<L.length)(hj:j<L.length):
 (∀x y,iX 2 bI i 0 [x,y]=some (bI.set i [x,y]))/\(∀x y z w,iX 2 (bI.set i [x,y]) j 0 [z,w]=some ((bI.set i [x,y]).set j [z,w])):=by
 refine⟨λx y=>rs2 (H.row hi) rfl,λx y z w=>?_⟩;by_cases e:j=i
 .subst e;exact rs2 (r:=[x,y]) (by rw[getElem?_set_self (by have:=H.hl;omega)]) rfl
 .exact rs2 (r:=UQ (gt L j)) (by rw[getElem?_set_ne (Ne.symm e)];exact H.row hj) rfl
def IK(get:Nat->Option bp)(au:bR)(x:AV)(name:String)(vs:List AV):Option (hZ×List AV):=
 match x with
 |.iface t v=>match au t name with
  |some (f,none)=>some (.fn f,v::vs)
  |some (f,some (agg,n))=>match bG get 0 .e (.load agg n (.c v))with
   |some (r,_)=>some (.fn f,r::vs)
   |none=>none
  |none=>none
 |_=>none
theorem yN(get:Nat->Option bp)(T:Tr)(x:bE)(name:String)(args:List bE):eD get au T (.invoke x name args)=IK get au (cP T x) name (wW T args):=by
 simp only[eD,IK,bG,cP];cases cP T x<;>rfl
structure Mth(au:bR):Prop where
 a:au 437 "Len"=some (351,some (false,1))
 b:au 437 "Less"=some (391,some (false,1))
 c:au 437 "Swap"=some (394,some (false,1))
 d:au 437 "Push"=some (393,none)
 e:au 437 "Pop"=some (392,none)
theorem PQ:Mth MT:=⟨by kernel_rfl,by kernel_rfl,by kernel_rfl,by kernel_rfl,by kernel_rfl⟩
theorem yO{name:String}{f:FuncId}(h:au 437 name=some (f,some (false,1)))(get:Nat->Option bp)(q:Nat)(bS:Bool)(v:AV)(vs:List AV)(hg:get q=some (.row bS 1 [[v]])):IK get au (.iface 437 (.ptr q 0 0)) name vs=some (.fn f,v::vs):=by
 simp only[IK,h,bG,cP,hg];rfl
theorem UR{name:String}{f:FuncId}(h:au 437 name=some (f,none))(get:Nat->Option bp)(v:AV)(vs:List AV):IK get au (.iface 437 v) name vs=some (.fn f,v::vs):=by
 simp only[IK,h]
abbrev kQ:Int×Int->Int:=λx=>x.2
def RUp(m0:Mem)(q b:Nat)(c:Option Nat)(L:List (Int×Int)):AV->Mem->Prop:=λ_ m=>∃L' lJ,dG (·=b) m0 m/\sM m.ah q b c L' lJ/\L'.Perm L/\Heap kQ L'.length L'
theorem XL(lg d:List Nat){q b:Nat}{c:Option Nat}{L:List (Int×Int)}{bI:List (List AV)}{jj:Nat}(H:sM h q b c L bI)(hj:jj<L.length)(hn:L.length<=900)(hu:YU kQ L jj)(q_:0<=j:=by omega):Wa FT MT (SM j) (n+1000) (.fn 363) [.iface 437 (.ptr q 0 0),Ei jj] ⟨aR h [],lg,d⟩ (RUp ⟨h,lg,d⟩ q b c L):=by
 refine aI ?_;refine aS ?_;refine dz (α:=Nat×List (Int×Int)×List (List AV)) jj [X1] (λi a=>[Ei a.1]) (λi a m=>dG (·=b) ⟨h,lg,[]⟩ m/\sM m.ah q b c a.2.1 a.2.2/\a.2.1.Perm L/\YU kQ a.2.1 a.1/\a.1<L.length/\a.1+i<=jj) Z aX ⟨(jj,L,bI),rfl,dG.refl _ _,H,.refl _,hu,hj,by simp⟩ (λi a m g hi hP=>?_) (λa m g hP=>?_)
 .obtain⟨h3,dH,d3⟩:=m;obtain⟨k,L',lJ⟩:=a;obtain⟨kk,Q,pe,up,hk,XM⟩:=hP;obtain rfl:d3=[]:=kk.aV;simp only at Q pe up hk XM;have le:=pe.length_eq;have qs:=Q.sl;have IL:k<L'.length:=Z;have o:=bg (ag Q.hb);refine bH ?_;rcases Nat.eq_zero_or_pos k with e0|k0
  .subst e0;have w1:i64.wrap (-1)=-1:=aU Z Z;refine aW w1 ?_;exact⟨L',lJ,kk.sub,Q,pe,Im up (.inl rfl)⟩
  .have hp:(k-1)/2<L'.length:=Z;have w1:i64.wrap ((k:Int)-1)=((k-1:Nat):Int):=by rw[aU Z Z];omega
   have w2:i64.wrap (Int.tdiv ((k-1:Nat):Int) 2)=(((k-1)/2:Nat):Int):=by rw[Int.tdiv_eq_ediv_of_nonneg Z];exact aU Z Z
   have ne:((((k-1)/2:Nat):Int)=(k:Int))=False:=by simp;omega
   have g1:=Q.rg IL;have g2:=Q.rg hp;have st:=Q.rs hp IL;have m1:=λl vs=>yO PQ.b (aj (aR h3 l)) q true _ vs (qs.1 l)
   have m2:=λl vs=>yO PQ.c (aj (aR h3 l)) q true _ vs (qs.1 l)
   refine aD (gX w1 w2 ne @yN m1 m2 qs o g1 g2 st (Z2 (@aJ 391 _ rfl aZ) (@aJ 394 _ rfl aZ))) ?_;refine⟨λc=>⟨L',lJ,kk.sub,Q,pe,Im up (.inr c)⟩,λc=>⟨((k-1)/2,sw L' ((k-1)/2) k,_),rfl,?_,Q.sw hp IL [],(vO hp IL).trans pe,Sw up k0 IL c,by simp only;omega,by simp only;omega⟩⟩;exact kk.trans (cD (P:=(·=b)) (ag Q.hb) rfl _ _ (.cons (.inl rfl) (.cons (.inl rfl) .nil))) (λx e=>.inl e)
 .obtain⟨h3,dH,d3⟩:=m;obtain⟨k,L',lJ⟩:=a;obtain⟨kk,Q,pe,up,hk,XM⟩:=hP;obtain rfl:d3=[]:=kk.aV;simp only at Q pe up hk XM;have e0:k=0:=Z;subst e0;have w1:i64.wrap (-1)=-1:=aU Z Z;refine bH ?_;refine aW w1 ?_;exact⟨L',lJ,kk.sub,Q,pe,Im up (.inl rfl)⟩
end
section
variable{F:FuncId->Option bD}{au:bR}{sm:ct}
def RDn(m0:Mem)(q b:Nat)(c:Option Nat)(L:List (Int×Int))(e:Nat):AV->Mem->Prop:=λ_ m=>∃L' lJ,dG (·=b) m0 m/\sM m.ah q b c L' lJ/\L'.Perm L/\Heap kQ e L'/\∀x,e<=x->gt L' x=gt L x
theorem Akw(lg d:List Nat){q b:Nat}{c:Option Nat}{L:List (Int×Int)}{bI:List (List AV)}{e:Nat}(H:sM h q b c L bI)(he:e<=L.length)(hn:L.length<=900)(hu:YV kQ e L 0)(q_:0<=j:=by omega):Wa FT MT (SM j) (n+1000) (.fn 362) [.iface 437 (.ptr q 0 0),Ei 0,Ei e] ⟨aR h [],lg,d⟩ (RDn ⟨h,lg,d⟩ q b c L e):=by
 refine aI ?_;refine aS ?_;refine dz (α:=Nat×List (Int×Int)×List (List AV)) e [X7] (λi a=>[Ei a.1]) (λi a m=>dG (·=b) ⟨h,lg,[]⟩ m/\sM m.ah q b c a.2.1 a.2.2/\a.2.1.Perm L/\YV kQ e a.2.1 a.1/\a.1<=e/\i<=a.1/\∀x,e<=x->gt a.2.1 x=gt L x) Z aX ⟨(0,L,bI),rfl,dG.refl _ _,H,.refl _,hu,by simp,by simp,λ_ _=>rfl⟩ (λi a m g hi hP=>?_) (λa m g hP=>?_)
 .obtain⟨h3,dH,d3⟩:=m;obtain⟨k,L',lJ⟩:=a;obtain⟨kk,Q,pe,dn,hk,XM,ls⟩:=hP;obtain rfl:d3=[]:=kk.aV;simp only at Q pe dn hk XM ls;have le:=pe.length_eq;have qs:=Q.sl;have o:=bg (ag Q.hb);obtain⟨j1,hj1⟩:∃j1,j1=2*k+1:=⟨_,rfl⟩;obtain⟨j2,hj2⟩:∃j2,j2=2*k+2:=⟨_,rfl⟩;have w1:i64.wrap (2*(k:Int))=((2*k:Nat):Int):=by rw[aU Z Z];omega
  have w2:i64.wrap (((2*k:Nat):Int)+1)=(j1:Int):=by rw[aU Z Z];omega
  have w3:i64.wrap ((j1:Int)+1)=(j2:Int):=by rw[aU Z Z];omega
  refine bH ?_;by_cases c1:e<=j1
  .have q1:((e:Int)<=(j1:Int))=True:=by simp;omega
   refine aW (Z3 w1 w2 q1) ?_;exact⟨L',lJ,kk.sub,Q,pe,B0 dn λx h1 h2 h3=>Z,ls⟩
  .have q1:((e:Int)<=(j1:Int))=False:=by simp;omega
   have q0:((j1:Int)<0)=False:=by simp
   have IL:k<L'.length:=Z;have h1L:j1<L'.length:=Z;have m1:=λl vs=>yO PQ.b (aj (aR h3 l)) q true _ vs (qs.1 l)
   have m2:=λl vs=>yO PQ.c (aj (aR h3 l)) q true _ vs (qs.1 l)
   have gk:=Q.rg IL;have g1:=Q.rg h1L;have qv:=Q.rs IL h1L;have sw1:=Q.sw IL h1L [];have ko:∀y,dG (·=b) ⟨h,lg,[]⟩ ⟨aR (aQ h3 b y) [],b::b::dH,[]⟩:=λy=>kk.trans (cD (P:=(·=b)) (ag Q.hb) rfl _ _ (.cons (.inl rfl) (.cons (.inl rfl) .nil))) (λx e=>.inl e)
   have lsw:∀j,j<e->∀x,e<=x->gt (sw L' k j) x=gt L x:=λj hj x hx=>by rw[u9 IL Z,aq Z,aq Z];exact ls x hx
   by_cases c2:j2<e
   .have q2:((j2:Int)<(e:Int))=True:=by simp;omega
    have h2L:j2<L'.length:=Z;have g2:=Q.rg h2L;have tJ:=Q.rs IL h2L;have sw2:=Q.sw IL h2L [];by_cases c3:(gt L' j2).2<(gt L' j1).2
    .refine aD (gX w1 w2 w3 q0 q1 q2 c3 @yN m1 m2 qs (Z7 o g1 g2 gk tJ (@aJ 391 _ rfl aZ) (@aJ 394 _ rfl aZ))) ?_;refine⟨λcc=>⟨L',lJ,kk.sub,Q,pe,B0 dn λx h1 h2 h3=>?_,ls⟩,λcc=>⟨(j2,sw L' k j2,_),rfl,ko _,sw2,(vO IL h2L).trans pe,ET dn Z c2 Z Z cc (λx h1 h2 h3=>?_),by simp only;omega,by simp only;omega,lsw j2 c2⟩⟩
     .rcases(by omega:x=j1\/x=j2)with rfl|rfl<;>simp only[kQ]<;>omega
     .rcases(by omega:x=j1\/x=j2)with rfl|rfl<;>simp only[kQ]<;>omega
    .refine aD (gX w1 w2 w3 q0 q1 q2 c3 @yN m1 m2 qs (Z7 o g1 g2 gk qv (@aJ 391 _ rfl aZ) (@aJ 394 _ rfl aZ))) ?_;refine⟨λcc=>⟨L',lJ,kk.sub,Q,pe,B0 dn λx h1 h2 h3=>?_,ls⟩,λcc=>⟨(j1,sw L' k j1,_),rfl,ko _,sw1,(vO IL h1L).trans pe,ET dn Z Z Z Z cc (λx h1 h2 h3=>?_),by simp only;omega,by simp only;omega,lsw j1 Z⟩⟩
     .rcases(by omega:x=j1\/x=j2)with rfl|rfl<;>simp only[kQ]<;>omega
     .rcases(by omega:x=j1\/x=j2)with rfl|rfl<;>simp only[kQ]<;>omega
   .have q2:((j2:Int)<(e:Int))=False:=by simp;omega
    refine aD (gX w1 w2 w3 q0 q1 q2 @yN m1 m2 qs o (Z5 g1 gk qv (@aJ 391 _ rfl aZ) (@aJ 394 _ rfl aZ))) ?_;refine⟨λcc=>⟨L',lJ,kk.sub,Q,pe,B0 dn λx h1 h2 h3=>?_,ls⟩,λcc=>⟨(j1,sw L' k j1,_),rfl,ko _,sw1,(vO IL h1L).trans pe,ET dn Z Z Z Z cc (λx h1 h2 h3=>?_),by simp only;omega,by simp only;omega,lsw j1 Z⟩⟩
    .obtain rfl:x=j1:=Z;simp only[kQ];omega
    .obtain rfl:x=j1:=Z;simp only[kQ];omega
 .obtain⟨h3,dH,d3⟩:=m;obtain⟨k,L',lJ⟩:=a;obtain⟨kk,Q,pe,dn,hk,XM,ls⟩:=hP;obtain rfl:d3=[]:=kk.aV;simp only at Q pe dn hk XM ls;obtain⟨j1,hj1⟩:∃j1,j1=2*k+1:=⟨_,rfl⟩;have w1:i64.wrap (2*(k:Int))=((2*k:Nat):Int):=by rw[aU Z Z];omega
  have w2:i64.wrap (((2*k:Nat):Int)+1)=(j1:Int):=by rw[aU Z Z];omega
  have q1:((e:Int)<=(j1:Int))=True:=by simp;omega
  refine bH ?_;refine aW (Z3 w1 w2 q1) ?_;exact⟨L',lJ,kk.sub,Q,pe,B0 dn λx h1 h2 h3=>Z,ls⟩
end
section
variable{F:FuncId->Option bD}{au:bR}{sm:ct}
theorem PR(get:Nat->Option bp)(b n k:Nat)(c:Option Nat)(bS:Bool)(bI:List (List AV))(hg:get b=some (.row bS 2 bI))(hk:k<=n)(hc:n<=c.getD n):lU get 2 (.slice b 0 n c) none (some (Ei k)) none=some (.slice b 0 k c):=by
 have e2:c.map (·-0)=c:=by cases c<;>rfl
 simp only[lU,hg,fH,ne_eq,not_true_eq_false,if_false,Int.natCast_nonneg,if_true,Int.toNat_natCast,isSome_none,Bool.false_eq_true,Nat.add_zero];rw[aG ⟨Nat.zero_le _,Z,cB⟩,e2];rfl
def Akx(m0:Mem)(q b:Nat)(L:List (Int×Int)):AV->Mem->Prop:=λv m=>∃c' L' lJ,v=.iface 439 (.agg [Ei (gt L 0).1,Ei (gt L 0).2])/\dG (λx=>x=q\/x=b) m0 m/\sM m.ah q b c' L' lJ/\(gt L 0::L').Perm L/\Heap kQ L'.length L'
theorem sM.cap{h:aN}{q b:Nat}{c:Option Nat}{L:List (Int×Int)}{bI:List (List AV)}(H:sM h q b c L bI):L.length<=c.getD L.length:=by
 rcases H.hc with rfl|rfl
 .simp
 .simpa using H.hl
theorem ML{L:List (Int×Int)}(h0:1<=L.length):(gt L (L.length-1)::L.take (L.length-1)).Perm L:=by
 have h:=take_append_getElem (l:=L) (i:=L.length-1) Z;rw[<-bB Z,show L.length-1+1=L.length by omega,take_length]at h;refine(perm_append_comm (l₁:=[gt L (L.length-1)]) (l₂:=L.take (L.length-1))).trans ?_;rw[h]
theorem Aky(lg d:List Nat){q b:Nat}{c:Option Nat}{L:List (Int×Int)}{bI:List (List AV)}(H:sM h q b c L bI)(h0:1<=L.length)(hn:L.length<=900)(hp:Heap kQ L.length L)(q_:0<=j:=by omega):Wa FT MT (SM j) (n+1500) (.fn 352) [.iface 437 (.ptr q 0 0)] ⟨aR h [],lg,d⟩ (Akx ⟨h,lg,d⟩ q b L):=by
 refine aI ?_;have qs:=H.sl;have o:=bg (ag H.hb);have sZ:L.length-1<L.length:=Z;have w1:i64.wrap ((L.length:Int)-1)=((L.length-1:Nat):Int):=by rw[aU Z Z];omega
 have m1:=λl vs=>yO PQ.a (aj (aR h l)) q true _ vs (qs.1 l)
 have m2:=λl vs=>yO PQ.c (aj (aR h l)) q true _ vs (qs.1 l)
 have g0:=H.rg (show 0<L.length by omega);have g1:=H.rg sZ;have st:=H.rs (show 0<L.length by omega) sZ;have Q1:=H.sw (show 0<L.length by omega) sZ [];refine aD (xq w1 @yN m1 m2 qs o g0 g1 st (@aJ 351 _ rfl aZ) (@aJ 394 _ rfl aZ)) ?_;rw[<-fZ];have Q1:sM (aQ h b ((aO 2 ((bI.set 0 [AV.int i64 (gt L (L.length-1)).fst,AV.int i64 (gt L (L.length-1)).snd]).set (L.length-1) [AV.int i64 (gt L 0).fst,AV.int i64 (gt L 0).snd])))) q b c (sw L 0 (L.length-1)) _:=Q1;have ls:(sw L 0 (L.length-1)).length=L.length:=qV _ _ _;refine dE _ _ _ _ _ _ (λv m' R=>?_) (Akw j (n+499) _ _ _ (e:=L.length-1) Q1 Z Z (by have:=W9 hp h0;exact this));obtain⟨L2,qC,k2,Q2,p2,h2,l2⟩:=R;obtain⟨h3,dH,d3⟩:=m';obtain rfl:d3=[]:=k2.aV;simp only at Q2;have qs:=Q2.sl;have E7:L2.length=L.length:=p2.length_eq.trans ls;have KH:=ag Q2.hb;have UG:=ag Q2.hq;have o:=bg KH;have oq:=bg UG;have m3:=λl vs=>UR PQ.e (aj (aR h3 l)) (.ptr q 0 0) vs
 have g1:=Q2.rg (show L.length-1<L2.length by omega);rw[E7]at qs g1;have cp:=Q2.cap;rw[E7]at cp;have tk:=λget (hg:get b=(aO 2 qC))=>PR get b L.length (L.length-1) c true qC hg Z cp
 have w3:i64.wrap ((L.length:Int)-1)=((L.length-1:Nat):Int):=w1;have m3':∀l vs,IK (aj (aR h3 l)) MT (.iface 437 (.ptr q 0 0)) "Pop" vs=_:=m3;show Kc _ _ _ _ _ _ _ _ _ ⟨aR h3 [],dH,[]⟩;have XP:=λk=>iv (k:=k) KH
 have XQ:=λk=>iv (k:=k) UG
 refine aD (yA w3 @yN m3 qs oq g1 tk XP XQ (@aJ 392 _ rfl aZ)) ?_;have e0:gt L2 (L.length-1)=gt L 0:=by rw[l2 _ cB,u9 Z sZ,aG rfl]
 have hqb:=H.ne;have tl:=ML (L:=L2) Z;rw[E7,e0]at tl;refine⟨c,L2.take (L.length-1),qC,by rw[e0],?_,⟨?_,?_,?_,?_,Q2.hc⟩,tl.trans (p2.trans (vO Z sZ)),λx x1 x2=>?_⟩
 .refine dG.trans (P:=λx=>x=q\/x=b) (b:=⟨h3,dH,d⟩) ?_ (cD (P:=λx=>x=q\/x=b) UG (.inl rfl) _ _ (.cons (.inl (.inl rfl)) (.cons (.inr aB) (.cons (.inr aB) .nil)))) (λx hx=>.inl hx);exact dG.trans (cD (P:=λx=>x=q\/x=b) (l:=[]) (dx:=b::b::lg) (ag H.hb) (.inr rfl) _ (.cons (.inl (.inr rfl)) (.cons (.inl (.inr rfl)) .nil))) k2.sub (λx hx=>.inl (.inr hx))
 .rw[oq.2.2.2.2.1,length_take,E7,Nat.min_eq_left Z]
 .rw[bP UG KH (Ne.symm hqb)];exact Q2.hb
 .rw[length_take,E7,Nat.min_eq_left Z,map_take,<-Q2.hr,take_take,E7,Nat.min_eq_left Z]
 .rw[length_take];have:=Q2.hl;omega
 .rw[length_take,E7,Nat.min_eq_left Z]at x2;have g:∀y,y<L.length-1->gt (L2.take (L.length-1)) y=gt L2 y:=λy hy=>by
   rw[bB (show y<(L2.take (L.length-1)).length by rw[length_take];omega),bB (show y<L2.length by omega),getElem_take]
  rw[g _ Z,g _ x2];exact h2 x x1 x2
end
end Go.Abs
end
