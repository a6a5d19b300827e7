/- Calls
   Conditions: none. -/
import Derived.Test.YteeknodhjojhhaaGreatDoorEv3
import Derived.AtR
import Derived.RangeFuncRecord
set_option linter.unusedSimpArgs false
set_option linter.unusedVariables false
set_option maxRecDepth 100000
noncomputable section
namespace Go.Abs
open List Option IntKind
def running(fr:Frame)(cs:List Frame):Goroutine:={frame:=fr,callers:=cs,status:=.running,dying:=none}
def World.bW(w:World)(d:Nat):World:={w with drawn:=d}
inductive di(P:Program)(cW:Bool)(OK:Goroutine->World->Prop)(Q:Goroutine->World->Prop):Goroutine->World->Prop
 |eP {g:Goroutine} {w:World}:Q g w->di P cW OK Q g w
 |step {g:Goroutine} {w:World} (g':Nat->Goroutine) (w':Nat->World):(∃fr cs,g=running fr cs)->(∀d,(stepG P cW g (World.bW w d)).bare=.go (g' d) (w' d))->(∀d,OK g (World.bW w d))->(∀d,di P cW OK Q (g' d) (w' d))->di P cW OK Q g w
section
variable{P:Program}{cW:Bool}{OK:Goroutine->World->Prop}{Q Q':Goroutine->World->Prop}
theorem di.bind{g:Goroutine}{w:World}(h:di P cW OK Q g w)(hq:∀g w,Q g w->di P cW OK Q' g w):di P cW OK Q' g w:=by
 induction h with
 |eP h=>exact hq _ _ h
 |step g' w' h0 h1 h2 _ ih=>exact .step g' w' h0 h1 h2 ih
theorem di.mono{g:Goroutine}{w:World}(h:di P cW OK Q g w)(hq:∀g w,Q g w->Q' g w):di P cW OK Q' g w:=h.bind λg w h=>.eP (hq g w h)
theorem di.one{g g':Goroutine}{w:World}(kC:∀g w,OK g w)(h:∀d,(stepG P cW g (World.bW w d)).bare=.go g' (World.bW w d))(hn:∀d,di P cW OK Q g' (World.bW w d))(hr:∃fr cs,g=running fr cs:=by exact⟨_,_,rfl⟩):di P cW OK Q g w:=
 .step (λ_=>g') _ hr h (λ_=>kC _ _) hn
theorem di.any{g:Goroutine}{w:World}(kC:∀g w,OK g w)(h:∀d,∃g' w',(stepG P cW g (World.bW w d)).bare=.go g' w'/\di P cW OK Q g' w')(hr:∃fr cs,g=running fr cs:=by exact⟨_,_,rfl⟩):di P cW OK Q g w:=
 .step (λd=>(h d).choose) (λd=>(h d).choose_spec.choose) hr (λd=>(h d).choose_spec.choose_spec.1) (λ_=>kC _ _) (λd=>(h d).choose_spec.choose_spec.2)
end
section
variable{K:Kp}{w0 w:World}{ρ:dR}{h:aN}
theorem Rel.bW(R:Rel K w0 ρ h w)(d:Nat):Rel K w0 ρ h (World.bW w d):=
 R.world ⟨R.below.os,R.below.tape,R.below.output,R.below.size,R.below.lt,R.below.block⟩ cB λ_ _ _ _ _=>rfl
end
def Z0:cT->List Item->List Item->Prop
 |.normal,k,todo=>todo=k
 |.exit id,k,todo=>∃k',todo=.code (.exit id)::k'/\exitTo id k'=exitTo id k
 |.ret,_,todo=>∃k',todo=.code .ret::k'
def tb(lo:Nat)(ρ:dR)(h:aN)(ya:List Nat)(ds:List Deferred):Prop:=
 (lo<=h.length/\∀x∈ya,lo<=x)/\ya.Nodup/\ya.length=ds.length/\∀(i:Nat) (b:Nat) (d:Deferred),ya[i]?=some b->ds[i]?=some d->aj h b=some .nZ/\∃p,ρ b=some p/\d={target:=.collected p.cb,args:=#[]}
section
variable{P:Program}{cW:Bool}{b:Frame}{a:Act}{k:List Item}{cs:List Frame}{w:World}
theorem RU:(stepG P cW (running (b.atR a (.code .skip::k)) cs) w).bare=.go (running (b.atR a k) cs) w:=by simp[running,stepG,stepG.exec,Frame.atR]
theorem Of{l:Nat}:(stepG P cW (running (b.atR a (.code (.label l)::k)) cs) w).bare=.go (running (b.atR a k) cs) w:=by simp[running,stepG,stepG.exec,Frame.atR]
theorem Og{x:Code}:(stepG P cW (running (b.atR a (.code (.scope x)::k)) cs) w).bare=.go (running (b.atR a (.code x::.inScope x::k)) cs) w:=by simp[running,stepG,stepG.exec,Frame.atR]
theorem HL{x:Code}:(stepG P cW (running (b.atR a (.inScope x::k)) cs) w).bare=.go (running (b.atR a k) cs) w:=by simp[running,stepG,stepG.exec,Frame.atR]
theorem HM{id:Nat}:(stepG P cW (running (b.atR a (.inBlock id::k)) cs) w).bare=.go (running (b.atR a k) cs) w:=by simp[running,stepG,stepG.exec,Frame.atR]
theorem VN{x y:Code}:(stepG P cW (running (b.atR a (.code (.seq x y)::k)) cs) w).bare=.go (running (b.atR a (.code x::.code y::k)) cs) w:=by simp[running,stepG,stepG.exec,Frame.atR]
theorem Jz{c:Operand}{x y:Code}{t:Bool}(h:a.eval c=.bool t):(stepG P cW (running (b.atR a (.code (.cond c x y)::k)) cs) w).bare=.go (running (b.atR a (.code (if t then x else y)::k)) cs) w:=by
 have:=congrFun (Frame.eval_atR b a (.code (.cond c x y)::k)) c;simp only[Frame.atR]at this;simp[running,stepG,stepG.exec,Frame.atR,this,h]
theorem Oh{id:Nat}{c:Code}:(stepG P cW (running (b.atR a (.code (.block id c)::k)) cs) w).bare=.go (running (b.atR a (.code c::.inBlock id::k)) cs) w:=by simp[running,stepG,stepG.exec,Frame.atR]
theorem RV{c:Code}:(stepG P cW (running (b.atR a (.code (.loop c)::k)) cs) w).bare=.go (running (b.atR a (.code c::.inLoop c::k)) cs) w:=by simp[running,stepG,stepG.exec,Frame.atR]
theorem LG{c:Code}:(stepG P cW (running (b.atR a (.inLoop c::k)) cs) w).bare=.go (running (b.atR a (.code c::.inLoop c::k)) cs) w:=by simp[running,stepG,stepG.exec,Frame.atR]
theorem RW{id:Nat}{k':List Item}(h:exitTo id k=some k'):(stepG P cW (running (b.atR a (.code (.exit id)::k)) cs) w).bare=.go (running (b.atR a k') cs) w:=by simp[running,stepG,stepG.exec,Frame.atR,h]
theorem Oi(hb:b.roundOf=none):(stepG P cW (running (b.atR a (.code .ret::k)) cs) w).bare=.go (running {b.atR a (.code .ret::k)with mode:=.returning} cs) w:=by simp[running,stepG,stepG.exec,Frame.atR,hb]
theorem Oj(hb:b.roundOf=none):(stepG P cW (running (b.atR a []) cs) w).bare=.go (running {b.atR a []with mode:=.returning} cs) w:=by simp[running,stepG,stepG.exec,Frame.atR,hb]
variable{dC:Array Oper}
theorem LH{id:Nat}:(stepG P cW (running (b.atR a (.code (.region id dC false)::k)) cs) w).bare=.go (running (b.atR a (.inRegion dC (List.range dC.size)::k)) cs) w:=by simp[running,stepG,stepG.exec,Frame.atR]
theorem BC{id:Nat}:(stepG P cW (running (b.atR a (.code (.region id dC true)::k)) cs) w).bare=
 .go (running (b.atR a (.inRegion dC (Region.schedule (P.follows .mixedOrders) dC (w.tape w.drawn (.order b.fn id)))::k)) cs) {w with drawn:=w.drawn+1}:=by
 simp[running,stepG,stepG.exec,Frame.atR,choose,Sem.run,Question.forced,Question.cut]
theorem wG:(stepG P cW (running (b.atR a (.inRegion dC []::k)) cs) w).bare=.go (running (b.atR a k) cs) w:=by simp[running,stepG,stepG.exec,Frame.atR]
theorem BD{i:Nat}{fX:List Nat}(h:((dC[i]?).map (Region.wanted · (yielded dC a.tmps))).getD false=false):
 (stepG P cW (running (b.atR a (.inRegion dC (i::fX)::k)) cs) w).bare=.go (running (b.atR (a.put ((dC[i]?).bind (·.dst)) undef) (.inRegion dC fX::k)) cs) w:=by
 rw[<-Frame.finish_atR];have h':=h;simp only[Frame.atR]at*;simp[running,stepG,stepG.exec,h']
theorem Ok{i:Nat}{fX:List Nat}{o:Oper}(ho:dC[i]?=some o) (hw:Region.wanted o (yielded dC a.tmps)=true) (hd:∀c,o.op≠.defer c):
 stepG P cW (running (b.atR a (.inRegion dC (i::fX)::k)) cs) w=stepG.apply P true (b.atR a (.inRegion dC (i::fX)::k)) cs none (execOp a.eval o) w:=by
 have he:=Frame.eval_atR b a (.inRegion dC (i::fX)::k);rw[<-Oper.semAt_eq b.roundOf a.eval o hd];simp only[Frame.atR]at he;simp only[running,stepG,stepG.exec,stepG.oper,Frame.oper?,Frame.atR,ho,hw,he,map_some,getD_some,if_true,Oper.semAt];cases b.roundOf<;>cases o.op<;>rfl
theorem Aj{i:Nat}{fX:List Nat}{o:Oper}{nx:Next}{v:Value}{w':World}(ho:dC[i]?=some o) (hw:Region.wanted o (yielded dC a.tmps)=true) (hd:∀c,o.op≠.defer c)
 (hr:(execOp a.eval o).run P w=.ok nx w') (hn:nx=.value v\/(nx=.skip/\v=undef)):
 (stepG P cW (running (b.atR a (.inRegion dC (i::fX)::k)) cs) w).bare=.go (running (b.atR (a.put o.dst v) (.inRegion dC fX::k)) cs) w':=by
 have CV:(b.atR a (.inRegion dC (i::fX)::k)).finish v=b.atR (a.put o.dst v) (.inRegion dC fX::k):=by rw[Frame.finish_atR,ho];rfl
 rw[Ok ho hw hd,<-CV];rcases hn with rfl|⟨rfl,rfl⟩<;>simp[stepG.apply,hr,running]
end
section
variable{P:Program}{ρ:dR}{T:Tr}{a:Act}
theorem Hw.put{tmps:Array Value}(h:Hw ρ T tmps){d:Nat}{v:AV}{v':Value}(hd:d<tmps.size)(hv:VR ρ v v'):Hw ρ (gq v (.ofNat d) T) (tmps.setIfInBounds d v'):=by
 intro p;rw[iR];by_cases e:p=.ofNat d
 .subst e;rw[aG rfl,cO.toNat_ofNat];simpa[Array.getD_eq_getD_getElem?,hd]using hv
 .rw[aq e];have jV:d≠p.toNat:=λe2=>e (cO.toNat_inj (by rw[cO.toNat_ofNat];exact e2.symm))
  have:=h p;simpa[Array.getD_eq_getD_getElem?,Array.getElem?_setIfInBounds_ne jV]using this
theorem TR.put(h:TR ρ T a){d:Option Nat}{v:AV}{v':Value}(hd:∀x,d=some x->x<a.tmps.size)(hv:VR ρ v v'):TR ρ (eU T (d.map cO.ofNat) v) (a.put d v'):=by
 cases d with
 |none=>exact h
 |some d=>exact Hw.put h (hd d rfl) hv
theorem rU{d:Option Nat}{v:Value}:(a.put d v).tmps.size=a.tmps.size:=by cases d<;>simp[Act.put]
theorem FU:VR ρ .undef undef:=rfl
theorem Dv:∀(vs:List AV) (p q:cO) (T:Tr),dL q (lz vs p T)=if p.toNat<=q.toNat/\q.toNat<p.toNat+vs.length then vs.getD (q.toNat-p.toNat) .undef else dL q T
 |[],p,q,T=>by simp[lz];intro h1 h2;omega
 |v::vs,p,q,T=>by
  rw[lz,Dv vs p.succ q _,cO.wY,iR];simp only[length_cons];by_cases e:q=p
  .subst e;rw[aq Z,aG rfl,aG Z];simp
  .have jV:q.toNat≠p.toNat:=λe2=>e (cO.toNat_inj e2)
   by_cases hc:p.toNat+1<=q.toNat/\q.toNat<p.toNat+1+vs.length
   .rw[aG hc,aG Z];have:q.toNat-p.toNat=(q.toNat-(p.toNat+1))+1:=Z;rw[this];simp
   .rw[aq hc,aq e,aq Z]
theorem FV{args:List AV}{Ol:Array Value}{n:Nat}(h:fz ρ args Ol.toList):Hw ρ (lz args .z .e) (Ol++Array.replicate n undef):=by
 intro q;rw[Dv,zj];have hl:=h.length;simp at hl;simp only[cO.toNat,Nat.zero_le,true_and,Nat.zero_add,Nat.sub_zero];rw[Array.getD_eq_getD_getElem?];by_cases hq:q.toNat<args.length
 .rw[aG hq];have h1:args[q.toNat]?=some (args[q.toNat]):=getElem?_eq_getElem hq;obtain⟨v,hv,hr⟩:=h.get h1;rw[Array.getElem?_append_left Z];simp only[Array.getElem?_toList]at hv;rw[hv];simpa[getD_eq_getElem?_getD,h1]using hr
 .rw[aq hq];rw[Array.getElem?_append_right Z];by_cases h2:q.toNat-Ol.size<n
  .simp[h2,VR,undef]
  .simp[h2,VR,undef]
end
def inv(ρ:dR):hZ->Array Value->Sem Next
 |.fn f,vs=>callFunc f vs
 |.yield l,vs=>Instr.yield (((ρ l).map (·.cb)).getD 0) vs
def xi(P:Program):Next->Frame->Prop
 |.enter f args,fr=>fr=Frame.enter P f args .normal
 |.round l f tmps assign body,fr=>fr=Frame.round l f tmps assign body .normal
 |_,_=>False
def RX(K:Kp)(w0:World)(ρ:dR)(h h':aN)(v:AV)(fr:Frame)(cs:List Frame)(g:Goroutine)(w:World):Prop:=
 ∃v' gO,g=running (fr.finish v') cs/\VR gO v v'/\Rel K w0 gO h' w/\ρ.le gO/\(∀x,x<h.length->gO x=ρ x)/\h.length<=h'.length/\∀x,aj h x=some .nZ->aj h' x=some .nZ
def lX(P:Program)(aM:Nat->Option AV)(cW:Bool)(OK:Goroutine->World->Prop)(L:oe->Loop->Prop)(call:eX):Prop:=
 ∀(K:Kp) (w0 w:World) (ρ:dR) (m m':Mem) (c:hZ) (vs:List AV) (iA:Array Value) (v:AV),K.loop=L->call c vs m=some (v,m')->Rel K w0 ρ m.ah w->GR aM ρ->fz ρ vs iA.toList->
  (∀l,c=.yield l->∃p,ρ l=some p)->
  ∃nx CW,(inv ρ c iA).run P w=.ok nx w/\xi P nx CW/\∀fr cs,di P cW OK (RX K w0 ρ m.ah m'.ah v fr cs) (running CW (fr::cs)) w
section
variable{P:Program}{aM:Nat->Option AV}{K:Kp}{w0 w:World}{ρ:dR}{h:aN}{T:Tr}{a:Act}{o:Oper}
theorem pH(T:Tr):∀xs:List bE,wW T xs=xs.map (cP T)
 |[]=>rfl
 |x::xs=>by rw[wW,pH T xs];rfl
theorem BE(R:Rel K w0 ρ h w)(hg:GR aM ρ)(ht:TR ρ T a){ao:j6}{c:hZ}{vs:List AV}(hc:Lq P aM o=some ao)(hv:eD (aj h) (fI P) T ao=some (c,vs)):
 ∃iA:Array Value,fz ρ vs iA.toList/\(execOp a.eval o).run P w=(inv ρ c iA).run P w/\(∀l,c=.yield l->∃p,ρ l=some p):=by
 have fJ:ao.dZ=true:=by cases ao<;>simp only[eD]at hv<;>first|(cases hv;done)|rfl
 have hoc:∃cl,o.op=.call cl:=by
  unfold Lq at hc;split at hc;all_goals first
   |exact⟨_,by assumption⟩
   |(
    exfalso
    cases ao<;>first|(simp[j6.dZ]at fJ;done)|skip
    all_goals (repeat' split at hc)<;>simp[bind_eq_some_iff,map_eq_some_iff]at hc)
 obtain⟨cl,ho⟩:=hoc;have hex:(execOp a.eval o).run P w=((resolve a.eval cl o.type).run P w).andThen λd w=>(invoke d.target d.args).run P w:=by
  simp only[execOp,ho,Sem.run_bind]
 have JA:(cl.args.map a.eval).toList=cl.args.toList.map a.eval:=by simp
 unfold Lq at hc;simp only[ho]at hc;split at hc
 .rename_i f wg;split at hc
  .simp only[map_eq_some_iff]at hc;obtain⟨xs,hx,rfl⟩:=hc;simp only[eD]at hv;cases hv;have hr:=ni hg ht hx;refine⟨cl.args.map a.eval,by rw[pH,JA];exact hr,?_,λl e=>by cases e⟩;rw[hex];simp[resolve,wg,Deferred.ofValue,Act.eval,invoke,inv]
  .exfalso;split at hc
   .split at hc
    .simp only[pure_def,bind_eq_bind,bind_eq_some_iff]at hc;obtain⟨_,_,_,_,_,_,e'⟩:=hc;cases e';cases fJ
    .cases hc
   .cases hc
 .rename_i x _ wg;simp only[pure_def,bind_eq_bind,bind_eq_some_iff]at hc;obtain⟨ax,hx,Hn,Ly,e⟩:=hc;cases e;have hr:=ni hg ht Ly;have rP:=ch hg ht hx;simp only[eD]at hv;split at hv
  .rename_i f fs cs ev;cases hv;rw[ev]at rP;obtain⟨f',c',ex,h1,h2⟩:=rP;refine⟨f'++cl.args.map a.eval++c',?_,?_,λl e=>by cases e⟩
   .rw[pH];simp only[Array.toList_append,JA];exact(h1.append hr).append h2
   .rw[hex];simp[resolve,wg,ex,Deferred.ofValue,invoke,inv]
  .rename_i l ev;cases hv;rw[ev]at rP;obtain⟨p,hp,ex⟩:=rP;refine⟨cl.args.map a.eval,by rw[pH,JA];exact hr,?_,λl e=>by cases e;exact⟨p,hp⟩⟩;rw[hex];simp[resolve,wg,ex,Deferred.ofValue,invoke,inv,hp]
  .cases hv
 .rename_i x name wg;simp only[pure_def,bind_eq_bind,bind_eq_some_iff]at hc;obtain⟨ax,hx,Hn,Ly,e⟩:=hc;cases e;have hr:=ni hg ht Ly;have rP:=ch hg ht hx;simp only[eD]at hv;split at hv
  .rename_i t x2 ev;rw[ev]at rP;obtain⟨y,ex,hy⟩:=rP;have Lz:((#[a.eval x]++cl.args.map a.eval).extract 1 (#[a.eval x]++cl.args.map a.eval).size)=cl.args.map a.eval:=by
    apply Array.ext';rw[Array.toList_extract,extract_eq_take_drop];simp only[Array.toList_append,cons_append,nil_append,drop_succ_cons,drop_zero];exact take_of_length_le (by simp)
   have Dq:∀(f:FuncId) (r:Value),(method (P.types.size+Made.depth) t y name).run P w=.ok (f,r) w->(execOp a.eval o).run P w=(callFunc f (#[r]++cl.args.map a.eval)).run P w:=by
    intro f r hm;rw[hex];have h0:(#[a.eval x]++cl.args.map a.eval)[0]?=some (a.eval x):=by
     rw[Array.getElem?_append_left (by exact Nat.zero_lt_one)];rfl
    rw[ex]at h0;have Ue:=Lz;rw[ex]at Ue;simp only[resolve,wg,Sem.run_pure,Result.andThen_ok,invoke,h0,Ue,callMethod,ex,Sem.run_bind,run_program,hm]
   have Ahl:∃n,P.types.size+Made.depth=n+1:=⟨P.types.size+Made.depth-1,by
    have:0<Made.depth:=aZ;omega⟩
   obtain⟨n,hn⟩:=Ahl;rw[hn]at Dq;have bC:∀(i:TypeInfo) (m:Method) (f:FuncId) (ptr:Bool) (r:Value),P.info? t=some i->i.methods.find? (·.name==name)=some m->m.func=some (f,ptr)->m.path.isEmpty=true->
    (receiverAt t (.val y) ptr (some ((name.splitOn ".").getLastD name))).run P w=.ok r w->(method (n+1) t y name).run P w=.ok (f,r) w:=by
    intro i m f ptr r h1 h2 h3 h4 h5;have ZT:m.path.toList=[]:=by
     have:m.path=#[]:=by simpa using h4
     rw[this]
    simp only[method,Sem.run_bind,run_typeInfo w h1,Result.andThen_ok,h2,ZT,follow,Sem.run_pure,h3,h4,if_true,h5]
   have finish:∀(f:FuncId) (x3:AV) (r:Value),VR ρ x3 r->(method (n+1) t y name).run P w=.ok (f,r) w->some (hZ.fn f,x3::wW T Hn)=some (c,vs)->
    ∃iA:Array Value,fz ρ vs iA.toList/\(execOp a.eval o).run P w=(inv ρ c iA).run P w/\(∀l,c=.yield l->∃p,ρ l=some p):=by
    intro f x3 r h1 h2 e;cases e;refine⟨#[r]++cl.args.map a.eval,?_,Dq f r h2,λl e=>by cases e⟩;rw[pH];simp only[Array.toList_append,JA];exact⟨r,_,rfl,h1,hr⟩
   split at hv
   .rename_i f hm;unfold fI at hm;split at hm<;>first|(cases hm;done)|skip
    rename_i i hi;split at hm<;>first|(cases hm;done)|skip
    rename_i m BA;split at hm<;>first|(cases hm;done)|skip
    rename_i f2 ptr FW;split at hm<;>first|(cases hm;done)|skip
    rename_i dO;simp only[Bool.and_eq_true]at dO;split at hm
    .rename_i e hu;split at hm
     .rename_i hp;cases hm;subst hp;exact finish f x2 y hy (bC i m f true y hi BA FW dO.1 (by simp[receiverAt,run_underlying hu,Place.get])) hv
     .split at hm<;>cases hm
    .cases hm
    .rename_i d YH hni hu;split at hm
     .cases hm
     .rename_i hp;cases hm;have Aa:ptr=false:=by simpa using hp
      subst Aa;refine finish f x2 y hy (bC i m f false y hi BA FW dO.1 ?_) hv;cases d<;>simp_all [receiverAt,run_underlying hu,Place.get]
    .cases hm
   .rename_i f agg nn hm;split at hv
    .rename_i r AA hl;unfold fI at hm;split at hm<;>first|(cases hm;done)|skip
     rename_i i hi;split at hm<;>first|(cases hm;done)|skip
     rename_i m BA;split at hm<;>first|(cases hm;done)|skip
     rename_i f2 ptr FW;split at hm<;>first|(cases hm;done)|skip
     rename_i dO;simp only[Bool.and_eq_true]at dO;split at hm
     .rename_i e hu;split at hm
      .cases hm
      .rename_i hp;split at hm
       .rename_i hue;cases hm;have Aa:ptr=false:=by simpa using hp
        subst Aa;simp only[bG,cP]at hl;split at hl
        .rename_i b j f';split at hl
         .rename_i bS bZ es hb;split at hl
          .rename_i YI HN;obtain⟨p,hp,ey⟩:=hy;obtain⟨l1,l2⟩:=xd (P:=P) R hue hb hp HN;have recv:∀r':Value,(loadVar e (p.lA j f')).run P w=.ok r' w->(receiverAt t (.val y) false (some ((name.splitOn ".").getLastD name))).run P w=.ok r' w:=by
            intro r' xX;subst ey;have hw:∀(x y:Value) (s1 s2:ByteArray),x=.string s1->y=.string s2->(Builtin.ssaWrapNilChk_ #[t] t #[.pointer (some (p.lA j f')),x,y]).run P w=.ok (.pointer (some (p.lA j f'))) w:=by
             intro x y s1 s2 e1 e2;subst e1 e2;rfl
            simp only[receiverAt,Sem.run_bind,run_underlying hu,Result.andThen_ok,Place.get,Sem.run_pure,asAddr];rw[hw (strVal "") (strVal _) _ _ rfl rfl];simp only[Result.andThen_ok,Sem.run_pure,xX]
           split at hl
           .rename_i jQ;cases hl;obtain⟨r',g1,g2⟩:=l1 jQ;exact finish f _ r' g2 (bC i m f false r' hi BA FW dO.1 (recv r' g1)) hv
           .rename_i jQ;split at hl
            .cases hl;obtain⟨r',g1,g2⟩:=l2 (by simpa using jQ) _ rfl;exact finish f _ r' g2 (bC i m f false r' hi BA FW dO.1 (recv r' g1)) hv
            .cases hl
          .cases hl
         .cases hl
        .cases hl
       .cases hm
     .cases hm
     .split at hm<;>cases hm
     .cases hm
    .cases hv
   .cases hv
  .cases hv
 .rename_i bt wg;exfalso;split at hc
  .simp only[pure_def,bind_eq_bind,bind_eq_some_iff]at hc;obtain⟨t,h0,hc⟩:=hc;split at hc
   .split at hc
    .simp only[bind_eq_some_iff]at hc;obtain⟨_,_,_,_,e'⟩:=hc;cases e';cases fJ
    .split at hc
     .simp only[bind_eq_some_iff]at hc;obtain⟨_,_,_,_,_,_,e'⟩:=hc;cases e';cases fJ
     .cases hc
   .cases hc
  .simp only[pure_def,bind_eq_bind,bind_eq_some_iff]at hc;obtain⟨t,h0,hc⟩:=hc;split at hc
   .simp only[bind_eq_some_iff]at hc;obtain⟨_,_,e'⟩:=hc;cases e';cases fJ
   .cases hc
  .simp only[pure_def,bind_eq_bind,bind_eq_some_iff]at hc;obtain⟨t,h0,hc⟩:=hc;split at hc
   .cases hc;cases fJ
   all_goals first|(cases hc;done)|skip
   all_goals (
    simp only[bind_eq_some_iff]at hc
    obtain⟨_,_,e'⟩:=hc
    cases e'
    cases fJ)
  .simp only[pure_def,bind_eq_bind,bind_eq_some_iff]at hc;obtain⟨t,h0,hc⟩:=hc;split at hc
   .split at hc
    .simp only[bind_eq_some_iff]at hc;obtain⟨_,_,_,_,e'⟩:=hc;cases e';cases fJ
    .cases hc
   .cases hc
  .simp only[map_eq_some_iff]at hc;obtain⟨_,_,rfl⟩:=hc;cases fJ
  .simp only[map_eq_some_iff]at hc;obtain⟨_,_,rfl⟩:=hc;cases fJ
  .cases hc
end
def bp.data:bp->Bool
 |.row bS _ _=>bS
 |.map _=>true
 |_=>false
def lS(get:Nat->Option bp)(bU:Nat)(cs:List j9):Prop:=
 ∀c∈cs,(c.id=bU\/∃x,get c.id=some x/\x.data=true)/\∀x,c.mV=some x->x.data=true
theorem lS.nil{get:Nat->Option bp}{bU:Nat}:lS get bU []:=λ_ h=>by cases h
theorem lS.new{get:Nat->Option bp}{bU:Nat}{x:bp}{r:List Nat}(hx:x.data=true):lS get bU [⟨bU,some x,r⟩]:=λc hc=>by
 simp only[mem_singleton]at hc;subst hc;exact⟨.inl rfl,λy hy=>by cases hy;exact hx⟩
theorem lS.mX{get:Nat->Option bp}{bU b:Nat}{x y:bp}{r:List Nat}(hb:get b=some y)(hy:y.data=true)(hx:x.data=true):lS get bU [⟨b,some x,r⟩]:=λc hc=>by
 simp only[mem_singleton]at hc;subst hc;exact⟨.inr ⟨y,hb,hy⟩,λz hz=>by cases hz;exact hx⟩
theorem AD{get:Nat->Option bp}{bU bZ bytes:Nat}{s x v:AV}{cs:List j9}(h:eC get bU bZ bytes s x=some (v,cs)):lS get bU cs:=by
 unfold eC at h;split at h
 .cases h
 .split at h<;>cases h<;>exact .nil
 .split at h
  .split at h<;>cases h;exact .new rfl
  .split at h<;>cases h;exact .new rfl
  .split at h
   .rename_i b i m c _ bS e es hb;split at h
    .cases h
    .have xN:∀v' r,some (v',[(⟨bU,some (.row true bZ r),gh r⟩:j9)])=some (v,cs)->lS get bU cs:=by
      intro v' r e;cases e;exact .new rfl
     have Ahm:∀v' r rs,bS=true->some (v',[(⟨b,some (.row bS e r),rs⟩:j9)])=some (v,cs)->lS get bU cs:=by
      intro v' r rs um e;cases e;exact .mX hb um um
     have kill:∀v' r,bS=true->some (v',[(⟨b,none,[]⟩:j9),⟨bU,some (.row true bZ r),gh r⟩])=some (v,cs)->lS get bU cs:=by
      intro v' r um e;cases e;intro c hc;simp only[mem_cons,not_mem_nil,or_false]at hc;rcases hc with rfl|rfl
      .exact⟨.inr ⟨_,hb,um⟩,λz hz=>by cases hz⟩
      .exact⟨.inl rfl,λz hz=>by cases hz;rfl⟩
     simp only at h;repeat' split at h
     all_goals first
      |exact xN _ _ h
      |(rename_i um;exact Ahm _ _ _ um.1 h)
      |(rename_i um;exact kill _ _ um h)
      |(cases h;done)
   .cases h
  .cases h
theorem CX{get:Nat->Option bp}{bU bZ:Nat}{s x v:AV}{cs:List j9}(h:z8 get bZ s x=some (v,cs)):lS get bU cs:=by
 unfold z8 at h;split at h
 .cases h
 .split at h
  .cases h;exact .nil
  .cases h;exact .nil
  .simp only at h;split at h
   .cases h;exact .nil
   .split at h
    .rename_i hb;split at h
     .cases h;exact .mX hb rfl rfl
     .cases h
    .cases h
  .cases h
theorem iZ{get:Nat->Option bp}{bU:Nat}{T:Tr}{op:j6}{v:AV}{cs:List j9}(h:bG get bU T op=some (v,cs)):lS get bU cs:=by
 cases op<;>simp only[bG]at h;case tN=>exact AD h
 case copy=>exact CX h
 case store=>
  split at h
  .split at h
   .rename_i hb;split at h
    .split at h
     .cases h;exact .mX hb rfl rfl
     .cases h
    .cases h
   .cases h
  .cases h
 case qO=>
  split at h
  .split at h
   .rename_i hb;split at h
    .split at h
     .cases h;exact .mX hb rfl rfl
     .cases h
    .cases h
   .cases h
  .cases h
 all_goals (try simp only[map_eq_some_iff,Prod.mk.injEq]at h)
 all_goals (repeat' split at h)
 all_goals first
  |(cases h;done)
  |(cases h;exact .nil)
  |(cases h;exact .new rfl)
  |(obtain⟨_,_,_,rfl⟩:=h;exact .nil)
  |(simp only[map_eq_some_iff,Prod.mk.injEq]at h;obtain⟨_,_,_,rfl⟩:=h;exact .nil)
def mC(h h':aN):Prop:=h.length<=h'.length/\∀x,aj h x=some .nZ->aj h' x=some .nZ
theorem mC.refl(h:aN):mC h h:=⟨cB,λ_ h=>h⟩
theorem mC.trans{a b c:aN}(h:mC a b)(h':mC b c):mC a c:=⟨bK h.1 h'.1,λx hx=>h'.2 x (h.2 x hx)⟩
theorem mC.put{h:aN}{b:Nat}{x:Option bp}(hb:b<=h.length)(hx:aj h b≠some .nZ):mC h (aQ h b x):=
 ⟨by rw[cw];omega,λy hy=>by
  rw[dw hb];rw[aq (λe=>hx (by rw[<-e];exact hy))];exact hy⟩
theorem BF:∀(cs:List j9) {h:aN},(∀c∈cs,c.id<=h.length/\aj h c.id≠some .nZ/\c.mV≠some .nZ)->mC h (gS h cs)
 |[],h,_=>mC.refl h
 |c::cs,h,hc=>by
  obtain⟨h1,h2,h3⟩:=hc c (by simp);have p:=mC.put (x:=c.mV) h1 h2;refine p.trans (BF cs λd hd=>?_);obtain⟨g1,g2,g3⟩:=hc d (by simp[hd]);refine⟨bK g1 p.1,?_,g3⟩;rw[dw h1];split
  .exact h3
  .exact g2
theorem Dw{h:aN}{bU:Nat}{T:Tr}{op:j6}{v:AV}{cs:List j9}(hn:bU<=h.length)(hd:aj h bU≠some .nZ)(ha:bG (aj h) bU T op=some (v,cs)):mC h (gS h cs):=
 BF cs λc hc=>by
  obtain⟨h1,h2⟩:=iZ ha c hc;have h3:c.mV≠some .nZ:=λe=>by have:=h2 _ e;cases this
  rcases h1 with e|⟨x,h1,hx⟩
  .exact⟨Z,by rw[e];exact hd,h3⟩
  .exact⟨Nat.le_of_lt (ag h1),(by rw[h1];intro e;cases e;cases hx),h3⟩
theorem tb.mono{lo:Nat}{ρ gO:dR}{h h':aN}{ya:List Nat}{ds:List Deferred}(d:tb lo ρ h ya ds)(hl:ρ.le gO)(p:mC h h'):tb lo gO h' ya ds:=
 ⟨⟨bK d.1.1 p.1,d.1.2⟩,d.2.1,d.2.2.1,λi b x hb hx=>let⟨h1,q,h2,h3⟩:=d.2.2.2 i b x hb hx;⟨p.2 _ h1,q,hl _ _ h2,h3⟩⟩
def Ext(ρ gO:dR)(h h':aN):Prop:=ρ.le gO/\(∀x,x<h.length->gO x=ρ x)/\mC h h'
theorem Ext.refl(ρ:dR)(h:aN):Ext ρ ρ h h:=⟨dR.le_refl _,λ_ _=>rfl,mC.refl h⟩
theorem Ext.trans{a b c:dR}{h i j:aN}(x:Ext a b h i)(y:Ext b c i j):Ext a c h j:=
 ⟨dR.le_trans x.1 y.1,λz hz=>(y.2.1 z (gA hz x.2.2.1)).trans (x.2.1 z hz),x.2.2.trans y.2.2⟩
structure St(K:Kp)(w0:World)(nt:Nat)(ρ:dR)(T:Tr)(h:aN)(a:Act)(w:World):Prop where
 rel:Rel K w0 ρ h w
 tr:TR ρ T a
 size:a.tmps.size=nt
theorem St.bW{K:Kp}{w0 w:World}{nt:Nat}{ρ:dR}{T:Tr}{h:aN}{a:Act}(s:St K w0 nt ρ T h a w)(d:Nat):St K w0 nt ρ T h a (World.bW w d):=⟨s.rel.bW d,s.tr,s.size⟩
section
variable{P:Program}{aM:Nat->Option AV}{cW:Bool}{OK:Goroutine->World->Prop}{L:oe->Loop->Prop}{call:eX}{K:Kp}{w0:World}{nt:Nat}
def HO(K:Kp)(w0:World)(nt:Nat)(ρ:dR)(T':Tr)(h h':aN)(a:Act)(b:Frame)(k:List Item)(cs:List Frame)(g:Goroutine)(w:World):Prop:=
 ∃a' gO,g=running (b.atR a' k) cs/\St K w0 nt gO T' h' a' w/\a'.defers=a.defers/\Ext ρ gO h h'
theorem HO.ext{ρ pI:dR}{T':Tr}{h h1 h':aN}{a a1:Act}{b:Frame}{k:List Item}{cs:List Frame}{g:Goroutine}{w:World}(hx:Ext ρ pI h h1)(ha:a1.defers=a.defers)(e:HO K w0 nt pI T' h1 h' a1 b k cs g w):HO K w0 nt ρ T' h h' a b k cs g w:=
 let⟨a',gO,h1,h2,h3,h4⟩:=e
 ⟨a',gO,h1,h2,h3.trans ha,hx.trans h4⟩
theorem oz{ρ:dR}{T:Tr}{a:Act}(ht:TR ρ T a)(dC:Array Oper)(o:Oper){g:Option (cO×Bool)}(JB:sS dC o=some g){r:Bool}(hr:jM T g=some r):
 Region.wanted o (yielded dC a.tmps)=r:=by
 unfold sS at JB;unfold Region.wanted;cases ho:o.guard with
 |none=>
  rw[ho]at JB;cases JB;simp only[jM]at hr;exact Option.some.inj hr
 |some jw=>
  obtain⟨j,Hv⟩:=jw;rw[ho]at JB;simp only[map_eq_some_iff,bind_eq_some_iff]at JB;obtain⟨d,⟨oj,hoj,hd⟩,e⟩:=JB;cases e;show(yielded dC a.tmps j==some Hv)=r;have hv:=ht.get d;have hy:yielded dC a.tmps j=match a.tmps[d]? with|some (.bool b)=>some b|_=>none:=by
   unfold yielded;rw[hoj];simp only[bind_some,hd];rfl
  simp only[jM]at hr;rw[Array.getD_eq_getD_getElem?]at hv;split at hr
  .rename_i bb eb;rw[eb]at hv;cases hr;have:a.tmps[d]?=some (.bool bb):=by
    cases hq:a.tmps[d]? with
    |none=>rw[hq]at hv;simp[VR,undef]at hv
    |some v=>rw[hq]at hv;simp only[getD_some]at hv;rw[show v=.bool bb from hv]
   rw[hy,this];simp only;cases bb<;>cases Hv<;>rfl
  .rename_i eb;rw[eb]at hv;cases hr;have:yielded dC a.tmps j=none:=by
    rw[hy];cases hq:a.tmps[d]? with
    |none=>rfl
    |some v=>rw[hq]at hv;simp only[getD_some]at hv;rw[show v=.tuple #[]from hv]
   rw[this];cases Hv<;>rfl
  .cases hr
theorem td{o:Oper}{ao:j6}(hc:Lq P aM o=some ao):∀c,o.op≠.defer c:=by
 intro c e;simp[Lq,e]at hc
theorem LI{call:eX}{au:bR}{T:Tr}{m m':Mem}{v:AV}{ao:cS}(h:xJ call au T m ao=some (v,m')):ao.op≠.mW:=by
 intro e;unfold xJ at h;rw[e]at h;simp[j6.dZ,bG]at h
theorem BG{P:Program}{aM:Nat->Option AV}{o:Oper}{ao:j6}(h:Ax P aM o=ao)(hb:ao≠.mW):Lq P aM o=some ao:=by
 unfold Ax at h;cases hc:Lq P aM o with
 |none=>rw[hc]at h;exact absurd h.symm hb
 |some x=>rw[hc]at h;exact congrArg some h
theorem HP(kC:∀g w,OK g w)(hL:K.loop=L)(fJ:lX P aM cW OK L call){dC:Array Oper}{i:Nat}{o:Oper}{fX:List Nat}{ao:cS}(FX:dC[i]?=some o) (EC:Ax P aM o=ao.op) (tf:∀d,o.dst=some d->d<nt) (Fo:ao.dst=o.dst.map cO.ofNat)
 {T:Tr} {m m':Mem} {v:AV} (ho:xJ call (fI P) T m ao=some (v,m')) {b:Frame} {k:List Item} {cs:List Frame} {a:Act} {w:World} {ρ:dR} (s:St K w0 nt ρ T m.ah a w) (hg:GR aM ρ)
 (hw:Region.wanted o (yielded dC a.tmps)=true):
 di P cW OK (HO K w0 nt ρ (eU T ao.dst v) m.ah m'.ah a b (.inRegion dC fX::k) cs) (running (b.atR a (.inRegion dC (i::fX)::k)) cs) w:=by
 have EC:=BG EC (LI ho);have FY:=td EC;have CV:∀v,(b.atR a (.inRegion dC (i::fX)::k)).finish v=b.atR (a.put o.dst v) (.inRegion dC fX::k):=by
  intro v;rw[Frame.finish_atR,FX];rfl
 have LJ:∀v,(a.put o.dst v).defers=a.defers:=λv=>by cases o.dst<;>rfl
 have Dx:∀x,o.dst=some x->x<a.tmps.size:=λx hx=>by rw[s.size];exact tf x hx
 unfold xJ at ho;cases wg:ao.op.dZ
 .rw[wg]at ho;simp only[cond]at ho;split at ho
  .rename_i v' AA hp;cases ho;refine di.any kC λd=>?_
   have s:=s.bW d;obtain⟨nx,v',w',gO,h1,h2,h3,h4,h5,h6⟩:=BB s.rel hg s.tr cB (s.rel.xH _ cB) EC hp;refine⟨_,w',Aj FX hw FY h1 h2,.eP ⟨_,gO,rfl,⟨by rw[lC];exact h4,?_,by rw[rU];exact s.size⟩,LJ _,h5,λx hx=>h6 x Z,by rw[lC];exact Dw cB (by rw[mL cB];simp) hp⟩⟩;rw[Fo];exact TR.put (λp=>(s.tr p).mono h5) Dx h3
  .cases ho
 .rw[wg]at ho;simp only[cond]at ho;split at ho
  .rename_i c vs Z1;refine di.any kC λd=>?_
   have s:=s.bW d;obtain⟨iA,g1,g2,g3⟩:=BE s.rel hg s.tr EC Z1;obtain⟨nx,CW,q1,q2,q3⟩:=fJ K w0 _ ρ m m' c vs iA v hL ho s.rel hg g1 g3;have Om:(stepG P cW (running (b.atR a (.inRegion dC (i::fX)::k)) cs) (World.bW w d)).bare=.go (running CW (b.atR a (.inRegion dC (i::fX)::k)::cs)) (World.bW w d):=by
    rw[Ok FX hw FY];have hr:=g2.trans q1;cases nx<;>simp only[xi]at q2
    .subst q2;simp[stepG.apply,hr,running,Frame.atR]
    .subst q2;simp[stepG.apply,hr,running,Frame.atR]
   refine⟨_,_,Om,(q3 _ cs).mono λg w' e=>?_⟩;obtain⟨v',gO,e1,e2,e3,e4⟩:=e;refine⟨_,gO,by rw[e1,CV],⟨e3,?_,by rw[rU];exact s.size⟩,LJ _,e4⟩;rw[Fo];exact TR.put (λp=>(s.tr p).mono e4.1) Dx e2
  .cases ho
theorem zr(kC:∀g w,OK g w)(hL:K.loop=L)(fJ:lX P aM cW OK L call){dC:Array Oper}{b:Frame}{k:List Item}{cs:List Frame}:
 ∀(os:List Oper) (i n0:Nat) (cl:List (List Nat)) (pv:List (Option cO×List cO)) (uo:List cS) (n:Nat) (T T':Tr) (m m':Mem) (a:Act) (w:World) (ρ:dR),nh P aM nt false dC i n0 cl pv os=some (uo,n)->(∀j,os[j]?=dC[i+j]?)->
  xK call (fI P) uo T m=some (T',m')->St K w0 nt ρ T m.ah a w->GR aM ρ->
  di P cW OK (HO K w0 nt ρ T' m.ah m'.ah a b k cs) (running (b.atR a (.inRegion dC (range' i os.length)::k)) cs) w
 |[],i,n0,cl,pv,uo,n,T,T',m,m',a,w,ρ,hc,hi,ho,s,hg=>by
  simp only[nh]at hc;cases hc;simp only[xK]at ho;cases ho;exact di.one kC (λd=>wG) λd=>.eP ⟨a,ρ,rfl,s.bW d,rfl,Ext.refl _ _⟩
 |o::os,i,n0,cl,pv,uo,n,T,T',m,m',a,w,ρ,hc,hi,ho,s,hg=>by
  have FX:dC[i]?=some o:=by have:=hi 0;simpa using this.symm
  have lV:∀j,os[j]?=dC[(i+1)+j]?:=λj=>by have:=hi (j+1);rw[getElem?_cons_succ]at this;rw[this];congr 1;omega
  unfold nh at hc;simp only[bind_eq_bind,bind_eq_some_iff]at hc;obtain⟨g,JB,dst,tf,hc⟩:=hc;simp only[Bool.false_eq_true,if_false,bind_eq_some_iff]at hc;obtain⟨⟨fX,n'⟩,mw,e⟩:=hc;cases e;have VO:∀d,o.dst=some d->d<nt:=by
   intro d hd;unfold Bi at tf;rw[hd]at tf;simp only at tf;split at tf
   .assumption
   .cases tf
  have YJ:dst=o.dst.map cO.ofNat:=by
   unfold Bi at tf;cases hd:o.dst with
   |none=>rw[hd]at tf;cases tf;rfl
   |some d=>
    rw[hd]at tf;simp only at tf;split at tf
    .cases tf;rfl
    .cases tf
  rw[length_cons,range'_succ];simp only[xK]at ho;have Uf:=λr=>oz (r:=r) s.tr dC o (g:=g) JB
  split at ho
  .rename_i LL;split at ho
   .rename_i v m1 Ni;refine(HP kC hL fJ (fX:=range' (i+1) os.length) FX (ao:=⟨dst,Ax P aM o,g,none,[]⟩) rfl VO YJ Ni s hg (Uf _ LL)).bind λg w' e=>?_
    obtain⟨a1,pI,rfl,s1,e2,e3⟩:=e;exact(zr kC hL fJ os (i+1) n0 cl pv fX _ _ _ _ _ a1 w' pI mw lV ho s1 (hg.mono e3.1)).mono λg w e=>e.ext e3 e2
   .cases ho
  .rename_i LL;have hsk:((dC[i]?).map (Region.wanted · (yielded dC a.tmps))).getD false=false:=by rw[FX];exact Uf _ LL
   refine di.one kC (λd=>BD hsk) λd=>?_
   rw[FX];have s1:St K w0 nt ρ (eU T dst .undef) m.ah (a.put o.dst undef) (World.bW w d):=⟨s.rel.bW d,by rw[YJ];exact TR.put s.tr (λx hx=>by rw[s.size];exact VO x hx) FU,by rw[rU];exact s.size⟩;refine(zr kC hL fJ os (i+1) n0 cl pv fX _ _ _ _ _ _ _ ρ mw lV ho s1 hg).mono λg w e=>e.ext (Ext.refl _ _) ?_
   cases o.dst<;>rfl
  .cases ho
end
def qn(call:eX):Prop:=∀c vs m v m',call c vs m=some (v,m')->m'.aV=m.aV
theorem lY(F:FuncId->Option bD)(au:bR){sm:ct}(Ug:qn (Hm sm))(n:Nat):qn (dJ F au sm n):=by
 intro c vs m v m' h;cases n with
 |zero=>simp[dJ]at h
 |succ n=>
  cases c with
  |fn f=>
   simp only[dJ]at h;split at h
   .rename_i hs;cases h;exact Ug (.fn f) vs m v m' hs
   split at h
   .cases h
   .cases hb:Nat.ble vs.length (bD.ntmps _)<;>rw[hb]at h<;>simp only[cond]at h
    .cases h
    .split at h
     .split at h
      .cases h;rfl
      .cases h
     .split at h
      .cases h;rfl
      .cases h
     .cases h
  |yield l=>
   simp only[dJ]at h;repeat' split at h
   all_goals first
    |(cases h;done)
    |(cases h;rfl)
theorem qR:∀(cs:List j9) (m:Mem),(m.dX cs).aV=m.aV
 |[],_=>rfl
 |c::cs,m=>by rw[Mem.dX,qR cs];rfl
theorem Dy(m:Mem)(n:Nat):(m.om n).aV=m.aV:=rfl
theorem vF{call:eX}{au:bR}(hc:qn call):∀(os:List cS) (T T':Tr) (m m':Mem),xK call au os T m=some (T',m')->m'.aV=m.aV
 |[],T,T',m,m',h=>by simp only[xK]at h;cases h;rfl
 |o::os,T,T',m,m',h=>by
  simp only[xK]at h;split at h
  .split at h
   .rename_i v m1 ho;refine(vF hc os _ _ _ _ h).trans ?_;unfold xJ at ho;cases wg:o.op.dZ<;>rw[wg]at ho<;>simp only[cond]at ho
    .split at ho
     .cases ho;exact qR _ _
     .cases ho
    .split at ho
     .exact hc _ _ _ _ _ ho
     .cases ho
   .cases h
  .exact vF hc os _ _ _ _ h
  .cases h
theorem pJ{call:eX}{au:bR}(hc:qn call):∀(bC i:Nat) (os:List cS) (cq:List jN) (T T':Tr) (m m':Mem),mJ call au bC i os cq T m=some (T',m')->m'.aV=m.aV
 |bC,i,[],cq,T,T',m,m',h=>by simp only[mJ]at h;cases h;rfl
 |bC,i,o::os,cq,T,T',m,m',h=>by
  simp only[mJ]at h;split at h
  .cases wg:o.op.dZ<;>rw[wg]at h<;>simp only[cond]at h
   .split at h
    .split at h
     .cases h
     .exact(pJ hc _ _ os _ _ _ _ _ h).trans (qR _ _)
    .cases h
   .split at h
    .split at h
     .split at h
      .cases h
      .have:=pJ hc _ _ os _ _ _ _ _ h;exact this
     .cases h
    .cases h
  .exact pJ hc _ _ os _ _ _ _ _ h
  .cases h
section
variable{P:Program}{aM:Nat->Option AV}{cW:Bool}{OK:Goroutine->World->Prop}{L:oe->Loop->Prop}{call:eX}{K:Kp}{w0:World}{nt:Nat}
def FZ(lo:Nat)(K:Kp)(w0:World)(nt:Nat)(ρ:dR)(e:cT)(T':Tr)(h:aN)(m':Mem)(b:Frame)(k:List Item)(cs:List Frame)(g:Goroutine)(w:World):Prop:=
 ∃a' gO todo,g=running (b.atR a' todo) cs/\Z0 e k todo/\St K w0 nt gO T' m'.ah a' w/\tb lo gO m'.ah m'.aV a'.defers/\Ext ρ gO h m'.ah
theorem FZ.ext{lo:Nat}{ρ pI:dR}{e:cT}{T':Tr}{h h1:aN}{m':Mem}{b:Frame}{k:List Item}{cs:List Frame}{g:Goroutine}{w:World}(hx:Ext ρ pI h h1)(x:FZ lo K w0 nt pI e T' h1 m' b k cs g w):FZ lo K w0 nt ρ e T' h m' b k cs g w:=
 let⟨a',gO,t,h1,h2,h3,h4,h5⟩:=x
 ⟨a',gO,t,h1,h2,h3,h4,hx.trans h5⟩
variable(P aM cW OK call K w0 nt) in
def zs:Prop:=∀(dC:Array Oper) (uo:List cS) (n id:Nat) (T T':Tr) (m m':Mem) (a:Act) (w:World) (ρ:dR) (b:Frame) (k:List Item) (cs:List Frame),
 nh P aM nt true dC 0 0 [] [] dC.toList=some (uo,n)->mJ call (fI P) m.ah.length 0 uo [] T (m.om n)=some (T',m')->St K w0 nt ρ T m.ah a w->GR aM ρ->
 di P cW OK (HO K w0 nt ρ T' m.ah m'.ah a b k cs) (running (b.atR a (.code (.region id dC true)::k)) cs) w
variable(P aM cW OK call K w0 nt) in
def vG (fuel:Nat) (rd:Bool):Prop:=∀(lo:Nat) (f:Operand) (ps:Array Tmp) (nX bd:Code) (ac:eQ) (T T':Tr) (m m':Mem) (e:cT) (a:Act) (w:World) (ρ:dR) (b:Frame) (k:List Item) (cs:List Frame),
 eR P aM nt (.rangeFunc f ps nX bd)=some ac->dY call (fI P) fuel rd ac T m=some (e,T',m')->St K w0 nt ρ T m.ah a w->GR aM ρ->tb lo ρ m.ah m.aV a.defers->b.roundOf.isSome=rd->b.fn<P.funcs.size->
 di P cW OK (FZ lo K w0 nt ρ e T' m.ah m' b k cs) (running (b.atR a (.code (.rangeFunc f ps nX bd)::k)) cs) w
theorem tb.ya{lo:Nat}{ρ:dR}{h:aN}{ya Aaa:List Nat}{ds:List Deferred}(d:tb lo ρ h ya ds)(e:Aaa=ya):tb lo ρ h Aaa ds:=e▸d
theorem tb.drawn{lo:Nat}{ρ:dR}{h:aN}{ya:List Nat}{ds ds':List Deferred}(d:tb lo ρ h ya ds)(e:ds'=ds):tb lo ρ h ya ds':=e▸d
theorem tg(kC:∀g w,OK g w)(QY:qn call)(hL:K.loop=L)(fJ:lX P aM cW OK L call)(uN:zs P aM cW OK call K w0 nt){fuel:Nat}{rd:Bool}(lZ:vG P aM cW OK call K w0 nt fuel rd){lo:Nat}:
 ∀(c:Code) (ac:eQ) (T T':Tr) (m m':Mem) (e:cT) (a:Act) (w:World) (ρ:dR) (b:Frame) (k:List Item) (cs:List Frame),eR P aM nt c=some ac->dY call (fI P) fuel rd ac T m=some (e,T',m')->
  St K w0 nt ρ T m.ah a w->GR aM ρ->tb lo ρ m.ah m.aV a.defers->b.roundOf.isSome=rd->b.fn<P.funcs.size->di P cW OK (FZ lo K w0 nt ρ e T' m.ah m' b k cs) (running (b.atR a (.code c::k)) cs) w:=by
 intro c;induction c with
 |skip=>
  intro ac T T' m m' e a w ρ b k cs hc he s hg hd hb hf;simp only[eR]at hc;cases hc;simp only[dY]at he;cases he;exact di.one kC (λd=>RU) λd=>.eP ⟨a,ρ,k,rfl,rfl,s.bW d,hd,Ext.refl _ _⟩
 |region id dC wT=>
  intro ac T T' m m' e a w ρ b k cs hc he s hg hd hb hf;simp only[eR,bind_eq_bind,bind_eq_some_iff]at hc;obtain⟨⟨uo,n⟩,EC,e'⟩:=hc;cases e';simp only[dY]at he;have kj:∀(T1:Tr) (m1:Mem),e=.normal->T1=T'->m1=m'->m1.aV=m.aV->di P cW OK (HO K w0 nt ρ T1 m.ah m1.ah a b k cs) (running (b.atR a (.code (.region id dC wT)::k)) cs) w->di P cW OK (FZ lo K w0 nt ρ e T' m.ah m' b k cs) (running (b.atR a (.code (.region id dC wT)::k)) cs) w:=by
   intro T1 m1 e1 e2 e3 hdf hl;subst e1 e2 e3;exact hl.mono λg w x=>let⟨a',gO,h1,h2,h3,h4⟩:=x;⟨a',gO,k,h1,rfl,h2,((hd.mono h4.1 h4.2.2).drawn h3).ya hdf,h4⟩
  cases wT
  .simp only[cond]at he;split at he
   .rename_i T1 m1 On;cases he;refine kj _ _ rfl rfl rfl (vF QY _ _ _ _ _ On) (di.one kC (λd=>LH) λd=>?_);have hr:List.range dC.size=range' 0 dC.toList.length:=by rw[range_eq_range'];simp
    rw[hr];exact zr kC hL fJ dC.toList 0 0 [] [] uo n T _ m _ a _ ρ EC (λj=>by simp) On (s.bW d) hg
   .cases he
  .simp only[cond]at he;split at he
   .rename_i T1 m1 On;cases he;exact kj _ _ rfl rfl rfl ((pJ QY _ _ _ _ _ _ _ _ On).trans (Dy _ _)) (uN dC uo n id T _ m _ a w ρ b k cs EC On s hg)
   .cases he
 |seq x y YK ihy=>
  intro ac T T' m m' e a w ρ b k cs hc he s hg hd hb hf;simp only[eR,bind_eq_bind,bind_eq_some_iff]at hc;obtain⟨ax,hx,ay,hy,e'⟩:=hc;cases e';simp only[dY]at he;refine di.one kC (λd=>VN) λd=>?_
  split at he
  .rename_i T1 m1 h1;refine(YK ax T T1 m m1 .normal a _ ρ b (.code y::k) cs hx h1 (s.bW d) hg hd hb hf).bind λg w' q=>?_
   obtain⟨a1,pI,todo,rfl,rfl,s1,d1,x1⟩:=q;exact(ihy ay T1 T' m1 m' e a1 w' pI b k cs hy he s1 (hg.mono x1.1) d1 hb hf).mono λg w q=>q.ext x1
  .rename_i jV;cases e with
   |normal=>exact absurd he (by intro h1;exact jV _ _ h1)
   |exit id=>
    refine(YK ax T T' m m' (.exit id) a _ ρ b (.code y::k) cs hx he (s.bW d) hg hd hb hf).mono λg w' q=>?_
    obtain⟨a1,pI,todo,h1,⟨k',e1,e2⟩,h3⟩:=q;exact⟨a1,pI,todo,h1,⟨k',e1,e2.trans rfl⟩,h3⟩
   |ret=>
    refine(YK ax T T' m m' .ret a _ ρ b (.code y::k) cs hx he (s.bW d) hg hd hb hf).mono λg w' q=>?_
    obtain⟨a1,pI,todo,h1,h2,h3⟩:=q;exact⟨a1,pI,todo,h1,h2,h3⟩
 |cond x c1 c2 ih1 ih2=>
  intro ac T T' m m' e a w ρ b k cs hc he s hg hd hb hf;simp only[eR,bind_eq_bind,bind_eq_some_iff]at hc;obtain⟨ax,hx,a1,h1,a2,h2,e'⟩:=hc;cases e';simp only[dY]at he;have hv:=ch hg s.tr hx;split at he
  .rename_i ev;rw[ev]at hv;exact di.one kC (λd=>Jz (t:=true) hv) λd=>ih1 a1 T T' m m' e a _ ρ b k cs h1 he (s.bW d) hg hd hb hf
  .rename_i ev;rw[ev]at hv;exact di.one kC (λd=>Jz (t:=false) hv) λd=>ih2 a2 T T' m m' e a _ ρ b k cs h2 he (s.bW d) hg hd hb hf
  .cases he
 |block id x ih=>
  intro ac T T' m m' e a w ρ b k cs hc he s hg hd hb hf;simp only[eR,bind_eq_bind,bind_eq_some_iff]at hc;obtain⟨ax,hx,e'⟩:=hc;cases e';simp only[dY]at he;refine di.one kC (λd=>Oh) λd=>?_
  split at he
  .rename_i NC T1 m1 h1;refine(ih ax T T1 m m1 (.exit NC) a _ ρ b (.inBlock id::k) cs hx h1 (s.bW d) hg hd hb hf).bind λg w' q=>?_
   obtain⟨a1,pI,todo,rfl,⟨k',rfl,e2⟩,s1,d1,x1⟩:=q;cases hq:Nat.beq NC id
   .rw[hq]at he;simp only[cond]at he;cases he;have jV:(id==NC)=false:=by
     rw[beq_eq_false_iff_ne];intro e3;subst e3;rw[Nat.beq_refl]at hq;cases hq
    exact .eP ⟨a1,pI,_,rfl,⟨k',rfl,by rw[e2];simp[exitTo,jV]⟩,s1,d1,x1⟩
   .rw[hq]at he;simp only[cond]at he;cases he;have heq:NC=id:=Nat.eq_of_beq_eq_true hq;subst heq;have:exitTo NC k'=some k:=by rw[e2];simp[exitTo]
    exact di.one kC (λd=>RW this) λd=>.eP ⟨a1,pI,k,rfl,rfl,s1.bW d,d1,x1⟩
  .rename_i jV;cases e with
   |normal=>
    refine(ih ax T T' m m' .normal a _ ρ b (.inBlock id::k) cs hx he (s.bW d) hg hd hb hf).bind λg w' q=>?_
    obtain⟨a1,pI,todo,rfl,rfl,s1,d1,x1⟩:=q;exact di.one kC (λd=>HM) λd=>.eP ⟨a1,pI,k,rfl,rfl,s1.bW d,d1,x1⟩
   |exit NC=>exact absurd he (by intro h1;exact jV _ _ _ h1)
   |ret=>
    refine(ih ax T T' m m' .ret a _ ρ b (.inBlock id::k) cs hx he (s.bW d) hg hd hb hf).mono λg w' q=>?_
    obtain⟨a1,pI,todo,h1,h2,h3⟩:=q;exact⟨a1,pI,todo,h1,h2,h3⟩
 |loop x ih=>
  intro ac T T' m m' e a w ρ b k cs hc he s hg hd hb hf;simp only[eR,bind_eq_bind,bind_eq_some_iff]at hc;obtain⟨ax,hx,e'⟩:=hc;cases e';simp only[dY]at he;have go:∀(n:Nat) (T:Tr) (m:Mem) (a:Act) (w:World) (ρ:dR),tO (dY call (fI P) fuel rd ax) n T m=some (e,T',m')->St K w0 nt ρ T m.ah a w->GR aM ρ->tb lo ρ m.ah m.aV a.defers->
   di P cW OK (FZ lo K w0 nt ρ e T' m.ah m' b k cs) (running (b.atR a (.code x::.inLoop x::k)) cs) w:=by
   intro n;induction n with
   |zero=>intro T m a w ρ he;simp[tO]at he
   |succ n ihn=>
    intro T m a w ρ he s hg hd;simp only[tO]at he;split at he
    .rename_i T1 m1 h1;refine(ih ax T T1 m m1 .normal a _ ρ b (.inLoop x::k) cs hx h1 s hg hd hb hf).bind λg w' q=>?_
     obtain⟨a1,pI,todo,rfl,rfl,s1,d1,x1⟩:=q;exact di.one kC (λd=>LG) λd=>(ihn T1 m1 a1 _ pI he (s1.bW d) (hg.mono x1.1) d1).mono λg w q=>q.ext x1
    .rename_i jV;cases e with
     |normal=>exact absurd he (by intro h1;exact jV _ _ h1)
     |exit id=>
      refine(ih ax T T' m m' (.exit id) a _ ρ b (.inLoop x::k) cs hx he s hg hd hb hf).mono λg w' q=>?_
      obtain⟨a1,pI,todo,h1,⟨k',e1,e2⟩,h3⟩:=q;exact⟨a1,pI,todo,h1,⟨k',e1,e2.trans rfl⟩,h3⟩
     |ret=>
      refine(ih ax T T' m m' .ret a _ ρ b (.inLoop x::k) cs hx he s hg hd hb hf).mono λg w' q=>?_
      obtain⟨a1,pI,todo,h1,h2,h3⟩:=q;exact⟨a1,pI,todo,h1,h2,h3⟩
  exact di.one kC (λd=>RV) λd=>go fuel T m a _ ρ he (s.bW d) hg hd
 |rangeFunc f ps x y _ _=>
  intro ac T T' m m' e a w ρ b k cs hc he s hg hd hb hf;exact lZ lo f ps x y ac T T' m m' e a w ρ b k cs hc he s hg hd hb hf
 |exit id=>
  intro ac T T' m m' e a w ρ b k cs hc he s hg hd hb hf;simp only[eR]at hc;cases hc;simp only[dY]at he;cases he;exact .eP ⟨a,ρ,_,rfl,⟨k,rfl,rfl⟩,s,hd,Ext.refl _ _⟩
 |ret=>
  intro ac T T' m m' e a w ρ b k cs hc he s hg hd hb hf;simp only[eR]at hc;cases hc;simp only[dY]at he;cases he;exact .eP ⟨a,ρ,_,rfl,⟨k,rfl⟩,s,hd,Ext.refl _ _⟩
 |scope x ih=>
  intro ac T T' m m' e a w ρ b k cs hc he s hg hd hb hf;simp only[eR]at hc;refine di.one kC (λd=>Og) λd=>?_
  refine(ih ac T T' m m' e a _ ρ b (.inScope x::k) cs hc he (s.bW d) hg hd hb hf).bind λg w' q=>?_
  obtain⟨a1,pI,todo,rfl,JD,s1,d1,x1⟩:=q;cases e with
  |normal=>
   have JD:todo=.inScope x::k:=JD;subst JD;exact di.one kC (λd=>HL) λd=>.eP ⟨a1,pI,k,rfl,rfl,s1.bW d,d1,x1⟩
  |exit id=>
   obtain⟨k',e1,e2⟩:=JD;exact .eP ⟨a1,pI,todo,rfl,⟨k',e1,e2.trans rfl⟩,s1,d1,x1⟩
  |ret=>
   exact .eP ⟨a1,pI,todo,rfl,JD,s1,d1,x1⟩
 |label l=>
  intro ac T T' m m' e a w ρ b k cs hc he s hg hd hb hf;simp only[eR]at hc;cases hc;simp only[dY]at he;cases he;exact di.one kC (λd=>Of) λd=>.eP ⟨a,ρ,k,rfl,rfl,s.bW d,hd,Ext.refl _ _⟩
 |goto l=>
  intro ac T T' m m' e a w ρ b k cs hc he;simp only[eR]at hc;cases hc;simp[dY]at he
 |refuse why=>
  intro ac T T' m m' e a w ρ b k cs hc he;simp only[eR]at hc;cases hc;simp[dY]at he
end
section
variable{P:Program}{aM:Nat->Option AV}{cW:Bool}{OK:Goroutine->World->Prop}{L:oe->Loop->Prop}{call:eX}{K:Kp}{w0 w:World}{nt:Nat}{ρ:dR}{T:Tr}{a:Act}
theorem F0{h:aN}(R:Rel K w0 ρ h w)(ht:TR ρ T a){r:ResultVar}(hk:qP P r=true){v:AV}(hv:xL (aj h) T (Bj P r)=some v):
 ∃v',((match r with
  |.tmp t=>pure (a.tmps.getD t undef)
  |.cell x t=>do loadVar t (<-asAddr (a.tmps.getD x undef)):Sem Value)).run P w=.ok v' w/\VR ρ v v':=by
 cases r with
 |tmp t=>
  simp only[Bj,xL]at hv;cases hv;exact⟨_,rfl,ht.get t⟩
 |cell x t=>
  simp only[Bj,xL]at hv;split at hv
  .rename_i v2 AA hl;cases hv;simp only[bG,cP]at hl;have hx:=ht.get x;split at hl
   .rename_i b j f' e2;rw[e2]at hx;split at hl
    .rename_i bS bZ es hb;split at hl
     .rename_i YI HN;obtain⟨p,hp,ey⟩:=hx;obtain⟨l1,l2⟩:=xd (P:=P) R hk hb hp HN;simp only[ey,asAddr,Sem.run_bind,Sem.run_pure,Result.andThen_ok];split at hl
      .rename_i jQ;cases hl;obtain⟨r',g1,g2⟩:=l1 jQ;exact⟨r',g1,g2⟩
      .rename_i jQ;split at hl
       .cases hl;obtain⟨r',g1,g2⟩:=l2 (by simpa using jQ) _ rfl;exact⟨r',g1,g2⟩
       .cases hl
     .cases hl
    .cases hl
   .cases hl
  .cases hv
theorem qS{h:aN}(R:Rel K w0 ρ h w)(ht:TR ρ T a){fn:Func}(hk:fn.results.all (qP P)=true){v:AV}(hv:zh (aj h) T (fn.results.toList.map (Bj P))=some v):
 ∃v',(results fn a.tmps).run P w=.ok v' w/\VR ρ v v':=by
 have key:∀(rs:List ResultVar) (vs:List AV),(∀r∈rs,qP P r=true)->tQ (aj h) T (rs.map (Bj P))=some vs->
  ∃iA,(rs.mapM λ
   |.tmp t=>pure (a.tmps.getD t undef)
   |.cell x t=>do loadVar t (<-asAddr (a.tmps.getD x undef)):Sem (List Value)).run P w=.ok iA w/\fz ρ vs iA:=by
  intro rs;induction rs with
  |nil=>intro vs _ h;simp only[map_nil,tQ]at h;cases h;exact⟨[],by simp,by simp[fz]⟩
  |cons r rs ih=>
   intro vs hk h;simp only[map_cons,tQ]at h;split at h
   .rename_i x xs h1 h2;cases h;obtain⟨v',g1,g2⟩:=F0 (P:=P) R ht (hk r (by simp)) h1;obtain⟨iA,g3,g4⟩:=ih xs (λr hr=>hk r (by simp[hr])) h2;refine⟨v'::iA,?_,v',iA,rfl,g2,g4⟩;rw[mapM_cons];simp only[Sem.run_bind,g1,Result.andThen_ok,g3,Sem.run_pure]
   .cases h
 unfold zh at hv;have F1:∀r∈fn.results.toList,qP P r=true:=λr hr=>Array.all_eq_true_iff_forall_mem.1 hk r (Array.mem_toList_iff.1 hr)
 have run:∀(vs:List AV),tQ (aj h) T (fn.results.toList.map (Bj P))=some vs->∃iA:List Value,fz ρ vs iA/\(results fn a.tmps).run P w=.ok (if h:iA.toArray.size=1 then iA.toArray[0]else .tuple iA.toArray) w:=by
  intro vs wA;obtain⟨iA,g1,g2⟩:=key _ vs F1 wA;refine⟨iA,g2,?_⟩;unfold results;rw[Array.mapM_eq_mapM_toList];simp only[Sem.run_bind,Sem.run_map,Sem.run_pure];refine(congrArg (λr:Result (List Value)=>(r.andThen λa w'=>Result.ok a.toArray w').andThen λa w'=>Result.ok (if h:a.size=1 then a[0]else Value.tuple a) w') (show _=Result.ok iA w from ?_)).trans rfl;exact g1
 split at hv
 .rename_i x hx;cases hv;obtain⟨iA,g1,g2⟩:=run _ hx;obtain⟨y,ys,rfl,h1,h2⟩:=g1;simp only[fz]at h2;subst h2;exact⟨y,by rw[g2];rfl,h1⟩
 .rename_i vs jV hx;cases hv;obtain⟨iA,g1,g2⟩:=run _ hx;refine⟨.tuple iA.toArray,?_,⟨iA.toArray,rfl,by simpa using g1⟩⟩;rw[g2,dif_neg];have hl:=g1.length;intro e;simp at e;rw[e]at hl;match vs,hl,jV with
  |[x],_,jV=>exact jV x rfl
 .cases hv
end
def BH(h:aN):List Nat->aN
 |[]=>h
 |b::bs=>BH (aQ h b none) bs
theorem th:∀(bs:List Nat) (m:Mem),(m.gC bs).ah=BH m.ah bs
 |[],_=>rfl
 |b::bs,m=>by rw[Mem.gC,th bs];rfl
section
variable{P:Program}{aM:Nat->Option AV}{cW:Bool}{OK:Goroutine->World->Prop}{Q:Goroutine->World->Prop}{K:Kp}{w0:World}{nt:Nat}{ρ:dR}
theorem Rel.take{h:aN}{w:World}(R:Rel K w0 ρ h w){x:Nat}{p:Pl}(hx:aj h x=some .nZ)(hp:ρ x=some p):
 (Instr.takeDeferred p.cb).run P w=.ok [] {w with heap:=w.heap.setIfInBounds p.cb (.deferred none)}/\Rel K w0 ρ (aQ h x none) {w with heap:=w.heap.setIfInBounds p.cb (.deferred none)}:=by
 obtain⟨q,hq,hB⟩:=R.mV x _ hx;have e:q=p:=Option.some.inj (hq.symm.trans hp);subst e;obtain⟨hK,hh⟩:=hB;have jU:=ag hx;have hs:=MapKept.heap_set (o':=.deferred none) hh;refine⟨by simp[Instr.takeDeferred,getObj,setObj,Sem.run,hh],?_⟩;have Rk:=R.kill jU;refine Rk.world ⟨R.below.os,R.below.tape,R.below.output,by simpa using R.below.size,R.below.lt,λk hk=>(hs.2 k (λe=>hK (e▸hk))).trans (R.below.block k hk)⟩ (by simp) λc y p' hy Aa=>?_
 rw[dw (Nat.le_of_lt jU)]at hy;split at hy
 .cases hy
 .rename_i jV;exact hs.2 _ (λe=>R.sep x c _ y q p' hx hy hq Aa rfl (λe2=>jV e2.symm) e.symm)
theorem ti{lo:Nat}(kC:∀g w,OK g w){b:Frame}{tmps:Array Value}{todo:List Item}{cs:List Frame}:∀(ya:List Nat) (ds:List Deferred) (h:aN) (w:World),Rel K w0 ρ h w->tb lo ρ h ya ds->
 (∀w',Rel K w0 ρ (BH h ya) w'->di P cW OK Q (running {b.atR ⟨tmps,[]⟩ todo with mode:=.returning} cs) w')->di P cW OK Q (running {b.atR ⟨tmps,ds⟩ todo with mode:=.returning} cs) w
 |[],ds,h,w,R,D,hq=>by
  have:ds=[]:=eq_nil_of_length_eq_zero D.2.2.1.symm;subst this;exact hq w R
 |x::ya,[],h,w,R,D,hq=>by have:=D.2.2.1;simp at this
 |x::ya,d::ds,h,w,R,D,hq=>by
  obtain⟨h1,p,hp,rfl⟩:=D.2.2.2 0 x d rfl rfl;refine di.any kC λn=>?_
  obtain⟨t1,t2⟩:=(R.bW n).take (P:=P) h1 hp;refine⟨running {b.atR ⟨tmps,ds⟩ todo with mode:=.returning} cs,_,?_,ti (lo:=lo) kC ya ds _ _ t2 ?_ hq⟩
  .simp[running,stepG,unwind,Frame.atR,Sem.runT_eq,t1]
  .have FY:=D.2.1;rw[nodup_cons]at FY;refine⟨⟨by rw[cw];have:=D.1.1;omega,λy hy=>D.1.2 y (by simp[hy])⟩,FY.2,by have:=D.2.2.1;simpa using this,λi y d hy hd=>?_⟩;obtain⟨g1,g2⟩:=D.2.2.2 (i+1) y d (by simpa using hy) (by simpa using hd);refine⟨?_,g2⟩;rw[dw (Nat.le_of_lt (ag h1)),aq (λe=>FY.1 (by rw[<-e];exact mem_of_getElem? hy))];exact g1
theorem BI{lo:Nat}:∀(ya:List Nat) {h:aN},(∀x∈ya,x<h.length)->(∀x∈ya,lo<=x)->h.length<=(BH h ya).length/\∀x,x<lo->aj (BH h ya) x=aj h x
 |[],h,_,_=>⟨cB,λ_ _=>rfl⟩
 |x::ya,h,h1,h2=>by
  have hx:=h1 x (by simp);have hl:=kN (h:=h) (x:=none) (Nat.le_of_lt hx);obtain⟨g1,g2⟩:=BI ya (h:=aQ h x none) (λy hy=>by have:=h1 y (by simp[hy]);omega) (λy hy=>h2 y (by simp[hy]));refine⟨by rw[BH];omega,λy hy=>?_⟩;rw[BH,g2 y hy,dw (Nat.le_of_lt hx),aq (by have:=h2 x (by simp);omega)]
def Uh(P:Program)(aM:Nat->Option AV)(F:FuncId->Option bD):Prop:=∀f af,F f=some af->ph P f=true/\∃fn,P.funcs[f]?=some fn/\Bk P aM fn=some af
theorem Oo{L:oe->Loop->Prop}{F:FuncId->Option bD}{sm:ct}(HQ:qn (Hm sm))(Ug:lX P aM cW OK L (Hm sm))(kC:∀g w,OK g w)(hF:Uh P aM F){n:Nat}(fJ:lX P aM cW OK L (dJ F (fI P) sm n))(uN:∀nt,zs P aM cW OK (dJ F (fI P) sm n) K w0 nt)
 (lZ:∀nt,vG P aM cW OK (dJ F (fI P) sm n) K w0 nt n false) (hL:K.loop=L) {w:World} {m m':Mem} {f:FuncId} {vs:List AV} {iA:Array Value} {v:AV} (hc:dJ F (fI P) sm (n+1) (.fn f) vs m=some (v,m')) (R:Rel K w0 ρ m.ah w) (hg:GR aM ρ) (wA:fz ρ vs iA.toList):
 ∃nx CW,(inv ρ (.fn f) iA).run P w=.ok nx w/\xi P nx CW/\∀fr cs,di P cW OK (RX K w0 ρ m.ah m'.ah v fr cs) (running CW (fr::cs)) w:=by
 simp only[dJ]at hc;split at hc
 .rename_i hs;cases hc;exact Ug K w0 w ρ m m' (.fn f) vs iA v hL hs R hg wA (λl e=>by cases e)
 split at hc
 .cases hc
 .rename_i af haf;obtain⟨pE,fn,rI,HR⟩:=hF f af haf;simp only[Bk,bind_eq_bind,bind_eq_some_iff]at HR;obtain⟨body,BJ,HR⟩:=HR;split at HR
  .cases HR
  .rename_i Az;simp only[pure_def,bind_eq_some_iff]at HR;obtain⟨F2,Oq,e⟩:=HR;cases e;simp only at hc;cases oT:Nat.ble vs.length fn.ntmps<;>rw[oT]at hc<;>simp only[cond]at hc
   .cases hc
   .have Ahn:vs.length<=fn.ntmps:=Nat.le_of_ble_eq_true oT;have hl:=wA.length;simp at hl;have Ot:fn.body.isSome=true:=by rw[BJ];rfl
    refine⟨.enter f iA,Frame.enter P f iA .normal,?_,rfl,λfr cs=>?_⟩
    .have ZY:(fn.name== "runtime.NumGoroutine")=false:=by
      unfold ph at pE;rw[rI]at pE;simpa using(Bool.and_eq_true_iff.1 pE).2
     simp only[inv,callFunc,Sem.run_bind,run_program,Result.andThen_ok,rI,ZY,Bool.false_eq_true,if_false,BJ,isNone_some,Sem.run_pure]
    .have hen:Frame.enter P f iA .normal=(Frame.enter P f iA .normal).atR ⟨iA++Array.replicate (fn.ntmps-iA.size) undef,[]⟩ [.code body]:=by
      simp[Frame.enter,Frame.atR,rI,BJ]
     have wZ:St K w0 fn.ntmps ρ (lz vs .z .e) m.ah ⟨iA++Array.replicate (fn.ntmps-iA.size) undef,[]⟩ w:=⟨R,FV wA,by simp;omega⟩;have hD:tb m.ah.length ρ m.ah [] []:=⟨⟨cB,by simp⟩,nodup_nil,rfl,λi b d hb=>by simp at hb⟩;have kj:∀(e:cT) (T':Tr) (m1:Mem),dY (dJ F (fI P) sm n) (fI P) n false F2 (lz vs .z .e) {m with aV:=[]}=some (e,T',m1)->(e=.normal\/e=.ret)->∀v1,zh (aj (m1.gC m1.aV).ah) T' (fn.results.toList.map (Bj P))=some v1->
      di P cW OK (RX K w0 ρ m.ah (m1.gC m1.aV).ah v1 fr cs) (running (Frame.enter P f iA .normal) (fr::cs)) w:=by
      intro e T' m1 he xa v1 Fp;rw[hen];refine(tg kC (lY F (fI P) HQ n) hL fJ (uN _) (lZ _) body F2 _ T' {m with aV:=[]} m1 e _ w ρ _ [] (fr::cs) Oq he wZ hg hD rfl (Array.getElem?_eq_some_iff.1 rI).1).bind λg w1 q=>?_
      obtain⟨a1,pI,todo,rfl,RY,s1,d1,x1⟩:=q;have step:∀d,(stepG P cW (running ((Frame.enter P f iA .normal).atR a1 todo) (fr::cs)) (World.bW w1 d)).bare=.go (running {(Frame.enter P f iA .normal).atR a1 todo with mode:=.returning} (fr::cs)) (World.bW w1 d):=by
       intro d;rcases xa with rfl|rfl
       .have:todo=[]:=RY;subst this;exact Oj rfl
       .obtain⟨k',rfl⟩:=RY;exact Oi rfl
      refine di.one kC step λd=>?_
      refine ti kC m1.aV a1.defers m1.ah _ (s1.rel.bW d) d1 λw2 R2=>?_
      rw[th]at Fp|-;obtain⟨v',g1,g2⟩:=qS (P:=P) (a:=⟨a1.tmps,[]⟩) R2 s1.tr (fn:=fn) (by simpa using Az) Fp;have hr:∀d,∃v',(results fn a1.tmps).run P (World.bW w2 d)=.ok v' (World.bW w2 d)/\VR pI v1 v':=λd=>qS (P:=P) (a:=⟨a1.tmps,[]⟩) (R2.bW d) s1.tr (fn:=fn) (by simpa using Az) Fp
      refine di.any kC λd=>?_
      obtain⟨v',g1,g2⟩:=hr d;have HS:∀x∈m1.aV,x<m1.ah.length:=λx hx=>by
       obtain⟨i,hi⟩:=getElem?_of_mem hx;have jU:i<a1.defers.length:=by rw[<-d1.2.2.1];exact(List.getElem?_eq_some_iff.1 hi).1
       exact ag (d1.2.2.2 i x _ hi (getElem?_eq_getElem jU)).1
      obtain⟨k1,k2⟩:=BI (lo:=m.ah.length) m1.aV HS d1.1.2;refine⟨running (fr.finish v') cs,World.bW w2 d,?_,.eP ⟨v',pI,rfl,g2,R2.bW d,x1.1,x1.2.1,bK x1.2.2.1 k1,λx hx=>?_⟩⟩
      .have hfe:(Frame.enter P f iA .normal).fn=f:=rfl;have hke:(Frame.enter P f iA .normal).kind=.normal:=rfl;simp[running,stepG,unwind,doReturn,Frame.atR,hfe,hke,rI,Sem.runT_eq,g1]
      .rw[k2 x (ag hx)];exact x1.2.2.2 x hx
     split at hc
     .rename_i T' m1 he;split at hc
      .rename_i v1 Fp;cases hc;exact kj .normal T' m1 he (.inl rfl) _ Fp
      .cases hc
     .rename_i T' m1 he;split at hc
      .rename_i v1 Fp;cases hc;exact kj .ret T' m1 he (.inr rfl) _ Fp
      .cases hc
     .cases hc
end
def tj:cT->Option Code
 |.normal=>none
 |.exit id=>some (.exit id)
 |.ret=>some .ret
def HT:El->LoopState->Prop
 |.ready,.ready=>True
 |.busy,.busy=>True
 |.done,.done=>True
 |_,_=>False
structure tU(P:Program)(aM:Nat->Option AV)(l:oe)(r:Loop):Prop where
 params:r.params.toList.map cO.ofNat=l.params
 lt:∀t∈r.params.toList,t<r.tmps.size
 assign:eR P aM r.tmps.size r.assign=some l.assign
 body:eR P aM r.tmps.size r.body=some l.body
 fn:r.fn<P.funcs.size
 state:HT l.state r.state
 pending:r.pending=l.pending.bind tj
section
variable{P:Program}{cW:Bool}{b:Frame}{a:Act}{k:List Item}{cs:List Frame}{w:World}{c:Frame}
theorem CY{l:Nat}{w':World}(hb:b.roundOf=some l)(hr:(Instr.beginRound l).run P w=.ok () w'):(stepG P cW (running (b.atR a (.beginRound::k)) cs) w).bare=.go (running (b.atR a k) cs) w':=by
 simp[running,stepG,stepG.exec,stepG.apply,Frame.atR,hb,Sem.runT_eq,hr,Result.andThen,Frame.finish]
theorem ED{l:Nat}{v:Value}{w':World}(hb:b.roundOf=some l)(hk:b.kind=.normal)(hr:(Instr.endRound l none).run P w=.ok v w'):(stepG P cW (running (b.atR a []) (c::cs)) w).bare=.go (running (c.finish v) cs) w':=by
 simp[running,stepG,stepG.exec,Frame.atR,hb,hk,Sem.runT_eq,hr,doReturn]
theorem EE{l:Nat}{v:Value}{w':World}(hb:b.roundOf=some l)(hk:b.kind=.normal)(hr:(Instr.endRound l (some .ret)).run P w=.ok v w'):(stepG P cW (running (b.atR a (.code .ret::k)) (c::cs)) w).bare=.go (running (c.finish v) cs) w':=by
 simp[running,stepG,stepG.exec,Frame.atR,hb,hk,Sem.runT_eq,hr,doReturn]
theorem CZ{l id:Nat}{v:Value}{w':World}(hb:b.roundOf=some l)(hk:b.kind=.normal)(hx:exitTo id k=none)(hr:(Instr.endRound l (some (.exit id))).run P w=.ok v w'):(stepG P cW (running (b.atR a (.code (.exit id)::k)) (c::cs)) w).bare=.go (running (c.finish v) cs) w':=by
 simp[running,stepG,stepG.exec,Frame.atR,hb,hk,hx,Sem.runT_eq,hr,doReturn]
theorem AE{l:Nat}{j:Option Code}{w':World}(hr:(Instr.endLoop l).run P w=.ok j w'):(stepG P cW (running (b.atR a (.endRangeFunc l::k)) cs) w).bare=.go (running (b.atR a ((j.map Item.code).toList++k)) cs) w':=by
 simp[running,stepG,stepG.exec,Frame.atR,Sem.runT_eq,hr]
end
section
variable{ρ:dR}
theorem tV:∀(ps:List Tmp) (args:List AV) (vs:List Value) (T:Tr) (tmps:Array Value),Hw ρ T tmps->(∀t∈ps,t<tmps.size)->fz ρ args vs->args.length=ps.length->
 Hw ρ (iu T (ps.map cO.ofNat) args) ((ps.zip vs).foldl (λtmps (x:Tmp×Value)=>tmps.setIfInBounds x.1 x.2) tmps)/\((ps.zip vs).foldl (λtmps (x:Tmp×Value)=>tmps.setIfInBounds x.1 x.2) tmps).size=tmps.size
 |[],args,vs,T,tmps,h,_,hv,hl=>by
  have:args=[]:=eq_nil_of_length_eq_zero hl;subst this;exact⟨h,rfl⟩
 |p::ps,[],vs,T,tmps,h,_,hv,hl=>by simp at hl
 |p::ps,x::args,vs,T,tmps,h,jU,hv,hl=>by
  obtain⟨v,iA,rfl,h1,h2⟩:=hv;have:=tV ps args iA (gq x (.ofNat p) T) (tmps.setIfInBounds p v) (h.put (jU p (by simp)) h1) (λt ht=>by have:=jU t (by simp[ht]);simpa using this) h2 (by simpa using hl);simpa[iu]using this
end
section
variable{P:Program}{aM:Nat->Option AV}{cW:Bool}{OK:Goroutine->World->Prop}{K:Kp}{w0 w:World}{ρ:dR}{h:aN}
theorem Rel.yb(R:Rel K w0 ρ h w){x:Nat}{p:Pl}{l:oe}(hx:aj h x=some (.loop l))(hp:ρ x=some p):
 ∃r,w.heap[p.cb]?=some (.loop r)/\K.loop l r/\Hw ρ l.tmps r.tmps/\(∀l' r',K.loop l' r'->Hw ρ l'.tmps r'.tmps->Rel K w0 ρ (aQ h x (some (.loop l'))) (w.putObj p.cb (.loop r')))/\
  ∀o,Rel K w0 ρ (aQ h x none) (w.putObj p.cb o):=by
 obtain⟨q,hq,hB⟩:=R.mV x _ hx;have e:q=p:=Option.some.inj (hq.symm.trans hp);subst e;obtain⟨hK,r,hh,hl,ht⟩:=hB;have jU:=ag hx;refine⟨r,hh,hl,ht,λl' r' h1 h2=>?_,λo=>?_⟩
 .have hs:=MapKept.heap_set (o':=.loop r') hh;exact R.set hx hp rfl (by simp[World.putObj]) rfl rfl rfl (λk hk=>hs.2 k hk) ⟨hK,r',hs.1,h1,h2⟩
 .have hs:=MapKept.heap_set (o':=o) hh;have Rk:=R.kill jU;refine Rk.world ⟨R.below.os,R.below.tape,R.below.output,by simpa[World.putObj]using R.below.size,R.below.lt,λk hk=>(hs.2 k (λe=>hK (e▸hk))).trans (R.below.block k hk)⟩ (by simp[World.putObj]) λc y p' hy Aa=>?_
  rw[dw (Nat.le_of_lt jU)]at hy;split at hy
  .cases hy
  .rename_i jV;exact hs.2 _ (λe=>R.sep x c _ y q p' hx hy hq Aa rfl (λe2=>jV e2.symm) e.symm)
theorem F3{F:FuncId->Option bD}{sm:ct}(HQ:qn (Hm sm))(kC:∀g w,OK g w){n:Nat}(fJ:lX P aM cW OK (tU P aM) (dJ F (fI P) sm n))(uN:∀nt,zs P aM cW OK (dJ F (fI P) sm n) K w0 nt)
 (lZ:∀nt,vG P aM cW OK (dJ F (fI P) sm n) K w0 nt n true) (hL:K.loop=tU P aM) {m m':Mem} {l:Nat} {vs:List AV} {iA:Array Value} {v:AV} (hc:dJ F (fI P) sm (n+1) (.yield l) vs m=some (v,m')) (R:Rel K w0 ρ m.ah w) (hg:GR aM ρ) (wA:fz ρ vs iA.toList)
 {p:Pl} (hp:ρ l=some p):
 ∃nx CW,(inv ρ (.yield l) iA).run P w=.ok nx w/\xi P nx CW/\∀fr cs,di P cW OK (RX K w0 ρ m.ah m'.ah v fr cs) (running CW (fr::cs)) w:=by
 simp only[dJ]at hc;split at hc
 .rename_i r hb;split at hc
  .rename_i wZ;split at hc
   .cases hc
   .rename_i eV;have eV:vs.length=r.params.length:=Classical.byContradiction λe=>eV e
    split at hc
    .rename_i T1 m1 JD;split at hc
     .rename_i r1 AF;split at hc
      .rename_i Aho;split at hc
       .rename_i e T2 m2 RZ;split at hc
        .rename_i r2 rF;obtain⟨rc,hh,QZ,ht,_⟩:=R.yb hb hp;rw[hL]at QZ;have hlv:=wA.length;simp at hlv;have T7:rc.params.size=r.params.length:=by rw[<-QZ.params];simp
         have rG:iA.size=rc.params.size:=Z;obtain⟨t1,t2⟩:=tV rc.params.toList vs iA.toList r.tmps rc.tmps ht QZ.lt wA (by rw[eV,<-QZ.params];simp);rw[QZ.params]at t1;have Ju:(rc.params.zip iA).foldl (λtmps (x:Tmp×Value)=>tmps.setIfInBounds x.1 x.2) rc.tmps=(rc.params.toList.zip iA.toList).foldl (λtmps (x:Tmp×Value)=>tmps.setIfInBounds x.1 x.2) rc.tmps:=by
          rw[<-Array.foldl_toList,Array.toList_zip]
         generalize htm:(rc.params.toList.zip iA.toList).foldl (λtmps (x:Tmp×Value)=>tmps.setIfInBounds x.1 x.2) rc.tmps=tm at t1 t2 Ju;refine⟨.round p.cb rc.fn tm rc.assign rc.body,Frame.round p.cb rc.fn tm rc.assign rc.body .normal,?_,rfl,λfr cs=>?_⟩
         .have hi:inv ρ (.yield l) iA=Instr.yield p.cb iA:=by simp[inv,hp]
          rw[hi,run_yield hh rG,<-Ju]
         .have hfr:Frame.round p.cb rc.fn tm rc.assign rc.body .normal=(Frame.round p.cb rc.fn tm rc.assign rc.body .normal).atR ⟨tm,[]⟩ (.code rc.assign::[.beginRound,.code rc.body]):=rfl;have s0:St K w0 rc.tmps.size ρ (iu r.tmps r.params vs) m.ah ⟨tm,[]⟩ w:=⟨R,t1,t2⟩;have hD:tb m.ah.length ρ m.ah [] []:=⟨⟨cB,by simp⟩,nodup_nil,rfl,λi b d hb=>by simp at hb⟩;rw[hfr];have rI:(Frame.round p.cb rc.fn tm rc.assign rc.body .normal).fn<P.funcs.size:=QZ.fn;have Lw:(Frame.round p.cb rc.fn tm rc.assign rc.body .normal).roundOf=some p.cb:=rfl;have hki:(Frame.round p.cb rc.fn tm rc.assign rc.body .normal).kind=.normal:=rfl;generalize hbf:Frame.round p.cb rc.fn tm rc.assign rc.body .normal=bf at rI Lw hki;have hrd:bf.roundOf.isSome=true:=by rw[Lw];rfl
          refine(tg kC (lY F (fI P) HQ n) hL fJ (uN _) (lZ _) rc.assign r.assign _ T1 {m with aV:=[]} m1 .normal _ w ρ bf [.beginRound,.code rc.body] (fr::cs) QZ.assign JD s0 hg hD hrd rI).bind λg w1 q=>?_
          obtain⟨a1,pI,todo,rfl,RY,s1,d1,x1⟩:=q;have RY:todo=[.beginRound,.code rc.body]:=RY;subst RY;have Ou:pI l=some p:=x1.1 _ _ hp;refine di.any kC λd=>?_
          have s1:=s1.bW d;obtain⟨rc1,RN,F4,VP,Ui,_⟩:=s1.rel.yb AF Ou;rw[hL]at F4 Ui;have Ahp:rc1.state=.ready:=by
           have:=F4.state;rw[Aho]at this;cases hq:rc1.state<;>rw[hq]at this<;>first|rfl|exact this.elim
          have R1:=Ui {r1 with state:=.busy} {rc1 with state:=.busy} ⟨F4.params,F4.lt,F4.assign,F4.body,F4.fn,trivial,F4.pending⟩ VP;have Ov:mC m1.ah (aQ m1.ah l (some (.loop {r1 with state:=.busy}))):=mC.put (Nat.le_of_lt (ag AF)) (by rw[AF];simp);have x1':Ext pI pI m1.ah (aQ m1.ah l (some (.loop {r1 with state:=.busy}))):=⟨dR.le_refl _,λ_ _=>rfl,Ov⟩;refine⟨_,_,CY Lw (run_beginRound RN Ahp),?_⟩;refine(tg kC (lY F (fI P) HQ n) hL fJ (uN _) (lZ _) rc.body r.body T1 T2 (m1.apply ⟨l,some (.loop {r1 with state:=.busy}),[]⟩) m2 e a1 _ pI bf [] (fr::cs) QZ.body RZ ⟨R1,s1.tr,s1.size⟩ (hg.mono x1.1) (d1.mono (dR.le_refl _) Ov) hrd rI).bind λg w2 q=>?_
          obtain⟨a2,Hr,Aab,rfl,VQ,s2,d2,x2⟩:=q;have JE:Hr l=some p:=x2.1 _ _ Ou;refine di.any kC λd=>?_
          have s2:=s2.bW d;obtain⟨rc2,hh2,LM,ht2,Uj,_⟩:=s2.rel.yb rF JE;rw[hL]at LM Uj;have VS:∀l',mC m2.ah (aQ m2.ah l (some (.loop l'))):=λl'=>mC.put (Nat.le_of_lt (ag rF)) (by rw[rF];simp)
          have xx:∀l',Ext ρ Hr m.ah (aQ m2.ah l (some (.loop l'))):=λl'=>(x1.trans (x1'.trans x2)).trans ⟨dR.le_refl _,λ_ _=>rfl,VS l'⟩
          have xa:∀st,HT st (if(tj e).isNone then LoopState.ready else .done)->∀pe,tj e=pe.bind tj->Rel K w0 Hr (aQ m2.ah l (some (.loop {r2 with state:=st,pending:=pe}))) ((World.bW w2 d).putObj p.cb (.loop {rc2 with state:=if(tj e).isNone then .ready else .done,pending:=tj e})):=
           λst wZ pe ZT=>Uj {r2 with state:=st,pending:=pe} {rc2 with state:=if(tj e).isNone then .ready else .done,pending:=tj e} ⟨LM.params,LM.lt,LM.assign,LM.body,LM.fn,wZ,ZT⟩ ht2
          have v9:=run_endRound (P:=P) (tj e) hh2;cases e with
          |normal=>
           simp only at hc;cases hc;have:Aab=[]:=VQ;subst this;exact⟨_,_,ED Lw hki v9,.eP ⟨_,Hr,rfl,rfl,xa .ready trivial none rfl,xx _⟩⟩
          |exit id=>
           simp only at hc;cases hc;obtain⟨k',rfl,hx⟩:=VQ;exact⟨_,_,CZ Lw hki hx v9,.eP ⟨_,Hr,rfl,rfl,xa .done trivial (some (.exit id)) rfl,xx _⟩⟩
          |ret=>
           simp only at hc;cases hc;obtain⟨k',rfl⟩:=VQ;exact⟨_,_,EE Lw hki v9,.eP ⟨_,Hr,rfl,rfl,xa .done trivial (some .ret) rfl,xx _⟩⟩
        .cases hc
       .cases hc
      .cases hc
     .cases hc
    .cases hc
  .cases hc
 .cases hc
end
open Go.RowKit (Below)
section
variable{P:Program}{aM:Nat->Option AV}{cW:Bool}{OK:Goroutine->World->Prop}{call:eX}{K:Kp}{w0 w:World}{ρ:dR}{h:aN}{nt:Nat}
theorem Rel.new(R:Rel K w0 ρ h w){x:bp}{o:Obj}(hB:sT K (ρ.put h.length ⟨w.heap.size,0,0,0⟩) (w.alloc o) ⟨w.heap.size,0,0,0⟩ x):Rel K w0 (ρ.put h.length ⟨w.heap.size,0,0,0⟩) (aQ h h.length (some x)) (w.alloc o):=
 (R.xN (gF w o)).put cB (R.xH _ cB) hB λc y q hy hq=>by
  obtain⟨q',Jo,hB⟩:=R.mV c y hy;have e:q'=q:=Option.some.inj (Jo.symm.trans hq);subst e;have:=hB.lt;exactλe=>by simp at e;omega
theorem Ext.put{p:Pl}{x:bp}(hn:ρ h.length=none):Ext ρ (ρ.put h.length p) h (aQ h h.length (some x)):=
 ⟨dR.wX _ hn,λy hy=>dR.uC _ _ Z,mC.put cB (by rw[mL cB];simp)⟩
theorem F5{l:El}{s:LoopState}(h:HT l s)(hb:l≠.busy):s≠.busy:=by
 intro e;subst e;cases l<;>first|exact h.elim|exact hb rfl
theorem C0(fn:FuncId)(tmps:Array Value)(ps:Array Tmp)(nX bd:Code):(Instr.enterLoop fn tmps ps nX bd none).run P w=
 .ok (w.heap.size+1,[{target:=.collected w.heap.size,args:=#[]}]) ((w.alloc (.deferred (some []))).alloc (.loop {state:=.ready,pending:=none,fn,tmps,params:=ps,assign:=nX,body:=bd,defers:=w.heap.size})):=by
 simp[Instr.enterLoop]
theorem EF{b:Frame}{a:Act}{k:List Item}{cs:List Frame}{f:Operand}{ps:Array Tmp}{nX bd:Code}{g:FuncId}{fa fc:Array Value}{l:Nat}{mark:List Deferred}{w':World}{nx:Next}{CW:Frame}
 (hr:(Instr.enterLoop b.fn a.tmps ps nX bd b.roundOf).run P w=.ok (l,mark) w') (he:a.eval f=.func (.func g) fa fc) (hx:(callFunc g (fa++#[.func (.yield l) #[] #[]]++fc)).run P w'=.ok nx w') (hp:xi P nx CW):
 (stepG P cW (running (b.atR a (.code (.rangeFunc f ps nX bd)::k)) cs) w).bare=.go (running CW (b.atR ⟨a.tmps,mark++a.defers⟩ (.inRangeFunc l::k)::cs)) w':=by
 have h1:=congrFun (Frame.eval_atR b ⟨a.tmps,mark++a.defers⟩ (.inRangeFunc l::k)) f;have h2:=congrFun (Frame.eval_atR b ⟨a.tmps,mark++a.defers⟩ (.inRangeFunc l::k)) (.const (.func (.yield l) #[] #[]));have RZ:Act.eval ⟨a.tmps,mark++a.defers⟩ f=.func (.func g) fa fc:=by rw[<-he];cases f<;>rfl
 have he3:Act.eval ⟨a.tmps,mark++a.defers⟩ (.const (.func (.yield l) #[] #[]))=.func (.yield l) #[] #[]:=rfl;rw[RZ]at h1;rw[he3]at h2;simp only[Frame.atR]at h1 h2;have ea:fa++#[Value.func (.yield l) #[] #[]]=fa.push (.func (.yield l) #[] #[]):=by simp
 rw[ea]at hx;cases nx<;>simp only[xi]at hp
 .subst hp;simp[running,stepG,stepG.exec,stepG.apply,Frame.atR,Sem.runT_eq,hr,resolve,h1,h2,Deferred.ofValue,invoke,hx]
 .subst hp;simp[running,stepG,stepG.exec,stepG.apply,Frame.atR,Sem.runT_eq,hr,resolve,h1,h2,Deferred.ofValue,invoke,hx]
theorem HU(kC:∀g w,OK g w)(fJ:lX P aM cW OK (tU P aM) call)(QY:qn call)(hL:K.loop=tU P aM)
 {lo:Nat} {f:Operand} {ps:Array Tmp} {nX bd:Code} {aa ab:eQ} {T:Tr} {m m0 m2 m':Mem} {a:Act} {b:Frame} {k:List Item} {cs:List Frame} {g:FuncId} {fa fc:List AV} {fa' fc':Array Value} {u:AV} {r:oe}
 (Ak:ps.toList.all (·<nt)=true) (haa:eR P aM nt nX=some aa) (hab:eR P aM nt bd=some ab)
 (Fq:call (.fn g) (fa++[.yield (m.ah.length+1)]++fc) m0=some (u,m2))
 (VA:m0.ah=aQ (aQ m.ah m.ah.length (some .nZ)) (m.ah.length+1) (some (.loop {state:=.ready,pending:=none,tmps:=T,params:=ps.toList.map cO.ofNat,assign:=aa,body:=ab}))) (hd0:m0.aV=m.ah.length::m.aV)
 (EG:aj m2.ah (m.ah.length+1)=some (.loop r)) (XN:r.state≠.busy) (LN:m'.ah=aQ m2.ah (m.ah.length+1) none) (HK:m'.aV=m2.aV)
 (s:St K w0 nt ρ T m.ah a w) (hg:GR aM ρ) (hd:tb lo ρ m.ah m.aV a.defers) (Lw:b.roundOf=none) (hf:b.fn<P.funcs.size)
 (ex:a.eval f=.func (.func g) fa' fc') (XO:fz ρ fa fa'.toList) (h2':fz ρ fc fc'.toList):
 ∃gg ww,(stepG P cW (running (b.atR a (.code (.rangeFunc f ps nX bd)::k)) cs) w).bare=.go gg ww/\di P cW OK (FZ lo K w0 nt ρ (r.pending.getD .normal) T m.ah m' b k cs) gg ww:=by
 have R:=s.rel;have eV:(aQ m.ah m.ah.length (some .nZ)).length=m.ah.length+1:=by rw[cw];omega
 have R1:=R.new (x:=.nZ) (o:=.deferred (some [])) ⟨R.fresh,fe w _⟩;have x1:Ext ρ _ m.ah _:=Ext.put (p:=⟨w.heap.size,0,0,0⟩) (x:=.nZ) (R.xH _ cB);generalize Aac:dR.put ρ m.ah.length ⟨w.heap.size,0,0,0⟩=pI at R1 x1;have Ou:pI m.ah.length=some ⟨w.heap.size,0,0,0⟩:=by rw[<-Aac];exact dR.iB _ _ _
 rw[<-eV]at Fq VA EG LN;generalize AF:aQ m.ah m.ah.length (some .nZ)=h1 at R1 x1 eV EG Fq VA LN;have VT:aj h1 m.ah.length=some .nZ:=by rw[<-AF,dw cB,aG rfl]
 have Jt:(w.alloc (.deferred (some []))).heap.size=w.heap.size+1:=by simp
 have run:=C0 (P:=P) (w:=w) b.fn a.tmps ps nX bd;generalize w.alloc (.deferred (some []))=w1 at R1 Jt run;rw[<-Jt]at run;generalize w.heap.size=n0 at run Ou Aac;have hlr:tU P aM {state:=.ready,pending:=none,tmps:=T,params:=ps.toList.map cO.ofNat,assign:=aa,body:=ab} {state:=.ready,pending:=none,fn:=b.fn,tmps:=a.tmps,params:=ps,assign:=nX,body:=bd,defers:=n0}:=by
  refine⟨rfl,λt ht=>?_,by rw[s.size];exact haa,by rw[s.size];exact hab,hf,trivial,rfl⟩;rw[s.size];have:=List.all_eq_true.1 Ak t ht;simpa using this
 have htr:Hw ρ T a.tmps:=s.tr;generalize hal:({state:=.ready,pending:=none,tmps:=T,params:=ps.toList.map cO.ofNat,assign:=aa,body:=ab}:oe)=al at VA hlr;have halt:al.tmps=T:=by rw[<-hal]
 generalize Ew:({state:=.ready,pending:=none,fn:=b.fn,tmps:=a.tmps,params:=ps,assign:=nX,body:=bd,defers:=n0}:Loop)=lr at run hlr;have Ahq:lr.tmps=a.tmps:=by rw[<-Ew]
 have QZ:K.loop al lr:=by rw[hL];exact hlr
 have R2:=R1.new (x:=.loop al) (o:=.loop lr)
  ⟨R1.fresh,_,fe w1 _,QZ,λp=>by rw[halt,Ahq];exact(htr p).mono (dR.le_trans x1.1 (dR.wX _ (R1.xH _ cB)))⟩
 have x2:Ext pI _ h1 _:=Ext.put (p:=⟨w1.heap.size,0,0,0⟩) (x:=.loop al) (R1.xH _ cB);generalize Ahr:dR.put pI h1.length ⟨w1.heap.size,0,0,0⟩=Hr at R2 x2;have JE:Hr h1.length=some ⟨w1.heap.size,0,0,0⟩:=by rw[<-Ahr];exact dR.iB _ _ _
 rw[<-VA]at R2 x2;have x12:=x1.trans x2;generalize w1.heap.size=n1 at*;have wA:fz Hr (fa++[.yield h1.length]++fc) (fa'++#[Value.func (.yield n1) #[] #[]]++fc').toList:=by
  have hy:fz Hr [.yield h1.length] [Value.func (.yield n1) #[] #[]]:=⟨_,[],rfl,⟨_,JE,rfl⟩,rfl⟩;simp only[Array.toList_append];exact((fz.mono x12.1 XO).append hy).append (fz.mono x12.1 h2')
 obtain⟨nx,CW,g1,g2,g3⟩:=fJ K w0 _ Hr m0 m2 (.fn g) _ _ u hL Fq R2 (hg.mono x12.1) wA (λl e=>by cases e);refine⟨_,_,EF (l:=n1) (by rw[Lw];exact run) ex g1 g2,(g3 _ cs).bind λgg w3 q=>?_⟩;obtain⟨v',ρ3,rfl,_,R3,x3⟩:=q;have hd3:=QY _ _ _ _ _ Fq;have x3':Ext Hr ρ3 m0.ah m2.ah:=x3;have hp3:ρ3 h1.length=some ⟨n1,0,0,0⟩:=x3.1 _ _ JE;refine di.any kC λd=>?_
 obtain⟨rc,hh,VU,ht3,RQ,Aad⟩:=(R3.bW d).yb EG hp3;rw[hL]at VU;have Ahs:rc.state≠.busy:=F5 VU.state XN;have hpr:mC m2.ah m'.ah:=by rw[LN];exact mC.put (Nat.le_of_lt (ag EG)) (by rw[EG];simp)
 refine⟨running (b.atR ⟨a.tmps,[{target:=.collected n0,args:=#[]}]++a.defers⟩ ((rc.pending.map Item.code).toList++k)) cs,_,AE (b:=b) (a:=⟨a.tmps,[{target:=.collected n0,args:=#[]}]++a.defers⟩) (run_endLoop hh Ahs),.eP ⟨_,ρ3,_,rfl,?_,⟨by rw[LN];exact Aad _,?_,s.size⟩,?_,?_⟩⟩
 .rw[VU.pending];cases r.pending with
  |none=>rfl
  |some e=>cases e with
   |normal=>rfl
   |exit id=>exact⟨k,rfl,rfl⟩
   |ret=>exact⟨k,rfl⟩
 .exactλp=>(htr p).mono (dR.le_trans x12.1 x3.1)
 .have hD1:tb lo pI h1 (m.ah.length::m.aV) ([{target:=.collected n0,args:=#[]}]++a.defers):=by
   have VO:=hd.mono x1.1 x1.2.2;refine⟨⟨VO.1.1,λx hx=>?_⟩,?_,by simp[hd.2.2.1],λi x dd hx hdd=>?_⟩
   .rcases mem_cons.1 hx with rfl|hx
    .exact hd.1.1
    .exact hd.1.2 x hx
   .rw[nodup_cons];refine⟨λhm=>?_,hd.2.1⟩;obtain⟨i,hi⟩:=getElem?_of_mem hm;have jU:i<a.defers.length:=by rw[<-hd.2.2.1];exact(List.getElem?_eq_some_iff.1 hi).1
    have:=ag (hd.2.2.2 i _ _ hi (getElem?_eq_getElem jU)).1;omega
   .cases i with
    |zero=>
     simp at hx hdd;subst hx hdd;exact⟨VT,_,Ou,rfl⟩
    |succ i=>exact VO.2.2.2 i x dd (by simpa using hx) (by simpa using hdd)
  have:=((hD1.mono x2.1 x2.2.2).mono x3.1 x3'.2.2).mono (dR.le_refl _) hpr;exact this.ya ((HK.trans hd3).trans hd0)
 .exact(x12.trans x3').trans ⟨dR.le_refl _,λ_ _=>rfl,hpr⟩
theorem Al{fuel:Nat}{rd:Bool}(kC:∀g w,OK g w)(fJ:lX P aM cW OK (tU P aM) call)(QY:qn call)(hL:K.loop=tU P aM):vG P aM cW OK call K w0 nt fuel rd:=by
 intro lo f ps nX bd ac T T' m m' e a w ρ b k cs hc he s hg hd hb hf;simp only[eR]at hc;split at hc
 .rename_i Ak;simp only[pure_def,bind_eq_bind,bind_eq_some_iff]at hc;obtain⟨af,hfo,aa,haa,ab,hab,e'⟩:=hc;cases e';simp only[dY]at he;cases rd
  .simp only[cond]at he;split at he
   .rename_i g fa fc ev;split at he
    .rename_i u m2 Fq;split at he
     .rename_i r EG;have XN:r.state≠.busy/\e=r.pending.getD .normal/\T'=T/\m'=m2.apply ⟨(aQ m.ah m.ah.length (some .nZ)).length,none,[]⟩:=by
       split at he
       .cases he
       .rename_i wZ;cases he;exact⟨λe=>wZ e,rfl,rfl,rfl⟩
      obtain⟨XN,rfl,eT,rfl⟩:=XN;have eV:(aQ m.ah m.ah.length (some .nZ)).length=m.ah.length+1:=by rw[cw];omega
      have Lw:b.roundOf=none:=by cases hq:b.roundOf with
       |none=>rfl
       |some x=>rw[hq]at hb;cases hb
      have hv:=ch hg s.tr hfo;rw[ev]at hv;obtain⟨fa',fc',ex,XO,h2'⟩:=hv;simp only[iY,eV]at Fq EG;refine di.any kC λd=>?_
      rw[eT];exact HU kC fJ QY hL Ak haa hab Fq (by rw[iY]) rfl EG XN (by rw[iY,eV]) rfl (s.bW d) hg hd Lw hf ex XO h2'
     .cases he
    .cases he
   .cases he
  .simp only[cond]at he;cases he
 .cases hc
end
end Go.Abs
end
