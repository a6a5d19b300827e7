/- Calls, regions in their order, code, ends of functions, loops over functions: the model does what the evaluator says.
   Conditions: none. -/
import Derived.Test.YtdmofemokgboeaaGreatDoorEv3
import Derived.AtR
import Derived.RangeFuncRecord
set_option linter.unusedSimpArgs false
set_option linter.unusedVariables false
set_option maxRecDepth 100000
noncomputable section
namespace Go.Abs
def running (fr:Frame) (cs:List Frame):Goroutine:={frame:=fr,callers:=cs,status:= .running,dying:=none}
def World.drawnAt (w:World) (d:Nat):World:={w with drawn:=d}
inductive Leads (P:Program) (main:Bool) (OK:Goroutine→World→Prop) (Q:Goroutine→World→Prop):Goroutine→World→Prop
  |here {g:Goroutine} {w:World}:Q g w→Leads P main OK Q g w
  |step {g:Goroutine} {w:World} (g':Nat→Goroutine) (w':Nat→World):(∃ fr cs,g=running fr cs)→(∀ d,(stepG P main g (World.drawnAt w d)).bare= .go (g' d) (w' d))→(∀ d,OK g (World.drawnAt w d))→(∀ d,Leads P main OK Q (g' d) (w' d))→Leads P main OK Q g w
section
variable {P:Program} {main:Bool} {OK:Goroutine→World→Prop} {Q Q':Goroutine→World→Prop}
theorem Leads.bind {g:Goroutine} {w:World} (h:Leads P main OK Q g w) (hq: ∀ g w,Q g w→Leads P main OK Q' g w):Leads P main OK Q' g w:=by
  induction h with
  |here h=>exact hq _ _ h
  |step g' w' h0 h1 h2 _ ih=>exact .step g' w' h0 h1 h2 ih
theorem Leads.mono {g:Goroutine} {w:World} (h:Leads P main OK Q g w) (hq: ∀ g w,Q g w→Q' g w):Leads P main OK Q' g w:=h.bind fun g w h=> .here (hq g w h)
theorem Leads.one {g g':Goroutine} {w:World} (hOK: ∀ g w,OK g w) (h: ∀ d,(stepG P main g (World.drawnAt w d)).bare= .go g' (World.drawnAt w d)) (hn: ∀ d,Leads P main OK Q g' (World.drawnAt w d)) (hr: ∃ fr cs,g=running fr cs:=by exact ⟨_,_,rfl⟩):Leads P main OK Q g w:=
  .step (fun _=>g') _ hr h (fun _=>hOK _ _) hn
theorem Leads.any {g:Goroutine} {w:World} (hOK: ∀ g w,OK g w) (h: ∀ d,∃ g' w',(stepG P main g (World.drawnAt w d)).bare= .go g' w'∧Leads P main OK Q g' w') (hr: ∃ fr cs,g=running fr cs:=by exact ⟨_,_,rfl⟩):Leads P main OK Q g w:=
  .step (fun d=>(h d).choose) (fun d=>(h d).choose_spec.choose) hr (fun d=>(h d).choose_spec.choose_spec.1) (fun _=>hOK _ _) (fun d=>(h d).choose_spec.choose_spec.2)
end
section
variable {K:Kp} {w0 w:World} {ρ:Rho} {h:Blks}
theorem Rel.drawnAt (R:Rel K w0 ρ h w) (d:Nat):Rel K w0 ρ h (World.drawnAt w d):=
  R.world ⟨R.below.os,R.below.tape,R.below.output,R.below.size,R.below.lt,R.below.block⟩ (Nat.le_refl _) fun _ _ _ _ _=>rfl
end
def EndAt:AExit→List Item→List Item→Prop
  | .normal,k,todo=>todo=k
  | .exit id,k,todo=> ∃ k',todo= .code (.exit id)::k'∧exitTo id k'=exitTo id k
  | .ret,_,todo=> ∃ k',todo= .code .ret::k'
def DefR (lo:Nat) (ρ:Rho) (h:Blks) (ids:List Nat) (ds:List Deferred):Prop:=
  (lo≤h.length∧ ∀ x∈ids,lo≤x)∧ids.Nodup∧ids.length=ds.length∧ ∀ (i:Nat) (b:Nat) (d:Deferred),ids[i]? =some b→ds[i]? =some d→bget h b=some .dfr∧ ∃ p,ρ b=some p∧d={target:= .collected p.cb,args:= #[]}
section
variable {P:Program} {main:Bool} {b:Frame} {a:Act} {k:List Item} {cs:List Frame} {w:World}
theorem sg_skip:(stepG P main (running (b.atR a (.code .skip::k)) cs) w).bare= .go (running (b.atR a k) cs) w:=by simp[running,stepG,stepG.exec,Frame.atR]
theorem sg_label {l:Nat}:(stepG P main (running (b.atR a (.code (.label l)::k)) cs) w).bare= .go (running (b.atR a k) cs) w:=by simp[running,stepG,stepG.exec,Frame.atR]
theorem sg_scope {x:Code}:(stepG P main (running (b.atR a (.code (.scope x)::k)) cs) w).bare= .go (running (b.atR a (.code x:: .inScope x::k)) cs) w:=by simp[running,stepG,stepG.exec,Frame.atR]
theorem sg_inScope {x:Code}:(stepG P main (running (b.atR a (.inScope x::k)) cs) w).bare= .go (running (b.atR a k) cs) w:=by simp[running,stepG,stepG.exec,Frame.atR]
theorem sg_inBlock {id:Nat}:(stepG P main (running (b.atR a (.inBlock id::k)) cs) w).bare= .go (running (b.atR a k) cs) w:=by simp[running,stepG,stepG.exec,Frame.atR]
theorem sg_seq {x y:Code}:(stepG P main (running (b.atR a (.code (.seq x y)::k)) cs) w).bare= .go (running (b.atR a (.code x:: .code y::k)) cs) w:=by simp[running,stepG,stepG.exec,Frame.atR]
theorem sg_cond {c:Operand} {x y:Code} {t:Bool} (h:a.eval c= .bool t):(stepG P main (running (b.atR a (.code (.cond c x y)::k)) cs) w).bare= .go (running (b.atR a (.code (if t then x else y)::k)) cs) w:=by
  have:=congrFun (Frame.eval_atR b a (.code (.cond c x y)::k)) c
  simp only[Frame.atR] at this
  simp[running,stepG,stepG.exec,Frame.atR,this,h]
theorem sg_block {id:Nat} {c:Code}:(stepG P main (running (b.atR a (.code (.block id c)::k)) cs) w).bare= .go (running (b.atR a (.code c:: .inBlock id::k)) cs) w:=by simp[running,stepG,stepG.exec,Frame.atR]
theorem sg_loop {c:Code}:(stepG P main (running (b.atR a (.code (.loop c)::k)) cs) w).bare= .go (running (b.atR a (.code c:: .inLoop c::k)) cs) w:=by simp[running,stepG,stepG.exec,Frame.atR]
theorem sg_inLoop {c:Code}:(stepG P main (running (b.atR a (.inLoop c::k)) cs) w).bare= .go (running (b.atR a (.code c:: .inLoop c::k)) cs) w:=by simp[running,stepG,stepG.exec,Frame.atR]
theorem sg_exit {id:Nat} {k':List Item} (h:exitTo id k=some k'):(stepG P main (running (b.atR a (.code (.exit id)::k)) cs) w).bare= .go (running (b.atR a k') cs) w:=by simp[running,stepG,stepG.exec,Frame.atR,h]
theorem sg_ret (hb:b.roundOf=none):(stepG P main (running (b.atR a (.code .ret::k)) cs) w).bare= .go (running {b.atR a (.code .ret::k) with mode:= .returning} cs) w:=by simp[running,stepG,stepG.exec,Frame.atR,hb]
theorem sg_end (hb:b.roundOf=none):(stepG P main (running (b.atR a []) cs) w).bare= .go (running {b.atR a [] with mode:= .returning} cs) w:=by simp[running,stepG,stepG.exec,Frame.atR,hb]
variable {ops:Array Oper}
theorem sg_region {id:Nat}:(stepG P main (running (b.atR a (.code (.region id ops false)::k)) cs) w).bare= .go (running (b.atR a (.inRegion ops (List.range ops.size)::k)) cs) w:=by simp[running,stepG,stepG.exec,Frame.atR]
theorem sg_region_draw {id:Nat}:(stepG P main (running (b.atR a (.code (.region id ops true)::k)) cs) w).bare=
    .go (running (b.atR a (.inRegion ops (Region.schedule (P.follows .mixedOrders) ops (w.tape w.drawn (.order b.fn id)))::k)) cs) {w with drawn:=w.drawn+1}:=by
  simp[running,stepG,stepG.exec,Frame.atR,choose,Sem.run,Question.forced,Question.cut]
theorem sg_region_end:(stepG P main (running (b.atR a (.inRegion ops []::k)) cs) w).bare= .go (running (b.atR a k) cs) w:=by simp[running,stepG,stepG.exec,Frame.atR]
theorem sg_op_skip {i:Nat} {rest:List Nat} (h:((ops[i]?).map (Region.wanted · (yielded ops a.tmps))).getD false=false):
    (stepG P main (running (b.atR a (.inRegion ops (i::rest)::k)) cs) w).bare= .go (running (b.atR (a.put ((ops[i]?).bind (·.dst)) undef) (.inRegion ops rest::k)) cs) w:=by
  rw[←Frame.finish_atR]
  have h':=h
  simp only[Frame.atR] at*
  simp[running,stepG,stepG.exec,h']
theorem sg_op {i:Nat} {rest:List Nat} {o:Oper} (ho:ops[i]? =some o) (hw:Region.wanted o (yielded ops a.tmps)=true) (hd: ∀ c,o.op≠ .defer c):
    stepG P main (running (b.atR a (.inRegion ops (i::rest)::k)) cs) w=stepG.apply P true (b.atR a (.inRegion ops (i::rest)::k)) cs none (execOp a.eval o) w:=by
  have he:=Frame.eval_atR b a (.inRegion ops (i::rest)::k)
  rw[←Oper.semAt_eq b.roundOf a.eval o hd]
  simp only[Frame.atR] at he
  simp only[running,stepG,stepG.exec,stepG.oper,Frame.oper?,Frame.atR,ho,hw,he,Option.map_some,Option.getD_some,if_true,Oper.semAt]
  cases b.roundOf <;>cases o.op <;>rfl
theorem sg_op_value {i:Nat} {rest:List Nat} {o:Oper} {nx:Next} {v:Value} {w':World} (ho:ops[i]? =some o) (hw:Region.wanted o (yielded ops a.tmps)=true) (hd: ∀ c,o.op≠ .defer c)
    (hr:(execOp a.eval o).run P w= .ok nx w') (hn:nx= .value v∨(nx= .skip∧v=undef)):
    (stepG P main (running (b.atR a (.inRegion ops (i::rest)::k)) cs) w).bare= .go (running (b.atR (a.put o.dst v) (.inRegion ops rest::k)) cs) w':=by
  have hfin:(b.atR a (.inRegion ops (i::rest)::k)).finish v=b.atR (a.put o.dst v) (.inRegion ops rest::k):=by rw[Frame.finish_atR,ho];rfl
  rw[sg_op ho hw hd,←hfin]
  rcases hn with rfl |⟨rfl,rfl⟩ <;>simp[stepG.apply,hr,running]
end
section
variable {P:Program} {ρ:Rho} {T:Tr} {a:Act}
theorem TRt.put {tmps:Array Value} (h:TRt ρ T tmps) {d:Nat} {v:AV} {v':Value} (hd:d<tmps.size) (hv:VR ρ v v'):TRt ρ (tset v (.ofNat d) T) (tmps.setIfInBounds d v'):=by
  intro p
  rw[tget_tset]
  by_cases e:p= .ofNat d
  · subst e
    rw[if_pos rfl,Pth.toNat_ofNat]
    simpa[Array.getD_eq_getD_getElem?,hd] using hv
  · rw[if_neg e]
    have hne:d≠p.toNat:=fun e2=>e (Pth.toNat_inj (by rw[Pth.toNat_ofNat];exact e2.symm))
    have:=h p
    simpa[Array.getD_eq_getD_getElem?,Array.getElem?_setIfInBounds_ne hne] using this
theorem TR.put (h:TR ρ T a) {d:Option Nat} {v:AV} {v':Value} (hd: ∀ x,d=some x→x<a.tmps.size) (hv:VR ρ v v'):TR ρ (aput T (d.map Pth.ofNat) v) (a.put d v'):=by
  cases d with
  |none=>exact h
  |some d=>exact TRt.put h (hd d rfl) hv
theorem put_size {d:Option Nat} {v:Value}:(a.put d v).tmps.size=a.tmps.size:=by cases d <;>simp[Act.put]
theorem VR_undef:VR ρ .undef undef:=rfl
theorem tputs_get: ∀ (vs:List AV) (p q:Pth) (T:Tr),tget q (tputs vs p T)=if p.toNat≤q.toNat∧q.toNat<p.toNat+vs.length then vs.getD (q.toNat - p.toNat) .undef else tget q T
  | [],p,q,T=>by simp[tputs];intro h1 h2;omega
  | v ::vs,p,q,T=>by
    rw[tputs,tputs_get vs p.succ q _,Pth.toNat_succ,tget_tset]
    simp only[List.length_cons]
    by_cases e:q=p
    · subst e
      rw[if_neg (by omega),if_pos rfl,if_pos (by omega)]
      simp
    · have hne:q.toNat≠p.toNat:=fun e2=>e (Pth.toNat_inj e2)
      by_cases hc:p.toNat+1≤q.toNat∧q.toNat<p.toNat+1+vs.length
      · rw[if_pos hc,if_pos (by omega)]
        have:q.toNat - p.toNat=(q.toNat - (p.toNat+1))+1:=by omega
        rw[this]
        simp
      · rw[if_neg hc,if_neg e,if_neg (by omega)]
theorem TR_enter {args:List AV} {args':Array Value} {n:Nat} (h:VRs ρ args args'.toList):TRt ρ (tputs args .z .e) (args'++Array.replicate n undef):=by
  intro q
  rw[tputs_get,tget_e]
  have hl:=h.length
  simp at hl
  simp only[Pth.toNat,Nat.zero_le,true_and,Nat.zero_add,Nat.sub_zero]
  rw[Array.getD_eq_getD_getElem?]
  by_cases hq:q.toNat<args.length
  · rw[if_pos hq]
    have h1:args[q.toNat]? =some (args[q.toNat]):=List.getElem?_eq_getElem hq
    obtain ⟨v,hv,hr⟩:=h.get h1
    rw[Array.getElem?_append_left (by omega)]
    simp only[Array.getElem?_toList] at hv
    rw[hv]
    simpa[List.getD_eq_getElem?_getD,h1] using hr
  · rw[if_neg hq]
    rw[Array.getElem?_append_right (by omega)]
    by_cases h2:q.toNat - args'.size<n
    · simp[Array.getElem?_replicate,h2,VR,undef]
    · simp[Array.getElem?_replicate,h2,VR,undef]
end
def inv (ρ:Rho):ACallee→Array Value→Sem Next
  | .fn f,vs=>callFunc f vs
  | .yield l,vs=>Instr.yield (((ρ l).map (·.cb)).getD 0) vs
def Pushes (P:Program):Next→Frame→Prop
  | .enter f args,fr=>fr=Frame.enter P f args .normal
  | .round l f tmps assign body,fr=>fr=Frame.round l f tmps assign body .normal
  |_,_=>False
def CEnd (K:Kp) (w0:World) (ρ:Rho) (h h':Blks) (v:AV) (fr:Frame) (cs:List Frame) (g:Goroutine) (w:World):Prop:=
  ∃ v' ρ',g=running (fr.finish v') cs∧VR ρ' v v'∧Rel K w0 ρ' h' w∧ρ.le ρ'∧(∀ x,x<h.length→ρ' x=ρ x)∧h.length≤h'.length∧ ∀ x,bget h x=some .dfr→bget h' x=some .dfr
def CallOK (P:Program) (glob:Nat→Option AV) (main:Bool) (OK:Goroutine→World→Prop) (L:ALoop→Loop→Prop) (call:CallF):Prop:=
  ∀ (K:Kp) (w0 w:World) (ρ:Rho) (m m':Mem) (c:ACallee) (vs:List AV) (vs':Array Value) (v:AV),K.loop=L→call c vs m=some (v,m')→Rel K w0 ρ m.blks w→GR glob ρ→VRs ρ vs vs'.toList→
    (∀ l,c= .yield l→ ∃ p,ρ l=some p)→
    ∃ nx fr0,(inv ρ c vs').run P w= .ok nx w∧Pushes P nx fr0∧ ∀ fr cs,Leads P main OK (CEnd K w0 ρ m.blks m'.blks v fr cs) (running fr0 (fr::cs)) w
section
variable {P:Program} {glob:Nat→Option AV} {K:Kp} {w0 w:World} {ρ:Rho} {h:Blks} {T:Tr} {a:Act} {o:Oper}
theorem aevs_map (T:Tr): ∀ xs:List AOpnd,aevs T xs=xs.map (aev T)
  | []=>rfl
  |x::xs=>by rw[aevs,aevs_map T xs];rfl
theorem call_sound (R : Rel K w0 ρ h w) (hg:GR glob ρ) (ht:TR ρ T a) {ao:AOp} {c:ACallee} {vs:List AV} (hc:cop P glob o=some ao) (hv:acallee (bget h) (cmeth P) T ao=some (c,vs)):
    ∃ vs':Array Value,VRs ρ vs vs'.toList∧(execOp a.eval o).run P w=(inv ρ c vs').run P w∧(∀ l,c= .yield l→ ∃ p,ρ l=some p):=by
  have hcall:ao.isCall=true:=by cases ao <;>simp only[acallee] at hv <;>first |(cases hv;done)|rfl
  have hoc: ∃ cl,o.op= .call cl:=by
    unfold cop at hc
    split at hc
    all_goals first
      |exact ⟨_,by assumption⟩
      | (exfalso
         cases ao <;>first |(simp[AOp.isCall] at hcall;done)|skip
         all_goals (repeat' split at hc) <;>simp[Option.bind_eq_some_iff,Option.map_eq_some_iff] at hc)
  obtain ⟨cl,ho⟩:=hoc
  have hex:(execOp a.eval o).run P w=((resolve a.eval cl o.type).run P w).andThen fun d w=>(invoke d.target d.args).run P w:=by
    simp only[execOp,ho,Sem.run_bind]
  have eargs:(cl.args.map a.eval).toList=cl.args.toList.map a.eval:=by simp
  unfold cop at hc
  simp only[ho] at hc
  split at hc
  · rename_i f hcl
    split at hc
    · simp only[Option.map_eq_some_iff] at hc
      obtain ⟨xs,hx,rfl⟩:=hc
      simp only[acallee] at hv
      cases hv
      have hr:=VRs_opnds hg ht hx
      refine ⟨cl.args.map a.eval,by rw[aevs_map,eargs];exact hr,?_,fun l e=>by cases e⟩
      rw[hex]
      simp[resolve,hcl,Deferred.ofValue,Act.eval,invoke,inv]
    · exfalso
      split at hc
      · split at hc
        · simp only[Option.pure_def,Option.bind_eq_bind,Option.bind_eq_some_iff] at hc
          obtain ⟨_,_,_,_,_,_,e'⟩:=hc
          cases e'
          cases hcall
        · cases hc
      · cases hc
  · rename_i x _ hcl
    simp only[Option.pure_def,Option.bind_eq_bind,Option.bind_eq_some_iff] at hc
    obtain ⟨ax,hx,axs,hxs,e⟩:=hc
    cases e
    have hr:=VRs_opnds hg ht hxs
    have hrx:=VR_opnd hg ht hx
    simp only[acallee] at hv
    split at hv
    · rename_i f fs cs ev
      cases hv
      rw[ev] at hrx
      obtain ⟨f',c',ex,h1,h2⟩:=hrx
      refine ⟨f'++cl.args.map a.eval++c',?_,?_,fun l e=>by cases e⟩
      · rw[aevs_map]
        simp only[Array.toList_append,eargs]
        exact (h1.append hr).append h2
      · rw[hex]
        simp[resolve,hcl,ex,Deferred.ofValue,invoke,inv]
    · rename_i l ev
      cases hv
      rw[ev] at hrx
      obtain ⟨p,hp,ex⟩:=hrx
      refine ⟨cl.args.map a.eval,by rw[aevs_map,eargs];exact hr,?_,fun l e=>by cases e;exact ⟨p,hp⟩⟩
      rw[hex]
      simp[resolve,hcl,ex,Deferred.ofValue,invoke,inv,hp]
    · cases hv
  · rename_i x name hcl
    simp only[Option.pure_def,Option.bind_eq_bind,Option.bind_eq_some_iff] at hc
    obtain ⟨ax,hx,axs,hxs,e⟩:=hc
    cases e
    have hr:=VRs_opnds hg ht hxs
    have hrx:=VR_opnd hg ht hx
    simp only[acallee] at hv
    split at hv
    · rename_i t x2 ev
      rw[ev] at hrx
      obtain ⟨y,ex,hy⟩:=hrx
      have hext:((#[a.eval x]++cl.args.map a.eval).extract 1 (#[a.eval x]++cl.args.map a.eval).size)=cl.args.map a.eval:=by
        apply Array.ext'
        rw[Array.toList_extract,List.extract_eq_take_drop]
        simp only[Array.toList_append,List.cons_append,List.nil_append,List.drop_succ_cons,List.drop_zero]
        exact List.take_of_length_le (by simp)
      have red: ∀ (f:FuncId) (r:Value),(method (P.types.size+Made.depth) t y name).run P w= .ok (f,r) w→(execOp a.eval o).run P w=(callFunc f (#[r]++cl.args.map a.eval)).run P w:=by
        intro f r hm
        rw[hex]
        have h0:(#[a.eval x]++cl.args.map a.eval)[0]? =some (a.eval x):=by
          rw[Array.getElem?_append_left (by exact Nat.zero_lt_one)]
          rfl
        rw[ex] at h0
        have hext':=hext
        rw[ex] at hext'
        simp only[resolve,hcl,Sem.run_pure,Result.andThen_ok,invoke,ex,h0,hext',callMethod,ex,Sem.run_bind,run_program,hm]
      have hdep : ∃ n, P.types.size + Made.depth = n + 1 := ⟨P.types.size + Made.depth - 1, by have:0<Made.depth:=by decide
                                                                                               omega⟩
      obtain ⟨n,hn⟩:=hdep
      rw[hn] at red
      have base: ∀ (i:TypeInfo) (m:Method) (f:FuncId) (ptr:Bool) (r:Value),P.info? t=some i→i.methods.find? (·.name==name)=some m→m.func=some (f,ptr)→m.path.isEmpty=true→
          (receiverAt t (.val y) ptr (some ((name.splitOn ".").getLastD name))).run P w= .ok r w→(method (n+1) t y name).run P w= .ok (f,r) w:=by
        intro i m f ptr r h1 h2 h3 h4 h5
        have hpe:m.path.toList=[]:=by
          have:m.path= #[]:=by simpa using h4
          rw[this]
        simp only[method,Sem.run_bind,run_typeInfo w h1,Result.andThen_ok,h2,hpe,follow,Sem.run_pure,h3,h4,if_true,h5]
      have finish: ∀ (f:FuncId) (x3:AV) (r:Value),VR ρ x3 r→(method (n+1) t y name).run P w= .ok (f,r) w→some (ACallee.fn f,x3::aevs T axs)=some (c,vs)→
          ∃ vs':Array Value,VRs ρ vs vs'.toList∧(execOp a.eval o).run P w=(inv ρ c vs').run P w∧(∀ l,c= .yield l→ ∃ p,ρ l=some p):=by
        intro f x3 r h1 h2 e
        cases e
        refine ⟨#[r]++cl.args.map a.eval,?_,red f r h2,fun l e=>by cases e⟩
        rw[aevs_map]
        simp only[Array.toList_append,eargs]
        exact ⟨r,_,rfl,h1,hr⟩
      split at hv
      · rename_i f hm
        unfold cmeth at hm
        split at hm <;>first |(cases hm;done)|skip
        rename_i i hi
        split at hm <;>first |(cases hm;done)|skip
        rename_i m hfind
        split at hm <;>first |(cases hm;done)|skip
        rename_i f2 ptr hfunc
        split at hm <;>first |(cases hm;done)|skip
        rename_i hcond
        simp only[Bool.and_eq_true] at hcond
        split at hm
        · rename_i e hu
          split at hm
          · rename_i hp
            cases hm
            subst hp
            exact finish f x2 y hy (base i m f true y hi hfind hfunc hcond.1 (by simp[receiverAt,run_underlying hu,Place.get])) hv
          · split at hm <;>cases hm
        · cases hm
        · rename_i d hnp hni hu
          split at hm
          · cases hm
          · rename_i hp
            cases hm
            have hp':ptr=false:=by simpa using hp
            subst hp'
            refine finish f x2 y hy (base i m f false y hi hfind hfunc hcond.1 ?_) hv
            cases d <;>simp_all[receiverAt,run_underlying hu,Place.get]
        · cases hm
      · rename_i f agg nn hm
        split at hv
        · rename_i r cs' hl
          unfold cmeth at hm
          split at hm <;>first |(cases hm;done)|skip
          rename_i i hi
          split at hm <;>first |(cases hm;done)|skip
          rename_i m hfind
          split at hm <;>first |(cases hm;done)|skip
          rename_i f2 ptr hfunc
          split at hm <;>first |(cases hm;done)|skip
          rename_i hcond
          simp only[Bool.and_eq_true] at hcond
          split at hm
          · rename_i e hu
            split at hm
            · cases hm
            · rename_i hp
              split at hm
              · rename_i hue
                cases hm
                have hp':ptr=false:=by simpa using hp
                subst hp'
                simp only[aprim,aev] at hl
                split at hl
                · rename_i b j f'
                  split at hl
                  · rename_i own esz es hb
                    split at hl
                    · rename_i cs2 hrow
                      obtain ⟨p,hp,ey⟩:=hy
                      obtain ⟨l1,l2⟩:=run_loadAt (P:=P) R hue hb hp hrow
                      have recv: ∀ r':Value,(loadVar e (p.at_ j f')).run P w= .ok r' w→(receiverAt t (.val y) false (some ((name.splitOn ".").getLastD name))).run P w= .ok r' w:=by
                        intro r' hr'
                        subst ey
                        have hw: ∀ (x y:Value) (s1 s2:ByteArray),x= .string s1→y= .string s2→(Builtin.ssaWrapNilChk_ #[t] t #[.pointer (some (p.at_ j f')),x,y]).run P w= .ok (.pointer (some (p.at_ j f'))) w:=by
                          intro x y s1 s2 e1 e2
                          subst e1 e2
                          rfl
                        simp only[receiverAt,Sem.run_bind,run_underlying hu,Result.andThen_ok,Place.get,Sem.run_pure,asAddr]
                        rw[hw (strVal "") (strVal _) _ _ rfl rfl]
                        simp only[Result.andThen_ok,Sem.run_pure,hr']
                      split at hl
                      · rename_i hagg
                        cases hl
                        obtain ⟨r',g1,g2⟩:=l1 hagg
                        exact finish f _ r' g2 (base i m f false r' hi hfind hfunc hcond.1 (recv r' g1)) hv
                      · rename_i hagg
                        split at hl
                        · cases hl
                          obtain ⟨r',g1,g2⟩:=l2 (by simpa using hagg) _ rfl
                          exact finish f _ r' g2 (base i m f false r' hi hfind hfunc hcond.1 (recv r' g1)) hv
                        · cases hl
                    · cases hl
                  · cases hl
                · cases hl
              · cases hm
          · cases hm
          · split at hm <;>cases hm
          · cases hm
        · cases hv
      · cases hv
    · cases hv
  · rename_i bt hcl
    exfalso
    split at hc
    · simp only[Option.pure_def,Option.bind_eq_bind,Option.bind_eq_some_iff] at hc
      obtain ⟨t,h0,hc⟩:=hc
      split at hc
      · split at hc
        · simp only[Option.bind_eq_some_iff] at hc
          obtain ⟨_,_,_,_,e'⟩:=hc
          cases e'
          cases hcall
        · split at hc
          · simp only[Option.bind_eq_some_iff] at hc
            obtain ⟨_,_,_,_,_,_,e'⟩:=hc
            cases e'
            cases hcall
          · cases hc
      · cases hc
    · simp only[Option.pure_def,Option.bind_eq_bind,Option.bind_eq_some_iff] at hc
      obtain ⟨t,h0,hc⟩:=hc
      split at hc
      · simp only[Option.bind_eq_some_iff] at hc
        obtain ⟨_,_,e'⟩:=hc
        cases e'
        cases hcall
      · cases hc
    · simp only[Option.pure_def,Option.bind_eq_bind,Option.bind_eq_some_iff] at hc
      obtain ⟨t,h0,hc⟩:=hc
      split at hc
      · cases hc
        cases hcall
      all_goals first |(cases hc;done)|skip
      all_goals (
        simp only[Option.bind_eq_some_iff] at hc
        obtain ⟨_,_,e'⟩:=hc
        cases e'
        cases hcall)
    · simp only[Option.pure_def,Option.bind_eq_bind,Option.bind_eq_some_iff] at hc
      obtain ⟨t,h0,hc⟩:=hc
      split at hc
      · split at hc
        · simp only[Option.bind_eq_some_iff] at hc
          obtain ⟨_,_,_,_,e'⟩:=hc
          cases e'
          cases hcall
        · cases hc
      · cases hc
    · simp only[Option.map_eq_some_iff] at hc
      obtain ⟨_,_,rfl⟩:=hc
      cases hcall
    · simp only[Option.map_eq_some_iff] at hc
      obtain ⟨_,_,rfl⟩:=hc
      cases hcall
    · cases hc
end
def ABlk.data:ABlk→Bool
  | .row own _ _=>own
  | .map _=>true
  |_=>false
def Targets (get:Nat→Option ABlk) (nid:Nat) (cs:List Chg):Prop:=
  ∀ c∈cs,(c.id=nid∨ ∃ x,get c.id=some x∧x.data=true)∧ ∀ x,c.blk=some x→x.data=true
theorem Targets.nil {get:Nat→Option ABlk} {nid:Nat}:Targets get nid []:=fun _ h=>by cases h
theorem Targets.new {get:Nat→Option ABlk} {nid:Nat} {x:ABlk} {r:List Nat} (hx:x.data=true):Targets get nid [⟨nid,some x,r⟩]:=fun c hc=>by
  simp only[List.mem_singleton] at hc
  subst hc
  exact ⟨.inl rfl,fun y hy=>by cases hy;exact hx⟩
theorem Targets.old {get:Nat→Option ABlk} {nid b:Nat} {x y:ABlk} {r:List Nat} (hb:get b=some y) (hy:y.data=true) (hx:x.data=true):Targets get nid [⟨b,some x,r⟩]:=fun c hc=>by
  simp only[List.mem_singleton] at hc
  subst hc
  exact ⟨.inr ⟨y,hb,hy⟩,fun z hz=>by cases hz;exact hx⟩
theorem aappend_targets {get:Nat→Option ABlk} {nid esz bytes:Nat} {s x v:AV} {cs:List Chg} (h:aappend get nid esz bytes s x=some (v,cs)):Targets get nid cs:=by
  unfold aappend at h
  split at h
  · cases h
  · split at h <;>cases h <;>exact .nil
  · split at h
    · split at h <;>cases h
      exact .new rfl
    · split at h <;>cases h
      exact .new rfl
    · split at h
      · rename_i b i m c _ own e es hb
        split at h
        · cases h
        · have grow: ∀ v' r,some (v',[(⟨nid,some (.row true esz r),refsLL r⟩:Chg)])=some (v,cs)→Targets get nid cs:=by
            intro v' r e
            cases e
            exact .new rfl
          have inpl: ∀ v' r rs,own=true→some (v',[(⟨b,some (.row own e r),rs⟩:Chg)])=some (v,cs)→Targets get nid cs:=by
            intro v' r rs hown e
            cases e
            exact .old hb hown hown
          have kill: ∀ v' r,own=true→some (v',[(⟨b,none,[]⟩:Chg),⟨nid,some (.row true esz r),refsLL r⟩])=some (v,cs)→Targets get nid cs:=by
            intro v' r hown e
            cases e
            intro c hc
            simp only[List.mem_cons,List.not_mem_nil,or_false] at hc
            rcases hc with rfl |rfl
            · exact ⟨.inr ⟨_,hb,hown⟩,fun z hz=>by cases hz⟩
            · exact ⟨.inl rfl,fun z hz=>by cases hz;rfl⟩
          simp only at h
          repeat' split at h
          all_goals first
            |exact grow _ _ h
            |(rename_i hown;exact inpl _ _ _ hown.1 h)
            |(rename_i hown;exact kill _ _ hown h)
            |(cases h;done)
      · cases h
    · cases h
theorem acopy_targets {get:Nat→Option ABlk} {nid esz:Nat} {s x v:AV} {cs:List Chg} (h:acopy get esz s x=some (v,cs)):Targets get nid cs:=by
  unfold acopy at h
  split at h
  · cases h
  · split at h
    · cases h;exact .nil
    · cases h;exact .nil
    · simp only at h
      split at h
      · cases h;exact .nil
      · split at h
        · rename_i hb
          split at h
          · cases h
            exact .old hb rfl rfl
          · cases h
        · cases h
    · cases h
theorem aprim_targets {get:Nat→Option ABlk} {nid:Nat} {T:Tr} {op:AOp} {v:AV} {cs:List Chg} (h:aprim get nid T op=some (v,cs)):Targets get nid cs:=by
  cases op <;>simp only[aprim] at h
  case app=>exact aappend_targets h
  case copy=>exact acopy_targets h
  case store=>
    split at h
    · split at h
      · rename_i hb
        split at h
        · split at h
          · cases h
            exact .old hb rfl rfl
          · cases h
        · cases h
      · cases h
    · cases h
  case mapset=>
    split at h
    · split at h
      · rename_i hb
        split at h
        · split at h
          · cases h
            exact .old hb rfl rfl
          · cases h
        · cases h
      · cases h
    · cases h
  all_goals (try simp only[Option.map_eq_some_iff,Prod.mk.injEq] at h)
  all_goals (repeat' split at h)
  all_goals first
    |(cases h;done)
    |(cases h;exact .nil)
    |(cases h;exact .new rfl)
    |(obtain ⟨_,_,_,rfl⟩:=h;exact .nil)
    |(simp only[Option.map_eq_some_iff,Prod.mk.injEq] at h;obtain ⟨_,_,_,rfl⟩:=h;exact .nil)
def Pres (h h':Blks):Prop:=h.length≤h'.length∧ ∀ x,bget h x=some .dfr→bget h' x=some .dfr
theorem Pres.refl (h:Blks):Pres h h:=⟨Nat.le_refl _,fun _ h=>h⟩
theorem Pres.trans {a b c:Blks} (h:Pres a b) (h':Pres b c):Pres a c:=⟨Nat.le_trans h.1 h'.1,fun x hx=>h'.2 x (h.2 x hx)⟩
theorem Pres.put {h:Blks} {b:Nat} {x:Option ABlk} (hb:b≤h.length) (hx:bget h b≠some .dfr):Pres h (bput h b x):=
  ⟨by rw[length_bput'];omega,fun y hy=>by
    rw[bget_bput hb]
    rw[if_neg (fun e=>hx (by rw[←e];exact hy))]
    exact hy⟩
theorem bputs_pres: ∀ (cs:List Chg) {h:Blks},(∀ c∈cs,c.id≤h.length∧bget h c.id≠some .dfr∧c.blk≠some .dfr)→Pres h (bputs h cs)
  | [],h,_=>Pres.refl h
  | c::cs,h,hc=>by
    obtain ⟨h1,h2,h3⟩:=hc c (by simp)
    have p:=Pres.put (x:=c.blk) h1 h2
    refine p.trans (bputs_pres cs fun d hd=> ?_)
    obtain ⟨g1,g2,g3⟩:=hc d (by simp[hd])
    refine ⟨Nat.le_trans g1 p.1,?_,g3⟩
    rw[bget_bput h1]
    split
    · exact h3
    · exact g2
theorem prim_pres {h:Blks} {nid:Nat} {T:Tr} {op:AOp} {v:AV} {cs:List Chg} (hn:nid≤h.length) (hd:bget h nid≠some .dfr) (ha:aprim (bget h) nid T op=some (v,cs)):Pres h (bputs h cs):=
  bputs_pres cs fun c hc=>by
    obtain ⟨h1,h2⟩:=aprim_targets ha c hc
    have h3:c.blk≠some .dfr:=fun e=>by have:=h2 _ e;cases this
    rcases h1 with e |⟨x,h1,hx⟩
    · exact ⟨by omega,by rw[e];exact hd,h3⟩
    · exact ⟨Nat.le_of_lt (bget_lt h1),(by rw[h1];intro e;cases e;cases hx),h3⟩
theorem DefR.mono {lo:Nat} {ρ ρ':Rho} {h h':Blks} {ids:List Nat} {ds:List Deferred} (d:DefR lo ρ h ids ds) (hl:ρ.le ρ') (p:Pres h h'):DefR lo ρ' h' ids ds:=
  ⟨⟨Nat.le_trans d.1.1 p.1,d.1.2⟩,d.2.1,d.2.2.1,fun i b x hb hx=>let ⟨h1,q,h2,h3⟩:=d.2.2.2 i b x hb hx;⟨p.2 _ h1,q,hl _ _ h2,h3⟩⟩
def Ext (ρ ρ':Rho) (h h':Blks):Prop:=ρ.le ρ'∧(∀ x,x<h.length→ρ' x=ρ x)∧Pres h h'
theorem Ext.refl (ρ:Rho) (h:Blks):Ext ρ ρ h h:=⟨Rho.le_refl _,fun _ _=>rfl,Pres.refl h⟩
theorem Ext.trans {a b c:Rho} {h i j:Blks} (x:Ext a b h i) (y:Ext b c i j):Ext a c h j:=
  ⟨Rho.le_trans x.1 y.1,fun z hz=>(y.2.1 z (Nat.lt_of_lt_of_le hz x.2.2.1)).trans (x.2.1 z hz),x.2.2.trans y.2.2⟩
structure St (K:Kp) (w0:World) (nt:Nat) (ρ:Rho) (T:Tr) (h:Blks) (a:Act) (w:World):Prop where
  rel:Rel K w0 ρ h w
  tr:TR ρ T a
  size:a.tmps.size=nt
theorem St.drawnAt {K:Kp} {w0 w:World} {nt:Nat} {ρ:Rho} {T:Tr} {h:Blks} {a:Act} (s:St K w0 nt ρ T h a w) (d:Nat):St K w0 nt ρ T h a (World.drawnAt w d):=⟨s.rel.drawnAt d,s.tr,s.size⟩
section
variable {P:Program} {glob:Nat→Option AV} {main:Bool} {OK:Goroutine→World→Prop} {L:ALoop→Loop→Prop} {call:CallF} {K:Kp} {w0:World} {nt:Nat}
def OEnd (K:Kp) (w0:World) (nt:Nat) (ρ:Rho) (T':Tr) (h h':Blks) (a:Act) (b:Frame) (k:List Item) (cs:List Frame) (g:Goroutine) (w:World):Prop:=
  ∃ a' ρ',g=running (b.atR a' k) cs∧St K w0 nt ρ' T' h' a' w∧a'.defers=a.defers∧Ext ρ ρ' h h'
theorem OEnd.ext {ρ ρ1:Rho} {T':Tr} {h h1 h':Blks} {a a1:Act} {b:Frame} {k:List Item} {cs:List Frame} {g:Goroutine} {w:World} (hx:Ext ρ ρ1 h h1) (ha:a1.defers=a.defers) (e:OEnd K w0 nt ρ1 T' h1 h' a1 b k cs g w):OEnd K w0 nt ρ T' h h' a b k cs g w:=
  let ⟨a',ρ',h1,h2,h3,h4⟩:=e
  ⟨a',ρ',h1,h2,h3.trans ha,hx.trans h4⟩
theorem wanted_sound {ρ:Rho} {T:Tr} {a:Act} (ht:TR ρ T a) (ops:Array Oper) (o:Oper) {g:Option (Pth × Bool)} (hgd:cguard ops o=some g) {r:Bool} (hr:awanted T g=some r):
    Region.wanted o (yielded ops a.tmps)=r:=by
  unfold cguard at hgd
  unfold Region.wanted
  cases ho:o.guard with
  | none=>
    rw[ho] at hgd
    cases hgd
    simp only[awanted] at hr
    exact Option.some.inj hr
  | some jw=>
    obtain ⟨j,want⟩:=jw
    rw[ho] at hgd
    simp only[Option.map_eq_some_iff,Option.bind_eq_some_iff] at hgd
    obtain ⟨d,⟨oj,hoj,hd⟩,e⟩:=hgd
    cases e
    show (yielded ops a.tmps j==some want)=r
    have hv:=ht.get d
    have hy:yielded ops a.tmps j=match a.tmps[d]? with |some (.bool b)=>some b |_=>none:=by
      unfold yielded
      rw[hoj]
      simp only[Option.bind_some,hd]
      rfl
    simp only[awanted] at hr
    rw[Array.getD_eq_getD_getElem?] at hv
    split at hr
    · rename_i bb eb
      rw[eb] at hv
      cases hr
      have:a.tmps[d]? =some (.bool bb):=by
        cases hq:a.tmps[d]? with
        |none=>rw[hq] at hv;simp[VR,undef] at hv
        |some v=>rw[hq] at hv;simp only[Option.getD_some] at hv;rw[show v= .bool bb from hv]
      rw[hy,this]
      simp only
      cases bb <;>cases want <;>rfl
    · rename_i eb
      rw[eb] at hv
      cases hr
      have:yielded ops a.tmps j=none:=by
        rw[hy]
        cases hq:a.tmps[d]? with
        |none=>rfl
        |some v=>rw[hq] at hv;simp only[Option.getD_some] at hv;rw[show v= .tuple #[] from hv]
      rw[this]
      cases want <;>rfl
    · cases hr
theorem cop_no_defer {o:Oper} {ao:AOp} (hc:cop P glob o=some ao): ∀ c,o.op≠ .defer c:=by
  intro c e
  simp[cop,e] at hc
theorem aoper_bad {call:CallF} {meth:Meth} {T:Tr} {m m':Mem} {v:AV} {ao:AOper} (h:aoper call meth T m ao=some (v,m')):ao.op≠ .bad:=by
  intro e
  unfold aoper at h
  rw[e] at h
  simp[AOp.isCall,aprim] at h
theorem copB_cop {P:Program} {glob:Nat→Option AV} {o:Oper} {ao:AOp} (h:copB P glob o=ao) (hb:ao≠ .bad):cop P glob o=some ao:=by
  unfold copB at h
  cases hc:cop P glob o with
  |none=>rw[hc] at h;exact absurd h.symm hb
  |some x=>rw[hc] at h;exact congrArg some h
theorem oper_sound (hOK: ∀ g w,OK g w) (hL:K.loop=L) (hcall:CallOK P glob main OK L call) {ops:Array Oper} {i:Nat} {o:Oper} {rest:List Nat} {ao:AOper} (hio:ops[i]? =some o) (hco:copB P glob o=ao.op) (hdst: ∀ d,o.dst=some d→d<nt) (had:ao.dst=o.dst.map Pth.ofNat)
    {T:Tr} {m m':Mem} {v:AV} (ho:aoper call (cmeth P) T m ao=some (v,m')) {b:Frame} {k:List Item} {cs:List Frame} {a:Act} {w:World} {ρ:Rho} (s:St K w0 nt ρ T m.blks a w) (hg:GR glob ρ)
    (hw:Region.wanted o (yielded ops a.tmps)=true):
    Leads P main OK (OEnd K w0 nt ρ (aput T ao.dst v) m.blks m'.blks a b (.inRegion ops rest::k) cs) (running (b.atR a (.inRegion ops (i::rest)::k)) cs) w:=by
  have hco:=copB_cop hco (aoper_bad ho)
  have hnd:=cop_no_defer hco
  have hfin: ∀ v,(b.atR a (.inRegion ops (i::rest)::k)).finish v=b.atR (a.put o.dst v) (.inRegion ops rest::k):=by
    intro v;rw[Frame.finish_atR,hio];rfl
  have hdfr: ∀ v,(a.put o.dst v).defers=a.defers:=fun v=>by cases o.dst <;>rfl
  have hdst': ∀ x,o.dst=some x→x<a.tmps.size:=fun x hx=>by rw[s.size];exact hdst x hx
  unfold aoper at ho
  cases hcl:ao.op.isCall
  · rw[hcl] at ho
    simp only[cond] at ho
    split at ho
    · rename_i v' cs' hp
      cases ho
      refine Leads.any hOK fun d=> ?_
      have s:=s.drawnAt d
      obtain ⟨nx,v',w',ρ',h1,h2,h3,h4,h5,h6⟩:=prim_sound s.rel hg s.tr (Nat.le_refl _) (s.rel.dom _ (Nat.le_refl _)) hco hp
      refine ⟨_,w',sg_op_value hio hw hnd h1 h2,.here ⟨_,ρ',rfl,⟨by rw[applyAll_blks];exact h4,?_,by rw[put_size];exact s.size⟩,hdfr _,h5,fun x hx=>h6 x (by omega),by rw[applyAll_blks];exact prim_pres (Nat.le_refl _) (by rw[bget_ge (Nat.le_refl _)];simp) hp⟩⟩
      rw[had]
      exact TR.put (fun p=>(s.tr p).mono h5) hdst' h3
    · cases ho
  · rw[hcl] at ho
    simp only[cond] at ho
    split at ho
    · rename_i c vs hac
      refine Leads.any hOK fun d=> ?_
      have s:=s.drawnAt d
      obtain ⟨vs',g1,g2,g3⟩:=call_sound s.rel hg s.tr hco hac
      obtain ⟨nx,fr0,q1,q2,q3⟩:=hcall K w0 _ ρ m m' c vs vs' v hL ho s.rel hg g1 g3
      have hstep:(stepG P main (running (b.atR a (.inRegion ops (i::rest)::k)) cs) (World.drawnAt w d)).bare= .go (running fr0 (b.atR a (.inRegion ops (i::rest)::k)::cs)) (World.drawnAt w d):=by
        rw[sg_op hio hw hnd]
        have hr:=g2.trans q1
        cases nx <;>simp only[Pushes] at q2
        · subst q2
          simp[stepG.apply,hr,running,Frame.atR]
        · subst q2
          simp[stepG.apply,hr,running,Frame.atR]
      refine ⟨_,_,hstep,(q3 _ cs).mono fun g w' e=> ?_⟩
      obtain ⟨v',ρ',e1,e2,e3,e4⟩:=e
      refine ⟨_,ρ',by rw[e1,hfin],⟨e3,?_,by rw[put_size];exact s.size⟩,hdfr _,e4⟩
      rw[had]
      exact TR.put (fun p=>(s.tr p).mono e4.1) hdst' e2
    · cases ho
theorem ops_sound (hOK: ∀ g w,OK g w) (hL:K.loop=L) (hcall:CallOK P glob main OK L call) {ops:Array Oper} {b:Frame} {k:List Item} {cs:List Frame}:
    ∀ (os:List Oper) (i n0:Nat) (cl:List (List Nat)) (pv:List (Option Pth × List Pth)) (aos:List AOper) (n:Nat) (T T':Tr) (m m':Mem) (a:Act) (w:World) (ρ:Rho),copers P glob nt false ops i n0 cl pv os=some (aos,n)→(∀ j,os[j]? =ops[i+j]?)→
      aops call (cmeth P) aos T m=some (T',m')→St K w0 nt ρ T m.blks a w→GR glob ρ→
      Leads P main OK (OEnd K w0 nt ρ T' m.blks m'.blks a b k cs) (running (b.atR a (.inRegion ops (List.range' i os.length)::k)) cs) w
  | [],i,n0,cl,pv,aos,n,T,T',m,m',a,w,ρ,hc,hi,ho,s,hg=>by
    simp only[copers] at hc
    cases hc
    simp only[aops] at ho
    cases ho
    exact Leads.one hOK (fun d=>sg_region_end) fun d=> .here ⟨a,ρ,rfl,s.drawnAt d,rfl,Ext.refl _ _⟩
  | o ::os,i,n0,cl,pv,aos,n,T,T',m,m',a,w,ρ,hc,hi,ho,s,hg=>by
    have hio:ops[i]? =some o:=by have:=hi 0;simpa using this.symm
    have hi': ∀ j,os[j]? =ops[(i+1)+j]? :=fun j=>by have:=hi (j+1);rw[List.getElem?_cons_succ] at this;rw[this];congr 1;omega
    unfold copers at hc
    simp only[Option.bind_eq_bind,Option.bind_eq_some_iff] at hc
    obtain ⟨g,hgd,dst,hdst,hc⟩:=hc
    simp only[Bool.false_eq_true,if_false,Option.bind_eq_some_iff] at hc
    obtain ⟨⟨rest,n'⟩,hrest,e⟩:=hc
    cases e
    have hd1: ∀ d,o.dst=some d→d<nt:=by
      intro d hd
      unfold cdst at hdst
      rw[hd] at hdst
      simp only at hdst
      split at hdst
      · assumption
      · cases hdst
    have hd2:dst=o.dst.map Pth.ofNat:=by
      unfold cdst at hdst
      cases hd:o.dst with
      |none=>rw[hd] at hdst;cases hdst;rfl
      | some d=>
        rw[hd] at hdst
        simp only at hdst
        split at hdst
        · cases hdst;rfl
        · cases hdst
    rw[List.length_cons,List.range'_succ]
    simp only[aops] at ho
    have hwd:=fun r=>wanted_sound (r:=r) s.tr ops o (g:=g) hgd
    split at ho
    · rename_i hwt
      split at ho
      · rename_i v m1 hop
        refine (oper_sound hOK hL hcall (rest:=List.range' (i+1) os.length) hio (ao:=⟨dst,copB P glob o,g,none,[]⟩) rfl hd1 hd2 hop s hg (hwd _ hwt)).bind fun g w' e=> ?_
        obtain ⟨a1,ρ1,rfl,s1,e2,e3⟩:=e
        exact (ops_sound hOK hL hcall os (i+1) n0 cl pv rest _ _ _ _ _ a1 w' ρ1 hrest hi' ho s1 (hg.mono e3.1)).mono fun g w e=>e.ext e3 e2
      · cases ho
    · rename_i hwt
      have hsk:((ops[i]?).map (Region.wanted · (yielded ops a.tmps))).getD false=false:=by rw[hio];exact hwd _ hwt
      refine Leads.one hOK (fun d=>sg_op_skip hsk) fun d=> ?_
      rw[hio]
      have s1:St K w0 nt ρ (aput T dst .undef) m.blks (a.put o.dst undef) (World.drawnAt w d):=⟨s.rel.drawnAt d,by rw[hd2];exact TR.put s.tr (fun x hx=>by rw[s.size];exact hd1 x hx) VR_undef,by rw[put_size];exact s.size⟩
      refine (ops_sound hOK hL hcall os (i+1) n0 cl pv rest _ _ _ _ _ _ _ ρ hrest hi' ho s1 hg).mono fun g w e=>e.ext (Ext.refl _ _) ?_
      cases o.dst <;>rfl
    · cases ho
end
def CallD (call:CallF):Prop:= ∀ c vs m v m',call c vs m=some (v,m')→m'.dfrs=m.dfrs
theorem acall_dfrs (F:FuncId→Option AFunc) (meth:Meth) {sm:Summ} (hsm:CallD (smF sm)) (n:Nat):CallD (acall F meth sm n):=by
  intro c vs m v m' h
  cases n with
  |zero=>simp[acall] at h
  | succ n=>
    cases c with
    | fn f=>
      simp only[acall] at h
      split at h
      · rename_i hs
        cases h
        exact hsm (.fn f) vs m v m' hs
      split at h
      · cases h
      · cases hb:Nat.ble vs.length (AFunc.ntmps _) <;>rw[hb] at h <;>simp only[cond] at h
        · cases h
        · split at h
          · split at h
            · cases h;rfl
            · cases h
          · split at h
            · cases h;rfl
            · cases h
          · cases h
    | yield l=>
      simp only[acall] at h
      repeat' split at h
      all_goals first
        |(cases h;done)
        |(cases h;rfl)
theorem applyAll_dfrs: ∀ (cs:List Chg) (m:Mem),(m.applyAll cs).dfrs=m.dfrs
  | [],_=>rfl
  |c::cs,m=>by rw[Mem.applyAll,applyAll_dfrs cs];rfl
theorem more_dfrs (m:Mem) (n:Nat):(m.more n).dfrs=m.dfrs:=rfl
theorem aops_dfrs {call:CallF} {meth:Meth} (hc:CallD call): ∀ (os:List AOper) (T T':Tr) (m m':Mem),aops call meth os T m=some (T',m')→m'.dfrs=m.dfrs
  | [],T,T',m,m',h=>by simp only[aops] at h;cases h;rfl
  | o ::os,T,T',m,m',h=>by
    simp only[aops] at h
    split at h
    · split at h
      · rename_i v m1 ho
        refine (aops_dfrs hc os _ _ _ _ h).trans ?_
        unfold aoper at ho
        cases hcl:o.op.isCall <;>rw[hcl] at ho <;>simp only[cond] at ho
        · split at ho
          · cases ho
            exact applyAll_dfrs _ _
          · cases ho
        · split at ho
          · exact hc _ _ _ _ _ ho
          · cases ho
      · cases h
    · exact aops_dfrs hc os _ _ _ _ h
    · cases h
theorem adraw_dfrs {call:CallF} {meth:Meth} (hc:CallD call): ∀ (base i:Nat) (os:List AOper) (recs:List ARec) (T T':Tr) (m m':Mem),adraw call meth base i os recs T m=some (T',m')→m'.dfrs=m.dfrs
  |base,i,[],recs,T,T',m,m',h=>by simp only[adraw] at h;cases h;rfl
  | base, i,o::os,recs,T,T',m,m',h=>by
    simp only[adraw] at h
    split at h
    · cases hcl:o.op.isCall <;>rw[hcl] at h <;>simp only[cond] at h
      · split at h
        · split at h
          · cases h
          · exact (adraw_dfrs hc _ _ os _ _ _ _ _ h).trans (applyAll_dfrs _ _)
        · cases h
      · split at h
        · split at h
          · split at h
            · cases h
            · have:=adraw_dfrs hc _ _ os _ _ _ _ _ h
              exact this
          · cases h
        · cases h
    · exact adraw_dfrs hc _ _ os _ _ _ _ _ h
    · cases h
section
variable {P:Program} {glob:Nat→Option AV} {main:Bool} {OK:Goroutine→World→Prop} {L:ALoop→Loop→Prop} {call:CallF} {K:Kp} {w0:World} {nt:Nat}
def KEnd (lo:Nat) (K:Kp) (w0:World) (nt:Nat) (ρ:Rho) (e:AExit) (T':Tr) (h:Blks) (m':Mem) (b:Frame) (k:List Item) (cs:List Frame) (g:Goroutine) (w:World):Prop:=
  ∃ a' ρ' todo,g=running (b.atR a' todo) cs∧EndAt e k todo∧St K w0 nt ρ' T' m'.blks a' w∧DefR lo ρ' m'.blks m'.dfrs a'.defers∧Ext ρ ρ' h m'.blks
theorem KEnd.ext {lo:Nat} {ρ ρ1:Rho} {e:AExit} {T':Tr} {h h1:Blks} {m':Mem} {b:Frame} {k:List Item} {cs:List Frame} {g:Goroutine} {w:World} (hx:Ext ρ ρ1 h h1) (x:KEnd lo K w0 nt ρ1 e T' h1 m' b k cs g w):KEnd lo K w0 nt ρ e T' h m' b k cs g w:=
  let ⟨a',ρ',t,h1,h2,h3,h4,h5⟩:=x
  ⟨a',ρ',t,h1,h2,h3,h4,hx.trans h5⟩
variable (P glob main OK call K w0 nt) in
def DrawOK:Prop:= ∀ (ops:Array Oper) (aos:List AOper) (n id:Nat) (T T':Tr) (m m':Mem) (a:Act) (w:World) (ρ:Rho) (b:Frame) (k:List Item) (cs:List Frame),
  copers P glob nt true ops 0 0 [] [] ops.toList=some (aos,n)→adraw call (cmeth P) m.blks.length 0 aos [] T (m.more n)=some (T',m')→St K w0 nt ρ T m.blks a w→GR glob ρ→
  Leads P main OK (OEnd K w0 nt ρ T' m.blks m'.blks a b k cs) (running (b.atR a (.code (.region id ops true)::k)) cs) w
variable (P glob main OK call K w0 nt) in
def RangeOK (fuel:Nat) (rd:Bool):Prop:= ∀ (lo:Nat) (f:Operand) (ps:Array Tmp) (asg bd:Code) (ac:ACode) (T T':Tr) (m m':Mem) (e:AExit) (a:Act) (w:World) (ρ:Rho) (b:Frame) (k:List Item) (cs:List Frame),
  ccode P glob nt (.rangeFunc f ps asg bd)=some ac→acode call (cmeth P) fuel rd ac T m=some (e,T',m')→St K w0 nt ρ T m.blks a w→GR glob ρ→DefR lo ρ m.blks m.dfrs a.defers→b.roundOf.isSome=rd→b.fn<P.funcs.size→
  Leads P main OK (KEnd lo K w0 nt ρ e T' m.blks m' b k cs) (running (b.atR a (.code (.rangeFunc f ps asg bd)::k)) cs) w
theorem DefR.ids {lo:Nat} {ρ:Rho} {h:Blks} {ids ids':List Nat} {ds:List Deferred} (d:DefR lo ρ h ids ds) (e:ids'=ids):DefR lo ρ h ids' ds:=e ▸ d
theorem DefR.drawn {lo:Nat} {ρ:Rho} {h:Blks} {ids:List Nat} {ds ds':List Deferred} (d:DefR lo ρ h ids ds) (e:ds'=ds):DefR lo ρ h ids ds':=e ▸ d
theorem code_sound (hOK: ∀ g w,OK g w) (hcd:CallD call) (hL:K.loop=L) (hcall:CallOK P glob main OK L call) (hdraw:DrawOK P glob main OK call K w0 nt) {fuel:Nat} {rd:Bool} (hrange:RangeOK P glob main OK call K w0 nt fuel rd) {lo:Nat}:
    ∀ (c:Code) (ac:ACode) (T T':Tr) (m m':Mem) (e:AExit) (a:Act) (w:World) (ρ:Rho) (b:Frame) (k:List Item) (cs:List Frame),ccode P glob nt c=some ac→acode call (cmeth P) fuel rd ac T m=some (e,T',m')→
      St K w0 nt ρ T m.blks a w→GR glob ρ→DefR lo ρ m.blks m.dfrs a.defers→b.roundOf.isSome=rd→b.fn<P.funcs.size→Leads P main OK (KEnd lo K w0 nt ρ e T' m.blks m' b k cs) (running (b.atR a (.code c::k)) cs) w:=by
  intro c
  induction c with
  | skip=>
    intro ac T T' m m' e a w ρ b k cs hc he s hg hd hb hf
    simp only[ccode] at hc
    cases hc
    simp only[acode] at he
    cases he
    exact Leads.one hOK (fun d=>sg_skip) fun d=> .here ⟨a,ρ,k,rfl,rfl,s.drawnAt d,hd,Ext.refl _ _⟩
  | region id ops draw=>
    intro ac T T' m m' e a w ρ b k cs hc he s hg hd hb hf
    simp only[ccode,Option.bind_eq_bind,Option.bind_eq_some_iff] at hc
    obtain ⟨⟨aos,n⟩,hco,e'⟩:=hc
    cases e'
    simp only[acode] at he
    have fin: ∀ (T1:Tr) (m1:Mem),e= .normal→T1=T'→m1=m'→m1.dfrs=m.dfrs→Leads P main OK (OEnd K w0 nt ρ T1 m.blks m1.blks a b k cs) (running (b.atR a (.code (.region id ops draw)::k)) cs) w→Leads P main OK (KEnd lo K w0 nt ρ e T' m.blks m' b k cs) (running (b.atR a (.code (.region id ops draw)::k)) cs) w:=by
      intro T1 m1 e1 e2 e3 hdf hl
      subst e1 e2 e3
      exact hl.mono fun g w x=>let ⟨a',ρ',h1,h2,h3,h4⟩:=x;⟨a',ρ',k,h1,rfl,h2,((hd.mono h4.1 h4.2.2).drawn h3).ids hdf,h4⟩
    cases draw
    · simp only[cond] at he
      split at he
      · rename_i T1 m1 hops
        cases he
        refine fin _ _ rfl rfl rfl (aops_dfrs hcd _ _ _ _ _ hops) (Leads.one hOK (fun d=>sg_region) fun d=> ?_)
        have hr:List.range ops.size=List.range' 0 ops.toList.length:=by rw[List.range_eq_range'];simp
        rw[hr]
        exact ops_sound hOK hL hcall ops.toList 0 0 [] [] aos n T _ m _ a _ ρ hco (fun j=>by simp) hops (s.drawnAt d) hg
      · cases he
    · simp only[cond] at he
      split at he
      · rename_i T1 m1 hops
        cases he
        exact fin _ _ rfl rfl rfl ((adraw_dfrs hcd _ _ _ _ _ _ _ _ hops).trans (more_dfrs _ _)) (hdraw ops aos n id T _ m _ a w ρ b k cs hco hops s hg)
      · cases he
  | seq x y ihx ihy=>
    intro ac T T' m m' e a w ρ b k cs hc he s hg hd hb hf
    simp only[ccode,Option.bind_eq_bind,Option.bind_eq_some_iff] at hc
    obtain ⟨ax,hx,ay,hy,e'⟩:=hc
    cases e'
    simp only[acode] at he
    refine Leads.one hOK (fun d=>sg_seq) fun d=> ?_
    split at he
    · rename_i T1 m1 h1
      refine (ihx ax T T1 m m1 .normal a _ ρ b (.code y::k) cs hx h1 (s.drawnAt d) hg hd hb hf).bind fun g w' q=> ?_
      obtain ⟨a1,ρ1,todo,rfl,rfl,s1,d1,x1⟩:=q
      exact (ihy ay T1 T' m1 m' e a1 w' ρ1 b k cs hy he s1 (hg.mono x1.1) d1 hb hf).mono fun g w q=>q.ext x1
    · rename_i hne
      cases e with
      |normal=>exact absurd he (by intro h1;exact hne _ _ h1)
      | exit id=>
        refine (ihx ax T T' m m' (.exit id) a _ ρ b (.code y::k) cs hx he (s.drawnAt d) hg hd hb hf).mono fun g w' q=> ?_
        obtain ⟨a1,ρ1,todo,h1,⟨k',e1,e2⟩,h3⟩:=q
        exact ⟨a1,ρ1,todo,h1,⟨k',e1,e2.trans rfl⟩,h3⟩
      | ret=>
        refine (ihx ax T T' m m' .ret a _ ρ b (.code y::k) cs hx he (s.drawnAt d) hg hd hb hf).mono fun g w' q=> ?_
        obtain ⟨a1,ρ1,todo,h1,h2,h3⟩:=q
        exact ⟨a1,ρ1,todo,h1,h2,h3⟩
  | cond x c1 c2 ih1 ih2=>
    intro ac T T' m m' e a w ρ b k cs hc he s hg hd hb hf
    simp only[ccode,Option.bind_eq_bind,Option.bind_eq_some_iff] at hc
    obtain ⟨ax,hx,a1,h1,a2,h2,e'⟩:=hc
    cases e'
    simp only[acode] at he
    have hv:=VR_opnd hg s.tr hx
    split at he
    · rename_i ev
      rw[ev] at hv
      exact Leads.one hOK (fun d=>sg_cond (t:=true) hv) fun d=>ih1 a1 T T' m m' e a _ ρ b k cs h1 he (s.drawnAt d) hg hd hb hf
    · rename_i ev
      rw[ev] at hv
      exact Leads.one hOK (fun d=>sg_cond (t:=false) hv) fun d=>ih2 a2 T T' m m' e a _ ρ b k cs h2 he (s.drawnAt d) hg hd hb hf
    · cases he
  | block id x ih=>
    intro ac T T' m m' e a w ρ b k cs hc he s hg hd hb hf
    simp only[ccode,Option.bind_eq_bind,Option.bind_eq_some_iff] at hc
    obtain ⟨ax,hx,e'⟩:=hc
    cases e'
    simp only[acode] at he
    refine Leads.one hOK (fun d=>sg_block) fun d=> ?_
    split at he
    · rename_i id' T1 m1 h1
      refine (ih ax T T1 m m1 (.exit id') a _ ρ b (.inBlock id::k) cs hx h1 (s.drawnAt d) hg hd hb hf).bind fun g w' q=> ?_
      obtain ⟨a1,ρ1,todo,rfl,⟨k',rfl,e2⟩,s1,d1,x1⟩:=q
      cases hq:Nat.beq id' id
      · rw[hq] at he
        simp only[cond] at he
        cases he
        have hne:(id==id')=false:=by
          rw[beq_eq_false_iff_ne]
          intro e3
          subst e3
          rw[Nat.beq_refl] at hq
          cases hq
        exact .here ⟨a1,ρ1,_,rfl,⟨k',rfl,by rw[e2];simp[exitTo,hne]⟩,s1,d1,x1⟩
      · rw[hq] at he
        simp only[cond] at he
        cases he
        have heq:id'=id:=Nat.eq_of_beq_eq_true hq
        subst heq
        have:exitTo id' k'=some k:=by rw[e2];simp[exitTo]
        exact Leads.one hOK (fun d=>sg_exit this) fun d=> .here ⟨a1,ρ1,k,rfl,rfl,s1.drawnAt d,d1,x1⟩
    · rename_i hne
      cases e with
      | normal=>
        refine (ih ax T T' m m' .normal a _ ρ b (.inBlock id::k) cs hx he (s.drawnAt d) hg hd hb hf).bind fun g w' q=> ?_
        obtain ⟨a1,ρ1,todo,rfl,rfl,s1,d1,x1⟩:=q
        exact Leads.one hOK (fun d=>sg_inBlock) fun d=> .here ⟨a1,ρ1,k,rfl,rfl,s1.drawnAt d,d1,x1⟩
      |exit id'=>exact absurd he (by intro h1;exact hne _ _ _ h1)
      | ret=>
        refine (ih ax T T' m m' .ret a _ ρ b (.inBlock id::k) cs hx he (s.drawnAt d) hg hd hb hf).mono fun g w' q=> ?_
        obtain ⟨a1,ρ1,todo,h1,h2,h3⟩:=q
        exact ⟨a1,ρ1,todo,h1,h2,h3⟩
  | loop x ih=>
    intro ac T T' m m' e a w ρ b k cs hc he s hg hd hb hf
    simp only[ccode,Option.bind_eq_bind,Option.bind_eq_some_iff] at hc
    obtain ⟨ax,hx,e'⟩:=hc
    cases e'
    simp only[acode] at he
    have go : ∀ (n:Nat) (T:Tr) (m:Mem) (a:Act) (w:World) (ρ:Rho),aloop (acode call (cmeth P) fuel rd ax) n T m=some (e,T',m')→St K w0 nt ρ T m.blks a w→GR glob ρ→DefR lo ρ m.blks m.dfrs a.defers→
        Leads P main OK (KEnd lo K w0 nt ρ e T' m.blks m' b k cs) (running (b.atR a (.code x:: .inLoop x::k)) cs) w:=by
      intro n
      induction n with
      |zero=>intro T m a w ρ he;simp[aloop] at he
      | succ n ihn=>
        intro T m a w ρ he s hg hd
        simp only[aloop] at he
        split at he
        · rename_i T1 m1 h1
          refine (ih ax T T1 m m1 .normal a _ ρ b (.inLoop x::k) cs hx h1 s hg hd hb hf).bind fun g w' q=> ?_
          obtain ⟨a1,ρ1,todo,rfl,rfl,s1,d1,x1⟩:=q
          exact Leads.one hOK (fun d=>sg_inLoop) fun d=>(ihn T1 m1 a1 _ ρ1 he (s1.drawnAt d) (hg.mono x1.1) d1).mono fun g w q=>q.ext x1
        · rename_i hne
          cases e with
          |normal=>exact absurd he (by intro h1;exact hne _ _ h1)
          | exit id=>
            refine (ih ax T T' m m' (.exit id) a _ ρ b (.inLoop x::k) cs hx he s hg hd hb hf).mono fun g w' q=> ?_
            obtain ⟨a1,ρ1,todo,h1,⟨k',e1,e2⟩,h3⟩:=q
            exact ⟨a1,ρ1,todo,h1,⟨k',e1,e2.trans rfl⟩,h3⟩
          | ret=>
            refine (ih ax T T' m m' .ret a _ ρ b (.inLoop x::k) cs hx he s hg hd hb hf).mono fun g w' q=> ?_
            obtain ⟨a1,ρ1,todo,h1,h2,h3⟩:=q
            exact ⟨a1,ρ1,todo,h1,h2,h3⟩
    exact Leads.one hOK (fun d=>sg_loop) fun d=>go fuel T m a _ ρ he (s.drawnAt d) hg hd
  | rangeFunc f ps x y _ _=>
    intro ac T T' m m' e a w ρ b k cs hc he s hg hd hb hf
    exact hrange lo f ps x y ac T T' m m' e a w ρ b k cs hc he s hg hd hb hf
  | exit id=>
    intro ac T T' m m' e a w ρ b k cs hc he s hg hd hb hf
    simp only[ccode] at hc
    cases hc
    simp only[acode] at he
    cases he
    exact .here ⟨a,ρ,_,rfl,⟨k,rfl,rfl⟩,s,hd,Ext.refl _ _⟩
  | ret=>
    intro ac T T' m m' e a w ρ b k cs hc he s hg hd hb hf
    simp only[ccode] at hc
    cases hc
    simp only[acode] at he
    cases he
    exact .here ⟨a,ρ,_,rfl,⟨k,rfl⟩,s,hd,Ext.refl _ _⟩
  | scope x ih=>
    intro ac T T' m m' e a w ρ b k cs hc he s hg hd hb hf
    simp only[ccode] at hc
    refine Leads.one hOK (fun d=>sg_scope) fun d=> ?_
    refine (ih ac T T' m m' e a _ ρ b (.inScope x::k) cs hc he (s.drawnAt d) hg hd hb hf).bind fun g w' q=> ?_
    obtain ⟨a1,ρ1,todo,rfl,he1,s1,d1,x1⟩:=q
    cases e with
    | normal=>
      have he1:todo= .inScope x::k:=he1
      subst he1
      exact Leads.one hOK (fun d=>sg_inScope) fun d=> .here ⟨a1,ρ1,k,rfl,rfl,s1.drawnAt d,d1,x1⟩
    | exit id=>
      obtain ⟨k',e1,e2⟩:=he1
      exact .here ⟨a1,ρ1,todo,rfl,⟨k',e1,e2.trans rfl⟩,s1,d1,x1⟩
    | ret=>
      exact .here ⟨a1,ρ1,todo,rfl,he1,s1,d1,x1⟩
  | label l=>
    intro ac T T' m m' e a w ρ b k cs hc he s hg hd hb hf
    simp only[ccode] at hc
    cases hc
    simp only[acode] at he
    cases he
    exact Leads.one hOK (fun d=>sg_label) fun d=> .here ⟨a,ρ,k,rfl,rfl,s.drawnAt d,hd,Ext.refl _ _⟩
  | goto l=>
    intro ac T T' m m' e a w ρ b k cs hc he
    simp only[ccode] at hc
    cases hc
    simp[acode] at he
  | refuse why=>
    intro ac T T' m m' e a w ρ b k cs hc he
    simp only[ccode] at hc
    cases hc
    simp[acode] at he
end
section
variable {P:Program} {glob:Nat→Option AV} {main:Bool} {OK:Goroutine→World→Prop} {L:ALoop→Loop→Prop} {call:CallF} {K:Kp} {w0 w:World} {nt:Nat} {ρ:Rho} {T:Tr} {a:Act}
theorem ares1_sound {h:Blks} (R:Rel K w0 ρ h w) (ht:TR ρ T a) {r:ResultVar} (hk:cresOK P r=true) {v:AV} (hv:ares1 (bget h) T (cres P r)=some v):
    ∃ v',((match r with
      | .tmp t=>pure (a.tmps.getD t undef)
      | .cell x t=>do loadVar t (←asAddr (a.tmps.getD x undef)):Sem Value)).run P w= .ok v' w∧VR ρ v v':=by
  cases r with
  | tmp t=>
    simp only[cres,ares1] at hv
    cases hv
    exact ⟨_,rfl,ht.get t⟩
  | cell x t=>
    simp only[cres,ares1] at hv
    split at hv
    · rename_i v2 cs' hl
      cases hv
      simp only[aprim,aev] at hl
      have hx:=ht.get x
      split at hl
      · rename_i b j f' e2
        rw[e2] at hx
        split at hl
        · rename_i own esz es hb
          split at hl
          · rename_i cs2 hrow
            obtain ⟨p,hp,ey⟩:=hx
            obtain ⟨l1,l2⟩:=run_loadAt (P:=P) R hk hb hp hrow
            simp only[ey,asAddr,Sem.run_bind,Sem.run_pure,Result.andThen_ok]
            split at hl
            · rename_i hagg
              cases hl
              obtain ⟨r',g1,g2⟩:=l1 hagg
              exact ⟨r',g1,g2⟩
            · rename_i hagg
              split at hl
              · cases hl
                obtain ⟨r',g1,g2⟩:=l2 (by simpa using hagg) _ rfl
                exact ⟨r',g1,g2⟩
              · cases hl
          · cases hl
        · cases hl
      · cases hl
    · cases hv
theorem results_sound {h:Blks} (R:Rel K w0 ρ h w) (ht:TR ρ T a) {fn:Func} (hk:fn.results.all (cresOK P)=true) {v:AV} (hv:ares (bget h) T (fn.results.toList.map (cres P))=some v):
    ∃ v',(results fn a.tmps).run P w= .ok v' w∧VR ρ v v':=by
  have key: ∀ (rs:List ResultVar) (vs:List AV),(∀ r∈rs,cresOK P r=true)→aresL (bget h) T (rs.map (cres P))=some vs→
      ∃ vs',(rs.mapM fun
        | .tmp t=>pure (a.tmps.getD t undef)
        | .cell x t=>do loadVar t (←asAddr (a.tmps.getD x undef)):Sem (List Value)).run P w= .ok vs' w∧VRs ρ vs vs':=by
    intro rs
    induction rs with
    |nil=>intro vs _ h;simp only[List.map_nil,aresL] at h;cases h;exact ⟨[],by simp,by simp[VRs]⟩
    | cons r rs ih=>
      intro vs hk h
      simp only[List.map_cons,aresL] at h
      split at h
      · rename_i x xs h1 h2
        cases h
        obtain ⟨v',g1,g2⟩:=ares1_sound (P:=P) R ht (hk r (by simp)) h1
        obtain ⟨vs',g3,g4⟩:=ih xs (fun r hr=>hk r (by simp[hr])) h2
        refine ⟨v'::vs',?_,v',vs',rfl,g2,g4⟩
        rw[List.mapM_cons]
        simp only[Sem.run_bind,g1,Result.andThen_ok,g3,Sem.run_pure]
      · cases h
  unfold ares at hv
  have hk': ∀ r∈fn.results.toList,cresOK P r=true:=fun r hr=>Array.all_eq_true_iff_forall_mem.1 hk r (Array.mem_toList_iff.1 hr)
  have run: ∀ (vs:List AV),aresL (bget h) T (fn.results.toList.map (cres P))=some vs→ ∃ vs':List Value,VRs ρ vs vs'∧(results fn a.tmps).run P w= .ok (if h:vs'.toArray.size=1 then vs'.toArray[0] else .tuple vs'.toArray) w:=by
    intro vs hvs
    obtain ⟨vs',g1,g2⟩:=key _ vs hk' hvs
    refine ⟨vs',g2,?_⟩
    unfold results
    rw[Array.mapM_eq_mapM_toList]
    simp only[Sem.run_bind,Sem.run_map,Sem.run_pure]
    refine (congrArg (fun r:Result (List Value)=>(r.andThen fun a w'=>Result.ok a.toArray w').andThen fun a w'=>Result.ok (if h:a.size=1 then a[0] else Value.tuple a) w') (show _=Result.ok vs' w from ?_)).trans rfl
    exact g1
  split at hv
  · rename_i x hx
    cases hv
    obtain ⟨vs',g1,g2⟩:=run _ hx
    obtain ⟨y,ys,rfl,h1,h2⟩:=g1
    simp only[VRs] at h2
    subst h2
    exact ⟨y,by rw[g2];rfl,h1⟩
  · rename_i vs hne hx
    cases hv
    obtain ⟨vs',g1,g2⟩:=run _ hx
    refine ⟨.tuple vs'.toArray,?_,⟨vs'.toArray,rfl,by simpa using g1⟩⟩
    rw[g2,dif_neg]
    have hl:=g1.length
    intro e
    simp at e
    rw[e] at hl
    match vs,hl,hne with
    | [x],_,hne=>exact hne x rfl
  · cases hv
end
def kills (h:Blks):List Nat→Blks
  | []=>h
  |b::bs=>kills (bput h b none) bs
theorem killAll_blks: ∀ (bs:List Nat) (m:Mem),(m.killAll bs).blks=kills m.blks bs
  | [],_=>rfl
  |b::bs,m=>by rw[Mem.killAll,killAll_blks bs];rfl
section
variable {P:Program} {glob:Nat→Option AV} {main:Bool} {OK:Goroutine→World→Prop} {Q:Goroutine→World→Prop} {K:Kp} {w0:World} {nt:Nat} {ρ:Rho}
theorem Rel.take {h:Blks} {w:World} (R:Rel K w0 ρ h w) {x:Nat} {p:Pl} (hx:bget h x=some .dfr) (hp:ρ x=some p):
    (Instr.takeDeferred p.cb).run P w= .ok [] {w with heap:=w.heap.setIfInBounds p.cb (.deferred none)}∧Rel K w0 ρ (bput h x none) {w with heap:=w.heap.setIfInBounds p.cb (.deferred none)}:=by
  obtain ⟨q,hq,hB⟩:=R.blk x _ hx
  have e:q=p:=Option.some.inj (hq.symm.trans hp)
  subst e
  obtain ⟨hK,hh⟩:=hB
  have hlt:=bget_lt hx
  have hs:=MapKept.heap_set (o':= .deferred none) hh
  refine ⟨by simp[Instr.takeDeferred,getObj,setObj,Sem.run,hh],?_⟩
  have Rk:=R.kill hlt
  refine Rk.world ⟨R.below.os,R.below.tape,R.below.output,by simpa using R.below.size,R.below.lt,fun k hk=>(hs.2 k (fun e=>hK (e ▸ hk))).trans (R.below.block k hk)⟩ (by simp) fun c y p' hy hp'=> ?_
  rw[bget_bput (Nat.le_of_lt hlt)] at hy
  split at hy
  · cases hy
  · rename_i hne
    exact hs.2 _ (fun e=>R.sep x c _ y q p' hx hy hq hp' rfl (fun e2=>hne e2.symm) e.symm)
theorem unwind_sound {lo:Nat} (hOK: ∀ g w,OK g w) {b:Frame} {tmps:Array Value} {todo:List Item} {cs:List Frame}: ∀ (ids:List Nat) (ds:List Deferred) (h:Blks) (w:World),Rel K w0 ρ h w→DefR lo ρ h ids ds→
    (∀ w',Rel K w0 ρ (kills h ids) w'→Leads P main OK Q (running {b.atR ⟨tmps,[]⟩ todo with mode:= .returning} cs) w')→Leads P main OK Q (running {b.atR ⟨tmps,ds⟩ todo with mode:= .returning} cs) w
  | [],ds,h,w,R,D,hq=>by
    have:ds=[]:=List.eq_nil_of_length_eq_zero D.2.2.1.symm
    subst this
    exact hq w R
  |x::ids,[],h,w,R,D,hq=>by have:=D.2.2.1;simp at this
  | x ::ids,d::ds,h,w,R,D,hq=>by
    obtain ⟨h1,p,hp,rfl⟩:=D.2.2.2 0 x d rfl rfl
    refine Leads.any hOK fun n=> ?_
    obtain ⟨t1,t2⟩:=(R.drawnAt n).take (P:=P) h1 hp
    refine ⟨running {b.atR ⟨tmps,ds⟩ todo with mode:= .returning} cs,_,?_,unwind_sound (lo:=lo) hOK ids ds _ _ t2 ?_ hq⟩
    · simp[running,stepG,unwind,Frame.atR,Sem.runT_eq,t1]
    · have hnd:=D.2.1
      rw[List.nodup_cons] at hnd
      refine ⟨⟨by rw[length_bput'];have:=D.1.1;omega,fun y hy=>D.1.2 y (by simp[hy])⟩,hnd.2,by have:=D.2.2.1;simpa using this,fun i y d hy hd=> ?_⟩
      obtain ⟨g1,g2⟩:=D.2.2.2 (i+1) y d (by simpa using hy) (by simpa using hd)
      refine ⟨?_,g2⟩
      rw[bget_bput (Nat.le_of_lt (bget_lt h1)),if_neg (fun e=>hnd.1 (by rw[←e];exact List.mem_of_getElem? hy))]
      exact g1
theorem return_sound (hOK: ∀ g w,OK g w) {b:Frame} {tmps:Array Value} {todo:List Item} {c:Frame} {cs:List Frame} {fn:Func} {v:Value} {w:World} (hf:P.funcs[b.fn]? =some fn) (hk:b.kind= .normal)
    (hr: ∀ n,(results fn tmps).run P (World.drawnAt w n)= .ok v (World.drawnAt w n)) (hq: ∀ n,Q (running (c.finish v) cs) (World.drawnAt w n)):
    Leads P main OK Q (running {b.atR ⟨tmps,[]⟩ todo with mode:= .returning} (c::cs)) w:=
  Leads.any hOK fun n=>⟨running (c.finish v) cs,World.drawnAt w n,by simp[running,stepG,unwind,doReturn,Frame.atR,hf,hk,Sem.runT_eq,hr],.here (hq n)⟩
theorem kills_pres {lo:Nat}: ∀ (ids:List Nat) {h:Blks},(∀ x∈ids,x<h.length)→(∀ x∈ids,lo≤x)→h.length≤(kills h ids).length∧ ∀ x,x<lo→bget (kills h ids) x=bget h x
  | [],h,_,_=>⟨Nat.le_refl _,fun _ _=>rfl⟩
  | x::ids,h,h1,h2=>by
    have hx:=h1 x (by simp)
    have hl:=length_bput (h:=h) (x:=none) (Nat.le_of_lt hx)
    obtain ⟨g1,g2⟩:=kills_pres ids (h:=bput h x none) (fun y hy=>by have:=h1 y (by simp[hy]);omega) (fun y hy=>h2 y (by simp[hy]))
    refine ⟨by rw[kills];omega,fun y hy=> ?_⟩
    rw[kills,g2 y hy,bget_bput (Nat.le_of_lt hx),if_neg (by have:=h2 x (by simp);omega)]
def FOK (P:Program) (glob:Nat→Option AV) (F:FuncId→Option AFunc):Prop:= ∀ f af,F f=some af→callName P f=true∧ ∃ fn,P.funcs[f]? =some fn∧cfunc P glob fn=some af
theorem fn_sound {L:ALoop→Loop→Prop} {F:FuncId→Option AFunc} {sm:Summ} (hsd:CallD (smF sm)) (hsm:CallOK P glob main OK L (smF sm)) (hOK: ∀ g w,OK g w) (hF:FOK P glob F) {n:Nat} (hcall:CallOK P glob main OK L (acall F (cmeth P) sm n)) (hdraw: ∀ nt,DrawOK P glob main OK (acall F (cmeth P) sm n) K w0 nt)
    (hrange: ∀ nt,RangeOK P glob main OK (acall F (cmeth P) sm n) K w0 nt n false) (hL:K.loop=L) {w:World} {m m':Mem} {f:FuncId} {vs:List AV} {vs':Array Value} {v:AV} (hc:acall F (cmeth P) sm (n+1) (.fn f) vs m=some (v,m')) (R:Rel K w0 ρ m.blks w) (hg:GR glob ρ) (hvs:VRs ρ vs vs'.toList):
    ∃ nx fr0,(inv ρ (.fn f) vs').run P w= .ok nx w∧Pushes P nx fr0∧ ∀ fr cs,Leads P main OK (CEnd K w0 ρ m.blks m'.blks v fr cs) (running fr0 (fr::cs)) w:=by
  simp only[acall] at hc
  split at hc
  · rename_i hs
    cases hc
    exact hsm K w0 w ρ m m' (.fn f) vs vs' v hL hs R hg hvs (fun l e=>by cases e)
  split at hc
  · cases hc
  · rename_i af haf
    obtain ⟨hname,fn,hfn,hcf⟩:=hF f af haf
    simp only[cfunc,Option.bind_eq_bind,Option.bind_eq_some_iff] at hcf
    obtain ⟨body,hbody,hcf⟩:=hcf
    split at hcf
    · cases hcf
    · rename_i hres
      simp only[Option.pure_def,Option.bind_eq_some_iff] at hcf
      obtain ⟨abody,hcode,e⟩:=hcf
      cases e
      simp only at hc
      cases hle:Nat.ble vs.length fn.ntmps <;>rw[hle] at hc <;>simp only[cond] at hc
      · cases hc
      · have hle':vs.length≤fn.ntmps:=Nat.le_of_ble_eq_true hle
        have hl:=hvs.length
        simp at hl
        have hbs:fn.body.isSome=true:=by rw[hbody];rfl
        refine ⟨.enter f vs',Frame.enter P f vs' .normal,?_,rfl,fun fr cs=> ?_⟩
        · have hnn:(fn.name== "runtime.NumGoroutine")=false:=by
            unfold callName at hname
            rw[hfn] at hname
            simpa using (Bool.and_eq_true_iff.1 hname).2
          simp only[inv,callFunc,Sem.run_bind,run_program,Result.andThen_ok,hfn,hnn,Bool.false_eq_true,if_false,hbody,Option.isNone_some,Sem.run_pure]
        · have hen:Frame.enter P f vs' .normal=(Frame.enter P f vs' .normal).atR ⟨vs'++Array.replicate (fn.ntmps - vs'.size) undef,[]⟩ [.code body]:=by
            simp[Frame.enter,Frame.atR,hfn,hbody]
          have hst:St K w0 fn.ntmps ρ (tputs vs .z .e) m.blks ⟨vs'++Array.replicate (fn.ntmps - vs'.size) undef,[]⟩ w:=⟨R,TR_enter hvs,by simp;omega⟩
          have hD:DefR m.blks.length ρ m.blks [] []:=⟨⟨Nat.le_refl _,by simp⟩,List.nodup_nil,rfl,fun i b d hb=>by simp at hb⟩
          have fin: ∀ (e:AExit) (T':Tr) (m1:Mem),acode (acall F (cmeth P) sm n) (cmeth P) n false abody (tputs vs .z .e) {m with dfrs:=[]}=some (e,T',m1)→(e= .normal∨e= .ret)→ ∀ v1,ares (bget (m1.killAll m1.dfrs).blks) T' (fn.results.toList.map (cres P))=some v1→
              Leads P main OK (CEnd K w0 ρ m.blks (m1.killAll m1.dfrs).blks v1 fr cs) (running (Frame.enter P f vs' .normal) (fr::cs)) w:=by
            intro e T' m1 he hend v1 hv1
            rw[hen]
            refine (code_sound hOK (acall_dfrs F (cmeth P) hsd n) hL hcall (hdraw _) (hrange _) body abody _ T' {m with dfrs:=[]} m1 e _ w ρ _ [] (fr::cs) hcode he hst hg hD rfl (Array.getElem?_eq_some_iff.1 hfn).1).bind fun g w1 q=> ?_
            obtain ⟨a1,ρ1,todo,rfl,hea,s1,d1,x1⟩:=q
            have step: ∀ d,(stepG P main (running ((Frame.enter P f vs' .normal).atR a1 todo) (fr::cs)) (World.drawnAt w1 d)).bare= .go (running {(Frame.enter P f vs' .normal).atR a1 todo with mode:= .returning} (fr::cs)) (World.drawnAt w1 d):=by
              intro d
              rcases hend with rfl |rfl
              · have:todo=[]:=hea
                subst this
                exact sg_end rfl
              · obtain ⟨k',rfl⟩:=hea
                exact sg_ret rfl
            refine Leads.one hOK step fun d=> ?_
            refine unwind_sound hOK m1.dfrs a1.defers m1.blks _ (s1.rel.drawnAt d) d1 fun w2 R2=> ?_
            rw[killAll_blks] at hv1 ⊢
            obtain ⟨v',g1,g2⟩:=results_sound (P:=P) (a:=⟨a1.tmps,[]⟩) R2 s1.tr (fn:=fn) (by simpa using hres) hv1
            have hr: ∀ d,∃ v',(results fn a1.tmps).run P (World.drawnAt w2 d)= .ok v' (World.drawnAt w2 d)∧VR ρ1 v1 v':=fun d=>results_sound (P:=P) (a:=⟨a1.tmps,[]⟩) (R2.drawnAt d) s1.tr (fn:=fn) (by simpa using hres) hv1
            refine Leads.any hOK fun d=> ?_
            obtain ⟨v',g1,g2⟩:=hr d
            have hids: ∀ x∈m1.dfrs,x<m1.blks.length:=fun x hx=>by
              obtain ⟨i,hi⟩:=List.getElem?_of_mem hx
              have hlt:i<a1.defers.length:=by rw[←d1.2.2.1];exact (List.getElem?_eq_some_iff.1 hi).1
              exact bget_lt (d1.2.2.2 i x _ hi (List.getElem?_eq_getElem hlt)).1
            obtain ⟨k1,k2⟩:=kills_pres (lo:=m.blks.length) m1.dfrs hids d1.1.2
            refine ⟨running (fr.finish v') cs,World.drawnAt w2 d,?_,.here ⟨v',ρ1,rfl,g2,R2.drawnAt d,x1.1,x1.2.1,Nat.le_trans x1.2.2.1 k1,fun x hx=> ?_⟩⟩
            · have hfe:(Frame.enter P f vs' .normal).fn=f:=rfl
              have hke:(Frame.enter P f vs' .normal).kind= .normal:=rfl
              simp[running,stepG,unwind,doReturn,Frame.atR,hfe,hke,hfn,Sem.runT_eq,g1]
            · rw[k2 x (bget_lt hx)]
              exact x1.2.2.2 x hx
          split at hc
          · rename_i T' m1 he
            split at hc
            · rename_i v1 hv1
              cases hc
              exact fin .normal T' m1 he (.inl rfl) _ hv1
            · cases hc
          · rename_i T' m1 he
            split at hc
            · rename_i v1 hv1
              cases hc
              exact fin .ret T' m1 he (.inr rfl) _ hv1
            · cases hc
          · cases hc
end
def jumpOf:AExit→Option Code
  | .normal=>none
  | .exit id=>some (.exit id)
  | .ret=>some .ret
def stateR:LState→LoopState→Prop
  | .ready,.ready=>True
  | .busy,.busy=>True
  | .done,.done=>True
  |_,_=>False
structure LoopR (P:Program) (glob:Nat→Option AV) (l:ALoop) (r:Loop):Prop where
  params:r.params.toList.map Pth.ofNat=l.params
  lt: ∀ t∈r.params.toList,t<r.tmps.size
  assign:ccode P glob r.tmps.size r.assign=some l.assign
  body:ccode P glob r.tmps.size r.body=some l.body
  fn:r.fn<P.funcs.size
  state:stateR l.state r.state
  pending:r.pending=l.pending.bind jumpOf
section
variable {P:Program} {main:Bool} {b:Frame} {a:Act} {k:List Item} {cs:List Frame} {w:World} {c:Frame}
theorem sg_beginRound {l:Nat} {w':World} (hb:b.roundOf=some l) (hr:(Instr.beginRound l).run P w= .ok () w'):(stepG P main (running (b.atR a (.beginRound::k)) cs) w).bare= .go (running (b.atR a k) cs) w':=by
  simp[running,stepG,stepG.exec,stepG.apply,Frame.atR,hb,Sem.runT_eq,hr,Result.andThen,Frame.finish]
theorem sg_round_end {l:Nat} {v:Value} {w':World} (hb:b.roundOf=some l) (hk:b.kind= .normal) (hr:(Instr.endRound l none).run P w= .ok v w'):(stepG P main (running (b.atR a []) (c::cs)) w).bare= .go (running (c.finish v) cs) w':=by
  simp[running,stepG,stepG.exec,Frame.atR,hb,hk,Sem.runT_eq,hr,doReturn]
theorem sg_round_ret {l:Nat} {v:Value} {w':World} (hb:b.roundOf=some l) (hk:b.kind= .normal) (hr:(Instr.endRound l (some .ret)).run P w= .ok v w'):(stepG P main (running (b.atR a (.code .ret::k)) (c::cs)) w).bare= .go (running (c.finish v) cs) w':=by
  simp[running,stepG,stepG.exec,Frame.atR,hb,hk,Sem.runT_eq,hr,doReturn]
theorem sg_round_exit {l id:Nat} {v:Value} {w':World} (hb:b.roundOf=some l) (hk:b.kind= .normal) (hx:exitTo id k=none) (hr:(Instr.endRound l (some (.exit id))).run P w= .ok v w'):(stepG P main (running (b.atR a (.code (.exit id)::k)) (c::cs)) w).bare= .go (running (c.finish v) cs) w':=by
  simp[running,stepG,stepG.exec,Frame.atR,hb,hk,hx,Sem.runT_eq,hr,doReturn]
theorem sg_endRangeFunc {l:Nat} {j:Option Code} {w':World} (hr:(Instr.endLoop l).run P w= .ok j w'):(stepG P main (running (b.atR a (.endRangeFunc l::k)) cs) w).bare= .go (running (b.atR a ((j.map Item.code).toList++k)) cs) w':=by
  simp[running,stepG,stepG.exec,Frame.atR,Sem.runT_eq,hr]
end
section
variable {ρ:Rho}
theorem roundTmps_sound: ∀ (ps:List Tmp) (args:List AV) (vs:List Value) (T:Tr) (tmps:Array Value),TRt ρ T tmps→(∀ t∈ps,t<tmps.size)→VRs ρ args vs→args.length=ps.length→
    TRt ρ (roundTmps T (ps.map Pth.ofNat) args) ((ps.zip vs).foldl (fun tmps (x:Tmp × Value)=>tmps.setIfInBounds x.1 x.2) tmps)∧((ps.zip vs).foldl (fun tmps (x:Tmp × Value)=>tmps.setIfInBounds x.1 x.2) tmps).size=tmps.size
  | [],args,vs,T,tmps,h,_,hv,hl=>by
    have:args=[]:=List.eq_nil_of_length_eq_zero hl
    subst this
    exact ⟨h,rfl⟩
  |p::ps,[],vs,T,tmps,h,_,hv,hl=>by simp at hl
  | p::ps,x::args,vs,T,tmps,h,hlt,hv,hl=>by
    obtain ⟨v,vs',rfl,h1,h2⟩:=hv
    have:=roundTmps_sound ps args vs' (tset x (.ofNat p) T) (tmps.setIfInBounds p v) (h.put (hlt p (by simp)) h1) (fun t ht=>by have:=hlt t (by simp[ht]);simpa using this) h2 (by simpa using hl)
    simpa[roundTmps] using this
end
section
variable {P:Program} {glob:Nat→Option AV} {main:Bool} {OK:Goroutine→World→Prop} {K:Kp} {w0 w:World} {ρ:Rho} {h:Blks}
theorem Rel.loop_set (R:Rel K w0 ρ h w) {x:Nat} {p:Pl} {l:ALoop} (hx:bget h x=some (.loop l)) (hp:ρ x=some p):
    ∃ r,w.heap[p.cb]? =some (.loop r)∧K.loop l r∧TRt ρ l.tmps r.tmps∧(∀ l' r',K.loop l' r'→TRt ρ l'.tmps r'.tmps→Rel K w0 ρ (bput h x (some (.loop l'))) (w.putObj p.cb (.loop r')))∧
      ∀ o,Rel K w0 ρ (bput h x none) (w.putObj p.cb o):=by
  obtain ⟨q,hq,hB⟩:=R.blk x _ hx
  have e:q=p:=Option.some.inj (hq.symm.trans hp)
  subst e
  obtain ⟨hK,r,hh,hl,ht⟩:=hB
  have hlt:=bget_lt hx
  refine ⟨r,hh,hl,ht,fun l' r' h1 h2=> ?_,fun o=> ?_⟩
  · have hs:=MapKept.heap_set (o':= .loop r') hh
    exact R.set hx hp rfl (by simp[World.putObj]) rfl rfl rfl (fun k hk=>hs.2 k hk) ⟨hK,r',hs.1,h1,h2⟩
  · have hs:=MapKept.heap_set (o':=o) hh
    have Rk:=R.kill hlt
    refine Rk.world ⟨R.below.os,R.below.tape,R.below.output,by simpa[World.putObj] using R.below.size,R.below.lt,fun k hk=>(hs.2 k (fun e=>hK (e ▸ hk))).trans (R.below.block k hk)⟩ (by simp[World.putObj]) fun c y p' hy hp'=> ?_
    rw[bget_bput (Nat.le_of_lt hlt)] at hy
    split at hy
    · cases hy
    · rename_i hne
      exact hs.2 _ (fun e=>R.sep x c _ y q p' hx hy hq hp' rfl (fun e2=>hne e2.symm) e.symm)
theorem putObj_drawn (w:World) (d r:Nat) (o:Obj):(World.drawnAt w d).putObj r o=World.drawnAt (w.putObj r o) d:=rfl
theorem yield_sound {F:FuncId→Option AFunc} {sm:Summ} (hsd:CallD (smF sm)) (hOK: ∀ g w,OK g w) {n:Nat} (hcall:CallOK P glob main OK (LoopR P glob) (acall F (cmeth P) sm n)) (hdraw: ∀ nt,DrawOK P glob main OK (acall F (cmeth P) sm n) K w0 nt)
    (hrange: ∀ nt,RangeOK P glob main OK (acall F (cmeth P) sm n) K w0 nt n true) (hL:K.loop=LoopR P glob) {m m':Mem} {l:Nat} {vs:List AV} {vs':Array Value} {v:AV} (hc:acall F (cmeth P) sm (n+1) (.yield l) vs m=some (v,m')) (R:Rel K w0 ρ m.blks w) (hg:GR glob ρ) (hvs:VRs ρ vs vs'.toList)
    {p:Pl} (hp:ρ l=some p):
    ∃ nx fr0,(inv ρ (.yield l) vs').run P w= .ok nx w∧Pushes P nx fr0∧ ∀ fr cs,Leads P main OK (CEnd K w0 ρ m.blks m'.blks v fr cs) (running fr0 (fr::cs)) w:=by
  simp only[acall] at hc
  split at hc
  · rename_i r hb
    split at hc
    · rename_i hst
      split at hc
      · cases hc
      · rename_i hlen
        have hlen:vs.length=r.params.length:=Classical.byContradiction fun e=>hlen e
        split at hc
        · rename_i T1 m1 he1
          split at hc
          · rename_i r1 hb1
            split at hc
            · rename_i hst1
              split at hc
              · rename_i e T2 m2 he2
                split at hc
                · rename_i r2 hb2
                  obtain ⟨rc,hh,hKl,ht,_⟩:=R.loop_set hb hp
                  rw[hL] at hKl
                  have hlv:=hvs.length
                  simp at hlv
                  have hpl:rc.params.size=r.params.length:=by rw[←hKl.params];simp
                  have hsz:vs'.size=rc.params.size:=by omega
                  obtain ⟨t1,t2⟩:=roundTmps_sound rc.params.toList vs vs'.toList r.tmps rc.tmps ht hKl.lt hvs (by rw[hlen,←hKl.params];simp)
                  rw[hKl.params] at t1
                  have hfold:(rc.params.zip vs').foldl (fun tmps (x:Tmp × Value)=>tmps.setIfInBounds x.1 x.2) rc.tmps=(rc.params.toList.zip vs'.toList).foldl (fun tmps (x:Tmp × Value)=>tmps.setIfInBounds x.1 x.2) rc.tmps:=by
                    rw[←Array.foldl_toList,Array.toList_zip]
                  generalize htm:(rc.params.toList.zip vs'.toList).foldl (fun tmps (x:Tmp × Value)=>tmps.setIfInBounds x.1 x.2) rc.tmps=tm at t1 t2 hfold
                  refine ⟨.round p.cb rc.fn tm rc.assign rc.body,Frame.round p.cb rc.fn tm rc.assign rc.body .normal,?_,rfl,fun fr cs=> ?_⟩
                  · have hi:inv ρ (.yield l) vs'=Instr.yield p.cb vs':=by simp[inv,hp]
                    rw[hi,run_yield hh hsz,←hfold]
                  · have hfr:Frame.round p.cb rc.fn tm rc.assign rc.body .normal=(Frame.round p.cb rc.fn tm rc.assign rc.body .normal).atR ⟨tm,[]⟩ (.code rc.assign::[.beginRound,.code rc.body]):=rfl
                    have s0:St K w0 rc.tmps.size ρ (roundTmps r.tmps r.params vs) m.blks ⟨tm,[]⟩ w:=⟨R,t1,t2⟩
                    have hD:DefR m.blks.length ρ m.blks [] []:=⟨⟨Nat.le_refl _,by simp⟩,List.nodup_nil,rfl,fun i b d hb=>by simp at hb⟩
                    rw[hfr]
                    have hfn:(Frame.round p.cb rc.fn tm rc.assign rc.body .normal).fn<P.funcs.size:=hKl.fn
                    have hro:(Frame.round p.cb rc.fn tm rc.assign rc.body .normal).roundOf=some p.cb:=rfl
                    have hki:(Frame.round p.cb rc.fn tm rc.assign rc.body .normal).kind= .normal:=rfl
                    generalize hbf:Frame.round p.cb rc.fn tm rc.assign rc.body .normal=bf at hfn hro hki
                    have hrd:bf.roundOf.isSome=true:=by rw[hro];rfl
                    refine (code_sound hOK (acall_dfrs F (cmeth P) hsd n) hL hcall (hdraw _) (hrange _) rc.assign r.assign _ T1 {m with dfrs:=[]} m1 .normal _ w ρ bf [.beginRound,.code rc.body] (fr::cs) hKl.assign he1 s0 hg hD hrd hfn).bind fun g w1 q=> ?_
                    obtain ⟨a1,ρ1,todo,rfl,hea,s1,d1,x1⟩:=q
                    have hea:todo=[.beginRound,.code rc.body]:=hea
                    subst hea
                    have hp1:ρ1 l=some p:=x1.1 _ _ hp
                    refine Leads.any hOK fun d=> ?_
                    have s1:=s1.drawnAt d
                    obtain ⟨rc1,hh1,hKl1,ht1,hset1,_⟩:=s1.rel.loop_set hb1 hp1
                    rw[hL] at hKl1 hset1
                    have hrdy:rc1.state= .ready:=by
                      have:=hKl1.state
                      rw[hst1] at this
                      cases hq:rc1.state <;>rw[hq] at this <;>first |rfl |exact this.elim
                    have R1:=hset1 {r1 with state:= .busy} {rc1 with state:= .busy} ⟨hKl1.params,hKl1.lt,hKl1.assign,hKl1.body,hKl1.fn,trivial,hKl1.pending⟩ ht1
                    have hpres1:Pres m1.blks (bput m1.blks l (some (.loop {r1 with state:= .busy}))):=Pres.put (Nat.le_of_lt (bget_lt hb1)) (by rw[hb1];simp)
                    have x1':Ext ρ1 ρ1 m1.blks (bput m1.blks l (some (.loop {r1 with state:= .busy}))):=⟨Rho.le_refl _,fun _ _=>rfl,hpres1⟩
                    refine ⟨_,_,sg_beginRound hro (run_beginRound hh1 hrdy),?_⟩
                    refine (code_sound hOK (acall_dfrs F (cmeth P) hsd n) hL hcall (hdraw _) (hrange _) rc.body r.body T1 T2 (m1.apply ⟨l,some (.loop {r1 with state:= .busy}),[]⟩) m2 e a1 _ ρ1 bf [] (fr::cs) hKl.body he2 ⟨R1,s1.tr,s1.size⟩ (hg.mono x1.1) (d1.mono (Rho.le_refl _) hpres1) hrd hfn).bind fun g w2 q=> ?_
                    obtain ⟨a2,ρ2,todo2,rfl,hea2,s2,d2,x2⟩:=q
                    have hp2:ρ2 l=some p:=x2.1 _ _ hp1
                    refine Leads.any hOK fun d=> ?_
                    have s2:=s2.drawnAt d
                    obtain ⟨rc2,hh2,hKl2,ht2,hset2,_⟩:=s2.rel.loop_set hb2 hp2
                    rw[hL] at hKl2 hset2
                    have hpres2: ∀ l',Pres m2.blks (bput m2.blks l (some (.loop l'))):=fun l'=>Pres.put (Nat.le_of_lt (bget_lt hb2)) (by rw[hb2];simp)
                    have xx: ∀ l',Ext ρ ρ2 m.blks (bput m2.blks l (some (.loop l'))):=fun l'=>(x1.trans (x1'.trans x2)).trans ⟨Rho.le_refl _,fun _ _=>rfl,hpres2 l'⟩
                    have hend: ∀ st,stateR st (if (jumpOf e).isNone then LoopState.ready else .done)→ ∀ pe,jumpOf e=pe.bind jumpOf→Rel K w0 ρ2 (bput m2.blks l (some (.loop {r2 with state:=st,pending:=pe}))) ((World.drawnAt w2 d).putObj p.cb (.loop {rc2 with state:=if (jumpOf e).isNone then .ready else .done,pending:=jumpOf e})):=
                      fun st hst pe hpe=>hset2 {r2 with state:=st,pending:=pe} {rc2 with state:=if (jumpOf e).isNone then .ready else .done,pending:=jumpOf e} ⟨hKl2.params,hKl2.lt,hKl2.assign,hKl2.body,hKl2.fn,hst,hpe⟩ ht2
                    have hrun:=run_endRound (P:=P) (jumpOf e) hh2
                    cases e with
                    | normal=>
                      simp only at hc
                      cases hc
                      have:todo2=[]:=hea2
                      subst this
                      exact ⟨_,_,sg_round_end hro hki hrun,.here ⟨_,ρ2,rfl,rfl,hend .ready trivial none rfl,xx _⟩⟩
                    | exit id=>
                      simp only at hc
                      cases hc
                      obtain ⟨k',rfl,hx⟩:=hea2
                      exact ⟨_,_,sg_round_exit hro hki hx hrun,.here ⟨_,ρ2,rfl,rfl,hend .done trivial (some (.exit id)) rfl,xx _⟩⟩
                    | ret=>
                      simp only at hc
                      cases hc
                      obtain ⟨k',rfl⟩:=hea2
                      exact ⟨_,_,sg_round_ret hro hki hrun,.here ⟨_,ρ2,rfl,rfl,hend .done trivial (some .ret) rfl,xx _⟩⟩
                · cases hc
              · cases hc
            · cases hc
          · cases hc
        · cases hc
    · cases hc
  · cases hc
end
open Go.RowKit (Below)
section
variable {P:Program} {glob:Nat→Option AV} {main:Bool} {OK:Goroutine→World→Prop} {call:CallF} {K:Kp} {w0 w:World} {ρ:Rho} {h:Blks} {nt:Nat}
theorem Rel.new (R:Rel K w0 ρ h w) {x:ABlk} {o:Obj} (hB:BRel K (ρ.put h.length ⟨w.heap.size,0,0,0⟩) (w.alloc o) ⟨w.heap.size,0,0,0⟩ x):Rel K w0 (ρ.put h.length ⟨w.heap.size,0,0,0⟩) (bput h h.length (some x)) (w.alloc o):=
  (R.grow (below_alloc w o)).put (Nat.le_refl _) (R.dom _ (Nat.le_refl _)) hB fun c y q hy hq=>by
    obtain ⟨q',hq',hB⟩:=R.blk c y hy
    have e:q'=q:=Option.some.inj (hq'.symm.trans hq)
    subst e
    have:=hB.lt
    exact fun e=>by simp at e;omega
theorem Ext.put {p:Pl} {x:ABlk} (hn:ρ h.length=none):Ext ρ (ρ.put h.length p) h (bput h h.length (some x)):=
  ⟨Rho.le_put _ hn,fun y hy=>Rho.put_ne _ _ (by omega),Pres.put (Nat.le_refl _) (by rw[bget_ge (Nat.le_refl _)];simp)⟩
theorem stateR_busy {l:LState} {s:LoopState} (h:stateR l s) (hb:l≠ .busy):s≠ .busy:=by
  intro e
  subst e
  cases l <;>first |exact h.elim |exact hb rfl
theorem run_enterLoop (fn:FuncId) (tmps:Array Value) (ps:Array Tmp) (asg bd:Code):(Instr.enterLoop fn tmps ps asg bd none).run P w=
    .ok (w.heap.size+1,[{target:= .collected w.heap.size,args:= #[]}]) ((w.alloc (.deferred (some []))).alloc (.loop {state:= .ready,pending:=none,fn,tmps,params:=ps,assign:=asg,body:=bd,defers:=w.heap.size})):=by
  simp[Instr.enterLoop]
theorem sg_rangeFunc {b:Frame} {a:Act} {k:List Item} {cs:List Frame} {f:Operand} {ps:Array Tmp} {asg bd:Code} {g:FuncId} {fa fc:Array Value} {l:Nat} {mark:List Deferred} {w':World} {nx:Next} {fr0:Frame}
    (hr:(Instr.enterLoop b.fn a.tmps ps asg bd b.roundOf).run P w= .ok (l,mark) w') (he:a.eval f= .func (.func g) fa fc) (hx:(callFunc g (fa++ #[.func (.yield l) #[] #[]]++fc)).run P w'= .ok nx w') (hp:Pushes P nx fr0):
    (stepG P main (running (b.atR a (.code (.rangeFunc f ps asg bd)::k)) cs) w).bare= .go (running fr0 (b.atR ⟨a.tmps,mark++a.defers⟩ (.inRangeFunc l::k)::cs)) w':=by
  have h1:=congrFun (Frame.eval_atR b ⟨a.tmps,mark++a.defers⟩ (.inRangeFunc l::k)) f
  have h2:=congrFun (Frame.eval_atR b ⟨a.tmps,mark++a.defers⟩ (.inRangeFunc l::k)) (.const (.func (.yield l) #[] #[]))
  have he2:Act.eval ⟨a.tmps,mark++a.defers⟩ f= .func (.func g) fa fc:=by rw[←he];cases f <;>rfl
  have he3:Act.eval ⟨a.tmps,mark++a.defers⟩ (.const (.func (.yield l) #[] #[]))= .func (.yield l) #[] #[]:=rfl
  rw[he2] at h1
  rw[he3] at h2
  simp only[Frame.atR] at h1 h2
  have ea:fa++ #[Value.func (.yield l) #[] #[]]=fa.push (.func (.yield l) #[] #[]):=by simp
  rw[ea] at hx
  cases nx <;>simp only[Pushes] at hp
  · subst hp
    simp[running,stepG,stepG.exec,stepG.apply,Frame.atR,Sem.runT_eq,hr,resolve,h1,h2,Deferred.ofValue,invoke,hx]
  · subst hp
    simp[running,stepG,stepG.exec,stepG.apply,Frame.atR,Sem.runT_eq,hr,resolve,h1,h2,Deferred.ofValue,invoke,hx]
theorem range_core (hOK: ∀ g w,OK g w) (hcall:CallOK P glob main OK (LoopR P glob) call) (hcd:CallD call) (hL:K.loop=LoopR P glob)
    {lo:Nat} {f:Operand} {ps:Array Tmp} {asg bd:Code} {aa ab:ACode} {T:Tr} {m m0 m2 m':Mem} {a:Act} {b:Frame} {k:List Item} {cs:List Frame} {g:FuncId} {fa fc:List AV} {fa' fc':Array Value} {u:AV} {r:ALoop}
    (hps:ps.toList.all (· <nt)=true) (haa:ccode P glob nt asg=some aa) (hab:ccode P glob nt bd=some ab)
    (hca:call (.fn g) (fa++ [.yield (m.blks.length+1)]++fc) m0=some (u,m2))
    (hm0:m0.blks=bput (bput m.blks m.blks.length (some .dfr)) (m.blks.length+1) (some (.loop {state:= .ready,pending:=none,tmps:=T,params:=ps.toList.map Pth.ofNat,assign:=aa,body:=ab}))) (hd0:m0.dfrs=m.blks.length::m.dfrs)
    (hbl:bget m2.blks (m.blks.length+1)=some (.loop r)) (hnb:r.state≠ .busy) (hm':m'.blks=bput m2.blks (m.blks.length+1) none) (hd':m'.dfrs=m2.dfrs)
    (s:St K w0 nt ρ T m.blks a w) (hg:GR glob ρ) (hd:DefR lo ρ m.blks m.dfrs a.defers) (hro:b.roundOf=none) (hf:b.fn<P.funcs.size)
    (ex:a.eval f= .func (.func g) fa' fc') (h1':VRs ρ fa fa'.toList) (h2':VRs ρ fc fc'.toList):
    ∃ gg ww,(stepG P main (running (b.atR a (.code (.rangeFunc f ps asg bd)::k)) cs) w).bare= .go gg ww∧Leads P main OK (KEnd lo K w0 nt ρ (r.pending.getD .normal) T m.blks m' b k cs) gg ww:=by
  have R:=s.rel
  have hlen:(bput m.blks m.blks.length (some .dfr)).length=m.blks.length+1:=by rw[length_bput'];omega
  have R1:=R.new (x:= .dfr) (o:= .deferred (some [])) ⟨R.fresh,heap_alloc_last w _⟩
  have x1:Ext ρ _ m.blks _:=Ext.put (p:=⟨w.heap.size,0,0,0⟩) (x:= .dfr) (R.dom _ (Nat.le_refl _))
  generalize hρ1:Rho.put ρ m.blks.length ⟨w.heap.size,0,0,0⟩=ρ1 at R1 x1
  have hp1:ρ1 m.blks.length=some ⟨w.heap.size,0,0,0⟩:=by rw[←hρ1];exact Rho.put_self _ _ _
  rw[←hlen] at hca hm0 hbl hm'
  generalize hb1:bput m.blks m.blks.length (some .dfr)=h1 at R1 x1 hlen hbl hca hm0 hm'
  have hg1:bget h1 m.blks.length=some .dfr:=by rw[←hb1,bget_bput (Nat.le_refl _),if_pos rfl]
  have hw1:(w.alloc (.deferred (some []))).heap.size=w.heap.size+1:=by simp
  have run:=run_enterLoop (P:=P) (w:=w) b.fn a.tmps ps asg bd
  generalize w.alloc (.deferred (some []))=w1 at R1 hw1 run
  rw[←hw1] at run
  generalize w.heap.size=n0 at run hp1 hρ1
  have hlr:LoopR P glob {state:= .ready,pending:=none,tmps:=T,params:=ps.toList.map Pth.ofNat,assign:=aa,body:=ab} {state:= .ready,pending:=none,fn:=b.fn,tmps:=a.tmps,params:=ps,assign:=asg,body:=bd,defers:=n0}:=by
    refine ⟨rfl,fun t ht=> ?_,by rw[s.size];exact haa,by rw[s.size];exact hab,hf,trivial,rfl⟩
    rw[s.size]
    have:=List.all_eq_true.1 hps t ht
    simpa using this
  have htr:TRt ρ T a.tmps:=s.tr
  generalize hal:({state:= .ready,pending:=none,tmps:=T,params:=ps.toList.map Pth.ofNat,assign:=aa,body:=ab}:ALoop)=al at hm0 hlr
  have halt:al.tmps=T:=by rw[←hal]
  generalize hlo:({state:= .ready,pending:=none,fn:=b.fn,tmps:=a.tmps,params:=ps,assign:=asg,body:=bd,defers:=n0}:Loop)=lr at run hlr
  have hlrt:lr.tmps=a.tmps:=by rw[←hlo]
  have hKl:K.loop al lr:=by rw[hL];exact hlr
  have R2:=R1.new (x:= .loop al) (o:= .loop lr)
    ⟨R1.fresh,_,heap_alloc_last w1 _,hKl,fun p=>by rw[halt,hlrt];exact (htr p).mono (Rho.le_trans x1.1 (Rho.le_put _ (R1.dom _ (Nat.le_refl _))))⟩
  have x2:Ext ρ1 _ h1 _:=Ext.put (p:=⟨w1.heap.size,0,0,0⟩) (x:= .loop al) (R1.dom _ (Nat.le_refl _))
  generalize hρ2:Rho.put ρ1 h1.length ⟨w1.heap.size,0,0,0⟩=ρ2 at R2 x2
  have hp2:ρ2 h1.length=some ⟨w1.heap.size,0,0,0⟩:=by rw[←hρ2];exact Rho.put_self _ _ _
  rw[←hm0] at R2 x2
  have x12:=x1.trans x2
  generalize w1.heap.size=n1 at*
  have hvs:VRs ρ2 (fa++ [.yield h1.length]++fc) (fa'++ #[Value.func (.yield n1) #[] #[]]++fc').toList:=by
    have hy:VRs ρ2 [.yield h1.length] [Value.func (.yield n1) #[] #[]]:=⟨_,[],rfl,⟨_,hp2,rfl⟩,rfl⟩
    simp only[Array.toList_append]
    exact ((VRs.mono x12.1 h1').append hy).append (VRs.mono x12.1 h2')
  obtain ⟨nx,fr0,g1,g2,g3⟩:=hcall K w0 _ ρ2 m0 m2 (.fn g) _ _ u hL hca R2 (hg.mono x12.1) hvs (fun l e=>by cases e)
  refine ⟨_,_,sg_rangeFunc (l:=n1) (by rw[hro];exact run) ex g1 g2,(g3 _ cs).bind fun gg w3 q=> ?_⟩
  obtain ⟨v',ρ3,rfl,_,R3,x3⟩:=q
  have hd3:=hcd _ _ _ _ _ hca
  have x3':Ext ρ2 ρ3 m0.blks m2.blks:=x3
  have hp3:ρ3 h1.length=some ⟨n1,0,0,0⟩:=x3.1 _ _ hp2
  refine Leads.any hOK fun d=> ?_
  obtain ⟨rc,hh,hKl3,ht3,hset,hkill⟩:=(R3.drawnAt d).loop_set hbl hp3
  rw[hL] at hKl3
  have hst3:rc.state≠ .busy:=stateR_busy hKl3.state hnb
  have hpr:Pres m2.blks m'.blks:=by rw[hm'];exact Pres.put (Nat.le_of_lt (bget_lt hbl)) (by rw[hbl];simp)
  refine ⟨running (b.atR ⟨a.tmps,[{target:= .collected n0,args:= #[]}]++a.defers⟩ ((rc.pending.map Item.code).toList++k)) cs,_,sg_endRangeFunc (b:=b) (a:=⟨a.tmps,[{target:= .collected n0,args:= #[]}]++a.defers⟩) (run_endLoop hh hst3),.here ⟨_,ρ3,_,rfl,?_,⟨by rw[hm'];exact hkill _,?_,s.size⟩,?_,?_⟩⟩
  · rw[hKl3.pending]
    cases r.pending with
    |none=>rfl
    | some e=>cases e with
      |normal=>rfl
      |exit id=>exact ⟨k,rfl,rfl⟩
      |ret=>exact ⟨k,rfl⟩
  · exact fun p=>(htr p).mono (Rho.le_trans x12.1 x3.1)
  · have hD1:DefR lo ρ1 h1 (m.blks.length::m.dfrs) ([{target:= .collected n0,args:= #[]}]++a.defers):=by
      have hd1:=hd.mono x1.1 x1.2.2
      refine ⟨⟨hd1.1.1,fun x hx=> ?_⟩,?_,by simp[hd.2.2.1],fun i x dd hx hdd=> ?_⟩
      · rcases List.mem_cons.1 hx with rfl |hx
        · exact hd.1.1
        · exact hd.1.2 x hx
      · rw[List.nodup_cons]
        refine ⟨fun hm=> ?_,hd.2.1⟩
        obtain ⟨i,hi⟩:=List.getElem?_of_mem hm
        have hlt:i<a.defers.length:=by rw[←hd.2.2.1];exact (List.getElem?_eq_some_iff.1 hi).1
        have:=bget_lt (hd.2.2.2 i _ _ hi (List.getElem?_eq_getElem hlt)).1
        omega
      · cases i with
        | zero=>
          simp at hx hdd
          subst hx hdd
          exact ⟨hg1,_,hp1,rfl⟩
        |succ i=>exact hd1.2.2.2 i x dd (by simpa using hx) (by simpa using hdd)
    have:=((hD1.mono x2.1 x2.2.2).mono x3.1 x3'.2.2).mono (Rho.le_refl _) hpr
    exact this.ids ((hd'.trans hd3).trans hd0)
  · exact (x12.trans x3').trans ⟨Rho.le_refl _,fun _ _=>rfl,hpr⟩
theorem range_sound {fuel:Nat} {rd:Bool} (hOK: ∀ g w,OK g w) (hcall:CallOK P glob main OK (LoopR P glob) call) (hcd:CallD call) (hL:K.loop=LoopR P glob):RangeOK P glob main OK call K w0 nt fuel rd:=by
  intro lo f ps asg bd ac T T' m m' e a w ρ b k cs hc he s hg hd hb hf
  simp only[ccode] at hc
  split at hc
  · rename_i hps
    simp only[Option.pure_def,Option.bind_eq_bind,Option.bind_eq_some_iff] at hc
    obtain ⟨af,hfo,aa,haa,ab,hab,e'⟩:=hc
    cases e'
    simp only[acode] at he
    cases rd
    · simp only [cond] at he
      split at he
      · rename_i g fa fc ev
        split at he
        · rename_i u m2 hca
          split at he
          · rename_i r hbl
            have hnb:r.state≠ .busy∧e=r.pending.getD .normal∧T'=T∧m'=m2.apply ⟨(bput m.blks m.blks.length (some .dfr)).length,none,[]⟩:=by
              split at he
              · cases he
              · rename_i hst
                cases he
                exact ⟨fun e=>hst e,rfl,rfl,rfl⟩
            obtain ⟨hnb,rfl,eT,rfl⟩:=hnb
            have hlen:(bput m.blks m.blks.length (some .dfr)).length=m.blks.length+1:=by rw[length_bput'];omega
            have hro:b.roundOf=none:=by cases hq:b.roundOf with
              |none=>rfl
              |some x=>rw[hq] at hb;cases hb
            have hv:=VR_opnd hg s.tr hfo
            rw[ev] at hv
            obtain ⟨fa',fc',ex,h1',h2'⟩:=hv
            simp only[apply_blks,hlen] at hca hbl
            refine Leads.any hOK fun d=> ?_
            rw[eT]
            exact range_core hOK hcall hcd hL hps haa hab hca (by rw[apply_blks]) rfl hbl hnb (by rw[apply_blks,hlen]) rfl (s.drawnAt d) hg hd hro hf ex h1' h2'
          · cases he
        · cases he
      · cases he
    · simp only[cond] at he
      cases he
  · cases hc
end
end Go.Abs
end
