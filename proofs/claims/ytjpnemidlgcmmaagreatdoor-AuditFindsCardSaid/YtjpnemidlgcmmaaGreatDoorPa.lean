/- Functions of the program on symbolic values: part a.
   Conditions: none. -/
import Derived.Test.YtjpnemidlgcmmaaGreatDoorTabZ
set_option linter.unusedSimpArgs false
set_option linter.unusedVariables false
set_option maxRecDepth 100000
set_option maxHeartbeats 16000000
noncomputable section
namespace Go.Abs
section
variable {F:FuncId→Option AFunc} {meth:Meth} {sm:Summ}
def limB (x:Int × Int × Int):Bool:=decide (x.2.1≤x.1) && decide (x.1≤x.2.2)
def H107 (sm:Summ):Prop:= ∀ (l:List (Int × Int × Int)) (v:AV) (m:Mem),SlAt m.blks 3 v (l.map limC)→l.length≤1000→sm 107 [v] m=some (.bool (decide (l.all limB=true)),m)
theorem e107 (hF:F 107=some AF107) (hs: ∀ vs m,sm 107 vs m=none) (n:Nat) (h:Blks) (lg d:List Nat) {l:List (Int × Int × Int)} {v:AV} (hv:SlAt h 3 v (l.map limC)) (hw:l.length≤1000):
    Ev F meth sm (n+2000) 107 [v] ⟨h,lg,d⟩ (.bool (decide (l.all limB=true))):=by
  refine Ev.ofW ?_
  have lv:=hv.len
  simp+contextual -implicitDefEqProofs (maxSteps:=1000000) (maxDischargeDepth:=20) only[go_sem,simprocAttr,hs,hF,AF107,lv,List.length_map]
  refine WloopK l.length [.l (.l (.l .z))] (fun i=> [.int .i64 i]) (fun i=>l.all limB=(l.drop i).all limB) (by omega) (by repeat first |apply Cl_b |apply Cl_q |apply Cl_r) ⟨rfl,rfl⟩ (fun i h' lg' g hi hP hK=> ?_) (fun h' lg' g hP hK=> ?_)
  · have a:=hK.all (lg:=lg) (d:=d) (by repeat first |exact LogOK.nil |apply LogOK.cons)
    have e:=(hK.sl hv).elt hi
    have r:=rnd hi (by omega)
    unfold limC at e
    rw[List.drop_eq_getElem_cons hi,List.all_cons] at hP
    simp+contextual -implicitDefEqProofs (maxSteps:=1000000) (maxDischargeDepth:=20) only[go_sem,simprocAttr,a,e,r]
    exact ⟨fun c=>by simp[hP,limB];omega,fun c=>⟨fun c'=>by simp[hP,limB];omega,fun c'=>by simp[hP,limB];omega⟩⟩
  · have a:=hK.all (lg:=lg) (d:=d) (by repeat first |exact LogOK.nil |apply LogOK.cons)
    have r:=rndl l.length
    simp+contextual -implicitDefEqProofs (maxSteps:=1000000) (maxDischargeDepth:=20) only[go_sem,simprocAttr,a,r]
    simpa using hP
def idE (x:IdD):Int:=if x.n<1∨16<x.n∨1099511627776<x.s∨x.o<0∨20000≤x.o then 2 else 0
def H92 (sm:Summ):Prop:= ∀ (x:IdD) (m:Mem),sm 92 [.agg (idC x)] m=some (.int .i64 (idE x),m)
theorem e92 (hF:F 92=some AF92) (h107:H107 sm) (hs: ∀ vs m,sm 92 vs m=none) (n:Nat) (h:Blks) (lg d:List Nat) {x:IdD}:Ev F meth sm (n+2000) 92 [.agg (idC x)] ⟨h,lg,d⟩ (.int .i64 (idE x)):=by
  refine Ev.ofW ?_
  have g:=fun l lg d (q:bnth l 1=some (.row true 3 [[.int .i64 x.n,.int .i64 1,.int .i64 16],[.int .i64 x.o,.int .i64 0,.int .i64 19999]]))=>h107 [(x.n,1,16),(x.o,0,19999)] (.slice (nb h 1) 0 2 (some 2)) ⟨bxt h l,lg,d⟩ (.some (nb h 1) 0 (some 2) true _ rfl (by rw[nb_get,q]) rfl (fun _ h=>by cases h;simp)) (by simp)
  simp only[List.all_cons,List.all_nil,limB] at g
  simp+contextual -implicitDefEqProofs (maxSteps:=1000000) (maxDischargeDepth:=20) only[go_sem,simprocAttr,hs,hF,AF92,idC,g]
  (repeat' first |apply And.intro |intro _) <;>(simp only[idE] <;>(repeat' split) <;>first |rfl |omega)
def H100 (sm:Summ):Prop:= ∀ (x:IdD) (m:Mem),sm 100 [.agg (idC x)] m=some (.int .i64 (idE x),m)
theorem e100 (hF:F 100=some AF100) (hs: ∀ vs m,sm 100 vs m=none) (n:Nat) (h:Blks) (lg d:List Nat) {x:IdD}:Ev F meth sm (n+2000) 100 [.agg (idC x)] ⟨h,lg,d⟩ (.int .i64 (idE x)):=by
  refine Ev.ofW ?_
  simp+contextual -implicitDefEqProofs (maxSteps:=1000000) (maxDischargeDepth:=20) only[go_sem,simprocAttr,hs,hF,AF100,idC]
  (repeat' first |apply And.intro |intro _) <;>(simp only[idE] <;>(repeat' split) <;>first |rfl |omega)
theorem idE02 (x:IdD):idE x=0∨idE x=2:=by unfold idE;split <;>simp
def bunE (b:BunD):Int:=
  if idE b.id≠0 then 2 else if b.dest<1∨16<b.dest∨b.prio<0∨2<b.prio∨b.born<0∨1099511627776<b.born∨b.life<1∨1048576<b.life∨b.total<1∨20000<b.total then 2
  else if b.data.length=0 then 11 else if 1000<(b.data.length:Int) then 4 else if b.total - b.data.length<b.id.o then 12 else 0
def H63 (sm:Summ):Prop:= ∀ (b:BunD) (m:Mem),b.data.length≤1000000→I b.total→sm 63 [.agg (bunC b)] m=some (.int .i64 (bunE b),m)
theorem e63 (hF:F 63=some AF63) (hs: ∀ vs m,sm 63 vs m=none) (n:Nat) (h:Blks) (lg d:List Nat) (h92:H92 sm) (h107:H107 sm) {b:BunD} (w1:b.data.length≤1000000) (w2:I b.total):Ev F meth sm (n+2000) 63 [.agg (bunC b)] ⟨h,lg,d⟩ (.int .i64 (bunE b)):=by
  refine Ev.ofW ?_
  have g2:=h92 b.id
  unfold idC at g2
  have g:=fun l lg d (q:bnth l 1=some (.row true 3 [[.int .i64 b.dest,.int .i64 1,.int .i64 16],[.int .i64 b.prio,.int .i64 0,.int .i64 2],[.int .i64 b.born,.int .i64 0,.int .i64 1099511627776],[.int .i64 b.life,.int .i64 1,.int .i64 1048576],[.int .i64 b.total,.int .i64 1,.int .i64 20000]]))=>h107 [(b.dest,1,16),(b.prio,0,2),(b.born,0,1099511627776),(b.life,1,1048576),(b.total,1,20000)] (.slice (nb h 1) 0 5 (some 5)) ⟨bxt h l,lg,d⟩ (.some (nb h 1) 0 (some 5) true _ rfl (by rw[nb_get,q]) rfl (fun _ h=>by cases h;simp)) (by simp)
  simp only[List.all_cons,List.all_nil,limB] at g
  have w:=fun (q1:1≤b.total) (q2:b.total≤20000)=>(wrapI (x:=b.total - b.data.length) (by omega) (by omega))
  simp+contextual -implicitDefEqProofs (maxSteps:=1000000) (maxDischargeDepth:=20) only[go_sem,simprocAttr,hs,hF,AF63,bunC,g2,g,w]
  have z:=idE02 b.id
  (repeat' first |apply And.intro |intro _) <;>(simp only[bunE] <;>(repeat' split) <;>first |rfl |omega)
def H68 (sm:Summ):Prop:= ∀ (b:BunD) (m:Mem),b.data.length≤1000000→I b.total→sm 68 [.agg (bunC b)] m=some (.int .i64 (bunE b),m)
theorem e68 (hF:F 68=some AF68) (hs: ∀ vs m,sm 68 vs m=none) (n:Nat) (h:Blks) (lg d:List Nat) (h100:H100 sm) {b:BunD} (w1:b.data.length≤1000000) (w2:I b.total):Ev F meth sm (n+2000) 68 [.agg (bunC b)] ⟨h,lg,d⟩ (.int .i64 (bunE b)):=by
  refine Ev.ofW ?_
  have g2:=h100 b.id
  unfold idC at g2
  have w:=fun (q1:idE b.id=0)=>(wrapI (x:=b.id.o+b.data.length) (by simp only[idE] at q1;split at q1 <;>omega) (by simp only[idE] at q1;split at q1 <;>omega))
  simp+contextual -implicitDefEqProofs (maxSteps:=1000000) (maxDischargeDepth:=20) only[go_sem,simprocAttr,hs,hF,AF68,bunC,g2,w]
  have z:=idE02 b.id
  (repeat' first |apply And.intro |intro _) <;>(simp only[bunE] <;>(repeat' split) <;>first |rfl |omega)
def cmpI (a b:Int):Int:=if a<b then -1 else if b<a then 1 else 0
def H99 (sm:Summ):Prop:= ∀ (a:Int) (m:Mem),sm 99 [.int .i64 a] m=some (.bool false,m)
theorem e99 (hF:F 99=some AF99) (hs: ∀ vs m,sm 99 vs m=none) (n:Nat) (h:Blks) (lg d:List Nat) {a:Int}:Ev F meth sm (n+2000) 99 [.int .i64 a] ⟨h,lg,d⟩ (.bool false):=by
  refine Ev.ofW ?_
  simp+contextual -implicitDefEqProofs (maxSteps:=1000000) (maxDischargeDepth:=20) only[go_sem,simprocAttr,hs,hF,AF99]
def H166 (sm:Summ):Prop:= ∀ (a:Int) (m:Mem),sm 166 [.int .u64 a] m=some (.bool false,m)
theorem e166 (hF:F 166=some AF166) (hs: ∀ vs m,sm 166 vs m=none) (n:Nat) (h:Blks) (lg d:List Nat) {a:Int}:Ev F meth sm (n+2000) 166 [.int .u64 a] ⟨h,lg,d⟩ (.bool false):=by
  refine Ev.ofW ?_
  simp+contextual -implicitDefEqProofs (maxSteps:=1000000) (maxDischargeDepth:=20) only[go_sem,simprocAttr,hs,hF,AF166]
def H59 (sm:Summ):Prop:= ∀ (a b:Int) (m:Mem),sm 59 [.int .i64 a,.int .i64 b] m=some (.int .i64 (cmpI a b),m)
theorem e59 (hF:F 59=some AF59) (hs: ∀ vs m,sm 59 vs m=none) (n:Nat) (h:Blks) (lg d:List Nat) (h99:H99 sm) {a b:Int}:Ev F meth sm (n+2000) 59 [.int .i64 a,.int .i64 b] ⟨h,lg,d⟩ (.int .i64 (cmpI a b)):=by
  refine Ev.ofW ?_
  have g:=fun a=>h99 a
  simp+contextual -implicitDefEqProofs (maxSteps:=1000000) (maxDischargeDepth:=20) only[go_sem,simprocAttr,hs,hF,AF59,g]
  (repeat' first |apply And.intro |intro _) <;>(simp only[cmpI] <;>(repeat' split) <;>first |rfl |omega)
def H132 (sm:Summ):Prop:= ∀ (a b:Int) (m:Mem),sm 132 [.int .u64 a,.int .u64 b] m=some (.int .i64 (cmpI a b),m)
theorem e132 (hF:F 132=some AF132) (hs: ∀ vs m,sm 132 vs m=none) (n:Nat) (h:Blks) (lg d:List Nat) (h166:H166 sm) {a b:Int}:Ev F meth sm (n+2000) 132 [.int .u64 a,.int .u64 b] ⟨h,lg,d⟩ (.int .i64 (cmpI a b)):=by
  refine Ev.ofW ?_
  have g:=fun a=>h166 a
  simp+contextual -implicitDefEqProofs (maxSteps:=1000000) (maxDischargeDepth:=20) only[go_sem,simprocAttr,hs,hF,AF132,g]
  (repeat' first |apply And.intro |intro _) <;>(simp only[cmpI] <;>(repeat' split) <;>first |rfl |omega)
def H140 (sm:Summ):Prop:= ∀ (a b:Int) (m:Mem),sm 140 [.int .i64 a,.int .i64 b] m=some (.int .i64 (cmpI a b),m)
theorem e140 (hF:F 140=some AF140) (hs: ∀ vs m,sm 140 vs m=none) (n:Nat) (h:Blks) (lg d:List Nat) {a b:Int}:Ev F meth sm (n+2000) 140 [.int .i64 a,.int .i64 b] ⟨h,lg,d⟩ (.int .i64 (cmpI a b)):=by
  refine Ev.ofW ?_
  simp+contextual -implicitDefEqProofs (maxSteps:=1000000) (maxDischargeDepth:=20) only[go_sem,simprocAttr,hs,hF,AF140]
  (repeat' first |apply And.intro |intro _) <;>(simp only[cmpI] <;>(repeat' split) <;>first |rfl |omega)
def cmpD (a b:IdD):Int:=if cmpI a.n b.n≠0 then cmpI a.n b.n else if cmpI a.s b.s≠0 then cmpI a.s b.s else cmpI a.o b.o
def H101 (sm:Summ):Prop:= ∀ (a b:IdD) (m:Mem),sm 101 [.agg (idC a),.agg (idC b)] m=some (.int .i64 (cmpD a b),m)
theorem e101 (hF:F 101=some AF101) (hs: ∀ vs m,sm 101 vs m=none) (n:Nat) (h:Blks) (lg d:List Nat) (h140:H140 sm) {a b:IdD}:Ev F meth sm (n+2000) 101 [.agg (idC a),.agg (idC b)] ⟨h,lg,d⟩ (.int .i64 (cmpD a b)):=by
  refine Ev.ofW ?_
  have g:=fun a b=>h140 a b
  simp+contextual -implicitDefEqProofs (maxSteps:=1000000) (maxDischargeDepth:=20) only[go_sem,simprocAttr,hs,hF,AF101,idC,g]
  (repeat' first |apply And.intro |intro _) <;>(simp only[cmpD,cmpI] <;>(repeat' split) <;>first |rfl |omega)
def orI:List Int→Int
  | []=>0
  |x::l=>if x=0 then orI l else x
def i64C (x:Int):List AV:=[.int .i64 x]
def H131 (sm:Summ):Prop:= ∀ (l:List Int) (v:AV) (m:Mem),SlAt m.blks 1 v (l.map i64C)→l.length≤1000→sm 131 [v] m=some (.int .i64 (orI l),m)
theorem e131 (hF:F 131=some AF131) (hs: ∀ vs m,sm 131 vs m=none) (n:Nat) (h:Blks) (lg d:List Nat) {l:List Int} {v:AV} (hv:SlAt h 1 v (l.map i64C)) (hw:l.length≤1000):Ev F meth sm (n+2000) 131 [v] ⟨h,lg,d⟩ (.int .i64 (orI l)):=by
  refine Ev.ofW ?_
  have lv:=hv.len
  simp+contextual -implicitDefEqProofs (maxSteps:=1000000) (maxDischargeDepth:=20) only[go_sem,simprocAttr,hs,hF,AF131,lv,List.length_map]
  refine WloopK l.length [.r (.l (.l .z))] (fun i=> [.int .i64 i]) (fun i=>orI l=orI (l.drop i)) (by omega) (by repeat first |apply Cl_b |apply Cl_q |apply Cl_r) ⟨rfl,rfl⟩ (fun i h' lg' g hi hP hK=> ?_) (fun h' lg' g hP hK=> ?_)
  · have a:=hK.all (lg:=lg) (d:=d) (by repeat first |exact LogOK.nil |apply LogOK.cons)
    have e:=(hK.sl hv).elt hi
    have r:=rnd hi (by omega)
    unfold i64C at e
    rw[List.drop_eq_getElem_cons hi,orI] at hP
    simp+contextual -implicitDefEqProofs (maxSteps:=1000000) (maxDischargeDepth:=20) only[go_sem,simprocAttr,a,e,r]
    exact ⟨fun c=>by rw[hP,if_neg c],fun c=>by rw[hP,if_pos c]⟩
  · have a:=hK.all (lg:=lg) (d:=d) (by repeat first |exact LogOK.nil |apply LogOK.cons)
    have r:=rndl l.length
    simp+contextual -implicitDefEqProofs (maxSteps:=1000000) (maxDischargeDepth:=20) only[go_sem,simprocAttr,a,r]
    simp[hP,orI]
end
section
variable {F:FuncId→Option AFunc} {meth:Meth} {sm:Summ}
def H93 (sm:Summ):Prop:= ∀ (a b:IdD) (m:Mem),sm 93 [.agg (idC a),.agg (idC b)] m=some (.int .i64 (cmpD a b),m)
theorem e93 (hF:F 93=some AF93) (hs: ∀ vs m,sm 93 vs m=none) (n:Nat) (h:Blks) (lg d:List Nat) (h59:H59 sm) (h132:H132 sm) (h131:H131 sm) {a b:IdD}:Ev F meth sm (n+2000) 93 [.agg (idC a),.agg (idC b)] ⟨h,lg,d⟩ (.int .i64 (cmpD a b)):=by
  refine Ev.ofW ?_
  have g1:=fun a b=>h59 a b
  have g2:=fun a b=>h132 a b
  have g:=fun l lg d (q:bnth l 2=some (.row true 1 [[.int .i64 (cmpI a.n b.n)],[.int .i64 (cmpI a.s b.s)],[.int .i64 (cmpI a.o b.o)]]))=>h131 [cmpI a.n b.n,cmpI a.s b.s,cmpI a.o b.o] (.slice (nb h 2) 0 3 (some 3)) ⟨bxt h l,lg,d⟩ (.some (nb h 2) 0 (some 3) true _ rfl (by rw[nb_get,q]) rfl (fun _ h=>by cases h;simp)) (by simp)
  simp+contextual -implicitDefEqProofs (maxSteps:=1000000) (maxDischargeDepth:=20) only[go_sem,simprocAttr,hs,hF,AF93,idC,g1,g2,g,r_vc,r_vp,mskO,Mem.more,bmore,nb_more,List.filter_nil,List.flatMap_nil,List.filter_cons,List.flatMap_cons,List.map_nil,List.map_cons,mask,unmask,AOp.reads,AOpnd.top,top_p,top_s,top_m,top_i,top_b,top_t,top_a,top_u,top_ns,top_s0,top_d,top_f,nb_beq,nb_blt,nb_add,nidOf,slotIn,Nat.beq_refl,clash,Bool.or_self,List.any_nil,List.any_cons,AOp.isMaker]
  simp only[orI,cmpD]
  repeat' split
  all_goals omega
def markE (x:MarkD):Int:=if idE x.id≠0∨x.till<0∨1099512676352<x.till then 2 else 0
theorem markE02 (x:MarkD):markE x=0∨markE x=2:=by unfold markE;split <;>simp
def markBad (l:List MarkD) (i:Nat):Int:=
  if markE (gt l i)≠0 then 2 else if 0<i∧0≤cmpD (gt l (i - 1)).id (gt l i).id then 19 else 0
def H133 (sm:Summ):Prop:= ∀ (x:MarkD) (m:Mem),sm 133 [.agg (markC x)] m=some (.int .i64 (markE x),m)
theorem e133 (hF:F 133=some AF133) (hs: ∀ vs m,sm 133 vs m=none) (n:Nat) (h:Blks) (lg d:List Nat) (h92:H92 sm) {x:MarkD}:Ev F meth sm (n+2000) 133 [.agg (markC x)] ⟨h,lg,d⟩ (.int .i64 (markE x)):=by
  refine Ev.ofW ?_
  have g:=h92 x.id
  unfold idC at g
  simp+contextual -implicitDefEqProofs (maxSteps:=1000000) (maxDischargeDepth:=20) only[go_sem,simprocAttr,hs,hF,AF133,markC,g]
  (repeat' first |apply And.intro |intro _) <;>(simp only[markE] <;>(repeat' split) <;>first |rfl |omega)
def H94 (sm:Summ):Prop:= ∀ (l:List MarkD) (v:AV) (m:Mem),SlAt m.blks 4 v (l.map markC)→l.length≤1000→sm 94 [v] m=some (.tuple [.int .i64 (first (markBad l) l.length),.int .i64 (firstI (markBad l) l.length)],m)
theorem e94 (hF:F 94=some AF94) (hs: ∀ vs m,sm 94 vs m=none) (n:Nat) (h:Blks) (lg d:List Nat) (h133:H133 sm) (h93:H93 sm) {l:List MarkD} {v:AV} (hv:SlAt h 4 v (l.map markC)) (hw:l.length≤1000):Ev F meth sm (n+2000) 94 [v] ⟨h,lg,d⟩ (.tuple [.int .i64 (first (markBad l) l.length),.int .i64 (firstI (markBad l) l.length)]):=by
  refine Ev.ofW ?_
  have lv:=hv.len
  simp+contextual -implicitDefEqProofs (maxSteps:=1000000) (maxDischargeDepth:=20) only[go_sem,simprocAttr,hs,hF,AF94,lv,List.length_map]
  refine WloopK l.length [X9] (fun i=> [.int .i64 i]) (FP (markBad l) l.length) (by omega) (by repeat first |apply Cl_b |apply Cl_q |apply Cl_r) ⟨rfl,FP.zero _ _⟩ (fun i h' lg' g hi hP hK=> ?_) (fun h' lg' g hP hK=> ?_)
  · have a:=hK.all (lg:=lg) (d:=d) (by repeat first |exact LogOK.nil |apply LogOK.cons)
    have e:=(hK.sl hv).el hi
    have p:=(hK.sl hv).pv hi (by omega)
    have r:=rnd hi (by omega)
    have g1:=h133 (gt l i)
    have g2:=h93 (gt l (i - 1)).id (gt l i).id
    unfold markC at e p g1
    unfold idC at g2
    simp+contextual -implicitDefEqProofs (maxSteps:=1000000) (maxDischargeDepth:=20) only[go_sem,simprocAttr,a,e,p,r,g1,g2]
    have z:=markE02 (gt l i)
    (repeat' first |apply And.intro |intro _) <;>(first |(refine hP.next hi ?_)|(refine hP.s1 hi ?_)|(refine hP.s2 hi ?_)) <;>(simp only[markBad] <;>(repeat' split) <;>omega)
  · have a:=hK.all (lg:=lg) (d:=d) (by repeat first |exact LogOK.nil |apply LogOK.cons)
    have r:=rndl l.length
    simp+contextual -implicitDefEqProofs (maxSteps:=1000000) (maxDischargeDepth:=20) only[go_sem,simprocAttr,a,r]
    simp[hP.last]
def H141 (sm:Summ):Prop:= ∀ (x:IdD) (m:Mem),sm 141 [.agg (idC x)] m=some (.bool (decide (idE x=0)),m)
theorem e141 (hF:F 141=some AF141) (hs: ∀ vs m,sm 141 vs m=none) (n:Nat) (h:Blks) (lg d:List Nat) {x:IdD}:Ev F meth sm (n+2000) 141 [.agg (idC x)] ⟨h,lg,d⟩ (.bool (decide (idE x=0))):=by
  refine Ev.ofW ?_
  simp+contextual -implicitDefEqProofs (maxSteps:=1000000) (maxDischargeDepth:=20) only[go_sem,simprocAttr,hs,hF,AF141,idC]
  (repeat' first |apply And.intro |intro _) <;>(simp only[idE] <;>(repeat' split) <;>first |rfl |(simp;done)|(simp;omega)|omega)
def H142 (sm:Summ):Prop:= ∀ (x:Int) (m:Mem),sm 142 [.int .i64 x] m=some (.bool (decide (0≤x∧x≤1099512676352)),m)
theorem e142 (hF:F 142=some AF142) (hs: ∀ vs m,sm 142 vs m=none) (n:Nat) (h:Blks) (lg d:List Nat) {x:Int}:Ev F meth sm (n+2000) 142 [.int .i64 x] ⟨h,lg,d⟩ (.bool (decide (0≤x∧x≤1099512676352))):=by
  refine Ev.ofW ?_
  simp+contextual -implicitDefEqProofs (maxSteps:=1000000) (maxDischargeDepth:=20) only[go_sem,simprocAttr,hs,hF,AF142]
def H102 (sm:Summ):Prop:= ∀ (l:List MarkD) (v:AV) (m:Mem),SlAt m.blks 4 v (l.map markC)→l.length≤1000→sm 102 [v] m=some (.tuple [.int .i64 (first (markBad l) l.length),.int .i64 (firstI (markBad l) l.length)],m)
theorem e102 (hF:F 102=some AF102) (hs: ∀ vs m,sm 102 vs m=none) (n:Nat) (h:Blks) (lg d:List Nat) (h101:H101 sm) (h141:H141 sm) (h142:H142 sm) {l:List MarkD} {v:AV} (hv:SlAt h 4 v (l.map markC)) (hw:l.length≤1000):Ev F meth sm (n+2000) 102 [v] ⟨h,lg,d⟩ (.tuple [.int .i64 (first (markBad l) l.length),.int .i64 (firstI (markBad l) l.length)]):=by
  refine Ev.ofW ?_
  have lv:=hv.len
  simp+contextual -implicitDefEqProofs (maxSteps:=1000000) (maxDischargeDepth:=20) only[go_sem,simprocAttr,hs,hF,AF102,lv,List.length_map]
  refine WloopK l.length [X4] (fun i=> [.int .i64 i]) (FP (markBad l) l.length) (by omega) (by repeat first |apply Cl_b |apply Cl_q |apply Cl_r) ⟨rfl,FP.zero _ _⟩ (fun i h' lg' g hi hP hK=> ?_) (fun h' lg' g hP hK=> ?_)
  · have a:=hK.all (lg:=lg) (d:=d) (by repeat first |exact LogOK.nil |apply LogOK.cons)
    have e:=(hK.sl hv).el hi
    have p:=(hK.sl hv).pv hi (by omega)
    have r:=rnd hi (by omega)
    have lv:=hv.len
    have g1:=h141 (gt l i).id
    have g2:=h101 (gt l (i - 1)).id (gt l i).id
    have g3:=h142 (gt l i).till
    unfold markC at e p
    unfold idC at g1 g2
    simp+contextual -implicitDefEqProofs (maxSteps:=1000000) (maxDischargeDepth:=20) only[go_sem,simprocAttr,a,e,p,r,g1,g2,g3,lv,List.length_map]
    have z:=idE02 (gt l i).id
    (repeat' first |apply And.intro |intro _) <;>(first |(refine hP.next hi ?_)|(refine hP.s1 hi ?_)|(refine hP.s2 hi ?_)) <;>(simp only[markBad,markE] <;>(repeat' split) <;>omega)
  · have a:=hK.all (lg:=lg) (d:=d) (by repeat first |exact LogOK.nil |apply LogOK.cons)
    have r:=rndl l.length
    have lv:=hv.len
    simp+contextual -implicitDefEqProofs (maxSteps:=1000000) (maxDischargeDepth:=20) only[go_sem,simprocAttr,a,r,lv,List.length_map]
    simp[hP.last]
end
section
variable {F:FuncId→Option AFunc} {meth:Meth} {sm:Summ}
def inR (l:List (Int × Int)) (n:Int):Bool:=l.any fun x=>decide (x.1≤n∧n<x.2)
def H138 (sm:Summ):Prop:= ∀ (R:RecvD) (t k:AV) (m:Mem),t.scalar=true→k.scalar=true→R.r≤R.g→0≤R.r→R.g≤18446744073709551615→sm 138 [.agg (recvC R t k)] m=some (.int .u64 (R.g - R.r),m)
theorem e138 (hF:F 138=some AF138) (hs: ∀ vs m,sm 138 vs m=none) (n:Nat) (h:Blks) (lg d:List Nat) {R:RecvD} {t k:AV} (ht:t.scalar=true) (hk:k.scalar=true) (h1:R.r≤R.g) (h2:0≤R.r) (h3:R.g≤18446744073709551615):
    Ev F meth sm (n+2000) 138 [.agg (recvC R t k)] ⟨h,lg,d⟩ (.int .u64 (R.g - R.r)):=by
  refine Ev.ofW ?_
  have w1:IntKind.u64.wrap (R.g - R.r)=R.g - R.r:=wrapU (by omega) (by omega)
  simp+contextual -implicitDefEqProofs (maxSteps:=1000000) (maxDischargeDepth:=20) only[go_sem,simprocAttr,hs,hF,AF138,recvC,ht,hk,w1]
def H170 (sm:Summ):Prop:= ∀ (y:Int × Int) (x:Int) (b:Nat) (own:Bool) (m:Mem),bget m.blks b=some (.row own 1 [[.int .u64 x]])→sm 170 [.agg (rngC y),.ptr b 0 0] m=some (.bool (decide (y.1≤x∧x<y.2)),m)
theorem e170 (hF:F 170=some AF170) (hs: ∀ vs m,sm 170 vs m=none) (n:Nat) (h:Blks) (lg d:List Nat) {y:Int × Int} {x:Int} {b:Nat} {own:Bool} (hb:bget h b=some (.row own 1 [[.int .u64 x]])):
    Ev F meth sm (n+2000) 170 [.agg (rngC y),.ptr b 0 0] ⟨h,lg,d⟩ (.bool (decide (y.1≤x∧x<y.2))):=by
  refine Ev.ofW ?_
  have hb':=fun l=>(bxt_old l h b (bget_lt hb)).trans hb
  simp+contextual -implicitDefEqProofs (maxSteps:=1000000) (maxDischargeDepth:=20) only[go_sem,simprocAttr,hs,hF,AF170,rngC,hb',o_ldg]
def idxF {α:Type} (p:α→Bool):Nat→List α→Int
  |_,[]=> -1
  |i,x::l=>if p x=true then i else idxF p (i+1) l
def H178 (sm:Summ):Prop:= ∀ (l:List (Int × Int)) (v:AV) (x:Int) (b:Nat) (own:Bool) (m:Mem),SlAt m.blks 2 v (l.map rngC)→l.length≤1000→bget m.blks b=some (.row own 1 [[.int .u64 x]])→sm 178 [v,.func 170 [] [.ptr b 0 0]] m=some (.int .i64 (idxF (fun y=>decide (y.1≤x∧x<y.2)) 0 l),m)
theorem e178 (hF:F 178=some AF178) (hs: ∀ vs m,sm 178 vs m=none) (n:Nat) (h:Blks) (lg d:List Nat) (h170:H170 sm) {l:List (Int × Int)} {v:AV} {x:Int} {b:Nat} {own:Bool} (hv:SlAt h 2 v (l.map rngC)) (hw:l.length≤1000) (hb:bget h b=some (.row own 1 [[.int .u64 x]])):
    Ev F meth sm (n+2000) 178 [v,.func 170 [] [.ptr b 0 0]] ⟨h,lg,d⟩ (.int .i64 (idxF (fun y=>decide (y.1≤x∧x<y.2)) 0 l)):=by
  refine Ev.ofW ?_
  have lv:=hv.len
  simp+contextual -implicitDefEqProofs (maxSteps:=1000000) (maxDischargeDepth:=20) only[go_sem,simprocAttr,hs,hF,AF178,lv,List.length_map]
  refine WloopK l.length [X8] (fun i=> [.int .i64 i]) (fun i=>idxF (fun y=>decide (y.1≤x∧x<y.2)) 0 l=idxF (fun y=>decide (y.1≤x∧x<y.2)) i (l.drop i)) (by omega) (by repeat first |apply Cl_b |apply Cl_q |apply Cl_r) ⟨rfl,rfl⟩ (fun i h' lg' g hi hP hK=> ?_) (fun h' lg' g hP hK=> ?_)
  · have a:=hK.all (lg:=lg) (d:=d) (by repeat first |exact LogOK.nil |apply LogOK.cons)
    have e:=(hK.sl hv).el hi
    have r:=rnd hi (by omega)
    have g1:=fun l' lg d=>h170 (gt l i) x b own ⟨bxt h' l',lg,d⟩ ((bxt_old l' h' b (Nat.lt_of_lt_of_le (bget_lt hb) hK.len)).trans ((hK.get b (bget_lt hb)).trans hb))
    unfold rngC at e g1
    rw[List.drop_eq_getElem_cons hi,idxF,←gt_eq hi] at hP
    simp+contextual -implicitDefEqProofs (maxSteps:=1000000) (maxDischargeDepth:=20) only[go_sem,simprocAttr,a,e,r,g1]
    exact ⟨fun c=>by rw[hP,if_pos (decide_eq_true c)],fun c=>by rw[hP,if_neg (fun q=>c (of_decide_eq_true q))]⟩
  · have a:=hK.all (lg:=lg) (d:=d) (by repeat first |exact LogOK.nil |apply LogOK.cons)
    have r:=rndl l.length
    simp+contextual -implicitDefEqProofs (maxSteps:=1000000) (maxDischargeDepth:=20) only[go_sem,simprocAttr,a,r]
    rw[hP,List.drop_length]
    rfl
theorem idxF_any {α:Type} (p:α→Bool): ∀ (l:List α) (i:Nat),(0≤idxF p i l)↔l.any p=true
  | [],i=>by simp[idxF]
  | x::l,i=>by
    rw[idxF,List.any_cons]
    cases h:p x with
    |true=>simp
    |false=>simpa using idxF_any p l (i+1)
def H169 (sm:Summ):Prop:= ∀ (l:List (Int × Int)) (v:AV) (x:Int) (b:Nat) (own:Bool) (m:Mem),SlAt m.blks 2 v (l.map rngC)→l.length≤1000→bget m.blks b=some (.row own 1 [[.int .u64 x]])→sm 169 [v,.func 170 [] [.ptr b 0 0]] m=some (.bool (decide (inR l x=true)),m)
theorem e169 (hF:F 169=some AF169) (hs: ∀ vs m,sm 169 vs m=none) (n:Nat) (h:Blks) (lg d:List Nat) (h178:H178 sm) {l:List (Int × Int)} {v:AV} {x:Int} {b:Nat} {own:Bool} (hv:SlAt h 2 v (l.map rngC)) (hw:l.length≤1000) (hb:bget h b=some (.row own 1 [[.int .u64 x]])):
    Ev F meth sm (n+2000) 169 [v,.func 170 [] [.ptr b 0 0]] ⟨h,lg,d⟩ (.bool (decide (inR l x=true))):=by
  refine Ev.ofW ?_
  have g1:=fun l' lg d=>h178 l v x b own ⟨bxt h l',lg,d⟩ (hv.bx l') hw ((bxt_old l' h b (bget_lt hb)).trans hb)
  simp+contextual -implicitDefEqProofs (maxSteps:=1000000) (maxDischargeDepth:=20) only[go_sem,simprocAttr,hs,hF,AF169,g1]
  rw[inR,decide_eq_decide]
  exact idxF_any _ _ _
def H139 (sm:Summ):Prop:= ∀ (l:List (Int × Int)) (v:AV) (x:Int) (m:Mem),SlAt m.blks 2 v (l.map rngC)→l.length≤1000→sm 139 [v,.int .u64 x] m=some (.bool (decide (inR l x=true)),m)
theorem e139 (hF:F 139=some AF139) (hs: ∀ vs m,sm 139 vs m=none) (n:Nat) (h:Blks) (lg d:List Nat) (h169:H169 sm) {l:List (Int × Int)} {v:AV} {x:Int} (hv:SlAt h 2 v (l.map rngC)) (hw:l.length≤1000):
    Ev F meth sm (n+2000) 139 [v,.int .u64 x] ⟨h,lg,d⟩ (.bool (decide (inR l x=true))):=by
  refine Ev.ofW ?_
  have g1:=fun l' lg d (q:bnth l' 0=some (.row true 1 [[.int .u64 x]]))=>h169 l v x (nb h 0) true ⟨bxt h l',lg,d⟩ (hv.bx l') hw (by rw[nb_get,q])
  simp+contextual -implicitDefEqProofs (maxSteps:=1000000) (maxDischargeDepth:=20) only[go_sem,simprocAttr,hs,hF,AF139,g1]
def tkBad (R:RecvD) (i:Nat):Int:=
  if (gt R.taken i).2≤(gt R.taken i).1∨(gt R.taken i).1<R.f∨(0<i∧(gt R.taken i).1≤(gt R.taken (i - 1)).2) then 19 else if R.g - R.r<(gt R.taken i).2 then 14 else 0
def kpBad (R:RecvD) (i:Nat):Int:=
  if 0<i∧gt R.kept i≤gt R.kept (i - 1) then 19 else if ¬ inR R.taken (gt R.kept i)=true then 12 else 0
def recvE (R:RecvD):Int × Int:=
  if 1125899906842624<R.g then (2,0) else if R.g<R.r∨R.g - R.r<R.f then (14,0) else if 1000<(R.taken.length:Int)∨1000<(R.kept.length:Int) then (5,0)
  else if first (tkBad R) R.taken.length≠0 then (first (tkBad R) R.taken.length,firstI (tkBad R) R.taken.length)
  else (first (kpBad R) R.kept.length,firstI (kpBad R) R.kept.length)
structure RecvAt (h:Blks) (R:RecvD) (t k:AV):Prop where
  t:SlAt h 2 t (R.taken.map rngC)
  k:SlAt h 1 k (R.kept.map u64C)
  g0:0≤R.r
  g1:R.g≤18446744073709551615
theorem RecvAt.bx {h:Blks} {R:RecvD} {t k:AV} (H:RecvAt h R t k) (l:List (Option ABlk)):RecvAt (bxt h l) R t k:=⟨H.t.bx l,H.k.bx l,H.g0,H.g1⟩
def H97 (sm:Summ):Prop:= ∀ (R:RecvD) (t k:AV) (m:Mem),RecvAt m.blks R t k→sm 97 [.agg (recvC R t k)] m=some (.tuple [.int .i64 (recvE R).1,.int .i64 (recvE R).2],m)
theorem e97 (hF:F 97=some AF97) (hs: ∀ vs m,sm 97 vs m=none) (n:Nat) (h:Blks) (lg d:List Nat) (h138:H138 sm) (h139:H139 sm) {R:RecvD} {t k:AV} (H:RecvAt h R t k):
    Ev F meth sm (n+2000) 97 [.agg (recvC R t k)] ⟨h,lg,d⟩ (.tuple [.int .i64 (recvE R).1,.int .i64 (recvE R).2]):=by
  refine Ev.ofW ?_
  obtain ⟨ht,hk,w1,w2⟩:=H
  have c1:=ht.sc
  have c2:=hk.sc
  have g138:=fun (p: ¬ R.g<R.r) m=>h138 R t k m c1 c2 (by omega) w1 w2
  unfold recvC at g138
  have lt:=ht.len
  have lk:=hk.len
  simp+contextual -implicitDefEqProofs (maxSteps:=1000000) (maxDischargeDepth:=20) only[go_sem,simprocAttr,hs,hF,AF97,recvC,g138,lt,lk,c1,c2,List.length_map]
  refine ⟨fun q1=>by simp[recvE,q1],fun q1=>⟨fun q2=>by simp[recvE,q1,q2],fun q2=>⟨fun q3=>by simp[recvE,q1,q2,q3],fun q3=>⟨fun q4=>by simp[recvE,q1,q2,q3,q4],fun q4=>⟨fun q5=>by simp[recvE,q1,q2,q3,q4,q5],fun q5=> ?_⟩⟩⟩⟩⟩
  have g1:=g138 q2
  have e0:recvE R=if first (tkBad R) R.taken.length≠0 then (first (tkBad R) R.taken.length,firstI (tkBad R) R.taken.length) else (first (kpBad R) R.kept.length,firstI (kpBad R) R.kept.length):=by simp only[recvE,q1,q2,q3,q4,q5,if_false,or_self]
  refine WloopK R.taken.length [X39] (fun i=> [.int .i64 i]) (FP (tkBad R) R.taken.length) (by omega) (by repeat first |apply Cl_b |apply Cl_q |apply Cl_r) ⟨rfl,FP.zero _ _⟩ (fun i h' lg' g hi hP hK=> ?_) (fun h' lg' g hP hK=> ?_)
  · have a:=hK.all (lg:=lg) (d:=d) (by repeat first |exact LogOK.nil |apply LogOK.cons)
    have e:=(hK.sl ht).el hi
    have p:=(hK.sl ht).pv hi (by omega)
    have r:=rnd hi (by omega)
    unfold rngC at e p
    simp+contextual -implicitDefEqProofs (maxSteps:=1000000) (maxDischargeDepth:=20) only[go_sem,simprocAttr,a,e,p,r,g1]
    have f1: ∀ x:Int,tkBad R i=x∧x≠0→(x=(recvE R).1∧(i:Int)=(recvE R).2):=fun x hx=>by
      rw[e0,if_pos (by rw[←hP.s1 hi hx];exact hx.2)]
      exact ⟨hP.s1 hi hx,hP.s2 hi (by rw[hx.1];exact hx.2)⟩
    (repeat' first |(refine f1 _ ?_)|apply And.intro |intro _) <;>(try refine hP.next hi ?_) <;>first |omega |(simp only[tkBad] <;>(repeat' split) <;>omega)
  · have a:=hK.all (lg:=lg) (d:=d) (by repeat first |exact LogOK.nil |apply LogOK.cons)
    have r:=rndl R.taken.length
    have lk:=hk.len
    simp+contextual -implicitDefEqProofs (maxSteps:=1000000) (maxDischargeDepth:=20) only[go_sem,simprocAttr,a,r,lk,List.length_map]
    refine WloopK R.kept.length [X85] (fun i=> [.int .i64 i]) (FP (kpBad R) R.kept.length) (by omega) (by repeat first |apply Cl_b |apply Cl_q |apply Cl_r) ⟨rfl,FP.zero _ _⟩ (fun i h2 lg2 g2 hi hP2 hK2=> ?_) (fun h2 lg2 g2 hP2 hK2=> ?_)
    · have a2:=hK2.all (lg:=lg') (d:=d) (by repeat first |exact LogOK.nil |apply LogOK.cons)
      have a:=Keep.all (lg:=lg) (d:=d) (hK.trans hK2) (by repeat first |exact LogOK.nil |apply LogOK.cons)
      have e:=(hK2.sl (hK.sl hk)).el hi
      have p:=(hK2.sl (hK.sl hk)).pv hi (by omega)
      have r:=rnd hi (by omega)
      have hz:=hP.last
      have g2:=fun l lg d=>h139 R.taken t (gt R.kept i) ⟨bxt h2 l,lg,d⟩ ((hK2.sl (hK.sl ht)).bx l) (by omega)
      unfold u64C at e p
      simp+contextual -implicitDefEqProofs (maxSteps:=1000000) (maxDischargeDepth:=20) only[go_sem,simprocAttr,a,a2,e,p,r,g2]
      have f1: ∀ x:Int,kpBad R i=x∧x≠0→(x=(recvE R).1∧(i:Int)=(recvE R).2):=fun x hx=>by
        rw[e0,if_neg (by rw[hz.1];omega)]
        exact ⟨hP2.s1 hi hx,hP2.s2 hi (by rw[hx.1];exact hx.2)⟩
      (repeat' first |(refine f1 _ ?_)|apply And.intro |intro _) <;>(try refine hP2.next hi ?_) <;>first |omega |(simp only[kpBad] <;>(repeat' split) <;>first |omega |(exfalso;simp_all;omega))
    · have a2:=hK2.all (lg:=lg') (d:=d) (by repeat first |exact LogOK.nil |apply LogOK.cons)
      have a:=Keep.all (lg:=lg) (d:=d) (hK.trans hK2) (by repeat first |exact LogOK.nil |apply LogOK.cons)
      have r:=rndl R.kept.length
      have hz:=hP.last
      simp+contextual -implicitDefEqProofs (maxSteps:=1000000) (maxDischargeDepth:=20) only[go_sem,simprocAttr,a,a2,r]
      rw[e0,if_neg (by rw[hz.1];omega)]
      simp[hP2.last]
end
section
variable {F:FuncId→Option AFunc} {meth:Meth} {sm:Summ}
theorem inR_cons (y:Int × Int) (l:List (Int × Int)) (x:Int):inR (y::l) x=(decide (y.1≤x∧x<y.2)||inR l x):=rfl
def H144 (sm:Summ):Prop:= ∀ (l:List (Int × Int)) (v:AV) (x:Int) (m:Mem),SlAt m.blks 2 v (l.map rngC)→l.length≤1000→sm 144 [v,.int .u64 x] m=some (.bool (decide (inR l x=true)),m)
theorem e144 (hF:F 144=some AF144) (hs: ∀ vs m,sm 144 vs m=none) (n:Nat) (h:Blks) (lg d:List Nat) {l:List (Int × Int)} {v:AV} {x:Int} (hv:SlAt h 2 v (l.map rngC)) (hw:l.length≤1000):
    Ev F meth sm (n+2000) 144 [v,.int .u64 x] ⟨h,lg,d⟩ (.bool (decide (inR l x=true))):=by
  refine Ev.ofW ?_
  have lv:=hv.len
  simp+contextual -implicitDefEqProofs (maxSteps:=1000000) (maxDischargeDepth:=20) only[go_sem,simprocAttr,hs,hF,AF144,lv,List.length_map]
  refine WloopK l.length [X5] (fun i=> [.int .i64 i]) (fun i=>inR l x=inR (l.drop i) x) (by omega) (by repeat first |apply Cl_b |apply Cl_q |apply Cl_r) ⟨rfl,rfl⟩ (fun i h' lg' g hi hP hK=> ?_) (fun h' lg' g hP hK=> ?_)
  · have a:=hK.all (lg:=lg) (d:=d) (by repeat first |exact LogOK.nil |apply LogOK.cons)
    have e:=(hK.sl hv).el hi
    have r:=rnd hi (by omega)
    unfold rngC at e
    rw[List.drop_eq_getElem_cons hi,inR_cons,←gt_eq hi] at hP
    simp+contextual -implicitDefEqProofs (maxSteps:=1000000) (maxDischargeDepth:=20) only[go_sem,simprocAttr,a,e,r,lv,List.length_map]
    refine ⟨fun c=>⟨fun c'=> ?_,fun c'=> ?_⟩,fun c=> ?_⟩
    · simp[hP,c,c']
    · simp only[c,c',and_false,decide_false,Bool.false_or] at hP;exact hP
    · simp only[c,false_and,decide_false,Bool.false_or] at hP;exact hP
  · have a:=hK.all (lg:=lg) (d:=d) (by repeat first |exact LogOK.nil |apply LogOK.cons)
    have r:=rndl l.length
    simp+contextual -implicitDefEqProofs (maxSteps:=1000000) (maxDischargeDepth:=20) only[go_sem,simprocAttr,a,r,lv,List.length_map]
    rw[hP,List.drop_length];rfl
def H105 (sm:Summ):Prop:= ∀ (R:RecvD) (t k:AV) (m:Mem),RecvAt m.blks R t k→sm 105 [.agg (recvC R t k)] m=some (.tuple [.int .i64 (recvE R).1,.int .i64 (recvE R).2],m)
theorem e105 (hF:F 105=some AF105) (hs: ∀ vs m,sm 105 vs m=none) (n:Nat) (h:Blks) (lg d:List Nat) (h144:H144 sm) {R:RecvD} {t k:AV} (H:RecvAt h R t k):
    Ev F meth sm (n+2000) 105 [.agg (recvC R t k)] ⟨h,lg,d⟩ (.tuple [.int .i64 (recvE R).1,.int .i64 (recvE R).2]):=by
  refine Ev.ofW ?_
  obtain ⟨ht,hk,w1,w2⟩:=H
  have c1:=ht.sc
  have c2:=hk.sc
  have lt:=ht.len
  have lk:=hk.len
  have wr:=fun (p: ¬ R.g<R.r)=>(wrapU (x:=R.g - R.r) (by omega) (by omega))
  simp+contextual -implicitDefEqProofs (maxSteps:=1000000) (maxDischargeDepth:=20) only[go_sem,simprocAttr,hs,hF,AF105,recvC,wr,lt,lk,c1,c2,List.length_map]
  refine ⟨fun q1=>by simp[recvE,q1],fun q1=>⟨fun q2=>by simp[recvE,q1,q2],fun q2=>⟨fun q3=>by simp[recvE,q1,q2,q3],fun q3=>⟨fun q4=>by simp[recvE,q1,q2,q3,q4],fun q4=>⟨fun q5=>by simp[recvE,q1,q2,q3,q4,q5],fun q5=> ?_⟩⟩⟩⟩⟩
  have wr':=wr q2
  have e0:recvE R=if first (tkBad R) R.taken.length≠0 then (first (tkBad R) R.taken.length,firstI (tkBad R) R.taken.length) else (first (kpBad R) R.kept.length,firstI (kpBad R) R.kept.length):=by simp only[recvE,q1,q2,q3,q4,q5,if_false,or_self]
  refine WloopK R.taken.length [X4] (fun i=> [.int .i64 i]) (FP (tkBad R) R.taken.length) (by omega) (by repeat first |apply Cl_b |apply Cl_q |apply Cl_r) ⟨rfl,FP.zero _ _⟩ (fun i h' lg' g hi hP hK=> ?_) (fun h' lg' g hP hK=> ?_)
  · have a:=hK.all (lg:=lg) (d:=d) (by repeat first |exact LogOK.nil |apply LogOK.cons)
    have e:=(hK.sl ht).el hi
    have p:=(hK.sl ht).pv hi (by omega)
    have r:=rnd hi (by omega)
    unfold rngC at e p
    simp+contextual -implicitDefEqProofs (maxSteps:=1000000) (maxDischargeDepth:=20) only[go_sem,simprocAttr,a,e,p,r,wr',lt,List.length_map]
    have f1: ∀ x:Int,tkBad R i=x∧x≠0→(x=(recvE R).1∧(i:Int)=(recvE R).2):=fun x hx=>by
      rw[e0,if_pos (by rw[←hP.s1 hi hx];exact hx.2)]
      exact ⟨hP.s1 hi hx,hP.s2 hi (by rw[hx.1];exact hx.2)⟩
    (repeat' first |(refine f1 _ ?_)|apply And.intro |intro _) <;>(try refine hP.next hi ?_) <;>first |omega |(simp only[tkBad] <;>(repeat' split) <;>omega)
  · have a:=hK.all (lg:=lg) (d:=d) (by repeat first |exact LogOK.nil |apply LogOK.cons)
    have r:=rndl R.taken.length
    simp+contextual -implicitDefEqProofs (maxSteps:=1000000) (maxDischargeDepth:=20) only[go_sem,simprocAttr,a,r,lt,lk,List.length_map]
    refine WloopK R.kept.length [X6] (fun i=> [.int .i64 i]) (FP (kpBad R) R.kept.length) (by omega) (by repeat first |apply Cl_b |apply Cl_q |apply Cl_r) ⟨rfl,FP.zero _ _⟩ (fun i h2 lg2 g2 hi hP2 hK2=> ?_) (fun h2 lg2 g2 hP2 hK2=> ?_)
    · have a2:=hK2.all (lg:=lg') (d:=d) (by repeat first |exact LogOK.nil |apply LogOK.cons)
      have a:=Keep.all (lg:=lg) (d:=d) (hK.trans hK2) (by repeat first |exact LogOK.nil |apply LogOK.cons)
      have e:=(hK2.sl (hK.sl hk)).el hi
      have p:=(hK2.sl (hK.sl hk)).pv hi (by omega)
      have r:=rnd hi (by omega)
      have hz:=hP.last
      have g2:=fun l lg d=>h144 R.taken t (gt R.kept i) ⟨bxt h2 l,lg,d⟩ ((hK2.sl (hK.sl ht)).bx l) (by omega)
      unfold u64C at e p
      simp+contextual -implicitDefEqProofs (maxSteps:=1000000) (maxDischargeDepth:=20) only[go_sem,simprocAttr,a,a2,e,p,r,g2,lk,List.length_map]
      have f1: ∀ x:Int,kpBad R i=x∧x≠0→(x=(recvE R).1∧(i:Int)=(recvE R).2):=fun x hx=>by
        rw[e0,if_neg (by rw[hz.1];omega)]
        exact ⟨hP2.s1 hi hx,hP2.s2 hi (by rw[hx.1];exact hx.2)⟩
      (repeat' first |(refine f1 _ ?_)|apply And.intro |intro _) <;>(try refine hP2.next hi ?_) <;>first |omega |(simp only[kpBad] <;>(repeat' split) <;>first |omega |(exfalso;simp_all;omega))
    · have a2:=hK2.all (lg:=lg') (d:=d) (by repeat first |exact LogOK.nil |apply LogOK.cons)
      have a:=Keep.all (lg:=lg) (d:=d) (hK.trans hK2) (by repeat first |exact LogOK.nil |apply LogOK.cons)
      have r:=rndl R.kept.length
      have hz:=hP.last
      simp+contextual -implicitDefEqProofs (maxSteps:=1000000) (maxDischargeDepth:=20) only[go_sem,simprocAttr,a,a2,r,lk,List.length_map]
      rw[e0,if_neg (by rw[hz.1];omega)]
      simp[hP2.last]
end
section
variable {F:FuncId→Option AFunc} {meth:Meth} {sm:Summ}
structure SendAt (h:Blks) (S:SendD) (s:AV):Prop where
  s:SlAt h 5 s (S.slots.map slotC)
  g0:0≤S.r
  n0:0≤S.n
  g1:S.g≤18446744073709551615
  n1:S.n≤18446744073709551615
  u: ∀ x∈S.slots,0≤x.off∧0≤x.size
def hasID (l:List SlotD) (x:IdD):Nat→Bool
  |0=>false
  |i+1=>hasID l x i ||decide ((gt l i).id=x)
theorem hasID_iff (l:List SlotD) (x:IdD): ∀ i,hasID l x i=true↔ ∃ k,k<i∧(gt l k).id=x
  |0=>by simp[hasID]
  | i +1=>by
    rw[hasID,Bool.or_eq_true,hasID_iff l x i,decide_eq_true_eq]
    constructor
    · rintro (⟨k,h1,h2⟩|h)
      · exact ⟨k,by omega,h2⟩
      · exact ⟨i,by omega,h⟩
    · rintro ⟨k,h1,h2⟩
      rcases Nat.lt_or_ge k i with h |h
      · exact .inl ⟨k,h,h2⟩
      · exact .inr (by rw[show i=k by omega];exact h2)
theorem idD_eq (a b:IdD):(a.n=b.n∧a.s=b.s∧a.o=b.o)↔a=b:=by
  cases a;cases b;simp
def slBad (S:SendD) (i:Nat):Int:=
  if (gt S.slots i).size=0∨idE (gt S.slots i).id≠0 then 2
  else if S.n<(gt S.slots i).off∨S.n - (gt S.slots i).off<(gt S.slots i).size∨(0<i∧(gt S.slots i).off<(gt S.slots (i - 1)).off+(gt S.slots (i - 1)).size) then 19
  else if hasID S.slots (gt S.slots i).id i=true then 9 else 0
def sendE (S:SendD):Int × Int:=
  if 1125899906842624<S.g then (2,0) else if S.g<S.r∨S.g - S.r<S.n then (14,0) else if 100<(S.slots.length:Int) then (5,0)
  else (first (slBad S) S.slots.length,firstI (slBad S) S.slots.length)
def H143 (sm:Summ):Prop:= ∀ (S:SendD) (s:AV) (i:Nat) (m:Mem),SendAt m.blks S s→i<S.slots.length→S.slots.length≤1000→S.n≤1125899906842624→(∀ j,j<i→slBad S j=0)→sm 143 [.agg (sendC S s),.int .i64 i] m=some (.int .i64 (slBad S i),m)
theorem e143 (hF:F 143=some AF143) (hs: ∀ vs m,sm 143 vs m=none) (n:Nat) (h:Blks) (lg d:List Nat) (h100:H100 sm) {S:SendD} {s:AV} {i:Nat} (H:SendAt h S s) (hi:i<S.slots.length) (hw:S.slots.length≤1000) (hn:S.n≤1125899906842624) (hb: ∀ j,j<i→slBad S j=0):
    Ev F meth sm (n+2000) 143 [.agg (sendC S s),.int .i64 i] ⟨h,lg,d⟩ (.int .i64 (slBad S i)):=by
  refine Ev.ofW ?_
  have c1:=H.s.sc
  have ls:=H.s.len
  have e:=H.s.el hi
  have p:=H.s.pv hi (by omega)
  have g:=h100 (gt S.slots i).id
  have u1:=H.u (gt S.slots i) (by rw[gt_eq hi];exact List.getElem_mem hi)
  have w1:=fun (q: ¬ S.n<(gt S.slots i).off)=>(wrapU (x:=S.n - (gt S.slots i).off) (by omega) (by have:=H.n1;omega))
  have w2:0<(i:Int)→IntKind.u64.wrap ((gt S.slots (i - 1)).off+(gt S.slots (i - 1)).size)=(gt S.slots (i - 1)).off+(gt S.slots (i - 1)).size:=fun q=>by
    have u2:=H.u (gt S.slots (i - 1)) (by rw[gt_eq (by omega)];exact List.getElem_mem (by omega))
    have hz:=hb (i - 1) (by omega)
    rw[wrapU (by omega)]
    simp only[slBad] at hz
    split at hz
    · omega
    · split at hz
      · omega
      · omega
  unfold slotC at e p
  unfold idC at g
  simp+contextual -implicitDefEqProofs (maxSteps:=1000000) (maxDischargeDepth:=20) only[go_sem,simprocAttr,hs,hF,AF143,sendC,c1,ls,e,p,g,w1,w2]
  have key: ∀ x:Int,(¬ ((gt S.slots i).size=0∨idE (gt S.slots i).id≠0))→(¬ (S.n<(gt S.slots i).off∨S.n - (gt S.slots i).off<(gt S.slots i).size∨(0<i∧(gt S.slots i).off<(gt S.slots (i - 1)).off+(gt S.slots (i - 1)).size)))→x=(if hasID S.slots (gt S.slots i).id i=true then 9 else 0)→x=slBad S i:=fun x q1 q2 q3=>by
    rw[q3,slBad,if_neg q1,if_neg q2]
  (repeat' first |apply And.intro |intro _) <;>first |(simp only[slBad] <;>(repeat' split) <;>omega)|skip
  all_goals
    refine WloopK i [X6] (fun k=> [.int .i64 k]) (fun k=>hasID S.slots (gt S.slots i).id k=false) (by omega) (by repeat first |apply Cl_b |apply Cl_q |apply Cl_r) ⟨rfl,rfl⟩ (fun k h' lg' g2 hk hP hK=> ?_) (fun h' lg' g2 hP hK=> ?_)
    · have a:=hK.all (lg:=lg) (d:=d) (by repeat first |exact LogOK.nil |apply LogOK.cons)
      have e2:=(hK.sl H.s).el (i:=k) (by omega)
      have e3:=(hK.sl H.s).el hi
      have r:=rnd hk (by omega)
      unfold slotC at e2 e3
      simp+contextual -implicitDefEqProofs (maxSteps:=1000000) (maxDischargeDepth:=20) only[go_sem,simprocAttr,a,e2,e3,r]
      rw[idD_eq]
      refine ⟨fun c=> ?_,fun c=> ?_⟩
      · refine key _ (by omega) (by omega) ?_
        rw[if_pos ((hasID_iff _ _ _).2 ⟨k,hk,c⟩)]
      · rw[hasID,hP,decide_eq_false c];rfl
    · have a:=hK.all (lg:=lg) (d:=d) (by repeat first |exact LogOK.nil |apply LogOK.cons)
      have r:=rndl i
      simp+contextual -implicitDefEqProofs (maxSteps:=1000000) (maxDischargeDepth:=20) only[go_sem,simprocAttr,a,r]
      refine key _ (by omega) (by omega) ?_
      rw[hP];rfl
def H104 (sm:Summ):Prop:= ∀ (S:SendD) (s:AV) (m:Mem),SendAt m.blks S s→sm 104 [.agg (sendC S s)] m=some (.tuple [.int .i64 (sendE S).1,.int .i64 (sendE S).2],m)
theorem e104 (hF:F 104=some AF104) (hs: ∀ vs m,sm 104 vs m=none) (n:Nat) (h:Blks) (lg d:List Nat) (h143:H143 sm) {S:SendD} {s:AV} (H:SendAt h S s):
    Ev F meth sm (n+2000) 104 [.agg (sendC S s)] ⟨h,lg,d⟩ (.tuple [.int .i64 (sendE S).1,.int .i64 (sendE S).2]):=by
  refine Ev.ofW ?_
  have c1:=H.s.sc
  have ls:=H.s.len
  have g0:=H.g0
  have g1:=H.g1
  have wr:=fun (p: ¬ S.g<S.r)=>(wrapU (x:=S.g - S.r) (by omega) (by omega))
  simp+contextual -implicitDefEqProofs (maxSteps:=1000000) (maxDischargeDepth:=20) only[go_sem,simprocAttr,hs,hF,AF104,sendC,c1,ls,wr,List.length_map]
  refine ⟨fun q1=>by simp[sendE,q1],fun q1=>⟨fun q2=>by simp[sendE,q1,q2],fun q2=>⟨fun q3=>by simp[sendE,q1,q2,q3],fun q3=>⟨fun q4=>by simp[sendE,q1,q2,q3,q4],fun q4=> ?_⟩⟩⟩⟩
  have e0:sendE S=(first (slBad S) S.slots.length,firstI (slBad S) S.slots.length):=by simp only[sendE,q1,q2,q3,q4,if_false,or_self]
  refine WloopK S.slots.length [X4] (fun i=> [.int .i64 i]) (fun i=>FP (slBad S) S.slots.length i∧ ∀ j,j<i→slBad S j=0) (by omega) (by repeat first |apply Cl_b |apply Cl_q |apply Cl_r) ⟨rfl,FP.zero _ _,fun j hj=>by omega⟩ (fun i h' lg' g hi ⟨hP,hB⟩ hK=> ?_) (fun h' lg' g ⟨hP,hB⟩ hK=> ?_)
  · have a:=hK.all (lg:=lg) (d:=d) (by repeat first |exact LogOK.nil |apply LogOK.cons)
    have r:=rnd hi (by omega)
    have g2:=fun l lg d=>h143 S s i ⟨bxt h' l,lg,d⟩ ⟨(hK.sl H.s).bx l,H.g0,H.n0,H.g1,H.n1,H.u⟩ hi (by omega) (by omega) hB
    unfold sendC at g2
    simp+contextual -implicitDefEqProofs (maxSteps:=1000000) (maxDischargeDepth:=20) only[go_sem,simprocAttr,a,r,g2,ls,List.length_map,e0]
    refine ⟨fun c=>⟨hP.s1 hi ⟨rfl,c⟩,hP.s2 hi c⟩,fun c=>⟨hP.next hi c,fun j hj=> ?_⟩⟩
    rcases Nat.lt_or_ge j i with hj' |hj'
    · exact hB j hj'
    · rw[show j=i by omega];exact c
  · have a:=hK.all (lg:=lg) (d:=d) (by repeat first |exact LogOK.nil |apply LogOK.cons)
    have r:=rndl S.slots.length
    simp+contextual -implicitDefEqProofs (maxSteps:=1000000) (maxDischargeDepth:=20) only[go_sem,simprocAttr,a,r,ls,List.length_map,e0]
    simp[hP.last]
end
section
variable {F:FuncId→Option AFunc} {meth:Meth} {sm:Summ}
theorem cst0:((0:Nat):Int)=0:=rfl
theorem cst1:((0+1:Nat):Int)=1:=rfl
theorem cst2:((1+1:Nat):Int)=2:=rfl
def H168 (sm:Summ):Prop:= ∀ (x:IdD) (y:SlotD) (m:Mem),sm 168 [.agg (idC x),.agg (slotC y)] m=some (.bool (decide (y.id=x)),m)
theorem e168 (hF:F 168=some AF168) (hs: ∀ vs m,sm 168 vs m=none) (n:Nat) (h:Blks) (lg d:List Nat) {x:IdD} {y:SlotD}:Ev F meth sm (n+2000) 168 [.agg (idC x),.agg (slotC y)] ⟨h,lg,d⟩ (.bool (decide (y.id=x))):=by
  refine Ev.ofW ?_
  simp+contextual -implicitDefEqProofs (maxSteps:=1000000) (maxDischargeDepth:=20) only[go_sem,simprocAttr,hs,hF,AF168,idC,slotC,idD_eq]
def H167 (sm:Summ):Prop:= ∀ (l:List SlotD) (v:AV) (x:IdD) (m:Mem),SlAt m.blks 5 v (l.map slotC)→l.length≤1000→sm 167 [v,.func 168 [.agg (idC x)] []] m=some (.int .i64 (idxF (fun y=>decide (y.id=x)) 0 l),m)
theorem e167 (hF:F 167=some AF167) (hs: ∀ vs m,sm 167 vs m=none) (n:Nat) (h:Blks) (lg d:List Nat) (h168:H168 sm) {l:List SlotD} {v:AV} {x:IdD} (hv:SlAt h 5 v (l.map slotC)) (hw:l.length≤1000):
    Ev F meth sm (n+2000) 167 [v,.func 168 [.agg (idC x)] []] ⟨h,lg,d⟩ (.int .i64 (idxF (fun y=>decide (y.id=x)) 0 l)):=by
  refine Ev.ofW ?_
  have lv:=hv.len
  simp+contextual -implicitDefEqProofs (maxSteps:=1000000) (maxDischargeDepth:=20) only[go_sem,simprocAttr,hs,hF,AF167,lv,List.length_map]
  refine WloopK l.length [X8] (fun i=> [.int .i64 i]) (fun i=>idxF (fun y=>decide (y.id=x)) 0 l=idxF (fun y=>decide (y.id=x)) i (l.drop i)) (by omega) (by repeat first |apply Cl_b |apply Cl_q |apply Cl_r) ⟨rfl,rfl⟩ (fun i h' lg' g hi hP hK=> ?_) (fun h' lg' g hP hK=> ?_)
  · have a:=hK.all (lg:=lg) (d:=d) (by repeat first |exact LogOK.nil |apply LogOK.cons)
    have e:=(hK.sl hv).el hi
    have r:=rnd hi (by omega)
    have g1:=h168 x (gt l i)
    unfold slotC at e g1
    rw[List.drop_eq_getElem_cons hi,idxF,←gt_eq hi] at hP
    simp+contextual -implicitDefEqProofs (maxSteps:=1000000) (maxDischargeDepth:=20) only[go_sem,simprocAttr,a,e,r,g1]
    exact ⟨fun c=>by rw[hP,if_pos (decide_eq_true c)],fun c=>by rw[hP,if_neg (fun q=>c (of_decide_eq_true q))]⟩
  · have a:=hK.all (lg:=lg) (d:=d) (by repeat first |exact LogOK.nil |apply LogOK.cons)
    have r:=rndl l.length
    simp+contextual -implicitDefEqProofs (maxSteps:=1000000) (maxDischargeDepth:=20) only[go_sem,simprocAttr,a,r]
    rw[hP,List.drop_length]
    rfl
def H137 (sm:Summ):Prop:= ∀ (l:List SlotD) (v:AV) (a b c:Int) (x:IdD) (m:Mem),SlAt m.blks 5 v (l.map slotC)→l.length≤1000→sm 137 [.agg [.int .u64 a,.int .u64 b,.int .u64 c,v],.agg (idC x)] m=some (.int .i64 (idxF (fun y=>decide (y.id=x)) 0 l),m)
theorem e137 (hF:F 137=some AF137) (hs: ∀ vs m,sm 137 vs m=none) (n:Nat) (h:Blks) (lg d:List Nat) (h167:H167 sm) {l:List SlotD} {v:AV} {a b c:Int} {x:IdD} (hv:SlAt h 5 v (l.map slotC)) (hw:l.length≤1000):
    Ev F meth sm (n+2000) 137 [.agg [.int .u64 a,.int .u64 b,.int .u64 c,v],.agg (idC x)] ⟨h,lg,d⟩ (.int .i64 (idxF (fun y=>decide (y.id=x)) 0 l)):=by
  refine Ev.ofW ?_
  have c1:=hv.sc
  have g:=fun l' lg d=>h167 l v x ⟨bxt h l',lg,d⟩ (hv.bx l') hw
  unfold idC at g
  simp+contextual -implicitDefEqProofs (maxSteps:=1000000) (maxDischargeDepth:=20) only[go_sem,simprocAttr,hs,hF,AF137,idC,c1,g]
def H134 (sm:Summ):Prop:= ∀ (S:SendD) (s:AV) (b:Nat) (own:Bool) (m:Mem),bget m.blks b=some (.row own 4 [sendC S s])→sm 134 [.ptr b 0 0] m=some (.bool (decide (S.g≤1125899906842624)),m)
theorem e134 (hF:F 134=some AF134) (hs: ∀ vs m,sm 134 vs m=none) (n:Nat) (h:Blks) (lg d:List Nat) {S:SendD} {s:AV} {b:Nat} {own:Bool} (hb:bget h b=some (.row own 4 [sendC S s])):Ev F meth sm (n+2000) 134 [.ptr b 0 0] ⟨h,lg,d⟩ (.bool (decide (S.g≤1125899906842624))):=by
  refine Ev.ofW ?_
  have hb':=fun l=>(bxt_old l h b (bget_lt hb)).trans hb
  unfold sendC at hb'
  simp+contextual -implicitDefEqProofs (maxSteps:=1000000) (maxDischargeDepth:=20) only[go_sem,simprocAttr,hs,hF,AF134,hb',o_ldg]
def H135 (sm:Summ):Prop:= ∀ (S:SendD) (s:AV) (b:Nat) (own:Bool) (m:Mem),0≤S.r→S.g≤18446744073709551615→bget m.blks b=some (.row own 4 [sendC S s])→sm 135 [.ptr b 0 0] m=some (.bool (decide (S.r≤S.g∧S.n≤S.g - S.r)),m)
theorem e135 (hF:F 135=some AF135) (hs: ∀ vs m,sm 135 vs m=none) (n:Nat) (h:Blks) (lg d:List Nat) {S:SendD} {s:AV} {b:Nat} {own:Bool} (w1:0≤S.r) (w2:S.g≤18446744073709551615) (hb:bget h b=some (.row own 4 [sendC S s])):Ev F meth sm (n+2000) 135 [.ptr b 0 0] ⟨h,lg,d⟩ (.bool (decide (S.r≤S.g∧S.n≤S.g - S.r))):=by
  refine Ev.ofW ?_
  have hb':=fun l=>(bxt_old l h b (bget_lt hb)).trans hb
  have w:=fun (q:S.r≤S.g)=>(wrapU (x:=S.g - S.r) (by omega) (by omega))
  unfold sendC at hb'
  simp+contextual -implicitDefEqProofs (maxSteps:=1000000) (maxDischargeDepth:=20) only[go_sem,simprocAttr,hs,hF,AF135,hb',o_ldg,w]
def H136 (sm:Summ):Prop:= ∀ (S:SendD) (s:AV) (b:Nat) (own:Bool) (m:Mem),SlAt m.blks 5 s (S.slots.map slotC)→bget m.blks b=some (.row own 4 [sendC S s])→sm 136 [.ptr b 0 0] m=some (.bool (decide ((S.slots.length:Int)≤100)),m)
theorem e136 (hF:F 136=some AF136) (hs: ∀ vs m,sm 136 vs m=none) (n:Nat) (h:Blks) (lg d:List Nat) {S:SendD} {s:AV} {b:Nat} {own:Bool} (hs1:SlAt h 5 s (S.slots.map slotC)) (hb:bget h b=some (.row own 4 [sendC S s])):Ev F meth sm (n+2000) 136 [.ptr b 0 0] ⟨h,lg,d⟩ (.bool (decide ((S.slots.length:Int)≤100))):=by
  refine Ev.ofW ?_
  have hb':=fun l=>(bxt_old l h b (bget_lt hb)).trans hb
  have ls:=hs1.len
  unfold sendC at hb'
  simp+contextual -implicitDefEqProofs (maxSteps:=1000000) (maxDischargeDepth:=20) only[go_sem,simprocAttr,hs,hF,AF136,hb',o_ldg,ls,List.length_map]
def endAt (S:SendD):Nat→Int
  |0=>0
  |i+1=>(gt S.slots i).off+(gt S.slots i).size
theorem idx_has (l:List SlotD) (x:IdD) (i:Nat) (hi:i≤l.length):(0≤idxF (fun y=>decide (y.id=x)) 0 (l.take i))↔hasID l x i=true:=by
  rw[idxF_any,hasID_iff,List.any_eq_true]
  constructor
  · rintro ⟨y,h1,h2⟩
    obtain ⟨k,hk⟩:=List.getElem?_of_mem h1
    rw[List.getElem?_take] at hk
    split at hk
    · rename_i hlt
      refine ⟨k,hlt,?_⟩
      have:=of_decide_eq_true h2
      rw[gt,List.getD_eq_getElem?_getD,hk]
      exact this
    · cases hk
  · rintro ⟨k,h1,h2⟩
    refine ⟨gt l k,?_,decide_eq_true h2⟩
    rw[gt_eq (by omega)]
    exact List.mem_of_getElem? (i:=k) (by rw[List.getElem?_take,if_pos h1,List.getElem?_eq_getElem (by omega)])
def H96 (sm:Summ):Prop:= ∀ (S:SendD) (s:AV) (m:Mem),SendAt m.blks S s→sm 96 [.agg (sendC S s)] m=some (.tuple [.int .i64 (sendE S).1,.int .i64 (sendE S).2],m)
theorem e96 (hF:F 96=some AF96) (hs: ∀ vs m,sm 96 vs m=none) (n:Nat) (h:Blks) (lg d:List Nat) (h92:H92 sm) (h134:H134 sm) (h135:H135 sm) (h136:H136 sm) (h137:H137 sm) {S:SendD} {s:AV} (H:SendAt h S s):
    Ev F meth sm (n+2000) 96 [.agg (sendC S s)] ⟨h,lg,d⟩ (.tuple [.int .i64 (sendE S).1,.int .i64 (sendE S).2]):=by
  refine Ev.ofW ?_
  have c1:=H.s.sc
  simp+contextual -implicitDefEqProofs (maxSteps:=1000000) (maxDischargeDepth:=20) only[go_sem,simprocAttr,hs,hF,AF96,sendC,c1]
  refine WloopK 3 [X17] (fun i=> [.int .i64 i]) (fun i=>(0<i→S.g≤1125899906842624)∧(1<i→S.r≤S.g∧S.n≤S.g - S.r)∧(2<i→(S.slots.length:Int)≤100)) (by omega) (by repeat first |apply Cl_b |apply Cl_q |apply Cl_r) ⟨rfl,by omega⟩ (fun i h' lg' g hi hP hK=> ?_) (fun h' lg' g hP hK=> ?_)
  · have a:=hK.all (lg:=lg) (d:=d) (by repeat first |exact LogOK.nil |apply LogOK.cons)
    have r:=rnd hi (by omega)
    have b1:=fun l=>a.1 l 0 (by simp only[blen];omega)
    have g1:=fun l lg d=>h134 S s (nb h 0) true ⟨bxt h' l,lg,d⟩ (b1 l)
    have g2:=fun l lg d=>h135 S s (nb h 0) true ⟨bxt h' l,lg,d⟩ H.g0 H.g1 (b1 l)
    have g3:=fun l lg d=>h136 S s (nb h 0) true ⟨bxt h' l,lg,d⟩ ((hK.sl H.s).bx l) (b1 l)
    rcases (by omega:i=0∨i=1∨i=2) with rfl |rfl |rfl
    all_goals
      simp+contextual -implicitDefEqProofs (maxSteps:=1000000) (maxDischargeDepth:=20) only[go_sem,simprocAttr,a,r,g1,g2,g3]
      (repeat' first |apply And.intro |intro _) <;>first |contradiction |omega |rfl |(rw[sendE];(repeat' split) <;>first |rfl |omega)
  · have a:=hK.all (lg:=lg) (d:=d) (by repeat first |exact LogOK.nil |apply LogOK.cons)
    have ls:=H.s.len
    have q1:=hP.1 (by omega)
    have q2:=hP.2.1 (by omega)
    have q3:=hP.2.2 (by omega)
    have r:=rndl 3
    simp+contextual -implicitDefEqProofs (maxSteps:=1000000) (maxDischargeDepth:=20) only[go_sem,simprocAttr,a,r,ls,List.length_map]
    have e0:sendE S=(first (slBad S) S.slots.length,firstI (slBad S) S.slots.length):=by
      rw[sendE,if_neg (by omega),if_neg (by omega),if_neg (by omega)]
    refine WloopK S.slots.length [X31,X6] (fun i=> [.int .i64 i,.int .u64 (endAt S i)]) (fun i=>FP (slBad S) S.slots.length i∧ ∀ j,j<i→slBad S j=0) (by omega) (by repeat first |apply Cl_b |apply Cl_q |apply Cl_r) ⟨rfl,FP.zero _ _,fun j hj=>by omega⟩ (fun i h2 lg2 g2 hi ⟨hP2,hB⟩ hK2=> ?_) (fun h2 lg2 g2 ⟨hP2,hB⟩ hK2=> ?_)
    · have a2:=hK2.all (lg:=lg') (d:=d) (by repeat first |exact LogOK.nil |apply LogOK.cons)
      have a:=Keep.all (lg:=lg) (d:=d) (hK.trans hK2) (by repeat first |exact LogOK.nil |apply LogOK.cons)
      have e:=(hK2.sl (hK.sl H.s)).el hi
      have r:=rnd hi (by omega)
      have gi:=h92 (gt S.slots i).id
      obtain ⟨v',hv1,hv2⟩:=(hK2.sl (hK.sl H.s)).pre i (by simpa using hi)
      rw[←List.map_take] at hv2
      have gs:=fun l lg d=>h137 (S.slots.take i) v' 0 0 0 (gt S.slots i).id ⟨bxt h2 l,lg,d⟩ (hv2.bx l) (by simp;omega)
      have u1:=H.u (gt S.slots i) (by rw[gt_eq hi];exact List.getElem_mem hi)
      have w1:=fun (q: ¬ S.n<(gt S.slots i).off)=>(wrapU (x:=S.n - (gt S.slots i).off) (by omega) (by have:=H.n1;omega))
      have w2:=fun (q: ¬ S.n<(gt S.slots i).off) (q': ¬ S.n - (gt S.slots i).off<(gt S.slots i).size)=>(wrapU (x:=(gt S.slots i).off+(gt S.slots i).size) (by omega) (by have:=H.n1;omega))
      have c3:=hv2.sc
      have c4:=hv2.cells
      unfold slotC at e
      unfold idC at gi gs
      simp+contextual -implicitDefEqProofs (maxSteps:=1000000) (maxDischargeDepth:=20) only[go_sem,simprocAttr,a,a2,e,r,gi,gs,hv1,w1,w2,c3,c4]
      rw[idx_has S.slots _ i (by omega)]
      have he:(i=0∧endAt S i=0)∨(0<i∧endAt S i=(gt S.slots (i - 1)).off+(gt S.slots (i - 1)).size):=by
        cases i with
        |zero=>exact .inl ⟨rfl,rfl⟩
        |succ i=>exact .inr ⟨by omega,rfl⟩
      have f1: ∀ x:Int,slBad S i=x∧x≠0→(x=(sendE S).1∧(i:Int)=(sendE S).2):=fun x hx=>by
        rw[e0]
        exact ⟨hP2.s1 hi hx,hP2.s2 hi (by rw[hx.1];exact hx.2)⟩
      have f2:slBad S i=0→(gt S.slots i).off+(gt S.slots i).size=endAt S (i+1)∧FP (slBad S) S.slots.length (i+1)∧ ∀ (j:Nat),j<i+1→slBad S j=0:=fun hx=>⟨rfl,hP2.next hi hx,fun j hj=>by
        rcases Nat.lt_or_ge j i with hj' |hj'
        · exact hB j hj'
        · rw[show j=i by omega];exact hx⟩
      (repeat' first |(refine f1 _ ?_)|(refine f2 ?_)|apply And.intro |intro _) <;>first |omega |(simp only[slBad] <;>(repeat' split) <;>first |omega |contradiction |(exfalso;omega))
    · have a2:=hK2.all (lg:=lg') (d:=d) (by repeat first |exact LogOK.nil |apply LogOK.cons)
      have a:=Keep.all (lg:=lg) (d:=d) (hK.trans hK2) (by repeat first |exact LogOK.nil |apply LogOK.cons)
      have r:=rndl S.slots.length
      simp+contextual -implicitDefEqProofs (maxSteps:=1000000) (maxDischargeDepth:=20) only[go_sem,simprocAttr,a,a2,r,e0]
      simp[hP2.last]
end
section
variable {F:FuncId→Option AFunc} {meth:Meth} {sm:Summ}
structure PeerAt (h:Blks) (P:PeerD) (s t k:AV):Prop where
  s:SendAt h P.send s
  r:RecvAt h P.recv t k
theorem SendAt.bx {h:Blks} {S:SendD} {s:AV} (H:SendAt h S s) (l:List (Option ABlk)):SendAt (bxt h l) S s:=⟨H.s.bx l,H.g0,H.n0,H.g1,H.n1,H.u⟩
theorem PeerAt.bx {h:Blks} {P:PeerD} {s t k:AV} (H:PeerAt h P s t k) (l:List (Option ABlk)):PeerAt (bxt h l) P s t k:=⟨H.s.bx l,H.r.bx l⟩
def emptyP (P:PeerD):Prop:= ¬ P.sure=true∧P.old=0∧P.send.g=0∧P.send.n=0∧P.send.r=0∧(P.send.slots.length:Int)=0∧P.recv.g=0∧P.recv.r=0∧P.recv.f=0∧(P.recv.taken.length:Int)=0∧(P.recv.kept.length:Int)=0
instance (P:PeerD):Decidable (emptyP P):=by unfold emptyP;infer_instance
def H98 (sm:Summ):Prop:= ∀ (P:PeerD) (s t k:AV) (m:Mem),PeerAt m.blks P s t k→sm 98 [.agg (peerC P s t k)] m=some (.bool (decide (emptyP P)),m)
theorem e98 (hF:F 98=some AF98) (hs: ∀ vs m,sm 98 vs m=none) (n:Nat) (h:Blks) (lg d:List Nat) {P:PeerD} {s t k:AV} (H:PeerAt h P s t k):Ev F meth sm (n+2000) 98 [.agg (peerC P s t k)] ⟨h,lg,d⟩ (.bool (decide (emptyP P))):=by
  refine Ev.ofW ?_
  have c1:=H.s.s.sc
  have c2:=H.r.t.sc
  have c3:=H.r.k.sc
  have l1:=H.s.s.len
  have l2:=H.r.t.len
  have l3:=H.r.k.len
  simp+contextual -implicitDefEqProofs (maxSteps:=1000000) (maxDischargeDepth:=20) only[go_sem,simprocAttr,hs,hF,AF98,peerC,c1,c2,c3,l1,l2,l3,List.length_map,r_vc,r_vp,mskO,Mem.more,bmore,nb_more,List.filter_nil,List.flatMap_nil,List.filter_cons,List.flatMap_cons,List.map_nil,List.map_cons,mask,unmask,AOp.reads,AOpnd.top,top_p,top_s,top_m,top_i,top_b,top_t,top_a,top_u,top_ns,top_s0,top_d,top_f,nb_beq,nb_blt,nb_add,nidOf,slotIn,Nat.beq_refl,clash,Bool.or_self,List.any_nil,List.any_cons,AOp.isMaker]
  clear H l1 l2 l3 c1 c2 c3 hs hF
  (repeat' first |apply And.intro |intro _) <;>simp_all[emptyP]
def blankS (S:SendD):Prop:=S.g=0∧S.n=0∧S.r=0∧(S.slots.length:Int)=0
instance (S:SendD):Decidable (blankS S):=by unfold blankS;infer_instance
def H95 (sm:Summ):Prop:= ∀ (S:SendD) (s:AV) (m:Mem),SendAt m.blks S s→sm 95 [.agg (sendC S s)] m=some (.bool (decide (blankS S)),m)
theorem e95 (hF:F 95=some AF95) (hs: ∀ vs m,sm 95 vs m=none) (n:Nat) (h:Blks) (lg d:List Nat) {S:SendD} {s:AV} (H:SendAt h S s):Ev F meth sm (n+2000) 95 [.agg (sendC S s)] ⟨h,lg,d⟩ (.bool (decide (blankS S))):=by
  refine Ev.ofW ?_
  have c1:=H.s.sc
  have l1:=H.s.len
  simp+contextual -implicitDefEqProofs (maxSteps:=1000000) (maxDischargeDepth:=20) only[go_sem,simprocAttr,hs,hF,AF95,sendC,c1,l1,List.length_map]
  clear H l1 c1 hs hF
  (repeat' first |apply And.intro |intro _) <;>simp_all[blankS]
def H103 (sm:Summ):Prop:= ∀ (S:SendD) (s:AV) (m:Mem),SendAt m.blks S s→sm 103 [.agg (sendC S s)] m=some (.bool (decide (blankS S)),m)
theorem e103 (hF:F 103=some AF103) (hs: ∀ vs m,sm 103 vs m=none) (n:Nat) (h:Blks) (lg d:List Nat) {S:SendD} {s:AV} (H:SendAt h S s):Ev F meth sm (n+2000) 103 [.agg (sendC S s)] ⟨h,lg,d⟩ (.bool (decide (blankS S))):=by
  refine Ev.ofW ?_
  have c1:=H.s.sc
  have l1:=H.s.len
  simp+contextual -implicitDefEqProofs (maxSteps:=1000000) (maxDischargeDepth:=20) only[go_sem,simprocAttr,hs,hF,AF103,sendC,c1,l1,List.length_map]
  clear H l1 c1 hs hF
  (repeat' first |apply And.intro |intro _) <;>simp_all[blankS]
def peerE (P:PeerD):Int:=
  if P.node<1∨16<P.node∨1099511627776<P.theirs∨1125899906842624<P.old then 2 else if (sendE P.send).1≠0 then (sendE P.send).1 else if (recvE P.recv).1≠0 then (recvE P.recv).1
  else if P.theirs=0∧ ¬ emptyP P then 12 else 0
def H58 (sm:Summ):Prop:= ∀ (P:PeerD) (s t k:AV) (m:Mem),PeerAt m.blks P s t k→sm 58 [.agg (peerC P s t k)] m=some (.int .i64 (peerE P),m)
theorem e58 (hF:F 58=some AF58) (hs: ∀ vs m,sm 58 vs m=none) (n:Nat) (h:Blks) (lg d:List Nat) (h96:H96 sm) (h97:H97 sm) (h98:H98 sm) {P:PeerD} {s t k:AV} (H:PeerAt h P s t k):Ev F meth sm (n+2000) 58 [.agg (peerC P s t k)] ⟨h,lg,d⟩ (.int .i64 (peerE P)):=by
  refine Ev.ofW ?_
  have c1:=H.s.s.sc
  have c2:=H.r.t.sc
  have c3:=H.r.k.sc
  have g1:=fun l lg d=>h96 P.send s ⟨bxt h l,lg,d⟩ (H.s.bx l)
  have g2:=fun l lg d=>h97 P.recv t k ⟨bxt h l,lg,d⟩ (H.r.bx l)
  have g3: ∀ l lg d,sm 98 [.agg (peerC {P with theirs:=0} s t k)] ⟨bxt h l,lg,d⟩=some (.bool (decide (emptyP P)),⟨bxt h l,lg,d⟩):=fun l lg d=>h98 {P with theirs:=0} s t k ⟨bxt h l,lg,d⟩ ⟨H.s.bx l,H.r.bx l⟩
  unfold sendC at g1
  unfold recvC at g2
  unfold peerC at g3
  simp+contextual -implicitDefEqProofs (maxSteps:=1000000) (maxDischargeDepth:=20) only[go_sem,simprocAttr,hs,hF,AF58,peerC,c1,c2,c3,g1,g2,g3]
  (repeat' first |apply And.intro |intro _) <;>(simp only[peerE] <;>(repeat' split) <;>first |omega |simp_all)
def H106 (sm:Summ):Prop:= ∀ (P:PeerD) (s t k:AV) (m:Mem),PeerAt m.blks P s t k→sm 106 [.agg (peerC P s t k)] m=some (.bool (decide (P.theirs=0∧emptyP P)),m)
theorem e106 (hF:F 106=some AF106) (hs: ∀ vs m,sm 106 vs m=none) (n:Nat) (h:Blks) (lg d:List Nat) {P:PeerD} {s t k:AV} (H:PeerAt h P s t k):Ev F meth sm (n+2000) 106 [.agg (peerC P s t k)] ⟨h,lg,d⟩ (.bool (decide (P.theirs=0∧emptyP P))):=by
  refine Ev.ofW ?_
  have c1:=H.s.s.sc
  have c2:=H.r.t.sc
  have c3:=H.r.k.sc
  have l1:=H.s.s.len
  have l2:=H.r.t.len
  have l3:=H.r.k.len
  simp+contextual -implicitDefEqProofs (maxSteps:=1000000) (maxDischargeDepth:=20) only[go_sem,simprocAttr,hs,hF,AF106,peerC,c1,c2,c3,l1,l2,l3,List.length_map,r_vc,r_vp,mskO,Mem.more,bmore,nb_more,List.filter_nil,List.flatMap_nil,List.filter_cons,List.flatMap_cons,List.map_nil,List.map_cons,mask,unmask,AOp.reads,AOpnd.top,top_p,top_s,top_m,top_i,top_b,top_t,top_a,top_u,top_ns,top_s0,top_d,top_f,nb_beq,nb_blt,nb_add,nidOf,slotIn,Nat.beq_refl,clash,Bool.or_self,List.any_nil,List.any_cons,AOp.isMaker]
  clear H l1 l2 l3 c1 c2 c3 hs hF
  (repeat' first |apply And.intro |intro _) <;>simp_all[emptyP]
def H62 (sm:Summ):Prop:= ∀ (P:PeerD) (s t k:AV) (m:Mem),PeerAt m.blks P s t k→sm 62 [.agg (peerC P s t k)] m=some (.int .i64 (peerE P),m)
theorem e62 (hF:F 62=some AF62) (hs: ∀ vs m,sm 62 vs m=none) (n:Nat) (h:Blks) (lg d:List Nat) (h104:H104 sm) (h105:H105 sm) (h106:H106 sm) {P:PeerD} {s t k:AV} (H:PeerAt h P s t k):Ev F meth sm (n+2000) 62 [.agg (peerC P s t k)] ⟨h,lg,d⟩ (.int .i64 (peerE P)):=by
  refine Ev.ofW ?_
  have c1:=H.s.s.sc
  have c2:=H.r.t.sc
  have c3:=H.r.k.sc
  have g1:=fun l lg d=>h104 P.send s ⟨bxt h l,lg,d⟩ (H.s.bx l)
  have g2:=fun l lg d=>h105 P.recv t k ⟨bxt h l,lg,d⟩ (H.r.bx l)
  have g3: ∀ l lg d,sm 106 [.agg (peerC {P with theirs:=0} s t k)] ⟨bxt h l,lg,d⟩=some (.bool (decide (emptyP P)),⟨bxt h l,lg,d⟩):=fun l lg d=>by
    rw[h106 {P with theirs:=0} s t k ⟨bxt h l,lg,d⟩ ⟨H.s.bx l,H.r.bx l⟩]
    simp[emptyP]
  unfold sendC at g1
  unfold recvC at g2
  unfold peerC at g3
  simp+contextual -implicitDefEqProofs (maxSteps:=1000000) (maxDischargeDepth:=20) only[go_sem,simprocAttr,hs,hF,AF62,peerC,c1,c2,c3,g1,g2,g3]
  (repeat' first |apply And.intro |intro _) <;>(simp only[peerE] <;>(repeat' split) <;>first |omega |simp_all)
end
end Go.Abs
end
