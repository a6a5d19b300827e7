/- Functions of the program on symbolic values: part a.
   Conditions: none. -/
import Derived.Test.YtdmofemokgboeaaGreatDoorTabZ
set_option linter.unusedSimpArgs false
set_option linter.unusedVariables false
set_option maxRecDepth 100000
set_option maxHeartbeats 16000000
noncomputable section
namespace Go.Abs
section
variable {F:FuncId→Option AFunc} {meth:Meth} {sm:Summ}
def limB (x:Int × Int × Int):Bool:=decide (x.2.1≤x.1) && decide (x.1≤x.2.2)
def H112 (sm:Summ):Prop:= ∀ (l:List (Int × Int × Int)) (v:AV) (m:Mem),SlAt m.blks 3 v (l.map limC)→l.length≤1000→sm 112 [v] m=some (.bool (decide (l.all limB=true)),m)
theorem e112 (hF:F 112=some AF112) (hs: ∀ vs m,sm 112 vs m=none) (n:Nat) (h:Blks) (lg d:List Nat) {l:List (Int × Int × Int)} {v:AV} (hv:SlAt h 3 v (l.map limC)) (hw:l.length≤1000):
    Ev F meth sm (n+2000) 112 [v] ⟨h,lg,d⟩ (.bool (decide (l.all limB=true))):=by
  refine Ev.ofW ?_
  have lv:=hv.len
  simp+contextual -implicitDefEqProofs (maxSteps:=1000000) (maxDischargeDepth:=20) only[go_sem,simprocAttr,hs,hF,AF112,lv,List.length_map]
  refine WloopK l.length [.l (.l (.l .z))] (fun i=> [.int .i64 i]) (fun i=>l.all limB=(l.drop i).all limB) (by omega) (by repeat first |apply Cl_b |apply Cl_q |apply Cl_r) ⟨rfl,rfl⟩ (fun i h' lg' g hi hP hK=> ?_) (fun h' lg' g hP hK=> ?_)
  · have a:=hK.all (lg:=lg) (d:=d) (by repeat first |exact LogOK.nil |apply LogOK.cons)
    have e:=(hK.sl hv).elt hi
    have r:=rnd hi (by omega)
    unfold limC at e
    rw[List.drop_eq_getElem_cons hi,List.all_cons] at hP
    simp+contextual -implicitDefEqProofs (maxSteps:=1000000) (maxDischargeDepth:=20) only[go_sem,simprocAttr,a,e,r]
    exact ⟨fun c=>by simp[hP,limB];omega,fun c=>⟨fun c'=>by simp[hP,limB];omega,fun c'=>by simp[hP,limB];omega⟩⟩
  · have a:=hK.all (lg:=lg) (d:=d) (by repeat first |exact LogOK.nil |apply LogOK.cons)
    have r:=rndl l.length
    simp+contextual -implicitDefEqProofs (maxSteps:=1000000) (maxDischargeDepth:=20) only[go_sem,simprocAttr,a,r]
    simpa using hP
def idE (x:IdD):Int:=if x.n<1∨16<x.n∨1099511627776<x.s∨x.o<0∨20000≤x.o then 2 else 0
def H111 (sm:Summ):Prop:= ∀ (x:IdD) (m:Mem),sm 111 [.agg (idC x)] m=some (.int .i64 (idE x),m)
theorem e111 (hF:F 111=some AF111) (h107:H112 sm) (hs: ∀ vs m,sm 111 vs m=none) (n:Nat) (h:Blks) (lg d:List Nat) {x:IdD}:Ev F meth sm (n+2000) 111 [.agg (idC x)] ⟨h,lg,d⟩ (.int .i64 (idE x)):=by
  refine Ev.ofW ?_
  have g:=fun l lg d (q:bnth l 1=some (.row true 3 [[.int .i64 x.n,.int .i64 1,.int .i64 16],[.int .i64 x.o,.int .i64 0,.int .i64 19999]]))=>h107 [(x.n,1,16),(x.o,0,19999)] (.slice (nb h 1) 0 2 (some 2)) ⟨bxt h l,lg,d⟩ (.some (nb h 1) 0 (some 2) true _ rfl (by rw[nb_get,q]) rfl (fun _ h=>by cases h;simp)) (by simp)
  simp only[List.all_cons,List.all_nil,limB] at g
  simp+contextual -implicitDefEqProofs (maxSteps:=1000000) (maxDischargeDepth:=20) only[go_sem,simprocAttr,hs,hF,AF111,idC,g]
  (repeat' first |apply And.intro |intro _) <;>(simp only[idE] <;>(repeat' split) <;>first |rfl |omega)
def H140 (sm:Summ):Prop:= ∀ (x:IdD) (m:Mem),sm 140 [.agg (idC x)] m=some (.int .i64 (idE x),m)
theorem e140 (hF:F 140=some AF140) (hs: ∀ vs m,sm 140 vs m=none) (n:Nat) (h:Blks) (lg d:List Nat) {x:IdD}:Ev F meth sm (n+2000) 140 [.agg (idC x)] ⟨h,lg,d⟩ (.int .i64 (idE x)):=by
  refine Ev.ofW ?_
  simp+contextual -implicitDefEqProofs (maxSteps:=1000000) (maxDischargeDepth:=20) only[go_sem,simprocAttr,hs,hF,AF140,idC]
  (repeat' first |apply And.intro |intro _) <;>(simp only[idE] <;>(repeat' split) <;>first |rfl |omega)
theorem idE02 (x:IdD):idE x=0∨idE x=2:=by unfold idE;split <;>simp
def bunE (b:BunD):Int:=
  if idE b.id≠0 then 2 else if b.dest<1∨16<b.dest∨b.prio<0∨2<b.prio∨b.born<0∨1099511627776<b.born∨b.life<1∨1048576<b.life∨b.total<1∨20000<b.total then 2
  else if b.data.length=0 then 11 else if 1000<(b.data.length:Int) then 4 else if b.total - b.data.length<b.id.o then 12 else 0
def H79 (sm:Summ):Prop:= ∀ (b:BunD) (m:Mem),b.data.length≤1000000→I b.total→sm 79 [.agg (bunC b)] m=some (.int .i64 (bunE b),m)
theorem e79 (hF:F 79=some AF79) (hs: ∀ vs m,sm 79 vs m=none) (n:Nat) (h:Blks) (lg d:List Nat) (h92:H111 sm) (h107:H112 sm) {b:BunD} (w1:b.data.length≤1000000) (w2:I b.total):Ev F meth sm (n+2000) 79 [.agg (bunC b)] ⟨h,lg,d⟩ (.int .i64 (bunE b)):=by
  refine Ev.ofW ?_
  have g2:=h92 b.id
  unfold idC at g2
  have g:=fun l lg d (q:bnth l 1=some (.row true 3 [[.int .i64 b.dest,.int .i64 1,.int .i64 16],[.int .i64 b.prio,.int .i64 0,.int .i64 2],[.int .i64 b.born,.int .i64 0,.int .i64 1099511627776],[.int .i64 b.life,.int .i64 1,.int .i64 1048576],[.int .i64 b.total,.int .i64 1,.int .i64 20000]]))=>h107 [(b.dest,1,16),(b.prio,0,2),(b.born,0,1099511627776),(b.life,1,1048576),(b.total,1,20000)] (.slice (nb h 1) 0 5 (some 5)) ⟨bxt h l,lg,d⟩ (.some (nb h 1) 0 (some 5) true _ rfl (by rw[nb_get,q]) rfl (fun _ h=>by cases h;simp)) (by simp)
  simp only[List.all_cons,List.all_nil,limB] at g
  have w:=fun (q1:1≤b.total) (q2:b.total≤20000)=>(wrapI (x:=b.total - b.data.length) (by omega) (by omega))
  simp+contextual -implicitDefEqProofs (maxSteps:=1000000) (maxDischargeDepth:=20) only[go_sem,simprocAttr,hs,hF,AF79,bunC,g2,g,w]
  have z:=idE02 b.id
  (repeat' first |apply And.intro |intro _) <;>(simp only[bunE] <;>(repeat' split) <;>first |rfl |omega)
def H125 (sm:Summ):Prop:= ∀ (b:BunD) (m:Mem),b.data.length≤1000000→I b.total→sm 125 [.agg (bunC b)] m=some (.int .i64 (bunE b),m)
theorem e125 (hF:F 125=some AF125) (hs: ∀ vs m,sm 125 vs m=none) (n:Nat) (h:Blks) (lg d:List Nat) (h100:H140 sm) {b:BunD} (w1:b.data.length≤1000000) (w2:I b.total):Ev F meth sm (n+2000) 125 [.agg (bunC b)] ⟨h,lg,d⟩ (.int .i64 (bunE b)):=by
  refine Ev.ofW ?_
  have g2:=h100 b.id
  unfold idC at g2
  have w:=fun (q1:idE b.id=0)=>(wrapI (x:=b.id.o+b.data.length) (by simp only[idE] at q1;split at q1 <;>omega) (by simp only[idE] at q1;split at q1 <;>omega))
  simp+contextual -implicitDefEqProofs (maxSteps:=1000000) (maxDischargeDepth:=20) only[go_sem,simprocAttr,hs,hF,AF125,bunC,g2,w]
  have z:=idE02 b.id
  (repeat' first |apply And.intro |intro _) <;>(simp only[bunE] <;>(repeat' split) <;>first |rfl |omega)
def cmpI (a b:Int):Int:=if a<b then -1 else if b<a then 1 else 0
def H70 (sm:Summ):Prop:= ∀ (a:Int) (m:Mem),sm 70 [.int .i64 a] m=some (.bool false,m)
theorem e70 (hF:F 70=some AF70) (hs: ∀ vs m,sm 70 vs m=none) (n:Nat) (h:Blks) (lg d:List Nat) {a:Int}:Ev F meth sm (n+2000) 70 [.int .i64 a] ⟨h,lg,d⟩ (.bool false):=by
  refine Ev.ofW ?_
  simp+contextual -implicitDefEqProofs (maxSteps:=1000000) (maxDischargeDepth:=20) only[go_sem,simprocAttr,hs,hF,AF70]
def H46 (sm:Summ):Prop:= ∀ (a b:Int) (m:Mem),sm 46 [.int .i64 a,.int .i64 b] m=some (.int .i64 (cmpI a b),m)
theorem e46 (hF:F 46=some AF46) (hs: ∀ vs m,sm 46 vs m=none) (n:Nat) (h:Blks) (lg d:List Nat) (h99:H70 sm) {a b:Int}:Ev F meth sm (n+2000) 46 [.int .i64 a,.int .i64 b] ⟨h,lg,d⟩ (.int .i64 (cmpI a b)):=by
  refine Ev.ofW ?_
  have g:=fun a=>h99 a
  simp+contextual -implicitDefEqProofs (maxSteps:=1000000) (maxDischargeDepth:=20) only[go_sem,simprocAttr,hs,hF,AF46,g]
  (repeat' first |apply And.intro |intro _) <;>(simp only[cmpI] <;>(repeat' split) <;>first |rfl |omega)
def cmpD (a b:IdD):Int:=if cmpI a.n b.n≠0 then cmpI a.n b.n else if cmpI a.s b.s≠0 then cmpI a.s b.s else cmpI a.o b.o
def orI:List Int→Int
  | []=>0
  |x::l=>if x=0 then orI l else x
def i64C (x:Int):List AV:=[.int .i64 x]
def H45 (sm:Summ):Prop:= ∀ (l:List Int) (v:AV) (m:Mem),SlAt m.blks 1 v (l.map i64C)→l.length≤1000→sm 45 [v] m=some (.int .i64 (orI l),m)
theorem e45 (hF:F 45=some AF45) (hs: ∀ vs m,sm 45 vs m=none) (n:Nat) (h:Blks) (lg d:List Nat) {l:List Int} {v:AV} (hv:SlAt h 1 v (l.map i64C)) (hw:l.length≤1000):Ev F meth sm (n+2000) 45 [v] ⟨h,lg,d⟩ (.int .i64 (orI l)):=by
  refine Ev.ofW ?_
  have lv:=hv.len
  simp+contextual -implicitDefEqProofs (maxSteps:=1000000) (maxDischargeDepth:=20) only[go_sem,simprocAttr,hs,hF,AF45,lv,List.length_map]
  refine WloopK l.length [.r (.l (.l .z))] (fun i=> [.int .i64 i]) (fun i=>orI l=orI (l.drop i)) (by omega) (by repeat first |apply Cl_b |apply Cl_q |apply Cl_r) ⟨rfl,rfl⟩ (fun i h' lg' g hi hP hK=> ?_) (fun h' lg' g hP hK=> ?_)
  · have a:=hK.all (lg:=lg) (d:=d) (by repeat first |exact LogOK.nil |apply LogOK.cons)
    have e:=(hK.sl hv).elt hi
    have r:=rnd hi (by omega)
    unfold i64C at e
    rw[List.drop_eq_getElem_cons hi,orI] at hP
    simp+contextual -implicitDefEqProofs (maxSteps:=1000000) (maxDischargeDepth:=20) only[go_sem,simprocAttr,a,e,r]
    exact ⟨fun c=>by rw[hP,if_neg c],fun c=>by rw[hP,if_pos c]⟩
  · have a:=hK.all (lg:=lg) (d:=d) (by repeat first |exact LogOK.nil |apply LogOK.cons)
    have r:=rndl l.length
    simp+contextual -implicitDefEqProofs (maxSteps:=1000000) (maxDischargeDepth:=20) only[go_sem,simprocAttr,a,r]
    simp[hP,orI]
end
section
variable {F:FuncId→Option AFunc} {meth:Meth} {sm:Summ}
def limU (x:Int × Int × Int):List AV:=[.int .u64 x.1,.int .u64 x.2.1,.int .u64 x.2.2]
def H71 (sm:Summ):Prop:= ∀ (l:List (Int × Int × Int)) (v:AV) (m:Mem),SlAt m.blks 3 v (l.map limC)→l.length≤1000→sm 71 [v] m=some (.bool (decide (l.all limB=true)),m)
theorem e71 (hF:F 71=some AF71) (hs: ∀ vs m,sm 71 vs m=none) (n:Nat) (h:Blks) (lg d:List Nat) {l:List (Int × Int × Int)} {v:AV} (hv:SlAt h 3 v (l.map limC)) (hw:l.length≤1000):
    Ev F meth sm (n+2000) 71 [v] ⟨h,lg,d⟩ (.bool (decide (l.all limB=true))):=by
  refine Ev.ofW ?_
  have lv:=hv.len
  simp+contextual -implicitDefEqProofs (maxSteps:=1000000) (maxDischargeDepth:=20) only[go_sem,simprocAttr,hs,hF,AF71,lv,List.length_map]
  refine WloopK l.length [X7] (fun i=> [.int .i64 i]) (fun i=>l.all limB=(l.drop i).all limB) (by omega) (by repeat first |apply Cl_b |apply Cl_q |apply Cl_r) ⟨rfl,rfl⟩ (fun i h' lg' g hi hP hK=> ?_) (fun h' lg' g hP hK=> ?_)
  · have a:=hK.all (lg:=lg) (d:=d) (by repeat first |exact LogOK.nil |apply LogOK.cons)
    have e:=(hK.sl hv).elt hi
    have r:=rnd hi (by omega)
    unfold limC at e
    rw[List.drop_eq_getElem_cons hi,List.all_cons] at hP
    simp+contextual -implicitDefEqProofs (maxSteps:=1000000) (maxDischargeDepth:=20) only[go_sem,simprocAttr,a,e,r]
    exact ⟨fun c=>by simp[hP,limB];omega,fun c=>⟨fun c'=>by simp[hP,limB];omega,fun c'=>by simp[hP,limB];omega⟩⟩
  · have a:=hK.all (lg:=lg) (d:=d) (by repeat first |exact LogOK.nil |apply LogOK.cons)
    have r:=rndl l.length
    simp+contextual -implicitDefEqProofs (maxSteps:=1000000) (maxDischargeDepth:=20) only[go_sem,simprocAttr,a,r]
    simpa using hP
def H72 (sm:Summ):Prop:= ∀ (l:List (Int × Int × Int)) (v:AV) (m:Mem),SlAt m.blks 3 v (l.map limU)→l.length≤1000→sm 72 [v] m=some (.bool (decide (l.all limB=true)),m)
theorem e72 (hF:F 72=some AF72) (hs: ∀ vs m,sm 72 vs m=none) (n:Nat) (h:Blks) (lg d:List Nat) {l:List (Int × Int × Int)} {v:AV} (hv:SlAt h 3 v (l.map limU)) (hw:l.length≤1000):
    Ev F meth sm (n+2000) 72 [v] ⟨h,lg,d⟩ (.bool (decide (l.all limB=true))):=by
  refine Ev.ofW ?_
  have lv:=hv.len
  simp+contextual -implicitDefEqProofs (maxSteps:=1000000) (maxDischargeDepth:=20) only[go_sem,simprocAttr,hs,hF,AF72,lv,List.length_map]
  refine WloopK l.length [X7] (fun i=> [.int .i64 i]) (fun i=>l.all limB=(l.drop i).all limB) (by omega) (by repeat first |apply Cl_b |apply Cl_q |apply Cl_r) ⟨rfl,rfl⟩ (fun i h' lg' g hi hP hK=> ?_) (fun h' lg' g hP hK=> ?_)
  · have a:=hK.all (lg:=lg) (d:=d) (by repeat first |exact LogOK.nil |apply LogOK.cons)
    have e:=(hK.sl hv).elt hi
    have r:=rnd hi (by omega)
    unfold limU at e
    rw[List.drop_eq_getElem_cons hi,List.all_cons] at hP
    simp+contextual -implicitDefEqProofs (maxSteps:=1000000) (maxDischargeDepth:=20) only[go_sem,simprocAttr,a,e,r]
    exact ⟨fun c=>by simp[hP,limB];omega,fun c=>⟨fun c'=>by simp[hP,limB];omega,fun c'=>by simp[hP,limB];omega⟩⟩
  · have a:=hK.all (lg:=lg) (d:=d) (by repeat first |exact LogOK.nil |apply LogOK.cons)
    have r:=rndl l.length
    simp+contextual -implicitDefEqProofs (maxSteps:=1000000) (maxDischargeDepth:=20) only[go_sem,simprocAttr,a,r]
    simpa using hP
def cfgE (c:CfgD):Int:=
  if (1≤c.node∧c.node≤16)∧(1≤c.quota∧c.quota≤1099511627776)∧(1≤c.largest∧c.largest≤1200)∧c.window≤c.quota∧c.low≤c.quota∧(1≤c.retry∧c.retry≤1000)∧(c.retry≤c.retryMax∧c.retryMax≤100000)∧(0≤c.bypass∧c.bypass≤100)∧
    (1≤c.w1∧c.w1≤100)∧(1≤c.w2∧c.w2≤100)∧(1≤c.w3∧c.w3≤100)∧(0≤c.rateN∧c.rateN≤1048576)∧(1≤c.rateD∧c.rateD≤1048576)∧(1≤c.burst∧c.burst≤1099511627776)∧(8≤c.blocks∧c.blocks≤4096)∧(0≤c.rate∧c.rate≤1048576) then 0 else 2
def H52 (sm:Summ):Prop:= ∀ (c:CfgD) (m:Mem),0≤c.window→0≤c.low→sm 52 [.agg (cfgC c)] m=some (.int .i64 (cfgE c),m)
theorem e52 (hF:F 52=some AF52) (hs: ∀ vs m,sm 52 vs m=none) (n:Nat) (h:Blks) (lg d:List Nat) (h55:H71 sm) (h56:H72 sm) {c:CfgD} (w1:0≤c.window) (w2:0≤c.low):Ev F meth sm (n+2000) 52 [.agg (cfgC c)] ⟨h,lg,d⟩ (.int .i64 (cfgE c)):=by
  refine Ev.ofW ?_
  simp+contextual -implicitDefEqProofs (maxSteps:=1000000) (maxDischargeDepth:=20) only[go_sem,simprocAttr,hs,hF,AF52,cfgC]
  refine Wunroll 3 (by omega) ?_
  have g1:=fun l lg d (q:bnth l 7=some (.row true 3 [[.int .i64 c.node,.int .i64 1,.int .i64 16],[.int .i64 c.retry,.int .i64 1,.int .i64 1000],[.int .i64 c.retryMax,.int .i64 c.retry,.int .i64 100000],[.int .i64 c.bypass,.int .i64 0,.int .i64 100],[.int .i64 c.rateN,.int .i64 0,.int .i64 1048576],[.int .i64 c.rateD,.int .i64 1,.int .i64 1048576],[.int .i64 c.burst,.int .i64 1,.int .i64 1099511627776],[.int .i64 c.blocks,.int .i64 8,.int .i64 4096],[.int .i64 c.rate,.int .i64 0,.int .i64 1048576],[.int .i64 c.w1,.int .i64 1,.int .i64 100],[.int .i64 c.w2,.int .i64 1,.int .i64 100],[.int .i64 c.w3,.int .i64 1,.int .i64 100]]))=>h55 [(c.node,1,16),(c.retry,1,1000),(c.retryMax,c.retry,100000),(c.bypass,0,100),(c.rateN,0,1048576),(c.rateD,1,1048576),(c.burst,1,1099511627776),(c.blocks,8,4096),(c.rate,0,1048576),(c.w1,1,100),(c.w2,1,100),(c.w3,1,100)] (.slice (nb h 7) 0 12 none) ⟨bxt h l,lg,d⟩ (.some (nb h 7) 0 none true _ rfl (by rw[nb_get,q]) rfl (fun _ h=>by cases h)) (by simp)
  have g2:=fun l lg d (q:bnth l 8=some (.row true 3 [[.int .u64 c.quota,.int .u64 1,.int .u64 1099511627776],[.int .u64 c.largest,.int .u64 1,.int .u64 1200],[.int .u64 c.window,.int .u64 0,.int .u64 c.quota],[.int .u64 c.low,.int .u64 0,.int .u64 c.quota]]))=>h56 [(c.quota,1,1099511627776),(c.largest,1,1200),(c.window,0,c.quota),(c.low,0,c.quota)] (.slice (nb h 8) 0 4 (some 4)) ⟨bxt h l,lg,d⟩ (.some (nb h 8) 0 (some 4) true _ rfl (by rw[nb_get,q]) rfl (fun _ h=>by cases h;simp)) (by simp)
  simp only[List.all_cons,List.all_nil,limB] at g1 g2
  simp+contextual -implicitDefEqProofs (maxSteps:=1000000) (maxDischargeDepth:=20) only[go_sem,simprocAttr,g1,g2]
  refine ⟨fun c1=> ?_,fun c1=>⟨fun c2=> ?_,fun c2=> ?_⟩⟩
  · rw[cfgE,if_neg]
    rintro ⟨a1,a2,a3,a4,a5,a6,a7,a8,a9,a10,a11,a12,a13,a14,a15,a16⟩
    exact c1 ⟨a1,a6,a7,a8,a12,a13,a14,a15,a16,a9,a10,a11⟩
  · rw[cfgE,if_neg]
    rintro ⟨a1,a2,a3,a4,a5,a6,a7,a8,a9,a10,a11,a12,a13,a14,a15,a16⟩
    exact c2 ⟨a2,a3,⟨w1,a4⟩,w2,a5⟩
  · rw[cfgE,if_pos]
    obtain ⟨b1,b2,b3,b4,b5,b6,b7,b8,b9,b10,b11,b12⟩:=c1
    obtain ⟨d1,d2,d3,d4⟩:=c2
    exact ⟨b1,d1,d2,d3.2,d4.2,b2,b3,b4,b10,b11,b12,b5,b6,b7,b8,b9⟩
def H90 (sm:Summ):Prop:= ∀ (a b c:Int) (m:Mem),sm 90 [.int .i64 a,.int .i64 b,.int .i64 c] m=some (.bool (decide (b≤a∧a≤c)),m)
theorem e90 (hF:F 90=some AF90) (hs: ∀ vs m,sm 90 vs m=none) (n:Nat) (h:Blks) (lg d:List Nat) {a b c:Int}:Ev F meth sm (n+2000) 90 [.int .i64 a,.int .i64 b,.int .i64 c] ⟨h,lg,d⟩ (.bool (decide (b≤a∧a≤c))):=by
  refine Ev.ofW ?_
  simp+contextual -implicitDefEqProofs (maxSteps:=1000000) (maxDischargeDepth:=20) only[go_sem,simprocAttr,hs,hF,AF90]
def H62 (sm:Summ):Prop:= ∀ (c:CfgD) (m:Mem),sm 62 [.agg (cfgC c)] m=some (.int .i64 (cfgE c),m)
theorem e62 (hF:F 62=some AF62) (hs: ∀ vs m,sm 62 vs m=none) (n:Nat) (h:Blks) (lg d:List Nat) (h60:H90 sm) {c:CfgD}:Ev F meth sm (n+2000) 62 [.agg (cfgC c)] ⟨h,lg,d⟩ (.int .i64 (cfgE c)):=by
  refine Ev.ofW ?_
  have g:=fun a b c=>h60 a b c
  simp+contextual -implicitDefEqProofs (maxSteps:=1000000) (maxDischargeDepth:=20) only[go_sem,simprocAttr,hs,hF,AF62,cfgC,g]
  repeat' first |apply And.intro |intro _
  all_goals
    refine Wunroll 3 (by omega) ?_
    simp+contextual -implicitDefEqProofs (maxSteps:=1000000) (maxDischargeDepth:=20) only[go_sem,simprocAttr,g]
    (repeat' first |apply And.intro |intro _) <;>first |(rw[cfgE,if_neg];rintro ⟨a1,a2,a3,a4,a5,a6,a7,a8,a9,a10,a11,a12,a13,a14,a15,a16⟩;first |contradiction |omega)|(rw[cfgE,if_pos];omega)
end
section
variable {F:FuncId→Option AFunc} {meth:Meth} {sm:Summ}
theorem bunE_ok {b:BunD} (h:bunE b=0):0≤b.born∧b.born≤1099511627776∧1≤b.life∧b.life≤1048576∧1≤b.total∧b.total≤20000∧1≤b.dest∧b.dest≤16∧0≤b.prio∧b.prio≤2∧(b.data.length:Int)≤1000∧0<(b.data.length:Int)∧b.id.o≤b.total - b.data.length∧idE b.id=0:=by
  rw[bunE] at h
  split at h
  · cases h
  · split at h
    · cases h
    · split at h
      · cases h
      · split at h
        · cases h
        · split at h
          · cases h
          · refine ⟨?_,?_,?_,?_,?_,?_,?_,?_,?_,?_,?_,?_,?_,?_⟩ <;>omega
theorem wrapu_mod (x:Int):IntKind.u64.wrap x=x % 18446744073709551616:=by
  simp only[IntKind.wrap,IntKind.bits,IntKind.signed]
  simp
end
section
variable {F:FuncId→Option AFunc} {meth:Meth} {sm:Summ}
def nl:Nat→Int→Nat
  |0,_=>1
  |f+1,x=>if x<128 then 1 else nl f (x / 128)+1
def numLen (x:Int):Nat:=nl 10 x
structure Lft (x:Int) (i:Nat) (q:Int):Prop where
  a:0≤q
  b:q*128 ^ i≤18446744073709551615
  c:numLen x=i+nl (10 - i) q
  d:0<i→1≤q
theorem Lft.le {x:Int} {i:Nat} {q:Int} (H:Lft x i q):q≤18446744073709551615:=by
  have h1:(1:Int)≤128 ^ i:=Int.pow_pos (n:=128) (m:=i) (by omega)
  have h2:=Int.mul_le_mul_of_nonneg_left h1 H.a
  have h3:=H.b
  omega
theorem Lft.step {x:Int} {i:Nat} {q:Int} (H:Lft x i q) (hi:i<10) (hq:128≤q):Lft x (i+1) (q / 128):=by
  refine ⟨by omega,?_,?_,by omega⟩
  · have h1:q / 128*128≤q:=by omega
    have h2:(0:Int)≤128 ^ i:=by exact Int.pow_nonneg (by omega)
    have h3:=Int.mul_le_mul_of_nonneg_right h1 h2
    rw[Int.pow_succ,Int.mul_comm (128 ^ i) 128,←Int.mul_assoc]
    exact Int.le_trans h3 H.b
  · have h1:=H.c
    rw[show 10 - i=(10 - (i+1))+1 by omega,nl,if_neg (by omega)] at h1
    omega
theorem Lft.stop {x:Int} {i:Nat} {q:Int} (H:Lft x i q) (hi:i<10) (hq: ¬ 128≤q):numLen x=i+1:=by
  have h1:=H.c
  rw[show 10 - i=(10 - (i+1))+1 by omega,nl,if_pos (by omega)] at h1
  exact h1
theorem Lft.last {x:Int} {q:Int} (H:Lft x 10 q):False:=by
  have h1:=H.b
  have h2:=H.d (by omega)
  have:(128:Int) ^ 10=1180591620717411303424:=by decide
  rw[this] at h1
  omega
theorem Lft.zero {x:Int} (hx:U x):Lft x 0 x:=⟨hx.1,by simpa using hx.2,by rw[numLen];simp,by omega⟩
def H81 (sm:Summ):Prop:= ∀ (x:Int) (m:Mem),U x→sm 81 [.int .u64 x] m=some (.int .i64 (numLen x),m)
theorem e81 (hF:F 81=some AF81) (hs: ∀ vs m,sm 81 vs m=none) (n:Nat) (h:Blks) (lg d:List Nat) (s154: ∀ vs m,sm 116 vs m=none) (F154:F 116=some AF116) (s171: ∀ vs m,sm 138 vs m=none) (F171:F 138=some AF138) {x:Int} (hx:U x):Ev F meth sm (n+2000) 81 [.int .u64 x] ⟨h,lg,d⟩ (.int .i64 (numLen x)):=by
  refine Ev.ofW ?_
  simp+contextual -implicitDefEqProofs (maxSteps:=1000000) (maxDischargeDepth:=20) only[go_sem,simprocAttr,hs,hF,AF81,s154,F154,AF116]
  refine w_rf rfl (fun T1 hT=> ?_) (by simp only[Mem.apply,nb_len,blen];rw[nb_put (by rfl),nb_len];rfl)
  simp+contextual -implicitDefEqProofs (maxSteps:=1000000) (maxDischargeDepth:=20) only[go_sem,simprocAttr,s171,F171,AF138,kf_0,kg_r,kg_d,ky_0,kh_n,kh_e,kh_r,kz_n,ki_r,rt_n,rt_c,nb_add]
  refine WloopV 10 [X3] (fun i=> [.int .i64 i]) (fun i m'=> ∃ q lg',Lft x i q∧LogOK h lg lg'∧m'=⟨bxt h [some (.row true 1 [[.int .i64 i]]),some (.row true 1 [[.int .u64 q]]),some .dfr,some (.loop ⟨.ready,none,T1,[.l (.l (.l .z)),.r (.l (.l .z))],.region false 0 [⟨some (.r (.l .z)),.mv (.t (.l (.l (.l .z)))),none,none,[]⟩],.block 1 (.region false 0 [⟨some (.l (.r (.l .z))),.mv (.t (.r (.l .z))),none,none,[]⟩,⟨some (.r (.r (.l .z))),.bin .add (.t (.l (.r (.l .z)))) (.c (.int .i64 1)),none,none,[]⟩,⟨none,.store 1 (.t (.l (.l .z))) (.t (.r (.r (.l .z)))),none,none,[]⟩])⟩)],lg',[]⟩) (by omega) (by repeat first |apply Cl_b |apply Cl_q |apply Cl_r) ⟨rfl,x,_,Lft.zero hx,by repeat first |exact LogOK.nil |apply LogOK.cons,rfl⟩ (fun i m' g hi hP=> ?_) (fun m' g hP=> ?_)
  · obtain ⟨q,lg',hq,hl,rfl⟩:=hP
    have q0:=hq.a
    have r:=rnd (n:=10) hi (by omega)
    have w1:128≤q→IntKind.u64.wrap (q.tdiv 128)=q / 128:=fun h1=>by
      rw[Int.tdiv_eq_ediv_of_nonneg q0,wrapu_mod]
      have:=hq.le
      omega
    simp+contextual -implicitDefEqProofs (maxSteps:=1000000) (maxDischargeDepth:=20) only[go_sem,simprocAttr,q0]
    refine w_y (nb_get.trans (bn_3 _ _ _ _ _)) rfl rfl rfl (Teq.round hT _ _) ?_
    simp+contextual -implicitDefEqProofs (maxSteps:=1000000) (maxDischargeDepth:=20) only[go_sem,simprocAttr,kf_0,kg_r,kg_d,ky_0,kh_n,kh_e,kh_r,kz_n,ki_r,rt_n,rt_c,nb_add,r,w1]
    refine ⟨fun h1=>⟨q / 128,_,hq.step hi h1,by repeat first |exact hl |apply LogOK.cons,rfl⟩,fun h1=>⟨?_,keep_bx (by repeat first |exact hl |apply LogOK.cons)⟩⟩
    rw[hq.stop hi h1]
  · obtain ⟨q,lg',hq,hl,rfl⟩:=hP
    exact hq.last.elim
end
def Qp (P:AV→Prop) (m0:Mem):AV→Mem→Prop:=fun v' m'=>P v'∧Keep m0 m'
theorem q_p (P:AV→Prop) (v':AV) (m0 m':Mem):Qp P m0 v' m'=(P v'∧Keep m0 m'):=rfl
theorem Ev.ofWP {F:FuncId→Option AFunc} {meth:Meth} {sm:Summ} {n:Nat} {f:FuncId} {vs:List AV} {h:Blks} {lg d:List Nat} {P:AV→Prop}
    (e:Wa F meth sm n (.fn f) vs ⟨bxt h [],lg,d⟩ (Qp P ⟨h,lg,d⟩)): ∃ v,P v∧Ev F meth sm n f vs ⟨h,lg,d⟩ v:=by
  obtain ⟨v',m',e1,e2,e3⟩:=Wa_true n _ _ _ _ e
  exact ⟨v',e2,m',e1,e3⟩
section
variable {F:FuncId→Option AFunc} {meth:Meth} {sm:Summ}
def u8C (x:Int):List AV:=[.int .u8 x]
def bufR (i:Nat) (bs:List Int):List (List AV):=List.replicate (10 - i) [.int .u8 0]++bs.map u8C
theorem bufR_get {i:Nat} {bs:List Int} (hi:i<10) (hb:bs.length=i):(bufR i bs)[9 - i]? =some [.int .u8 0]:=by
  rw[bufR,List.getElem?_append_left (by simp;omega),List.getElem?_replicate,if_pos (by omega)]
theorem bufR_set {i:Nat} {bs:List Int} (hi:i<10) (hb:bs.length=i) (w:Int):(bufR i bs).set (9 - i) [.int .u8 w]=bufR (i+1) (w::bs):=by
  rw[bufR,bufR,show 10 - i=(9 - i)+1 by omega,List.replicate_succ',List.append_assoc,List.set_append_right _ _ (by simp),show 10 - (i+1)=9 - i by omega]
  simp[u8C]
theorem bufR_get2 {i:Nat} {bs:List Int} (hi:i<10) (w:Int):(bufR (i+1) (w::bs))[9 - i]? =some [.int .u8 w]:=by
  rw[bufR,show 10 - (i+1)=9 - i by omega,List.getElem?_append_right (by simp)]
  simp[u8C]
theorem bufR_set2 {i:Nat} {bs:List Int} (hi:i<10) (w w':Int):(bufR (i+1) (w::bs)).set (9 - i) [.int .u8 w']=bufR (i+1) (w'::bs):=by
  rw[bufR,bufR,show 10 - (i+1)=9 - i by omega,List.set_append_right _ _ (by simp)]
  simp[u8C]
theorem bufR_len {i:Nat} {bs:List Int} (hi:i≤10) (hb:bs.length=i):(bufR i bs).length=10:=by
  simp[bufR,hb];omega
theorem bufR_drop {i:Nat} {bs:List Int} (hi:i<10):(bufR (i+1) bs).drop (9 - i)=bs.map u8C:=by
  rw[bufR,show 10 - (i+1)=9 - i by omega,List.drop_append_of_le_length (by simp)]
  simp
theorem bytesOf_u8: ∀ l:List Int,bytesOf (l.map u8C)=some (l.map fun x=>UInt8.ofNat x.toNat)
  | []=>rfl
  | x::l=>by
    rw[List.map_cons]
    show (bytesOf (l.map u8C)).map _=_
    rw[bytesOf_u8 l]
    rfl
def byteOf (i:Nat) (q:Int):Int:=if 0<(i:Int) then IntKind.u8.wrap ((BitVec.ofInt IntKind.u8.bits (IntKind.u8.wrap (q.tmod 128))|||BitVec.ofInt IntKind.u8.bits 128).toNat:Int) else IntKind.u8.wrap (q.tmod 128)
def pq (x:Int):Nat→Int × List Int
  |0=>(x,[])
  |i+1=>((pq x i).1 / 128,byteOf i (pq x i).1::(pq x i).2)
theorem pq_len (x:Int): ∀ i,(pq x i).2.length=i
  |0=>rfl
  |i+1=>by rw[pq,List.length_cons,pq_len x i]
def putB (x:Int):List UInt8:=(pq x (numLen x)).2.map fun y=>UInt8.ofNat y.toNat
theorem putB_len (x:Int):(putB x).length=numLen x:=by rw[putB,List.length_map,pq_len]
def H115 (sm:Summ):Prop:= ∀ (x:Int) (m:Mem),U x→sm 115 [.int .u64 x] m=some (.str (putB x),m)
theorem e115 (hF:F 115=some AF115) (hs: ∀ vs m,sm 115 vs m=none) (n:Nat) (h:Blks) (lg d:List Nat) (s154: ∀ vs m,sm 116 vs m=none) (F154:F 116=some AF116) (s171: ∀ vs m,sm 138 vs m=none) (F171:F 138=some AF138) {x:Int} (hx:U x):Ev F meth sm (n+2000) 115 [.int .u64 x] ⟨h,lg,d⟩ (.str (putB x)):=by
  refine Ev.ofW ?_
  simp+contextual -implicitDefEqProofs (maxSteps:=1000000) (maxDischargeDepth:=20) only[go_sem,simprocAttr,hs,hF,AF115,s154,F154,AF116]
  refine w_rf rfl (fun T1 hT=> ?_) (by simp only[Mem.apply,nb_len,blen];rw[nb_put (by rfl),nb_len];rfl)
  simp+contextual -implicitDefEqProofs (maxSteps:=1000000) (maxDischargeDepth:=20) only[go_sem,simprocAttr,s171,F171,AF138,kf_0,kg_r,kg_d,ky_0,kh_n,kh_e,kh_r,kz_n,ki_r,rt_n,rt_c,nb_add]
  refine WloopV 10 [X3] (fun i=> [.int .i64 i]) (fun i m'=> ∃ lg',Lft x i (pq x i).1∧LogOK h lg lg'∧m'=⟨bxt h [some (.row true 1 (bufR i (pq x i).2)),some (.row true 1 [[.int .i64 ((10 - i:Nat):Int)]]),some (.row true 1 [[.int .u64 (pq x i).1]]),some .dfr,some (.loop ⟨.ready,none,T1,[X9,X10],(.seq (oR [oM X5 Y9]) (oR [oM X6 Y10])),(.block 1 (.seq (oR [oP X11 (.load false 1 Y4),oP X12 (.bin .sub Y11 (cI 1)),oN (.store 1 Y4 Y12)]) (.seq (oR [oP X13 (.load false 1 Y4),oM X14 Y6,oP X15 (.idxA 1 10 Y3 Y13),oN (.store 1 Y15 Y14)]) (.seq (oR [oM X16 Y5,oP X17 (.bin .gtr Y16 I0)]) (.cond Y17 (oR [oP X18 (.load false 1 Y4),oP X19 (.idxA 1 10 Y3 Y18),oP X20 (.load false 1 Y19),oP X21 (.bin .or Y20 (.c (.int .u8 128))),oP X22 (.idxA 1 10 Y3 Y18),oN (.store 1 Y22 Y21)]) .skip)))))⟩)],lg',[]⟩) (by omega) (by repeat first |apply Cl_b |apply Cl_q |apply Cl_r) ⟨rfl,_,Lft.zero hx,by repeat first |exact LogOK.nil |apply LogOK.cons,rfl⟩ (fun i m' g hi hP=> ?_) (fun m' g hP=> ?_)
  · obtain ⟨lg',hq,hl,rfl⟩:=hP
    have hbs:=pq_len x i
    have hn:pq x (i+1)=((pq x i).1 / 128,byteOf i (pq x i).1::(pq x i).2):=rfl
    generalize pq x i=pr at hq hbs hn ⊢
    obtain ⟨q,bs⟩:=pr
    simp only at hq hbs hn ⊢
    have q0:=hq.a
    have r:=rnd (n:=10) hi (by omega)
    have w1:128≤q→IntKind.u64.wrap (q.tdiv 128)=q / 128:=fun h1=>by
      rw[Int.tdiv_eq_ediv_of_nonneg q0,wrapu_mod]
      have:=hq.le
      omega
    have wr:IntKind.i64.wrap (((10 - i:Nat):Int) - 1)=((9 - i:Nat):Int):=by rw[wrapI (by omega) (by omega)];omega
    have e9:10 - (i+1)=9 - i:=by omega
    have l9:9 - i<10:=by omega
    have b1:=bufR_get hi hbs
    have b2:=bufR_set hi hbs
    have b3:=fun w=>bufR_get2 (bs:=bs) hi w
    have b4:=fun w w'=>bufR_set2 (bs:=bs) hi w w'
    have b5: ∀ w,((bufR (i+1) (w::bs)).length<10)=False:=fun w=>by rw[bufR_len (by omega) (by simp[hbs])];simp
    have e11:10 - (9 - i)=i+1:=by omega
    have b6: ∀ w,(9 - i+(i+1)≤(bufR (i+1) (w::bs)).length)=True:=fun w=>by rw[bufR_len (by omega) (by simp[hbs])];simp;omega
    have b7: ∀ w,List.take (i+1) (List.drop (9 - i) (bufR (i+1) (w::bs)))=(w::bs).map u8C:=fun w=>by rw[bufR_drop hi,List.take_of_length_le (by simp[hbs])]
    have b8: ∀ w:Int,bytesOf (u8C w::bs.map u8C)=some ((w::bs).map fun x=>UInt8.ofNat x.toNat):=fun w=>bytesOf_u8 (w::bs)
    have e10:9 - i≤10:=by omega
    simp+contextual -implicitDefEqProofs (maxSteps:=1000000) (maxDischargeDepth:=20) only[go_sem,simprocAttr,q0]
    refine w_y (nb_get.trans (bn_4 _ _ _ _ _ _)) rfl rfl rfl (Teq.round hT _ _) ?_
    simp+contextual -implicitDefEqProofs (maxSteps:=1000000) (maxDischargeDepth:=20) only[go_sem,simprocAttr,kf_0,kg_r,kg_d,ky_0,kh_n,kh_e,kh_r,kz_n,ki_r,rt_n,rt_c,nb_add,hn,r,w1,wr,e9,l9,b1,b2,b3,b4,b5,e10,e11,b6,b7,b8]
    have fin: ¬ 128≤q→putB x=(byteOf i q::bs).map fun y=>UInt8.ofNat y.toNat:=fun h1=>by rw[putB,hq.stop hi h1,hn]
    refine ⟨fun h0=>⟨fun h1=> ?_,fun h1=>⟨?_,keep_bx (by repeat first |exact hl |apply LogOK.cons)⟩⟩,fun h0=>⟨fun h1=> ?_,fun h1=>⟨?_,keep_bx (by repeat first |exact hl |apply LogOK.cons)⟩⟩⟩
    · refine ⟨_,hq.step hi h1,?_,by rw[byteOf,if_pos h0];rfl⟩
      repeat first |exact hl |apply LogOK.cons
    · rw[fin h1,byteOf,if_pos h0];rfl
    · refine ⟨_,hq.step hi h1,?_,by rw[byteOf,if_neg h0]⟩
      repeat first |exact hl |apply LogOK.cons
    · rw[fin h1,byteOf,if_neg h0];rfl
  · obtain ⟨lg',hq,hl,rfl⟩:=hP
    exact hq.last.elim
end
section
variable {F:FuncId→Option AFunc} {meth:Meth} {sm:Summ}
structure PtrD where
  b:Nat
  o:Nat
  x:Int
  deriving Inhabited
def ptrC (p:PtrD):List AV:=[.ptr p.b 0 p.o]
def PtrOk (h:Blks) (p:PtrD):Prop:=(∃ own e rows r,bget h p.b=some (.row own e rows)∧rows[0]? =some r∧(r.drop p.o).take 1=[.int .i64 p.x]∧p.o+1≤e)∧0≤p.x∧p.x≤9223372036854775807
theorem PtrOk.keep {m m':Mem} {p:PtrD} (H:PtrOk m.blks p) (k:Keep m m'):PtrOk m'.blks p:=by
  obtain ⟨⟨own,e,rows,r,h1,h2,h3,h4⟩,h5⟩:=H
  exact ⟨⟨own,e,rows,r,(k.get p.b (bget_lt h1)).trans h1,h2,h3,h4⟩,h5⟩
theorem PtrOk.bx {h:Blks} {p:PtrD} (H:PtrOk h p) (q:List (Option ABlk)):PtrOk (bxt h q) p:=by
  obtain ⟨⟨own,e,rows,r,h1,h2,h3,h4⟩,h5⟩:=H
  exact ⟨⟨own,e,rows,r,(bxt_old q h p.b (bget_lt h1)).trans h1,h2,h3,h4⟩,h5⟩
theorem PtrOk.ld {h:Blks} {p:PtrD} (H:PtrOk h p) (q:List (Option ABlk)):ald (bget (bxt h q)) false 1 (.ptr p.b 0 p.o)=some (.int .i64 p.x,[]):=by
  obtain ⟨⟨own,e,rows,r,h1,h2,h3,h4⟩,h5⟩:=H
  have h1:=(bxt_old q h p.b (bget_lt h1)).trans h1
  rw[o_ldg,h1,o_ldb]
  have hlt:Nat.ble e p.o=false:=by
    cases hq:Nat.ble e p.o with
    |false=>rfl
    |true=>have:=Nat.le_of_ble_eq_true hq;omega
  simp only[rowGet,hlt,cond_false,rowGet0,if_pos h4,h2,h3]
  rfl
def sumLen:List PtrD→Nat
  | []=>0
  |p::l=>numLen p.x+sumLen l
theorem sumLen_take {l:List PtrD} {i:Nat} (hi:i<l.length):sumLen (l.take (i+1))=sumLen (l.take i)+numLen (gt l i).x:=by
  have key: ∀ (l:List PtrD) (p:PtrD),sumLen (l++ [p])=sumLen l+numLen p.x:=fun l p=>by
    induction l with
    |nil=>simp[sumLen]
    |cons y l ih=>rw[List.cons_append,sumLen,ih,sumLen];omega
  rw[List.take_add_one,List.getElem?_eq_getElem hi,Option.toList_some,key,gt_eq hi]
def strs:List PtrD→List UInt8
  | []=> []
  |p::l=>putB p.x++strs l
theorem strs_len: ∀ l,(strs l).length=sumLen l
  | []=>rfl
  |p::l=>by rw[strs,List.length_append,putB_len,strs_len l,sumLen]
theorem strs_take {l:List PtrD} {i:Nat} (hi:i<l.length):strs (l.take (i+1))=strs (l.take i)++putB (gt l i).x:=by
  have key: ∀ (l:List PtrD) (p:PtrD),strs (l++ [p])=strs l++putB p.x:=fun l p=>by
    induction l with
    |nil=>simp[strs]
    |cons y l ih=>rw[List.cons_append,strs,ih,strs,List.append_assoc]
  rw[List.take_add_one,List.getElem?_eq_getElem hi,Option.toList_some,key,gt_eq hi]
theorem nl_le: ∀ f x,nl f x≤f+1
  |0,_=>by rw[nl];omega
  | f+1,x=>by
    rw[nl]
    split
    · omega
    · have:=nl_le f (x / 128);omega
theorem numLen_le (x:Int):numLen x≤11:=nl_le 10 x
theorem sumLen_le: ∀ l,sumLen l≤11*l.length
  | []=>by simp[sumLen]
  | p::l=>by
    have:=sumLen_le l
    have:=numLen_le p.x
    rw[sumLen,List.length_cons];omega
def H114 (sm:Summ):Prop:= ∀ (l:List PtrD) (v:AV) (m:Mem),SlAt m.blks 1 v (l.map ptrC)→(∀ p∈l,PtrOk m.blks p)→l.length≤1000→sm 114 [v] m=some (.str (strs l),m)
theorem e114 (hF:F 114=some AF114) (hs: ∀ vs m,sm 114 vs m=none) (n:Nat) (h:Blks) (lg d:List Nat) (h153:H115 sm) {l:List PtrD} {v:AV} (hv:SlAt h 1 v (l.map ptrC)) (hp: ∀ p∈l,PtrOk h p) (hw:l.length≤1000):Ev F meth sm (n+2000) 114 [v] ⟨h,lg,d⟩ (.str (strs l)):=by
  refine Ev.ofW ?_
  have lv:=hv.len
  simp+contextual -implicitDefEqProofs (maxSteps:=1000000) (maxDischargeDepth:=20) only[go_sem,simprocAttr,hs,hF,AF114,lv,List.length_map]
  refine WloopK l.length [X8,X3] (fun i=> [.int .i64 i,.str (strs (l.take i))]) (fun _=>True) (by omega) (by repeat first |apply Cl_b |apply Cl_q |apply Cl_r) ⟨rfl,trivial⟩ (fun i h' lg' g hi hP hK=> ?_) (fun h' lg' g hP hK=> ?_)
  · have a:=hK.all (lg:=lg) (d:=d) (by repeat first |exact LogOK.nil |apply LogOK.cons)
    have e:=(hK.sl hv).el hi
    have r:=rnd hi (by omega)
    have po:PtrOk h (gt l i):=hp _ (by rw[gt_eq hi];exact List.getElem_mem hi)
    have po':PtrOk h' (gt l i):=PtrOk.keep (m:=⟨bxt h [],lg,[]⟩) (m':=⟨h',lg',[]⟩) (po.bx []) hK
    have pl:=po'.ld
    have w:=wrapU po.2.1 (by have:=po.2.2;omega)
    have g1:=fun m=>h153 (gt l i).x m ⟨po.2.1,by have:=po.2.2;omega⟩
    have st:=strs_take hi
    have sz:(strs (l.take i)).length+(putB (gt l i).x).length≤1000000000000:=by
      rw[strs_len,putB_len]
      have h1:=sumLen_le (l.take i)
      have h2:=numLen_le (gt l i).x
      rw[List.length_take] at h1
      omega
    unfold ptrC at e
    simp+contextual -implicitDefEqProofs (maxSteps:=1000000) (maxDischargeDepth:=20) only[go_sem,simprocAttr,a,e,r,pl,w,g1,st,binStr,sz]
  · have a:=hK.all (lg:=lg) (d:=d) (by repeat first |exact LogOK.nil |apply LogOK.cons)
    have r:=rndl l.length
    simp+contextual -implicitDefEqProofs (maxSteps:=1000000) (maxDischargeDepth:=20) only[go_sem,simprocAttr,a,r,List.take_length]
end
section
variable {F:FuncId→Option AFunc} {meth:Meth} {sm:Summ}
def wholeB (b:BunD):Prop:=b.id.o=0∧b.total=b.data.length
instance (b:BunD):Decidable (wholeB b):=by unfold wholeB;infer_instance
def H113 (sm:Summ):Prop:= ∀ (b:BunD) (m:Mem),sm 113 [.agg (bunC b)] m=some (.bool (decide (wholeB b)),m)
theorem e113 (hF:F 113=some AF113) (hs: ∀ vs m,sm 113 vs m=none) (n:Nat) (h:Blks) (lg d:List Nat) {b:BunD}:Ev F meth sm (n+2000) 113 [.agg (bunC b)] ⟨h,lg,d⟩ (.bool (decide (wholeB b))):=by
  refine Ev.ofW ?_
  simp+contextual -implicitDefEqProofs (maxSteps:=1000000) (maxDischargeDepth:=20) only[go_sem,simprocAttr,hs,hF,AF113,bunC,r_vc,r_vp,mskO,Mem.more,bmore,nb_more,List.filter_nil,List.flatMap_nil,List.filter_cons,List.flatMap_cons,List.map_nil,List.map_cons,mask,unmask,AOp.reads,AOpnd.top,top_p,top_s,top_m,top_i,top_b,top_t,top_a,top_u,top_ns,top_s0,top_d,top_f,nb_beq,nb_blt,nb_add,nidOf,slotIn,Nat.beq_refl,clash,Bool.or_self,List.any_nil,List.any_cons,AOp.isMaker]
  (repeat' first |apply And.intro |intro _) <;>simp_all[wholeB]
def headI (b:BunD):Int:=if wholeB b then (if b.prio=0 then 180 else if b.prio=1 then 181 else 182) else (if b.prio=0 then 176 else if b.prio=1 then 177 else 178)
def frontB (b:BunD):List UInt8:=(([UInt8.ofNat (headI b).toNat]++putB b.id.n++putB b.id.s)++(putB b.dest++(putB b.born++putB b.life)))++(if wholeB b then [] else putB b.id.o++putB b.total)
theorem x152 (h152:H114 sm) {h:Blks} {r:List AV} (k:Nat) (ps:List (Nat × Int)) (l:List (Option ABlk)) (lg d:List Nat) (q0:bnth l 0=some (.row true 9 [r])) (q1:bnth l k=some (.row true 1 (ps.map fun p=> [.ptr (nb h 0) 0 p.1])))
    (hp: ∀ p∈ps,(r.drop p.1).take 1=[.int .i64 p.2]∧p.1+1≤9∧0≤p.2∧p.2≤9223372036854775807) (hl:ps.length≤1000):sm 114 [.slice (nb h k) 0 ps.length (some ps.length)] ⟨bxt h l,lg,d⟩=some (.str (strs (ps.map fun p=>⟨nb h 0,p.1,p.2⟩)),⟨bxt h l,lg,d⟩):=by
  refine h152 _ _ _ ?_ ?_ (by simpa using hl)
  · refine .some (nb h k) 0 (some ps.length) true _ (by simp) (by rw[nb_get,q1]) ?_ (fun q hq=>by cases hq;simp)
    simp only[List.map_map,List.drop_zero]
    exact List.take_of_length_le (by simp)
  · intro p hm
    obtain ⟨x,hx,rfl⟩:=List.mem_map.1 hm
    have hx:=hp x hx
    exact ⟨⟨true,9,_,r,by rw[nb_get,q0],rfl,hx.1,hx.2.1⟩,hx.2.2⟩
def H80 (sm:Summ):Prop:= ∀ (b:BunD) (own:Bool) (m:Mem),bget m.blks 0=some (.row own 1 headsR)→bunE b=0→0≤b.id.s→sm 80 [.agg (bunC b)] m=some (.str (frontB b),m)
theorem e80 (hF:F 80=some AF80) (hs: ∀ vs m,sm 80 vs m=none) (n:Nat) (h:Blks) (lg d:List Nat) (h151:H113 sm) (h152:H114 sm) (h153:H115 sm) {b:BunD} {own:Bool} (hg:bget h 0=some (.row own 1 headsR)) (hb:bunE b=0) (hq:0≤b.id.s):Ev F meth sm (n+2000) 80 [.agg (bunC b)] ⟨h,lg,d⟩ (.str (frontB b)):=by
  refine Ev.ofW ?_
  have ok:=bunE_ok hb
  have g0: ∀ q,bget (bxt h q) 0=some (.row own 1 headsR):=fun q=>(bxt_old q h 0 (bget_lt hg)).trans hg
  have g1:=fun m=>h151 b m
  have g3:=fun m=>h153 b.id.s m ⟨hq,by have:=ok.2.2.2.2.2.2.2.2.2.2.2.2.2;rw[idE] at this;split at this <;>omega⟩
  have pr:b.prio=0∨b.prio=1∨b.prio=2:=by omega
  unfold bunC at g1
  have n0: ∀ k,Nat.beq 0 (nb h k)=false:=fun k=>nb_beq_ne (bget_lt hg)
  have n1: ∀ k,Nat.beq (nb h k) 0=false:=fun k=>nb_beq_ne' (bget_lt hg)
  have so:=ok.2.2.2.2.2.2.2.2.2.2.2.2.2
  have on:1≤b.id.n∧b.id.n≤16∧0≤b.id.o∧b.id.o≤20000:=by rw[idE] at so;split at so <;>omega
  have x1:=fun (w:Int) l lg d (q0:bnth l 0=some (.row true 9 [[.int .i64 b.id.n,.int .u64 b.id.s,.int .i64 b.id.o,.int .i64 b.dest,.int .i64 w,.int .i64 b.born,.int .i64 b.life,.int .i64 b.total,.str b.data]])) q1=>x152 (h:=h) h152 1 [(0,b.id.n)] l lg d q0 q1 (by simp;omega) (by simp)
  have x2:=fun (w:Int) l lg d (q0:bnth l 0=some (.row true 9 [[.int .i64 b.id.n,.int .u64 b.id.s,.int .i64 b.id.o,.int .i64 b.dest,.int .i64 w,.int .i64 b.born,.int .i64 b.life,.int .i64 b.total,.str b.data]])) q1=>x152 (h:=h) h152 2 [(3,b.dest),(5,b.born),(6,b.life)] l lg d q0 q1 (by simp;omega) (by simp)
  have x3:=fun (w:Int) l lg d (q0:bnth l 0=some (.row true 9 [[.int .i64 b.id.n,.int .u64 b.id.s,.int .i64 b.id.o,.int .i64 b.dest,.int .i64 w,.int .i64 b.born,.int .i64 b.life,.int .i64 b.total,.str b.data]])) q1=>x152 (h:=h) h152 3 [(2,b.id.o),(7,b.total)] l lg d q0 q1 (by simp;omega) (by simp)
  simp only[List.length_cons,List.length_nil,List.map_cons,List.map_nil,strs,List.append_nil,Nat.zero_add,Nat.reduceAdd] at x1 x2 x3
  have z1:=numLen_le b.id.n
  have z2:=numLen_le b.id.s
  have z3:=numLen_le b.dest
  have z4:=numLen_le b.born
  have z5:=numLen_le b.life
  have z6:=numLen_le b.id.o
  have z7:=numLen_le b.total
  rcases pr with e1 |e1 |e1
  · rw[e1] at g1
    have x1:=x1 0
    have x2:=x2 0
    have x3:=x3 0
    simp+contextual -implicitDefEqProofs (maxSteps:=1000000) (maxDischargeDepth:=20) only[go_sem,simprocAttr,hs,hF,AF80,bunC,g1,g3,e1,g0,headsR,x1,x2,x3,r_vc,r_vp,mskO,Mem.more,bmore,nb_more,List.filter_nil,List.flatMap_nil,List.filter_cons,List.flatMap_cons,List.map_nil,List.map_cons,mask,unmask,AOp.reads,AOpnd.top,top_p,top_s,top_m,top_i,top_b,top_t,top_a,top_u,top_ns,top_s0,top_d,top_f,nb_beq,nb_blt,nb_add,nidOf,slotIn,Nat.beq_refl,clash,Bool.or_self,List.any_nil,List.any_cons,AOp.isMaker,w_p3,r_p3,binStr,bytesOf,n0,n1]
    (repeat' first |apply And.intro |intro _) <;>first |(simp only[List.length_append,putB_len];omega)|simp_all[frontB,headI]
  · rw[e1] at g1
    have x1:=x1 1
    have x2:=x2 1
    have x3:=x3 1
    simp+contextual -implicitDefEqProofs (maxSteps:=1000000) (maxDischargeDepth:=20) only[go_sem,simprocAttr,hs,hF,AF80,bunC,g1,g3,e1,g0,headsR,x1,x2,x3,r_vc,r_vp,mskO,Mem.more,bmore,nb_more,List.filter_nil,List.flatMap_nil,List.filter_cons,List.flatMap_cons,List.map_nil,List.map_cons,mask,unmask,AOp.reads,AOpnd.top,top_p,top_s,top_m,top_i,top_b,top_t,top_a,top_u,top_ns,top_s0,top_d,top_f,nb_beq,nb_blt,nb_add,nidOf,slotIn,Nat.beq_refl,clash,Bool.or_self,List.any_nil,List.any_cons,AOp.isMaker,w_p3,r_p3,binStr,bytesOf,n0,n1]
    (repeat' first |apply And.intro |intro _) <;>first |(simp only[List.length_append,putB_len];omega)|simp_all[frontB,headI]
  · rw[e1] at g1
    have x1:=x1 2
    have x2:=x2 2
    have x3:=x3 2
    simp+contextual -implicitDefEqProofs (maxSteps:=1000000) (maxDischargeDepth:=20) only[go_sem,simprocAttr,hs,hF,AF80,bunC,g1,g3,e1,g0,headsR,x1,x2,x3,r_vc,r_vp,mskO,Mem.more,bmore,nb_more,List.filter_nil,List.flatMap_nil,List.filter_cons,List.flatMap_cons,List.map_nil,List.map_cons,mask,unmask,AOp.reads,AOpnd.top,top_p,top_s,top_m,top_i,top_b,top_t,top_a,top_u,top_ns,top_s0,top_d,top_f,nb_beq,nb_blt,nb_add,nidOf,slotIn,Nat.beq_refl,clash,Bool.or_self,List.any_nil,List.any_cons,AOp.isMaker,w_p3,r_p3,binStr,bytesOf,n0,n1]
    (repeat' first |apply And.intro |intro _) <;>first |(simp only[List.length_append,putB_len];omega)|simp_all[frontB,headI]
end
section
variable {F:FuncId→Option AFunc} {meth:Meth} {sm:Summ}
theorem front_le (b:BunD):(frontB b).length≤78:=by
  have z1:=numLen_le b.id.n
  have z2:=numLen_le b.id.s
  have z3:=numLen_le b.dest
  have z4:=numLen_le b.born
  have z5:=numLen_le b.life
  have z6:=numLen_le b.id.o
  have z7:=numLen_le b.total
  rw[frontB]
  split <;>simp only[List.length_append,putB_len,List.length_cons,List.length_nil] <;>omega
def sizeB (b:BunD):Int:=if bunE b≠0 then 0 else (frontB b).length+numLen (b.data.length:Int)+b.data.length+4
theorem sizeB_le (b:BunD):0≤sizeB b∧sizeB b≤2000:=by
  rw[sizeB]
  split
  · omega
  · rename_i h
    have h:bunE b=0:=by omega
    have ok:=bunE_ok h
    have:=front_le b
    have:=numLen_le (b.data.length:Int)
    omega
def H56 (sm:Summ):Prop:= ∀ (b:BunD) (own:Bool) (m:Mem),bget m.blks 0=some (.row own 1 headsR)→0≤b.id.s→b.data.length≤1000000→I b.total→sm 56 [.agg (bunC b)] m=some (.tuple [.int .i64 (sizeB b),.int .i64 (bunE b)],m)
theorem e56 (hF:F 56=some AF56) (hs: ∀ vs m,sm 56 vs m=none) (n:Nat) (h:Blks) (lg d:List Nat) (h63:H79 sm) (h117:H80 sm) (h118:H81 sm) {b:BunD} {own:Bool} (hg:bget h 0=some (.row own 1 headsR)) (hq:0≤b.id.s) (w1:b.data.length≤1000000) (w2:I b.total):Ev F meth sm (n+2000) 56 [.agg (bunC b)] ⟨h,lg,d⟩ (.tuple [.int .i64 (sizeB b),.int .i64 (bunE b)]):=by
  refine Ev.ofW ?_
  have g0: ∀ q,bget (bxt h q) 0=some (.row own 1 headsR):=fun q=>(bxt_old q h 0 (bget_lt hg)).trans hg
  have g1:=fun m=>h63 b m w1 w2
  have g2:=fun (q:bunE b=0) l lg d=>h117 b own ⟨bxt h l,lg,d⟩ (g0 l) q hq
  have g3:=fun m=>h118 (b.data.length:Int) m ⟨by omega,by omega⟩
  have u1:IntKind.u64.wrap (b.data.length:Int)=b.data.length:=wrapU (by omega) (by omega)
  have f1:=front_le b
  have f2:=numLen_le (b.data.length:Int)
  have u2:IntKind.i64.wrap (((frontB b).length:Int)+(numLen (b.data.length:Int):Int))=((frontB b).length:Int)+(numLen (b.data.length:Int):Int):=wrapI (by omega) (by omega)
  have u3:IntKind.i64.wrap (((frontB b).length:Int)+(numLen (b.data.length:Int):Int)+(b.data.length:Int))=((frontB b).length:Int)+(numLen (b.data.length:Int):Int)+(b.data.length:Int):=wrapI (by omega) (by omega)
  have u4:IntKind.i64.wrap (((frontB b).length:Int)+(numLen (b.data.length:Int):Int)+(b.data.length:Int)+4)=((frontB b).length:Int)+(numLen (b.data.length:Int):Int)+(b.data.length:Int)+4:=wrapI (by omega) (by omega)
  unfold bunC at g1 g2
  simp+contextual -implicitDefEqProofs (maxSteps:=1000000) (maxDischargeDepth:=20) only[go_sem,simprocAttr,hs,hF,AF56,bunC,g1,g2,g3,u1,u2,u3,u4,r_vc,r_vp,mskO,Mem.more,bmore,nb_more,List.filter_nil,List.flatMap_nil,List.filter_cons,List.flatMap_cons,List.map_nil,List.map_cons,mask,unmask,AOp.reads,AOpnd.top,top_p,top_s,top_m,top_i,top_b,top_t,top_a,top_u,top_ns,top_s0,top_d,top_f,nb_beq,nb_blt,nb_add,nidOf,slotIn,Nat.beq_refl,clash,Bool.or_self,List.any_nil,List.any_cons,AOp.isMaker,w_p3,r_p3,binStr]
  (repeat' first |apply And.intro |intro _) <;>simp_all[sizeB]
end
section
variable {F:FuncId→Option AFunc} {meth:Meth} {sm:Summ}
def rq (x:Int):Nat→Int × List UInt8
  |0=>(x / 128,[UInt8.ofNat (IntKind.u8.wrap (x % 128)).toNat])
  |i+1=>((rq x i).1 / 128,UInt8.ofNat (IntKind.u8.wrap (128+(rq x i).1 % 128)).toNat::(rq x i).2)
theorem rq_len (x:Int): ∀ i,(rq x i).2.length=i+1
  |0=>rfl
  |i+1=>by rw[rq,List.length_cons,rq_len x i]
def refB (x:Int):List UInt8:=(rq x (numLen x - 1)).2
theorem nl_pos: ∀ f x,1≤nl f x
  |0,_=>by rw[nl];omega
  |f+1,x=>by rw[nl];split <;>omega
theorem refB_len (x:Int):(refB x).length=numLen x:=by
  have:=nl_pos 10 x
  rw[refB,rq_len,numLen];omega
structure Lf2 (x:Int) (i:Nat) (q:Int):Prop where
  a:0≤q
  b:q*128 ^ (i+1)≤18446744073709551615
  c:numLen x=i+1+(if q=0 then 0 else nl (9 - i) q)
theorem Lf2.zero {x:Int} (hx:U x):Lf2 x 0 (x / 128):=by
  obtain ⟨h0,h1⟩:=hx
  refine ⟨by omega,by simp;omega,?_⟩
  rw[numLen,nl]
  split
  · rename_i q;rw[if_pos (by omega)]
  · rename_i q;rw[if_neg (by omega)];show nl 9 (x / 128)+1=0+1+nl 9 (x / 128);omega
theorem Lf2.le {x:Int} {i:Nat} {q:Int} (H:Lf2 x i q):q≤18446744073709551615:=by
  have h1:(1:Int)≤128 ^ (i+1):=Int.pow_pos (n:=128) (m:=i+1) (by omega)
  have h2:=Int.mul_le_mul_of_nonneg_left h1 H.a
  have h3:=H.b
  omega
theorem Lf2.small {x:Int} {i:Nat} {q:Int} (H:Lf2 x i q) (hq:q≠0):i≤8:=by
  rcases Nat.lt_or_ge 8 i with h |h
  · exfalso
    have h1:=H.b
    have h0:=H.a
    have h3:(128:Int) ^ 10=1180591620717411303424:=by decide
    have h2:(128:Int) ^ 10≤128 ^ (i+1):=by
      rw[show i+1=10+(i+1 - 10) by omega,Int.pow_add]
      have h5:(1:Int)≤128 ^ (i+1 - 10):=Int.pow_pos (n:=128) (m:=i+1 - 10) (by omega)
      have h6:=Int.mul_le_mul_of_nonneg_left h5 (show (0:Int)≤128 ^ 10 by decide)
      omega
    have h4:(1:Int)*128 ^ (i+1)≤q*128 ^ (i+1):=Int.mul_le_mul_of_nonneg_right (by omega) (by omega)
    omega
  · exact h
theorem Lf2.step {x:Int} {i:Nat} {q:Int} (H:Lf2 x i q) (hq:q≠0):Lf2 x (i+1) (q / 128):=by
  have h8:=H.small hq
  have h0:=H.a
  refine ⟨by omega,?_,?_⟩
  · have h1:q / 128*128≤q:=by omega
    have h2:(0:Int)≤128 ^ (i+1):=by exact Int.pow_nonneg (by omega)
    have h3:=Int.mul_le_mul_of_nonneg_right h1 h2
    rw[Int.pow_succ,Int.mul_comm (128 ^ (i+1)) 128,←Int.mul_assoc]
    exact Int.le_trans h3 H.b
  · have h1:=H.c
    rw[if_neg hq,show 9 - i=(9 - (i+1))+1 by omega,nl] at h1
    split at h1
    · rw[if_pos (by omega)];omega
    · rw[if_neg (by omega)];omega
theorem Lf2.more {x:Int} {i:Nat} {q:Int} (H:Lf2 x i q) (hi:i<numLen x - 1):q≠0:=fun h=>by
  have:=H.c
  rw[if_pos h] at this
  omega
theorem Lf2.last {x:Int} {q:Int} (H:Lf2 x (numLen x - 1) q):q=0:=by
  have h1:=H.c
  have h2:=nl_pos 10 x
  have h3:=nl_pos (9 - (numLen x - 1)) q
  by_cases h:q=0
  · exact h
  · rw[if_neg h] at h1
    rw[←numLen] at h2
    omega
def H142 (sm:Summ):Prop:= ∀ (x:Int) (m:Mem),U x→sm 142 [.int .u64 x] m=some (.str (refB x),m)
theorem e142 (hF:F 142=some AF142) (hs: ∀ vs m,sm 142 vs m=none) (n:Nat) (h:Blks) (lg d:List Nat) {x:Int} (hx:U x):Ev F meth sm (n+2000) 142 [.int .u64 x] ⟨h,lg,d⟩ (.str (refB x)):=by
  refine Ev.ofW ?_
  have u0:x.tmod 128=x % 128:=Int.tmod_eq_emod_of_nonneg hx.1
  have u1:IntKind.u64.wrap (x % 128)=x % 128:=wrapU (by omega) (by omega)
  have u2:IntKind.u64.wrap (x.tdiv 128)=x / 128:=by
    have:=hx.2
    have:=hx.1
    rw[Int.tdiv_eq_ediv_of_nonneg hx.1];exact wrapU (by omega) (by omega)
  have nn:=numLen_le x
  simp+contextual -implicitDefEqProofs (maxSteps:=1000000) (maxDischargeDepth:=20) only[go_sem,simprocAttr,hs,hF,AF142,u0,u1,u2,r_vc,r_vp,mskO,Mem.more,bmore,nb_more,List.filter_nil,List.flatMap_nil,List.filter_cons,List.flatMap_cons,List.map_nil,List.map_cons,mask,unmask,AOp.reads,AOpnd.top,top_p,top_s,top_m,top_i,top_b,top_t,top_a,top_u,top_ns,top_s0,top_d,top_f,nb_beq,nb_blt,nb_add,nidOf,slotIn,Nat.beq_refl,clash,Bool.or_self,List.any_nil,List.any_cons,AOp.isMaker,w_p3,r_p3,binStr,bytesOf]
  refine WloopK (numLen x - 1) [X0,X3] (fun i=> [.int .u64 (rq x i).1,.str (rq x i).2]) (fun i=>Lf2 x i (rq x i).1) (by omega) (by repeat first |apply Cl_b |apply Cl_q |apply Cl_r) ⟨rfl,Lf2.zero hx⟩ (fun i h' lg' g hi hP hK=> ?_) (fun h' lg' g hP hK=> ?_)
  · have a:=hK.all (lg:=lg) (d:=d) (by repeat first |exact LogOK.nil |apply LogOK.cons)
    have hn:rq x (i+1)=((rq x i).1 / 128,UInt8.ofNat (IntKind.u8.wrap (128+(rq x i).1 % 128)).toNat::(rq x i).2):=rfl
    have hl:=rq_len x i
    generalize rq x i=pr at hP hn hl ⊢
    obtain ⟨q,s⟩:=pr
    simp only at hP hn hl ⊢
    have q0:=hP.a
    have q1:=hP.more hi
    have q2:=hP.le
    have qp:0<q:=by omega
    have v0:q.tmod 128=q % 128:=Int.tmod_eq_emod_of_nonneg q0
    have v1:IntKind.u64.wrap (q % 128)=q % 128:=wrapU (by omega) (by omega)
    have v2:IntKind.u64.wrap (q.tdiv 128)=q / 128:=by rw[Int.tdiv_eq_ediv_of_nonneg q0];exact wrapU (by omega) (by omega)
    have v3:IntKind.u64.wrap (128+q % 128)=128+q % 128:=wrapU (by omega) (by omega)
    simp+contextual -implicitDefEqProofs (maxSteps:=1000000) (maxDischargeDepth:=20) only[go_sem,simprocAttr,a,qp,v0,v1,v2,v3,hn,r_vc,r_vp,mskO,Mem.more,bmore,nb_more,List.filter_nil,List.flatMap_nil,List.filter_cons,List.flatMap_cons,List.map_nil,List.map_cons,mask,unmask,AOp.reads,AOpnd.top,top_p,top_s,top_m,top_i,top_b,top_t,top_a,top_u,top_ns,top_s0,top_d,top_f,nb_beq,nb_blt,nb_add,nidOf,slotIn,Nat.beq_refl,clash,Bool.or_self,List.any_nil,List.any_cons,AOp.isMaker,w_p3,r_p3,binStr,bytesOf]
    exact ⟨by omega,hP.step q1⟩
  · have a:=hK.all (lg:=lg) (d:=d) (by repeat first |exact LogOK.nil |apply LogOK.cons)
    have z:=hP.last
    simp+contextual -implicitDefEqProofs (maxSteps:=1000000) (maxDischargeDepth:=20) only[go_sem,simprocAttr,a,z,w_p3,r_p3,binStr]
    rfl
end
section
variable {F:FuncId→Option AFunc} {meth:Meth} {sm:Summ}
def H141 (sm:Summ):Prop:= ∀ (b:BunD) (m:Mem),sm 141 [.agg (bunC b)] m=some (.bool (decide (wholeB b)),m)
theorem e141 (hF:F 141=some AF141) (hs: ∀ vs m,sm 141 vs m=none) (n:Nat) (h:Blks) (lg d:List Nat) {b:BunD}:Ev F meth sm (n+2000) 141 [.agg (bunC b)] ⟨h,lg,d⟩ (.bool (decide (wholeB b))):=by
  refine Ev.ofW ?_
  simp+contextual -implicitDefEqProofs (maxSteps:=1000000) (maxDischargeDepth:=20) only[go_sem,simprocAttr,hs,hF,AF141,bunC,r_vc,r_vp,mskO,Mem.more,bmore,nb_more,List.filter_nil,List.flatMap_nil,List.filter_cons,List.flatMap_cons,List.map_nil,List.map_cons,mask,unmask,AOp.reads,AOpnd.top,top_p,top_s,top_m,top_i,top_b,top_t,top_a,top_u,top_ns,top_s0,top_d,top_f,nb_beq,nb_blt,nb_add,nidOf,slotIn,Nat.beq_refl,clash,Bool.or_self,List.any_nil,List.any_cons,AOp.isMaker]
  (repeat' first |apply And.intro |intro _) <;>simp_all[wholeB]
def rhead (b:BunD):Int:=if wholeB b then IntKind.u8.wrap (176+b.prio+4) else IntKind.u8.wrap (176+b.prio)
def rfrontB (b:BunD):List UInt8:=([UInt8.ofNat (rhead b).toNat]++refB b.id.n++refB b.id.s++refB b.dest++refB b.born++refB b.life)++(if wholeB b then [] else refB b.id.o++refB b.total)
theorem rfront_len (b:BunD):(rfrontB b).length=(frontB b).length:=by
  rw[rfrontB,frontB]
  split <;>simp only[List.length_append,putB_len,refB_len,List.length_cons,List.length_nil] <;>omega
def H126 (sm:Summ):Prop:= ∀ (b:BunD) (m:Mem),bunE b=0→0≤b.id.s→sm 126 [.agg (bunC b)] m=some (.str (rfrontB b),m)
theorem e126 (hF:F 126=some AF126) (hs: ∀ vs m,sm 126 vs m=none) (n:Nat) (h:Blks) (lg d:List Nat) (h172:H141 sm) (h173:H142 sm) {b:BunD} (hb:bunE b=0) (hq:0≤b.id.s):Ev F meth sm (n+2000) 126 [.agg (bunC b)] ⟨h,lg,d⟩ (.str (rfrontB b)):=by
  refine Ev.ofW ?_
  have ok:=bunE_ok hb
  have so:=ok.2.2.2.2.2.2.2.2.2.2.2.2.2
  have on:1≤b.id.n∧b.id.n≤16∧0≤b.id.o∧b.id.o≤20000∧b.id.s≤1099511627776:=by rw[idE] at so;split at so <;>omega
  have g1:=fun m=>h172 b m
  unfold bunC at g1
  have p1:=fun m=>h173 b.id.n m ⟨by omega,by omega⟩
  have p2:=fun m=>h173 b.id.s m ⟨by omega,by omega⟩
  have p3:=fun m=>h173 b.dest m ⟨by omega,by omega⟩
  have p4:=fun m=>h173 b.born m ⟨by omega,by omega⟩
  have p5:=fun m=>h173 b.life m ⟨by omega,by omega⟩
  have p6:=fun m=>h173 b.id.o m ⟨by omega,by omega⟩
  have p7:=fun m=>h173 b.total m ⟨by omega,by omega⟩
  have w1:IntKind.u64.wrap b.id.n=b.id.n:=wrapU (by omega) (by omega)
  have w3:IntKind.u64.wrap b.dest=b.dest:=wrapU (by omega) (by omega)
  have w4:IntKind.u64.wrap b.born=b.born:=wrapU (by omega) (by omega)
  have w5:IntKind.u64.wrap b.life=b.life:=wrapU (by omega) (by omega)
  have w6:IntKind.u64.wrap b.id.o=b.id.o:=wrapU (by omega) (by omega)
  have w7:IntKind.u64.wrap b.total=b.total:=wrapU (by omega) (by omega)
  have w8:IntKind.i64.wrap (176+b.prio)=176+b.prio:=wrapI (by omega) (by omega)
  have w9:IntKind.i64.wrap (176+b.prio+4)=176+b.prio+4:=wrapI (by omega) (by omega)
  have z1:=numLen_le b.id.n
  have z2:=numLen_le b.id.s
  have z3:=numLen_le b.dest
  have z4:=numLen_le b.born
  have z5:=numLen_le b.life
  have z6:=numLen_le b.id.o
  have z7:=numLen_le b.total
  simp+contextual -implicitDefEqProofs (maxSteps:=1000000) (maxDischargeDepth:=20) only[go_sem,simprocAttr,hs,hF,AF126,bunC,g1,p1,p2,p3,p4,p5,p6,p7,w1,w3,w4,w5,w6,w7,w8,w9,r_vc,r_vp,mskO,Mem.more,bmore,nb_more,List.filter_nil,List.flatMap_nil,List.filter_cons,List.flatMap_cons,List.map_nil,List.map_cons,mask,unmask,AOp.reads,AOpnd.top,top_p,top_s,top_m,top_i,top_b,top_t,top_a,top_u,top_ns,top_s0,top_d,top_f,nb_beq,nb_blt,nb_add,nidOf,slotIn,Nat.beq_refl,clash,Bool.or_self,List.any_nil,List.any_cons,AOp.isMaker,w_p3,r_p3,binStr,bytesOf]
  (repeat' first |apply And.intro |intro _) <;>first |(simp only[List.length_append,refB_len];omega)|simp_all[rfrontB,rhead]
def H127 (sm:Summ):Prop:= ∀ (s:List UInt8) (m:Mem),s.length≤1000000→sm 127 [.str s] m=some (.str (refB (s.length:Int)++s),m)
theorem e127 (hF:F 127=some AF127) (hs: ∀ vs m,sm 127 vs m=none) (n:Nat) (h:Blks) (lg d:List Nat) (h173:H142 sm) {s:List UInt8} (hw:s.length≤1000000):Ev F meth sm (n+2000) 127 [.str s] ⟨h,lg,d⟩ (.str (refB (s.length:Int)++s)):=by
  refine Ev.ofW ?_
  have p1:=fun m=>h173 (s.length:Int) m ⟨by omega,by omega⟩
  have w1:IntKind.u64.wrap (s.length:Int)=s.length:=wrapU (by omega) (by omega)
  have z1:=numLen_le (s.length:Int)
  simp+contextual -implicitDefEqProofs (maxSteps:=1000000) (maxDischargeDepth:=20) only[go_sem,simprocAttr,hs,hF,AF127,p1,w1,w_p3,r_p3,binStr]
  simp only[refB_len];omega
end
section
variable {F:FuncId→Option AFunc} {meth:Meth} {sm:Summ}
def xor32 (x y:Int):Int:=IntKind.u32.wrap ((BitVec.ofInt IntKind.u32.bits x ^^^ BitVec.ofInt IntKind.u32.bits y).toNat:Int)
def dn (x:Int):Int:=if x.tmod 2=1 then xor32 (IntKind.u32.wrap (x.tdiv 2)) 2197175160 else IntKind.u32.wrap (x.tdiv 2)
def H151 (sm:Summ):Prop:= ∀ (x:Int) (m:Mem),sm 151 [.int .u32 x] m=some (.int .u32 (dn x),m)
theorem e151 (hF:F 151=some AF151) (hs: ∀ vs m,sm 151 vs m=none) (n:Nat) (h:Blks) (lg d:List Nat) {x:Int}:Ev F meth sm (n+2000) 151 [.int .u32 x] ⟨h,lg,d⟩ (.int .u32 (dn x)):=by
  refine Ev.ofW ?_
  simp+contextual -implicitDefEqProofs (maxSteps:=1000000) (maxDischargeDepth:=20) only[go_sem,simprocAttr,hs,hF,AF151]
  exact ⟨fun q=>by rw[dn,if_pos q];rfl,fun q=>by rw[dn,if_neg q]⟩
def fourB (x:Int):List UInt8:=[UInt8.ofNat (IntKind.u8.wrap (x.fdiv (2 ^ min 24 IntKind.u32.bits))).toNat,
        UInt8.ofNat (IntKind.u8.wrap (x.fdiv (2 ^ min 16 IntKind.u32.bits))).toNat,
        UInt8.ofNat (IntKind.u8.wrap (x.fdiv (2 ^ min 8 IntKind.u32.bits))).toNat,
        UInt8.ofNat (IntKind.u8.wrap x).toNat]
def H128 (sm:Summ):Prop:= ∀ (x:Int) (m:Mem),sm 128 [.int .u32 x] m=some (.str (fourB x),m)
theorem e128 (hF:F 128=some AF128) (hs: ∀ vs m,sm 128 vs m=none) (n:Nat) (h:Blks) (lg d:List Nat) {x:Int}:Ev F meth sm (n+2000) 128 [.int .u32 x] ⟨h,lg,d⟩ (.str (fourB x)):=by
  refine Ev.ofW ?_
  simp+contextual -implicitDefEqProofs (maxSteps:=1000000) (maxDischargeDepth:=20) only[go_sem,simprocAttr,hs,hF,AF128,r_vc,r_vp,mskO,Mem.more,bmore,nb_more,List.filter_nil,List.flatMap_nil,List.filter_cons,List.flatMap_cons,List.map_nil,List.map_cons,mask,unmask,AOp.reads,AOpnd.top,top_p,top_s,top_m,top_i,top_b,top_t,top_a,top_u,top_ns,top_s0,top_d,top_f,nb_beq,nb_blt,nb_add,nidOf,slotIn,Nat.beq_refl,clash,Bool.or_self,List.any_nil,List.any_cons,AOp.isMaker,bytesOf]
  rfl
def dns (x:Int):Nat→Int
  |0=>x
  |i+1=>dn (dns x i)
def b32 (x y:Int):Int:=dns (xor32 x (IntKind.u32.wrap y)) 8
def H143 (sm:Summ):Prop:= ∀ (x y:Int) (m:Mem),sm 143 [.int .u32 x,.int .u8 y] m=some (.int .u32 (b32 x y),m)
theorem e143 (hF:F 143=some AF143) (hs: ∀ vs m,sm 143 vs m=none) (n:Nat) (h:Blks) (lg d:List Nat) (h179:H151 sm) {x y:Int}:Ev F meth sm (n+2000) 143 [.int .u32 x,.int .u8 y] ⟨h,lg,d⟩ (.int .u32 (b32 x y)):=by
  refine Ev.ofW ?_
  have g:=fun x m=>h179 x m
  simp+contextual -implicitDefEqProofs (maxSteps:=1000000) (maxDischargeDepth:=20) only[go_sem,simprocAttr,hs,hF,AF143]
  refine WloopK 8 [X5,X0] (fun i=> [.int .i64 i,.int .u32 (dns (xor32 x (IntKind.u32.wrap y)) i)]) (fun _=>True) (by omega) (by repeat first |apply Cl_b |apply Cl_q |apply Cl_r) ⟨rfl,trivial⟩ (fun i h' lg' g1 hi hP hK=> ?_) (fun h' lg' g1 hP hK=> ?_)
  · have a:=hK.all (lg:=lg) (d:=d) (by repeat first |exact LogOK.nil |apply LogOK.cons)
    have r:=rnd hi (by omega)
    have st:dns (xor32 x (IntKind.u32.wrap y)) (i+1)=dn (dns (xor32 x (IntKind.u32.wrap y)) i):=rfl
    have l8:((i:Int)<8)=True:=by simp;omega
    simp+contextual -implicitDefEqProofs (maxSteps:=1000000) (maxDischargeDepth:=20) only[go_sem,simprocAttr,a,r,g,st,l8]
  · have a:=hK.all (lg:=lg) (d:=d) (by repeat first |exact LogOK.nil |apply LogOK.cons)
    have l8:(((8:Nat):Int)<8)=False:=by simp
    simp+contextual -implicitDefEqProofs (maxSteps:=1000000) (maxDischargeDepth:=20) only[go_sem,simprocAttr,a,l8]
    rfl
def crs (s:List UInt8):Nat→Int
  |0=>4294967295
  |i+1=>b32 (crs s i) ((gt s i).toNat:Int)
def crc (s:List UInt8):Int:=xor32 (crs s s.length) 4294967295
def H129 (sm:Summ):Prop:= ∀ (s:List UInt8) (m:Mem),s.length≤1500→sm 129 [.str s] m=some (.int .u32 (crc s),m)
theorem e129 (hF:F 129=some AF129) (hs: ∀ vs m,sm 129 vs m=none) (n:Nat) (h:Blks) (lg d:List Nat) (h174:H143 sm) {s:List UInt8} (hw:s.length≤1500):Ev F meth sm (n+2000) 129 [.str s] ⟨h,lg,d⟩ (.int .u32 (crc s)):=by
  refine Ev.ofW ?_
  have g:=fun x y m=>h174 x y m
  simp+contextual -implicitDefEqProofs (maxSteps:=1000000) (maxDischargeDepth:=20) only[go_sem,simprocAttr,hs,hF,AF129]
  refine WloopK s.length [X4,X3] (fun i=> [.int .i64 i,.int .u32 (crs s i)]) (fun _=>True) (by omega) (by repeat first |apply Cl_b |apply Cl_q |apply Cl_r) ⟨rfl,trivial⟩ (fun i h' lg' g1 hi hP hK=> ?_) (fun h' lg' g1 hP hK=> ?_)
  · have a:=hK.all (lg:=lg) (d:=d) (by repeat first |exact LogOK.nil |apply LogOK.cons)
    have r:=rnd hi (by omega)
    have st:crs s (i+1)=b32 (crs s i) ((gt s i).toNat:Int):=rfl
    have ix:s[i]? =some (gt s i):=by rw[gt_eq hi,List.getElem?_eq_getElem hi]
    simp+contextual -implicitDefEqProofs (maxSteps:=1000000) (maxDischargeDepth:=20) only[go_sem,simprocAttr,a,r,g,st,ix]
  · have a:=hK.all (lg:=lg) (d:=d) (by repeat first |exact LogOK.nil |apply LogOK.cons)
    have r:=rndl s.length
    simp+contextual -implicitDefEqProofs (maxSteps:=1000000) (maxDischargeDepth:=20) only[go_sem,simprocAttr,a,r]
    rfl
def encB (b:BunD):List UInt8:=(rfrontB b++(refB (b.data.length:Int)++b.data))++fourB (crc (rfrontB b++(refB (b.data.length:Int)++b.data)))
theorem enc_len (b:BunD):((encB b).length:Int)=(frontB b).length+numLen (b.data.length:Int)+b.data.length+4:=by
  have:(fourB (crc (rfrontB b++(refB (b.data.length:Int)++b.data)))).length=4:=rfl
  rw[encB,List.length_append,List.length_append,List.length_append,this,rfront_len,refB_len]
  omega
def H95 (sm:Summ):Prop:= ∀ (b:BunD) (m:Mem),0≤b.id.s→b.data.length≤1000000→I b.total→sm 95 [.agg (bunC b)] m=some (.tuple [.str (if bunE b≠0 then [] else encB b),.int .i64 (bunE b)],m)
theorem e95 (hF:F 95=some AF95) (hs: ∀ vs m,sm 95 vs m=none) (n:Nat) (h:Blks) (lg d:List Nat) (h68:H125 sm) (h157:H126 sm) (h158:H127 sm) (h159:H128 sm) (h160:H129 sm) {b:BunD} (hq:0≤b.id.s) (w1:b.data.length≤1000000) (w2:I b.total):Ev F meth sm (n+2000) 95 [.agg (bunC b)] ⟨h,lg,d⟩ (.tuple [.str (if bunE b≠0 then [] else encB b),.int .i64 (bunE b)]):=by
  refine Ev.ofW ?_
  have g1:=fun m=>h68 b m w1 w2
  have g2:=fun (q:bunE b=0) m=>h157 b m q hq
  have g3:=fun m=>h158 b.data m w1
  have f1:=rfront_len b
  have f2:=front_le b
  have f3:=numLen_le (b.data.length:Int)
  have g4:=fun (q:bunE b=0) m=>h160 (rfrontB b++(refB (b.data.length:Int)++b.data)) m (by have:=bunE_ok q;simp only[List.length_append,refB_len];omega)
  have g5:=fun x m=>h159 x m
  unfold bunC at g1 g2
  have f4: ∀ x,(fourB x).length=4:=fun _=>rfl
  simp+contextual -implicitDefEqProofs (maxSteps:=1000000) (maxDischargeDepth:=20) only[go_sem,simprocAttr,hs,hF,AF95,bunC,g1,g2,g3,g4,g5,r_vc,r_vp,mskO,Mem.more,bmore,nb_more,List.filter_nil,List.flatMap_nil,List.filter_cons,List.flatMap_cons,List.map_nil,List.map_cons,mask,unmask,AOp.reads,AOpnd.top,top_p,top_s,top_m,top_i,top_b,top_t,top_a,top_u,top_ns,top_s0,top_d,top_f,nb_beq,nb_blt,nb_add,nidOf,slotIn,Nat.beq_refl,clash,Bool.or_self,List.any_nil,List.any_cons,AOp.isMaker,w_p3,r_p3,binStr]
  (repeat' first |apply And.intro |intro _) <;>first |(simp only[List.length_append,refB_len,f4];omega)|simp_all[encB]
def H65 (sm:Summ):Prop:= ∀ (b:BunD) (m:Mem),0≤b.id.s→b.data.length≤1000000→I b.total→sm 65 [.agg (bunC b)] m=some (.tuple [.int .i64 (sizeB b),.int .i64 (bunE b)],m)
theorem e65 (hF:F 65=some AF65) (hs: ∀ vs m,sm 65 vs m=none) (n:Nat) (h:Blks) (lg d:List Nat) (h122:H95 sm) {b:BunD} (hq:0≤b.id.s) (w1:b.data.length≤1000000) (w2:I b.total):Ev F meth sm (n+2000) 65 [.agg (bunC b)] ⟨h,lg,d⟩ (.tuple [.int .i64 (sizeB b),.int .i64 (bunE b)]):=by
  refine Ev.ofW ?_
  have g1:=fun m=>h122 b m hq w1 w2
  have e0:(((if bunE b≠0 then [] else encB b).length:Nat):Int)=sizeB b:=by
    rw[sizeB]
    split
    · rfl
    · exact enc_len b
  unfold bunC at g1
  generalize (if bunE b≠0 then [] else encB b)=s at g1 e0
  simp+contextual -implicitDefEqProofs (maxSteps:=1000000) (maxDischargeDepth:=20) only[go_sem,simprocAttr,hs,hF,AF65,bunC,g1,e0]
end
section
variable {F:FuncId→Option AFunc} {meth:Meth} {sm:Summ}
theorem Wc_bx {call:CallF} {wc:WCall} {fu:Nat} {c:ACode} {T:Tr} {h':Blks} {lg d:List Nat} {K:AExit→Tr→Mem→Prop} (H:Wc call wc meth fu c T ⟨bxt h' [],lg,d⟩ K):Wc call wc meth fu c T ⟨h',lg,d⟩ K:=H
theorem SlAt.nrefs {h:Blks} {e e':Nat} {v:AV} {es:List (List AV)} {b:Nat} {own:Bool} {rows:List (List AV)} (H:SlAt h e v es) (hb:bget h b=Option.some (.row own e' rows)) (hne:e≠e'): ∀ c∈v.refs,c≠b:=by
  rcases H with ⟨_,rfl |rfl |rfl⟩|⟨c,i,k,own,rows,rfl,hc,hw,hk⟩
  · intro c hc;cases hc
  · intro c hc;cases hc
  · intro c hc;cases hc
  · intro x hx
    simp only[AV.refs,List.mem_singleton] at hx
    subst hx
    intro hq
    rw[hq,hb] at hc
    simp only[Option.some.injEq,ABlk.row.injEq] at hc
    exact hne hc.2.1.symm
theorem Cl_e {α:Type} {live:List Pth} {V:α→List AV} {P:α→Mem→Prop} {E:AExit→Tr→Mem→Prop} (hE:Cl E):Cl (Ke live V P E):=fun e T T' m q h=>by
  cases e with
  | normal=>
    obtain ⟨a,h1,h2⟩:=h
    exact ⟨a,by rw[←h1];exact List.map_congr_left fun p _=>(q p).symm,h2⟩
  |exit j=>exact hE _ _ _ _ q h
  |ret=>exact hE _ _ _ _ q h
theorem Cl_v {live:List Pth} {vs:List AV} {P:Mem→Prop} {E:AExit→Tr→Mem→Prop} (hE:Cl E):Cl (Kv live vs P E):=fun e T T' m q h=>by
  cases e with
  |normal=>exact ⟨by rw[←h.1];exact List.map_congr_left fun p _=>(q p).symm,h.2⟩
  |exit j=>exact hE _ _ _ _ q h
  |ret=>exact hE _ _ _ _ q h
end
end Go.Abs
end
