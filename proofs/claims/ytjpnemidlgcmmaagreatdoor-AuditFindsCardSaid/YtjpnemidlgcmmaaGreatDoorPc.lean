/- Functions of the program on symbolic values: part c.
   Conditions: none. -/
import Derived.Test.YtjpnemidlgcmmaaGreatDoorPb
set_option linter.unusedSimpArgs false
set_option linter.unusedVariables false
set_option maxRecDepth 100000
set_option maxHeartbeats 16000000
noncomputable section
namespace Go.Abs
section
variable {F:FuncId→Option AFunc} {meth:Meth} {sm:Summ}
def H61 (sm:Summ):Prop:= ∀ (S:StateD) (b ms v:AV) (l:List PX) (m:Mem),StateAt m.blks S b ms v l→sm 61 [.agg (stateC S b ms v)] m=some (.int .i64 (stateE S),m)
theorem e61 (hF:F 61=some AF61) (hs: ∀ vs m,sm 61 vs m=none) (n:Nat) (h:Blks) (lg d:List Nat) (h100:H100 sm) (h68:H68 sm) (h101:H101 sm) (h102:H102 sm) (h62:H62 sm) (h103:H103 sm) {S:StateD} {b ms v:AV} {l:List PX} (H:StateAt h S b ms v l):Ev F meth sm (n+2000) 61 [.agg (stateC S b ms v)] ⟨h,lg,d⟩ (.int .i64 (stateE S)):=by
  refine Ev.ofW ?_
  have c1:=H.b.sc
  have c2:=H.m.sc
  have c3:=H.p.v.sc
  have l1:=H.b.len
  have g1:=h100 S.last
  unfold idC at g1
  have hq:(S.last.n=0∧S.last.s=0∧S.last.o=0)=(S.last=id0):=propext (idD_eq S.last id0)
  have hi2:=idE02 S.last
  rcases Classical.em (S.last=id0) with hz |hz
  · have hz':=hq.trans (eq_true hz)
    simp+contextual -implicitDefEqProofs (maxSteps:=1000000) (maxDischargeDepth:=20) only[go_sem,simprocAttr,hs,hF,AF61,stateC,c1,c2,c3,l1,g1,hz',List.length_map]
    (repeat' first |apply And.intro |intro _) <;>first |(simp only[stateE] <;>(repeat' split) <;>first |omega |contradiction |(simp_all;done))|skip
    have e0:stateE S=restE S:=by
      rw[stateE,if_neg (by omega),if_neg (fun q=>by first |exact q.1 hz |omega),if_neg (fun q=>by first |exact q.1 hz |(apply q.2;assumption))]
      rfl
    refine WloopK S.held.length [X4] (fun i=> [.int .i64 i]) (FP (heldBad S.held) S.held.length) (by have:=H.w1;omega) (by repeat first |apply Cl_b |apply Cl_q |apply Cl_r) ⟨rfl,FP.zero _ _⟩ (fun i h' lg' g hi hP hK=> ?_) (fun h' lg' g hP hK=> ?_)
    · have a:=hK.all (lg:=lg) (d:=d) (by repeat first |exact LogOK.nil |apply LogOK.cons)
      have e:=(hK.sl H.b).el hi
      have p:=(hK.sl H.b).pv hi (by have:=H.w1;omega)
      have r:=rnd hi (by have:=H.w1;omega)
      have u:=H.d _ (gt_mem hi)
      have g1:=fun m=>h68 (gt S.held i) m u.1 u.2
      have g2:=h101 (gt S.held (i - 1)).id (gt S.held i).id
      unfold bunC at e p g1
      unfold idC at g2
      simp+contextual -implicitDefEqProofs (maxSteps:=1000000) (maxDischargeDepth:=20) only[go_sem,simprocAttr,a,e,p,r,g1,g2,l1,List.length_map]
      have f1: ∀ x:Int,heldBad S.held i=x∧x≠0→x=stateE S:=fun x hx=>by
        have:=hP.s1 hi hx
        rw[e0,restE,if_pos (by rw[←this];exact hx.2)]
        exact this
      (repeat' first |(refine f1 _ ?_)|apply And.intro |intro _) <;>(try refine hP.next hi ?_) <;>first |omega |assumption |(simp only[heldBad] <;>(repeat' split) <;>first |omega |contradiction)
    · have a:=hK.all (lg:=lg) (d:=d) (by repeat first |exact LogOK.nil |apply LogOK.cons)
      have r:=rndl S.held.length
      have gs:=fun l lg d=>h102 S.seen ms ⟨bxt h' l,lg,d⟩ ((hK.sl H.m).bx l) H.w2
      have lv:=H.p.v.len
      simp+contextual -implicitDefEqProofs (maxSteps:=1000000) (maxDischargeDepth:=20) only[go_sem,simprocAttr,a,r,gs,lv,l1,List.length_map]
      have hz2:=hP.last
      refine ⟨fun c=> ?_,fun c=> ?_⟩
      · rw[e0,restE,if_neg (by rw[hz2.1];omega),if_pos c]
      have e1:stateE S=first (sPeerBad S.node S.peers) S.peers.length:=by
        rw[e0,restE,if_neg (by rw[hz2.1];omega),if_neg (by omega)]
      refine WloopK l.length [X8] (fun i=> [.int .i64 i]) (FP (sPeerBad S.node S.peers) S.peers.length) (by have:=H.w3;omega) (by repeat first |apply Cl_b |apply Cl_q |apply Cl_r) ⟨rfl,FP.zero _ _⟩ (fun i h2 lg2 g2 hi hP2 hK2=> ?_) (fun h2 lg2 g2 hP2 hK2=> ?_)
      · have a2:=hK2.all (lg:=lg') (d:=d) (by repeat first |exact LogOK.nil |apply LogOK.cons)
        have a:=Keep.all (lg:=lg) (d:=d) (hK.trans hK2) (by repeat first |exact LogOK.nil |apply LogOK.cons)
        have hp:=hK2.ps (hK.ps H.p)
        have e:=hp.v.el hi
        have p:=hp.v.pv hi (by have:=H.w3;omega)
        have r:=rnd hi (by have:=H.w3;omega)
        have hx:=hp.p _ (gt_mem hi)
        have g3:=fun l lg d=>h62 _ _ _ _ ⟨bxt h2 l,lg,d⟩ (hx.bx l)
        have g4:=fun l lg d=>h103 _ _ ⟨bxt h2 l,lg,d⟩ (hx.s.bx l)
        have hi':i<S.peers.length:=by rw[H.e];simpa using hi
        have x1:gt S.peers i=(gt l i).p:=by rw[H.e];exact gt_map hi
        have x2:gt S.peers (i - 1)=(gt l (i - 1)).p:=by rw[H.e];exact gt_map (by omega)
        have d1:=hx.s.s.sc
        have d2:=hx.r.t.sc
        have d3:=hx.r.k.sc
        unfold pxC peerC at e p
        unfold peerC at g3
        unfold sendC at g4
        simp+contextual -implicitDefEqProofs (maxSteps:=1000000) (maxDischargeDepth:=20) only[go_sem,simprocAttr,a,a2,e,p,r,g3,g4,d1,d2,d3,lv,List.length_map]
        have f1: ∀ x:Int,sPeerBad S.node S.peers i=x∧x≠0→x=stateE S:=fun x hx=>by
          rw[e1];exact hP2.s1 hi' hx
        have f3:=sPeerBad_v (node:=S.node) x1 x2
        clear a a2 e p r g3 g4 hp hx d1 d2 d3 hK hK2 hP H g1 gs lv l1 c1 c2 c3 hs hF h100 h68 h101 h102 h62 h103 x1 x2 hq hz' e0 e1 hz2
        (repeat' first |(refine f1 _ ?_)|apply And.intro |intro _) <;>(try refine hP2.next hi' ?_) <;>first |omega |assumption |(rw[f3];(repeat' split) <;>first |omega |contradiction |(simp_all;done)|(simp_all;omega))
      · have a2:=hK2.all (lg:=lg') (d:=d) (by repeat first |exact LogOK.nil |apply LogOK.cons)
        have a:=Keep.all (lg:=lg) (d:=d) (hK.trans hK2) (by repeat first |exact LogOK.nil |apply LogOK.cons)
        have r:=rndl l.length
        simp+contextual -implicitDefEqProofs (maxSteps:=1000000) (maxDischargeDepth:=20) only[go_sem,simprocAttr,a,a2,r,lv,List.length_map]
        rw[e1]
        have:S.peers.length=l.length:=by rw[H.e];simp
        rw[this] at hP2 ⊢
        simp[hP2.last]
  · have hz':=hq.trans (eq_false hz)
    simp+contextual -implicitDefEqProofs (maxSteps:=1000000) (maxDischargeDepth:=20) only[go_sem,simprocAttr,hs,hF,AF61,stateC,c1,c2,c3,l1,g1,hz',List.length_map]
    (repeat' first |apply And.intro |intro _) <;>first |(simp only[stateE] <;>(repeat' split) <;>first |omega |contradiction |(simp_all;done))|skip
    have e0:stateE S=restE S:=by
      rw[stateE,if_neg (by omega),if_neg (fun q=>by first |exact q.1 hz |omega),if_neg (fun q=>by first |exact q.1 hz |(apply q.2;assumption))]
      rfl
    refine WloopK S.held.length [X4] (fun i=> [.int .i64 i]) (FP (heldBad S.held) S.held.length) (by have:=H.w1;omega) (by repeat first |apply Cl_b |apply Cl_q |apply Cl_r) ⟨rfl,FP.zero _ _⟩ (fun i h' lg' g hi hP hK=> ?_) (fun h' lg' g hP hK=> ?_)
    · have a:=hK.all (lg:=lg) (d:=d) (by repeat first |exact LogOK.nil |apply LogOK.cons)
      have e:=(hK.sl H.b).el hi
      have p:=(hK.sl H.b).pv hi (by have:=H.w1;omega)
      have r:=rnd hi (by have:=H.w1;omega)
      have u:=H.d _ (gt_mem hi)
      have g1:=fun m=>h68 (gt S.held i) m u.1 u.2
      have g2:=h101 (gt S.held (i - 1)).id (gt S.held i).id
      unfold bunC at e p g1
      unfold idC at g2
      simp+contextual -implicitDefEqProofs (maxSteps:=1000000) (maxDischargeDepth:=20) only[go_sem,simprocAttr,a,e,p,r,g1,g2,l1,List.length_map]
      have f1: ∀ x:Int,heldBad S.held i=x∧x≠0→x=stateE S:=fun x hx=>by
        have:=hP.s1 hi hx
        rw[e0,restE,if_pos (by rw[←this];exact hx.2)]
        exact this
      (repeat' first |(refine f1 _ ?_)|apply And.intro |intro _) <;>(try refine hP.next hi ?_) <;>first |omega |assumption |(simp only[heldBad] <;>(repeat' split) <;>first |omega |contradiction)
    · have a:=hK.all (lg:=lg) (d:=d) (by repeat first |exact LogOK.nil |apply LogOK.cons)
      have r:=rndl S.held.length
      have gs:=fun l lg d=>h102 S.seen ms ⟨bxt h' l,lg,d⟩ ((hK.sl H.m).bx l) H.w2
      have lv:=H.p.v.len
      simp+contextual -implicitDefEqProofs (maxSteps:=1000000) (maxDischargeDepth:=20) only[go_sem,simprocAttr,a,r,gs,lv,l1,List.length_map]
      have hz2:=hP.last
      refine ⟨fun c=> ?_,fun c=> ?_⟩
      · rw[e0,restE,if_neg (by rw[hz2.1];omega),if_pos c]
      have e1:stateE S=first (sPeerBad S.node S.peers) S.peers.length:=by
        rw[e0,restE,if_neg (by rw[hz2.1];omega),if_neg (by omega)]
      refine WloopK l.length [X8] (fun i=> [.int .i64 i]) (FP (sPeerBad S.node S.peers) S.peers.length) (by have:=H.w3;omega) (by repeat first |apply Cl_b |apply Cl_q |apply Cl_r) ⟨rfl,FP.zero _ _⟩ (fun i h2 lg2 g2 hi hP2 hK2=> ?_) (fun h2 lg2 g2 hP2 hK2=> ?_)
      · have a2:=hK2.all (lg:=lg') (d:=d) (by repeat first |exact LogOK.nil |apply LogOK.cons)
        have a:=Keep.all (lg:=lg) (d:=d) (hK.trans hK2) (by repeat first |exact LogOK.nil |apply LogOK.cons)
        have hp:=hK2.ps (hK.ps H.p)
        have e:=hp.v.el hi
        have p:=hp.v.pv hi (by have:=H.w3;omega)
        have r:=rnd hi (by have:=H.w3;omega)
        have hx:=hp.p _ (gt_mem hi)
        have g3:=fun l lg d=>h62 _ _ _ _ ⟨bxt h2 l,lg,d⟩ (hx.bx l)
        have g4:=fun l lg d=>h103 _ _ ⟨bxt h2 l,lg,d⟩ (hx.s.bx l)
        have hi':i<S.peers.length:=by rw[H.e];simpa using hi
        have x1:gt S.peers i=(gt l i).p:=by rw[H.e];exact gt_map hi
        have x2:gt S.peers (i - 1)=(gt l (i - 1)).p:=by rw[H.e];exact gt_map (by omega)
        have d1:=hx.s.s.sc
        have d2:=hx.r.t.sc
        have d3:=hx.r.k.sc
        unfold pxC peerC at e p
        unfold peerC at g3
        unfold sendC at g4
        simp+contextual -implicitDefEqProofs (maxSteps:=1000000) (maxDischargeDepth:=20) only[go_sem,simprocAttr,a,a2,e,p,r,g3,g4,d1,d2,d3,lv,List.length_map]
        have f1: ∀ x:Int,sPeerBad S.node S.peers i=x∧x≠0→x=stateE S:=fun x hx=>by
          rw[e1];exact hP2.s1 hi' hx
        have f3:=sPeerBad_v (node:=S.node) x1 x2
        clear a a2 e p r g3 g4 hp hx d1 d2 d3 hK hK2 hP H g1 gs lv l1 c1 c2 c3 hs hF h100 h68 h101 h102 h62 h103 x1 x2 hq hz' e0 e1 hz2
        (repeat' first |(refine f1 _ ?_)|apply And.intro |intro _) <;>(try refine hP2.next hi' ?_) <;>first |omega |assumption |(rw[f3];(repeat' split) <;>first |omega |contradiction |(simp_all;done)|(simp_all;omega))
      · have a2:=hK2.all (lg:=lg') (d:=d) (by repeat first |exact LogOK.nil |apply LogOK.cons)
        have a:=Keep.all (lg:=lg) (d:=d) (hK.trans hK2) (by repeat first |exact LogOK.nil |apply LogOK.cons)
        have r:=rndl l.length
        simp+contextual -implicitDefEqProofs (maxSteps:=1000000) (maxDischargeDepth:=20) only[go_sem,simprocAttr,a,a2,r,lv,List.length_map]
        rw[e1]
        have:S.peers.length=l.length:=by rw[H.e];simp
        rw[this] at hP2 ⊢
        simp[hP2.last]
end
section
variable {F:FuncId→Option AFunc} {meth:Meth} {sm:Summ}
def limU (x:Int × Int × Int):List AV:=[.int .u64 x.1,.int .u64 x.2.1,.int .u64 x.2.2]
def H55 (sm:Summ):Prop:= ∀ (l:List (Int × Int × Int)) (v:AV) (m:Mem),SlAt m.blks 3 v (l.map limC)→l.length≤1000→sm 55 [v] m=some (.bool (decide (l.all limB=true)),m)
theorem e55 (hF:F 55=some AF55) (hs: ∀ vs m,sm 55 vs m=none) (n:Nat) (h:Blks) (lg d:List Nat) {l:List (Int × Int × Int)} {v:AV} (hv:SlAt h 3 v (l.map limC)) (hw:l.length≤1000):
    Ev F meth sm (n+2000) 55 [v] ⟨h,lg,d⟩ (.bool (decide (l.all limB=true))):=by
  refine Ev.ofW ?_
  have lv:=hv.len
  simp+contextual -implicitDefEqProofs (maxSteps:=1000000) (maxDischargeDepth:=20) only[go_sem,simprocAttr,hs,hF,AF55,lv,List.length_map]
  refine WloopK l.length [X7] (fun i=> [.int .i64 i]) (fun i=>l.all limB=(l.drop i).all limB) (by omega) (by repeat first |apply Cl_b |apply Cl_q |apply Cl_r) ⟨rfl,rfl⟩ (fun i h' lg' g hi hP hK=> ?_) (fun h' lg' g hP hK=> ?_)
  · have a:=hK.all (lg:=lg) (d:=d) (by repeat first |exact LogOK.nil |apply LogOK.cons)
    have e:=(hK.sl hv).elt hi
    have r:=rnd hi (by omega)
    unfold limC at e
    rw[List.drop_eq_getElem_cons hi,List.all_cons] at hP
    simp+contextual -implicitDefEqProofs (maxSteps:=1000000) (maxDischargeDepth:=20) only[go_sem,simprocAttr,a,e,r]
    exact ⟨fun c=>by simp[hP,limB];omega,fun c=>⟨fun c'=>by simp[hP,limB];omega,fun c'=>by simp[hP,limB];omega⟩⟩
  · have a:=hK.all (lg:=lg) (d:=d) (by repeat first |exact LogOK.nil |apply LogOK.cons)
    have r:=rndl l.length
    simp+contextual -implicitDefEqProofs (maxSteps:=1000000) (maxDischargeDepth:=20) only[go_sem,simprocAttr,a,r]
    simpa using hP
def H56 (sm:Summ):Prop:= ∀ (l:List (Int × Int × Int)) (v:AV) (m:Mem),SlAt m.blks 3 v (l.map limU)→l.length≤1000→sm 56 [v] m=some (.bool (decide (l.all limB=true)),m)
theorem e56 (hF:F 56=some AF56) (hs: ∀ vs m,sm 56 vs m=none) (n:Nat) (h:Blks) (lg d:List Nat) {l:List (Int × Int × Int)} {v:AV} (hv:SlAt h 3 v (l.map limU)) (hw:l.length≤1000):
    Ev F meth sm (n+2000) 56 [v] ⟨h,lg,d⟩ (.bool (decide (l.all limB=true))):=by
  refine Ev.ofW ?_
  have lv:=hv.len
  simp+contextual -implicitDefEqProofs (maxSteps:=1000000) (maxDischargeDepth:=20) only[go_sem,simprocAttr,hs,hF,AF56,lv,List.length_map]
  refine WloopK l.length [X7] (fun i=> [.int .i64 i]) (fun i=>l.all limB=(l.drop i).all limB) (by omega) (by repeat first |apply Cl_b |apply Cl_q |apply Cl_r) ⟨rfl,rfl⟩ (fun i h' lg' g hi hP hK=> ?_) (fun h' lg' g hP hK=> ?_)
  · have a:=hK.all (lg:=lg) (d:=d) (by repeat first |exact LogOK.nil |apply LogOK.cons)
    have e:=(hK.sl hv).elt hi
    have r:=rnd hi (by omega)
    unfold limU at e
    rw[List.drop_eq_getElem_cons hi,List.all_cons] at hP
    simp+contextual -implicitDefEqProofs (maxSteps:=1000000) (maxDischargeDepth:=20) only[go_sem,simprocAttr,a,e,r]
    exact ⟨fun c=>by simp[hP,limB];omega,fun c=>⟨fun c'=>by simp[hP,limB];omega,fun c'=>by simp[hP,limB];omega⟩⟩
  · have a:=hK.all (lg:=lg) (d:=d) (by repeat first |exact LogOK.nil |apply LogOK.cons)
    have r:=rndl l.length
    simp+contextual -implicitDefEqProofs (maxSteps:=1000000) (maxDischargeDepth:=20) only[go_sem,simprocAttr,a,r]
    simpa using hP
def cfgE (c:CfgD):Int:=
  if (1≤c.node∧c.node≤16)∧(1≤c.quota∧c.quota≤1099511627776)∧(1≤c.largest∧c.largest≤1200)∧c.window≤c.quota∧c.low≤c.quota∧(1≤c.retry∧c.retry≤1000)∧(c.retry≤c.retryMax∧c.retryMax≤100000)∧(0≤c.bypass∧c.bypass≤100)∧
    (1≤c.w1∧c.w1≤100)∧(1≤c.w2∧c.w2≤100)∧(1≤c.w3∧c.w3≤100)∧(0≤c.rateN∧c.rateN≤1048576)∧(1≤c.rateD∧c.rateD≤1048576)∧(1≤c.burst∧c.burst≤1099511627776)∧(8≤c.blocks∧c.blocks≤4096)∧(0≤c.rate∧c.rate≤1048576) then 0 else 2
def H34 (sm:Summ):Prop:= ∀ (c:CfgD) (m:Mem),0≤c.window→0≤c.low→sm 34 [.agg (cfgC c)] m=some (.int .i64 (cfgE c),m)
theorem e34 (hF:F 34=some AF34) (hs: ∀ vs m,sm 34 vs m=none) (n:Nat) (h:Blks) (lg d:List Nat) (h55:H55 sm) (h56:H56 sm) {c:CfgD} (w1:0≤c.window) (w2:0≤c.low):Ev F meth sm (n+2000) 34 [.agg (cfgC c)] ⟨h,lg,d⟩ (.int .i64 (cfgE c)):=by
  refine Ev.ofW ?_
  simp+contextual -implicitDefEqProofs (maxSteps:=1000000) (maxDischargeDepth:=20) only[go_sem,simprocAttr,hs,hF,AF34,cfgC]
  refine Wunroll 3 (by omega) ?_
  have g1:=fun l lg d (q:bnth l 7=some (.row true 3 [[.int .i64 c.node,.int .i64 1,.int .i64 16],[.int .i64 c.retry,.int .i64 1,.int .i64 1000],[.int .i64 c.retryMax,.int .i64 c.retry,.int .i64 100000],[.int .i64 c.bypass,.int .i64 0,.int .i64 100],[.int .i64 c.rateN,.int .i64 0,.int .i64 1048576],[.int .i64 c.rateD,.int .i64 1,.int .i64 1048576],[.int .i64 c.burst,.int .i64 1,.int .i64 1099511627776],[.int .i64 c.blocks,.int .i64 8,.int .i64 4096],[.int .i64 c.rate,.int .i64 0,.int .i64 1048576],[.int .i64 c.w1,.int .i64 1,.int .i64 100],[.int .i64 c.w2,.int .i64 1,.int .i64 100],[.int .i64 c.w3,.int .i64 1,.int .i64 100]]))=>h55 [(c.node,1,16),(c.retry,1,1000),(c.retryMax,c.retry,100000),(c.bypass,0,100),(c.rateN,0,1048576),(c.rateD,1,1048576),(c.burst,1,1099511627776),(c.blocks,8,4096),(c.rate,0,1048576),(c.w1,1,100),(c.w2,1,100),(c.w3,1,100)] (.slice (nb h 7) 0 12 none) ⟨bxt h l,lg,d⟩ (.some (nb h 7) 0 none true _ rfl (by rw[nb_get,q]) rfl (fun _ h=>by cases h)) (by simp)
  have g2:=fun l lg d (q:bnth l 8=some (.row true 3 [[.int .u64 c.quota,.int .u64 1,.int .u64 1099511627776],[.int .u64 c.largest,.int .u64 1,.int .u64 1200],[.int .u64 c.window,.int .u64 0,.int .u64 c.quota],[.int .u64 c.low,.int .u64 0,.int .u64 c.quota]]))=>h56 [(c.quota,1,1099511627776),(c.largest,1,1200),(c.window,0,c.quota),(c.low,0,c.quota)] (.slice (nb h 8) 0 4 (some 4)) ⟨bxt h l,lg,d⟩ (.some (nb h 8) 0 (some 4) true _ rfl (by rw[nb_get,q]) rfl (fun _ h=>by cases h;simp)) (by simp)
  simp only[List.all_cons,List.all_nil,limB] at g1 g2
  simp+contextual -implicitDefEqProofs (maxSteps:=1000000) (maxDischargeDepth:=20) only[go_sem,simprocAttr,g1,g2]
  refine ⟨fun c1=> ?_,fun c1=>⟨fun c2=> ?_,fun c2=> ?_⟩⟩
  · rw[cfgE,if_neg]
    rintro ⟨a1,a2,a3,a4,a5,a6,a7,a8,a9,a10,a11,a12,a13,a14,a15,a16⟩
    exact c1 ⟨a1,a6,a7,a8,a12,a13,a14,a15,a16,a9,a10,a11⟩
  · rw[cfgE,if_neg]
    rintro ⟨a1,a2,a3,a4,a5,a6,a7,a8,a9,a10,a11,a12,a13,a14,a15,a16⟩
    exact c2 ⟨a2,a3,⟨w1,a4⟩,w2,a5⟩
  · rw[cfgE,if_pos]
    obtain ⟨b1,b2,b3,b4,b5,b6,b7,b8,b9,b10,b11,b12⟩:=c1
    obtain ⟨d1,d2,d3,d4⟩:=c2
    exact ⟨b1,d1,d2,d3.2,d4.2,b2,b3,b4,b10,b11,b12,b5,b6,b7,b8,b9⟩
def H60 (sm:Summ):Prop:= ∀ (a b c:Int) (m:Mem),sm 60 [.int .i64 a,.int .i64 b,.int .i64 c] m=some (.bool (decide (b≤a∧a≤c)),m)
theorem e60 (hF:F 60=some AF60) (hs: ∀ vs m,sm 60 vs m=none) (n:Nat) (h:Blks) (lg d:List Nat) {a b c:Int}:Ev F meth sm (n+2000) 60 [.int .i64 a,.int .i64 b,.int .i64 c] ⟨h,lg,d⟩ (.bool (decide (b≤a∧a≤c))):=by
  refine Ev.ofW ?_
  simp+contextual -implicitDefEqProofs (maxSteps:=1000000) (maxDischargeDepth:=20) only[go_sem,simprocAttr,hs,hF,AF60]
def H38 (sm:Summ):Prop:= ∀ (c:CfgD) (m:Mem),sm 38 [.agg (cfgC c)] m=some (.int .i64 (cfgE c),m)
theorem e38 (hF:F 38=some AF38) (hs: ∀ vs m,sm 38 vs m=none) (n:Nat) (h:Blks) (lg d:List Nat) (h60:H60 sm) {c:CfgD}:Ev F meth sm (n+2000) 38 [.agg (cfgC c)] ⟨h,lg,d⟩ (.int .i64 (cfgE c)):=by
  refine Ev.ofW ?_
  have g:=fun a b c=>h60 a b c
  simp+contextual -implicitDefEqProofs (maxSteps:=1000000) (maxDischargeDepth:=20) only[go_sem,simprocAttr,hs,hF,AF38,cfgC,g]
  repeat' first |apply And.intro |intro _
  all_goals
    refine Wunroll 3 (by omega) ?_
    simp+contextual -implicitDefEqProofs (maxSteps:=1000000) (maxDischargeDepth:=20) only[go_sem,simprocAttr,g]
    (repeat' first |apply And.intro |intro _) <;>first |(rw[cfgE,if_neg];rintro ⟨a1,a2,a3,a4,a5,a6,a7,a8,a9,a10,a11,a12,a13,a14,a15,a16⟩;first |contradiction |omega)|(rw[cfgE,if_pos];omega)
end
section
variable {F:FuncId→Option AFunc} {meth:Meth} {sm:Summ}
structure VX where
  v:ViewD
  b:AV
  m:AV
  p:AV
  lp:List PX
  q:AV
  lq:List PX
  deriving Inhabited
def viewC (x:VX):List AV:=[.int .i64 x.v.cfg.node,.int .u64 x.v.cfg.quota,.int .u64 x.v.cfg.largest,.int .u64 x.v.cfg.window,.int .u64 x.v.cfg.low,.int .i64 x.v.cfg.retry,.int .i64 x.v.cfg.retryMax,.int .i64 x.v.cfg.bypass,.int .i64 x.v.cfg.w1,.int .i64 x.v.cfg.w2,.int .i64 x.v.cfg.w3,.int .i64 x.v.cfg.rateN,.int .i64 x.v.cfg.rateD,.int .i64 x.v.cfg.burst,.int .i64 x.v.cfg.blocks,.int .i64 x.v.cfg.rate,.bool (decide (x.v.up=true)),
  .int .i64 x.v.st.node,.int .u64 x.v.st.boot,.int .i64 x.v.st.last.n,.int .u64 x.v.st.last.s,.int .i64 x.v.st.last.o,x.b,x.m,x.p,x.q]
structure ViewAt (h:Blks) (x:VX):Prop where
  s:StateAt h x.v.st x.b x.m x.p x.lp
  q:PeersAt h x.q x.lq
  e:x.v.peers=x.lq.map (·.p)
  w:x.lq.length≤1000
  w1:0≤x.v.cfg.window
  w2:0≤x.v.cfg.low
theorem StateAt.keep {mm m':Mem} {S:StateD} {b m v:AV} {l:List PX} (H:StateAt mm.blks S b m v l) (k:Keep mm m'):StateAt m'.blks S b m v l:=⟨H.b.keep k,H.m.keep k,H.p.keep k,H.e,H.w1,H.w2,H.w3,H.d⟩
theorem ViewAt.keep {m m':Mem} {x:VX} (H:ViewAt m.blks x) (k:Keep m m'):ViewAt m'.blks x:=⟨H.s.keep k,H.q.keep k,H.e,H.w,H.w1,H.w2⟩
theorem ViewAt.bx {h:Blks} {x:VX} (H:ViewAt h x) (l:List (Option ABlk)):ViewAt (bxt h l) x:=⟨H.s.bx l,H.q.bx l,H.e,H.w,H.w1,H.w2⟩
structure LX where
  l:LinkD
  f:AV
  deriving Inhabited
def strC (s:List UInt8):List AV:=[.str s]
def linkC (x:LX):List AV:=[.int .i64 x.l.src,.int .i64 x.l.dst,x.f]
structure SnapX where
  now:Int
  nv:AV
  vs:List VX
  lv:AV
  ls:List LX
def snapC (s:SnapX):List AV:=[.int .i64 s.now,s.nv,s.lv]
structure SnapAt (h:Blks) (s:SnapX):Prop where
  v:SlAt h 26 s.nv (s.vs.map viewC)
  l:SlAt h 3 s.lv (s.ls.map linkC)
  va: ∀ x∈s.vs,ViewAt h x
  la: ∀ x∈s.ls,SlAt h 1 x.f (x.l.frames.map strC)∧x.l.frames.length≤1000
  w1:s.vs.length≤1000
  w2:s.ls.length≤1000
theorem SnapAt.keep {m m':Mem} {s:SnapX} (H:SnapAt m.blks s) (k:Keep m m'):SnapAt m'.blks s:=⟨H.v.keep k,H.l.keep k,fun x hx=>(H.va x hx).keep k,fun x hx=>⟨(H.la x hx).1.keep k,(H.la x hx).2⟩,H.w1,H.w2⟩
theorem SnapAt.bx {h:Blks} {s:SnapX} (H:SnapAt h s) (l:List (Option ABlk)):SnapAt (bxt h l) s:=⟨H.v.bx l,H.l.bx l,fun x hx=>(H.va x hx).bx l,fun x hx=>⟨(H.la x hx).1.bx l,(H.la x hx).2⟩,H.w1,H.w2⟩
theorem Keep.sn {h h':Blks} {lg0 lg':List Nat} {l0:List (Option ABlk)} (k:Keep ⟨bxt h l0,lg0,[]⟩ ⟨h',lg',[]⟩) {s:SnapX} (H:SnapAt h s):SnapAt h' s:=SnapAt.keep (m:=⟨bxt h l0,lg0,[]⟩) (m':=⟨h',lg',[]⟩) (H.bx l0) k
theorem Keep.vw {h h':Blks} {lg0 lg':List Nat} {l0:List (Option ABlk)} (k:Keep ⟨bxt h l0,lg0,[]⟩ ⟨h',lg',[]⟩) {x:VX} (H:ViewAt h x):ViewAt h' x:=ViewAt.keep (m:=⟨bxt h l0,lg0,[]⟩) (m':=⟨h',lg',[]⟩) (H.bx l0) k
def vPeerBad (node:Int) (l:List PeerD) (i:Nat):Int:=
  if peerE (gt l i)≠0 then peerE (gt l i) else if (gt l i).node=node then 3 else if 0<i∧(gt l i).node≤(gt l (i - 1)).node then 19 else 0
theorem vPeerBad_v {node:Int} {ps:List PeerD} {i:Nat} {p q:PeerD} (x1:gt ps i=p) (x2:gt ps (i - 1)=q):vPeerBad node ps i=if peerE p≠0 then peerE p else if p.node=node then 3 else if 0<i∧p.node≤q.node then 19 else 0:=by
  rw[vPeerBad,x1,x2]
def viewE (v:ViewD):Int:=
  if stateE v.st≠0 then stateE v.st else if v.st.node≠v.cfg.node∨v.st.boot<1 then 3 else first (vPeerBad v.cfg.node v.peers) v.peers.length
def H35 (sm:Summ):Prop:= ∀ (x:VX) (m:Mem),ViewAt m.blks x→sm 35 [.agg (viewC x)] m=some (.int .i64 (viewE x.v),m)
theorem e35 (hF:F 35=some AF35) (hs: ∀ vs m,sm 35 vs m=none) (n:Nat) (h:Blks) (lg d:List Nat) (h57:H57 sm) (h58:H58 sm) {x:VX} (H:ViewAt h x):Ev F meth sm (n+2000) 35 [.agg (viewC x)] ⟨h,lg,d⟩ (.int .i64 (viewE x.v)):=by
  refine Ev.ofW ?_
  have c1:=H.s.b.sc
  have c2:=H.s.m.sc
  have c3:=H.s.p.v.sc
  have c4:=H.q.v.sc
  have lv:=H.q.v.len
  have g1:=fun l lg d=>h57 x.v.st x.b x.m x.p x.lp ⟨bxt h l,lg,d⟩ (H.s.bx l)
  unfold stateC at g1
  simp+contextual -implicitDefEqProofs (maxSteps:=1000000) (maxDischargeDepth:=20) only[go_sem,simprocAttr,hs,hF,AF35,viewC,c1,c2,c3,c4,g1,lv,List.length_map]
  refine ⟨fun q1=>by rw[viewE,if_pos q1],fun q1=>⟨fun q2=>by rw[viewE,if_neg (by omega),if_pos (.inl q2)],fun q2=>⟨fun q3=>by rw[viewE,if_neg (by omega),if_pos (.inr q3)],fun q3=> ?_⟩⟩⟩
  have e0:viewE x.v=first (vPeerBad x.v.cfg.node x.v.peers) x.v.peers.length:=by rw[viewE,if_neg (by omega),if_neg (by omega)]
  have el:x.v.peers.length=x.lq.length:=by rw[H.e];simp
  refine WloopK x.lq.length [X29] (fun i=> [.int .i64 i]) (FP (vPeerBad x.v.cfg.node x.v.peers) x.v.peers.length) (by have:=H.w;omega) (by repeat first |apply Cl_b |apply Cl_q |apply Cl_r) ⟨rfl,FP.zero _ _⟩ (fun i h' lg' g hi hP hK=> ?_) (fun h' lg' g hP hK=> ?_)
  · have a:=hK.all (lg:=lg) (d:=d) (by repeat first |exact LogOK.nil |apply LogOK.cons)
    have hp:=hK.ps H.q
    have e:=hp.v.el hi
    have p:=hp.v.pv hi (by have:=H.w;omega)
    have r:=rnd hi (by have:=H.w;omega)
    have hx:=hp.p _ (gt_mem hi)
    have g3:=fun l lg d=>h58 _ _ _ _ ⟨bxt h' l,lg,d⟩ (hx.bx l)
    have x1:gt x.v.peers i=(gt x.lq i).p:=by rw[H.e];exact gt_map hi
    have x2:gt x.v.peers (i - 1)=(gt x.lq (i - 1)).p:=by rw[H.e];exact gt_map (by omega)
    have d1:=hx.s.s.sc
    have d2:=hx.r.t.sc
    have d3:=hx.r.k.sc
    unfold pxC peerC at e p
    unfold peerC at g3
    simp+contextual -implicitDefEqProofs (maxSteps:=1000000) (maxDischargeDepth:=20) only[go_sem,simprocAttr,a,e,p,r,g3,d1,d2,d3]
    have f1: ∀ y:Int,vPeerBad x.v.cfg.node x.v.peers i=y∧y≠0→y=viewE x.v:=fun y hx=>by
      rw[e0];exact hP.s1 (by omega) hx
    have f3:=vPeerBad_v (node:=x.v.cfg.node) x1 x2
    (repeat' first |(refine f1 _ ?_)|apply And.intro |intro _) <;>(try refine hP.next (by omega) ?_) <;>first |omega |assumption |(rw[f3];(repeat' split) <;>first |omega |contradiction)
  · have a:=hK.all (lg:=lg) (d:=d) (by repeat first |exact LogOK.nil |apply LogOK.cons)
    have r:=rndl x.lq.length
    simp+contextual -implicitDefEqProofs (maxSteps:=1000000) (maxDischargeDepth:=20) only[go_sem,simprocAttr,a,r]
    rw[e0]
    rw[el] at hP ⊢
    simp[hP.last]
end
section
variable {F:FuncId→Option AFunc} {meth:Meth} {sm:Summ}
def H39 (sm:Summ):Prop:= ∀ (x:VX) (m:Mem),ViewAt m.blks x→sm 39 [.agg (viewC x)] m=some (.int .i64 (viewE x.v),m)
theorem e39 (hF:F 39=some AF39) (hs: ∀ vs m,sm 39 vs m=none) (n:Nat) (h:Blks) (lg d:List Nat) (h61:H61 sm) (h62:H62 sm) {x:VX} (H:ViewAt h x):Ev F meth sm (n+2000) 39 [.agg (viewC x)] ⟨h,lg,d⟩ (.int .i64 (viewE x.v)):=by
  refine Ev.ofW ?_
  have c1:=H.s.b.sc
  have c2:=H.s.m.sc
  have c3:=H.s.p.v.sc
  have c4:=H.q.v.sc
  have lv:=H.q.v.len
  have g1:=fun l lg d=>h61 x.v.st x.b x.m x.p x.lp ⟨bxt h l,lg,d⟩ (H.s.bx l)
  unfold stateC at g1
  simp+contextual -implicitDefEqProofs (maxSteps:=1000000) (maxDischargeDepth:=20) only[go_sem,simprocAttr,hs,hF,AF39,viewC,c1,c2,c3,c4,g1,lv,List.length_map]
  refine ⟨fun q1=>by rw[viewE,if_pos q1],fun q1=>⟨fun q2=>by rw[viewE,if_neg (by omega),if_pos (.inl q2)],fun q2=>⟨fun q3=>by rw[viewE,if_neg (by omega),if_pos (.inr q3)],fun q3=> ?_⟩⟩⟩
  have e0:viewE x.v=first (vPeerBad x.v.cfg.node x.v.peers) x.v.peers.length:=by rw[viewE,if_neg (by omega),if_neg (by omega)]
  have el:x.v.peers.length=x.lq.length:=by rw[H.e];simp
  refine WloopK x.lq.length [X4] (fun i=> [.int .i64 i]) (FP (vPeerBad x.v.cfg.node x.v.peers) x.v.peers.length) (by have:=H.w;omega) (by repeat first |apply Cl_b |apply Cl_q |apply Cl_r) ⟨rfl,FP.zero _ _⟩ (fun i h' lg' g hi hP hK=> ?_) (fun h' lg' g hP hK=> ?_)
  · have a:=hK.all (lg:=lg) (d:=d) (by repeat first |exact LogOK.nil |apply LogOK.cons)
    have hp:=hK.ps H.q
    have e:=hp.v.el hi
    have p:=hp.v.pv hi (by have:=H.w;omega)
    have r:=rnd hi (by have:=H.w;omega)
    have hx:=hp.p _ (gt_mem hi)
    have g3:=fun l lg d=>h62 _ _ _ _ ⟨bxt h' l,lg,d⟩ (hx.bx l)
    have x1:gt x.v.peers i=(gt x.lq i).p:=by rw[H.e];exact gt_map hi
    have x2:gt x.v.peers (i - 1)=(gt x.lq (i - 1)).p:=by rw[H.e];exact gt_map (by omega)
    have d1:=hx.s.s.sc
    have d2:=hx.r.t.sc
    have d3:=hx.r.k.sc
    unfold pxC peerC at e p
    unfold peerC at g3
    simp+contextual -implicitDefEqProofs (maxSteps:=1000000) (maxDischargeDepth:=20) only[go_sem,simprocAttr,a,e,p,r,g3,d1,d2,d3,lv,List.length_map]
    have f1: ∀ y:Int,vPeerBad x.v.cfg.node x.v.peers i=y∧y≠0→y=viewE x.v:=fun y hx=>by
      rw[e0];exact hP.s1 (by omega) hx
    have f3:=vPeerBad_v (node:=x.v.cfg.node) x1 x2
    (repeat' first |(refine f1 _ ?_)|apply And.intro |intro _) <;>(try refine hP.next (by omega) ?_) <;>first |omega |assumption |(rw[f3];(repeat' split) <;>first |omega |contradiction)
  · have a:=hK.all (lg:=lg) (d:=d) (by repeat first |exact LogOK.nil |apply LogOK.cons)
    have r:=rndl x.lq.length
    simp+contextual -implicitDefEqProofs (maxSteps:=1000000) (maxDischargeDepth:=20) only[go_sem,simprocAttr,a,r,lv,List.length_map]
    rw[e0]
    rw[el] at hP ⊢
    simp[hP.last]
def linkE (x:LinkD):Int:=if x.src<1∨16<x.src∨x.dst<1∨16<x.dst∨x.src=x.dst then 2 else if 64<(x.frames.length:Int) then 5 else 0
def H36 (sm:Summ):Prop:= ∀ (x:LX) (m:Mem),SlAt m.blks 1 x.f (x.l.frames.map strC)→sm 36 [.agg (linkC x)] m=some (.int .i64 (linkE x.l),m)
theorem e36 (hF:F 36=some AF36) (hs: ∀ vs m,sm 36 vs m=none) (n:Nat) (h:Blks) (lg d:List Nat) {x:LX} (H:SlAt h 1 x.f (x.l.frames.map strC)):Ev F meth sm (n+2000) 36 [.agg (linkC x)] ⟨h,lg,d⟩ (.int .i64 (linkE x.l)):=by
  refine Ev.ofW ?_
  have c1:=H.sc
  have l1:=H.len
  simp+contextual -implicitDefEqProofs (maxSteps:=1000000) (maxDischargeDepth:=20) only[go_sem,simprocAttr,hs,hF,AF36,linkC,c1,l1,List.length_map]
  (repeat' first |apply And.intro |intro _) <;>(simp only[linkE] <;>(repeat' split) <;>first |rfl |omega)
def H37 (sm:Summ):Prop:= ∀ (a b c d:Int) (v w:AV) (m:Mem),SlAt m.blks 1 v ([a,b].map i64C)→SlAt m.blks 1 w ([c,d].map i64C)→sm 37 [v,w] m=some (.int .i64 (if cmpI a c≠0 then cmpI a c else cmpI b d),m)
theorem e37 (hF:F 37=some AF37) (hs: ∀ vs m,sm 37 vs m=none) (n:Nat) (h:Blks) (lg d:List Nat) (h59:H59 sm) {a b c e:Int} {v w:AV} (hv:SlAt h 1 v ([a,b].map i64C)) (hw:SlAt h 1 w ([c,e].map i64C)):Ev F meth sm (n+2000) 37 [v,w] ⟨h,lg,d⟩ (.int .i64 (if cmpI a c≠0 then cmpI a c else cmpI b e)):=by
  refine Ev.ofW ?_
  have lv:=hv.len
  have lw:=hw.len
  have g:=fun a b=>h59 a b
  simp+contextual -implicitDefEqProofs (maxSteps:=1000000) (maxDischargeDepth:=20) only[go_sem,simprocAttr,hs,hF,AF37,lv,lw,List.map_cons,List.map_nil,g]
  refine WloopK 2 [X11] (fun i=> [.int .i64 i]) (fun i=>(0<i→cmpI a c=0)∧(1<i→cmpI b e=0)) (by omega) (by repeat first |apply Cl_b |apply Cl_q |apply Cl_r) ⟨rfl,by omega⟩ (fun i h' lg' g' hi hP hK=> ?_) (fun h' lg' g' hP hK=> ?_)
  · have aa:=hK.all (lg:=lg) (d:=d) (by repeat first |exact LogOK.nil |apply LogOK.cons)
    have e1:=(hK.sl hv).elt (i:=i) (by simpa using hi)
    have e2:=(hK.sl hw).elt (i:=i) (by simpa using hi)
    have r:=rnd hi (by omega)
    have t1:(((2:Nat):Int)≤(i:Int))=False:=by simp;omega
    rcases (by omega:i=0∨i=1) with rfl |rfl
    · simp only[i64C,List.getElem_cons_zero,Nat.add_zero,show ((0:Nat):Int)=0 from rfl] at e1 e2
      simp+contextual -implicitDefEqProofs (maxSteps:=1000000) (maxDischargeDepth:=20) only[go_sem,simprocAttr,aa,e1,e2,r,t1,lv,lw,g,List.map_cons,List.map_nil]
      exact fun _ q=>q.elim
    · simp only[i64C,List.getElem_cons_succ,List.getElem_cons_zero,show ((1:Nat):Int)=1 from rfl] at e1 e2
      simp+contextual -implicitDefEqProofs (maxSteps:=1000000) (maxDischargeDepth:=20) only[go_sem,simprocAttr,aa,e1,e2,r,t1,lv,lw,g,List.map_cons,List.map_nil]
      have q0:=hP.1 (by omega)
      exact ⟨fun c=>by rw[if_neg (by omega)],fun c=>q0⟩
  · have aa:=hK.all (lg:=lg) (d:=d) (by repeat first |exact LogOK.nil |apply LogOK.cons)
    have r:=rndl 2
    simp+contextual -implicitDefEqProofs (maxSteps:=1000000) (maxDischargeDepth:=20) only[go_sem,simprocAttr,aa,r,lv,lw,List.map_cons,List.map_nil]
    have q0:=hP.1 (by omega)
    have q1:=hP.2 (by omega)
    rw[if_neg (by omega),q1]
def linkBad (l:List LinkD) (i:Nat):Int:=
  if linkE (gt l i)≠0 then linkE (gt l i) else if 0<i∧((gt l i).src<(gt l (i - 1)).src∨((gt l i).src=(gt l (i - 1)).src∧(gt l i).dst≤(gt l (i - 1)).dst)) then 19 else 0
def nodeBad (l:List ViewD) (i:Nat):Int:=
  if cfgE (gt l i).cfg≠0 then cfgE (gt l i).cfg else if 0<i∧(gt l i).cfg.node≤(gt l (i - 1)).cfg.node then 19 else viewE (gt l i)
def SnapX.d (s:SnapX):SnapD:=⟨s.now,s.vs.map (·.v),s.ls.map (·.l)⟩
def snapE (s:SnapD):Int:=
  if s.now<0∨1099511627776<s.now then 2 else if 16<(s.nodes.length:Int) then 5
  else if first (nodeBad s.nodes) s.nodes.length≠0 then first (nodeBad s.nodes) s.nodes.length
  else if 240<(s.links.length:Int) then 5 else first (linkBad s.links) s.links.length
theorem gt_mapV {l:List VX} {i:Nat} (hi:i<l.length):gt (l.map (·.v)) i=(gt l i).v:=by
  rw[gt_eq hi,gt_eq (by simpa using hi)];simp
theorem gt_mapL {l:List LX} {i:Nat} (hi:i<l.length):gt (l.map (·.l)) i=(gt l i).l:=by
  rw[gt_eq hi,gt_eq (by simpa using hi)];simp
def H13 (sm:Summ):Prop:= ∀ (s:SnapX) (m:Mem),SnapAt m.blks s→sm 13 [.agg (snapC s)] m=some (.int .i64 (snapE s.d),m)
theorem e13 (hF:F 13=some AF13) (hs: ∀ vs m,sm 13 vs m=none) (n:Nat) (h:Blks) (lg d:List Nat) (h34:H34 sm) (h35:H35 sm) (h36:H36 sm) (h37:H37 sm) {s:SnapX} (H:SnapAt h s):Ev F meth sm (n+2000) 13 [.agg (snapC s)] ⟨h,lg,d⟩ (.int .i64 (snapE s.d)):=by
  refine Ev.ofW ?_
  have c1:=H.v.sc
  have c2:=H.l.sc
  have l1:=H.v.len
  have l2:=H.l.len
  simp+contextual -implicitDefEqProofs (maxSteps:=1000000) (maxDischargeDepth:=20) only[go_sem,simprocAttr,hs,hF,AF13,snapC,c1,c2,l1,l2,List.length_map]
  refine ⟨fun q1=>by rw[snapE,if_pos (.inl q1)],fun q1=>⟨fun q2=>by rw[snapE,if_pos (.inr q2)],fun q2=>⟨fun q3=>by rw[snapE,if_neg (by simp only[SnapX.d];omega),if_pos (by simp only[SnapX.d,List.length_map];exact q3)],fun q3=> ?_⟩⟩⟩
  have n1:s.d.nodes.length=s.vs.length:=by simp[SnapX.d]
  have n2:s.d.links.length=s.ls.length:=by simp[SnapX.d]
  have e0:snapE s.d=if first (nodeBad s.d.nodes) s.d.nodes.length≠0 then first (nodeBad s.d.nodes) s.d.nodes.length
    else if 240<(s.d.links.length:Int) then 5 else first (linkBad s.d.links) s.d.links.length:=by
    rw[snapE,if_neg (by simp only[SnapX.d];omega),if_neg (by rw[n1];exact q3)]
  refine WloopK s.vs.length [X26] (fun i=> [.int .i64 i]) (FP (nodeBad s.d.nodes) s.d.nodes.length) (by omega) (by repeat first |apply Cl_b |apply Cl_q |apply Cl_r) ⟨rfl,FP.zero _ _⟩ (fun i h' lg' g hi hP hK=> ?_) (fun h' lg' g hP hK=> ?_)
  · have a:=hK.all (lg:=lg) (d:=d) (by repeat first |exact LogOK.nil |apply LogOK.cons)
    have hv:=hK.sn H
    have e:=hv.v.el hi
    have p:=hv.v.pv hi (by omega)
    have r:=rnd hi (by omega)
    have hx:=hv.va _ (gt_mem hi)
    have g1:=fun m=>h34 (gt s.vs i).v.cfg m hx.w1 hx.w2
    have g2:=fun l lg d=>h35 (gt s.vs i) ⟨bxt h' l,lg,d⟩ (hx.bx l)
    have d1:=hx.s.b.sc
    have d2:=hx.s.m.sc
    have d3:=hx.s.p.v.sc
    have d4:=hx.q.v.sc
    unfold viewC at e p g2
    unfold cfgC at g1
    simp+contextual -implicitDefEqProofs (maxSteps:=1000000) (maxDischargeDepth:=20) only[go_sem,simprocAttr,a,e,p,r,g1,g2,d1,d2,d3,d4]
    have hx':i<s.d.nodes.length:=by omega
    have x1:gt s.d.nodes i=(gt s.vs i).v:=gt_mapV hi
    have x2:gt s.d.nodes (i - 1)=(gt s.vs (i - 1)).v:=gt_mapV (by omega)
    have f1: ∀ y:Int,nodeBad s.d.nodes i=y∧y≠0→y=snapE s.d:=fun y hy=>by
      have:=hP.s1 hx' hy
      rw[e0,if_pos (by rw[←this];exact hy.2)]
      exact this
    have f3:nodeBad s.d.nodes i=if cfgE (gt s.vs i).v.cfg≠0 then cfgE (gt s.vs i).v.cfg else if 0<i∧(gt s.vs i).v.cfg.node≤(gt s.vs (i - 1)).v.cfg.node then 19 else viewE (gt s.vs i).v:=by rw[nodeBad,x1,x2]
    (repeat' first |(refine f1 _ ?_)|apply And.intro |intro _) <;>(try refine hP.next hx' ?_) <;>first |omega |assumption |(rw[f3];(repeat' split) <;>first |omega |contradiction |rfl)
  · have a:=hK.all (lg:=lg) (d:=d) (by repeat first |exact LogOK.nil |apply LogOK.cons)
    have r:=rndl s.vs.length
    simp+contextual -implicitDefEqProofs (maxSteps:=1000000) (maxDischargeDepth:=20) only[go_sem,simprocAttr,a,r,l2,List.length_map]
    rw[n1] at hP
    have hz:=hP.last
    rw[n1] at e0
    refine ⟨fun q4=>by rw[e0,if_neg (by rw[hz.1];omega),if_pos (by rw[n2];exact q4)],fun q4=> ?_⟩
    have e1:snapE s.d=first (linkBad s.d.links) s.d.links.length:=by rw[e0,if_neg (by rw[hz.1];omega),if_neg (by rw[n2];exact q4)]
    refine WloopK s.ls.length [X69] (fun i=> [.int .i64 i]) (FP (linkBad s.d.links) s.d.links.length) (by omega) (by repeat first |apply Cl_b |apply Cl_q |apply Cl_r) ⟨rfl,FP.zero _ _⟩ (fun i h2 lg2 g2 hi hP2 hK2=> ?_) (fun h2 lg2 g2 hP2 hK2=> ?_)
    · have a2:=hK2.all (lg:=lg') (d:=d) (by repeat first |exact LogOK.nil |apply LogOK.cons)
      have a:=Keep.all (lg:=lg) (d:=d) (hK.trans hK2) (by repeat first |exact LogOK.nil |apply LogOK.cons)
      have hv:=hK2.sn (hK.sn H)
      have e:=hv.l.el hi
      have p:=hv.l.pv hi (by omega)
      have r:=rnd hi (by omega)
      have hx:=hv.la _ (gt_mem hi)
      have g1:=fun l lg d=>h36 (gt s.ls i) ⟨bxt h2 l,lg,d⟩ (hx.1.bx l)
      have d1:=hx.1.sc
      have tp:=hv.l.top
      have nq:=Keep.nbq (hK.trans hK2)
      have tq:=hv.l.sbn (i:=i) (by simpa using hi)
      have g3:=fun l lg d (q1:bnth l 1=some (.row true 1 [[.int .i64 (gt s.ls (i - 1)).l.src],[.int .i64 (gt s.ls (i - 1)).l.dst]])) (q2:bnth l 2=some (.row true 1 [[.int .i64 (gt s.ls i).l.src],[.int .i64 (gt s.ls i).l.dst]]))=>
        h37 (gt s.ls (i - 1)).l.src (gt s.ls (i - 1)).l.dst (gt s.ls i).l.src (gt s.ls i).l.dst (.slice (nb h2 1) 0 2 (some 2)) (.slice (nb h2 2) 0 2 (some 2)) ⟨bxt h2 l,lg,d⟩ (.some (nb h2 1) 0 (some 2) true _ rfl (by rw[nb_get,q1]) rfl (fun _ h=>by cases h;simp)) (.some (nb h2 2) 0 (some 2) true _ rfl (by rw[nb_get,q2]) rfl (fun _ h=>by cases h;simp))
      unfold linkC at e p g1
      simp+contextual -implicitDefEqProofs (maxSteps:=1000000) (maxDischargeDepth:=20) only[go_sem,simprocAttr,a,a2,e,p,r,g1,d1,tp,tq,nq,g3,r_vc,r_vp,mskO,Mem.more,bmore,nb_more,List.filter_nil,List.flatMap_nil,List.filter_cons,List.flatMap_cons,List.map_nil,List.map_cons,mask,unmask,AOp.reads,AOpnd.top,top_p,top_s,top_m,top_i,top_b,top_t,top_a,top_u,top_ns,top_s0,top_d,top_f,nb_beq,nb_blt,nb_add,nidOf,slotIn,Nat.beq_refl,clash,Bool.or_self,List.any_nil,List.any_cons,AOp.isMaker]
      have hx':i<s.d.links.length:=by omega
      have x1:gt s.d.links i=(gt s.ls i).l:=gt_mapL hi
      have x2:gt s.d.links (i - 1)=(gt s.ls (i - 1)).l:=gt_mapL (by omega)
      have f1: ∀ y:Int,linkBad s.d.links i=y∧y≠0→y=snapE s.d:=fun y hy=>by
        rw[e1];exact hP2.s1 hx' hy
      have f3:linkBad s.d.links i=if linkE (gt s.ls i).l≠0 then linkE (gt s.ls i).l else if 0<i∧((gt s.ls i).l.src<(gt s.ls (i - 1)).l.src∨((gt s.ls i).l.src=(gt s.ls (i - 1)).l.src∧(gt s.ls i).l.dst≤(gt s.ls (i - 1)).l.dst)) then 19 else 0:=by rw[linkBad,x1,x2]
      simp only[cmpI]
      (repeat' first |(refine f1 _ ?_)|apply And.intro |intro _) <;>(try refine hP2.next hx' ?_) <;>first |omega |assumption |(rw[f3];(repeat' split) <;>first |omega |contradiction |rfl |((repeat' split at*) <;>omega))
    · have a2:=hK2.all (lg:=lg') (d:=d) (by repeat first |exact LogOK.nil |apply LogOK.cons)
      have a:=Keep.all (lg:=lg) (d:=d) (hK.trans hK2) (by repeat first |exact LogOK.nil |apply LogOK.cons)
      have r:=rndl s.ls.length
      simp+contextual -implicitDefEqProofs (maxSteps:=1000000) (maxDischargeDepth:=20) only[go_sem,simprocAttr,a,a2,r]
      rw[e1]
      rw[n2] at hP2 ⊢
      simp[hP2.last]
end
section
variable {F:FuncId→Option AFunc} {meth:Meth} {sm:Summ}
def H14 (sm:Summ):Prop:= ∀ (s:SnapX) (m:Mem),SnapAt m.blks s→sm 14 [.agg (snapC s)] m=some (.int .i64 (snapE s.d),m)
theorem e14 (hF:F 14=some AF14) (hs: ∀ vs m,sm 14 vs m=none) (n:Nat) (h:Blks) (lg d:List Nat) (h38:H38 sm) (h39:H39 sm) {s:SnapX} (H:SnapAt h s):Ev F meth sm (n+2000) 14 [.agg (snapC s)] ⟨h,lg,d⟩ (.int .i64 (snapE s.d)):=by
  refine Ev.ofW ?_
  have c1:=H.v.sc
  have c2:=H.l.sc
  have l1:=H.v.len
  have l2:=H.l.len
  simp+contextual -implicitDefEqProofs (maxSteps:=1000000) (maxDischargeDepth:=20) only[go_sem,simprocAttr,hs,hF,AF14,snapC,c1,c2,l1,l2,List.length_map]
  refine ⟨fun q1=>by rw[snapE,if_pos (.inl q1)],fun q1=>⟨fun q2=>by rw[snapE,if_pos (.inr q2)],fun q2=>⟨fun q3=>by rw[snapE,if_neg (by simp only[SnapX.d];omega),if_pos (by simp only[SnapX.d,List.length_map];exact q3)],fun q3=> ?_⟩⟩⟩
  have n1:s.d.nodes.length=s.vs.length:=by simp[SnapX.d]
  have n2:s.d.links.length=s.ls.length:=by simp[SnapX.d]
  have e0:snapE s.d=if first (nodeBad s.d.nodes) s.d.nodes.length≠0 then first (nodeBad s.d.nodes) s.d.nodes.length
    else if 240<(s.d.links.length:Int) then 5 else first (linkBad s.d.links) s.d.links.length:=by
    rw[snapE,if_neg (by simp only[SnapX.d];omega),if_neg (by rw[n1];exact q3)]
  refine WloopK s.vs.length [X3] (fun i=> [.int .i64 i]) (FP (nodeBad s.d.nodes) s.d.nodes.length) (by omega) (by repeat first |apply Cl_b |apply Cl_q |apply Cl_r) ⟨rfl,FP.zero _ _⟩ (fun i h' lg' g hi hP hK=> ?_) (fun h' lg' g hP hK=> ?_)
  · have a:=hK.all (lg:=lg) (d:=d) (by repeat first |exact LogOK.nil |apply LogOK.cons)
    have hv:=hK.sn H
    have e:=hv.v.el hi
    have p:=hv.v.pv hi (by omega)
    have r:=rnd hi (by omega)
    have hx:=hv.va _ (gt_mem hi)
    have g1:=fun m=>h38 (gt s.vs i).v.cfg m
    have g2:=fun l lg d=>h39 (gt s.vs i) ⟨bxt h' l,lg,d⟩ (hx.bx l)
    have d1:=hx.s.b.sc
    have d2:=hx.s.m.sc
    have d3:=hx.s.p.v.sc
    have d4:=hx.q.v.sc
    unfold viewC at e p g2
    unfold cfgC at g1
    simp+contextual -implicitDefEqProofs (maxSteps:=1000000) (maxDischargeDepth:=20) only[go_sem,simprocAttr,a,e,p,r,g1,g2,d1,d2,d3,d4,l1,List.length_map]
    have hx':i<s.d.nodes.length:=by omega
    have x1:gt s.d.nodes i=(gt s.vs i).v:=gt_mapV hi
    have x2:gt s.d.nodes (i - 1)=(gt s.vs (i - 1)).v:=gt_mapV (by omega)
    have f1: ∀ y:Int,nodeBad s.d.nodes i=y∧y≠0→y=snapE s.d:=fun y hy=>by
      have:=hP.s1 hx' hy
      rw[e0,if_pos (by rw[←this];exact hy.2)]
      exact this
    have f3:nodeBad s.d.nodes i=if cfgE (gt s.vs i).v.cfg≠0 then cfgE (gt s.vs i).v.cfg else if 0<i∧(gt s.vs i).v.cfg.node≤(gt s.vs (i - 1)).v.cfg.node then 19 else viewE (gt s.vs i).v:=by rw[nodeBad,x1,x2]
    (repeat' first |(refine f1 _ ?_)|apply And.intro |intro _) <;>(try refine hP.next hx' ?_) <;>first |omega |assumption |(rw[f3];(repeat' split) <;>first |omega |contradiction |rfl)
  · have a:=hK.all (lg:=lg) (d:=d) (by repeat first |exact LogOK.nil |apply LogOK.cons)
    have r:=rndl s.vs.length
    simp+contextual -implicitDefEqProofs (maxSteps:=1000000) (maxDischargeDepth:=20) only[go_sem,simprocAttr,a,r,l1,l2,List.length_map]
    rw[n1] at hP
    have hz:=hP.last
    rw[n1] at e0
    refine ⟨fun q4=>by rw[e0,if_neg (by rw[hz.1];omega),if_pos (by rw[n2];exact q4)],fun q4=> ?_⟩
    have e1:snapE s.d=first (linkBad s.d.links) s.d.links.length:=by rw[e0,if_neg (by rw[hz.1];omega),if_neg (by rw[n2];exact q4)]
    refine WloopK s.ls.length [X5] (fun i=> [.int .i64 i]) (FP (linkBad s.d.links) s.d.links.length) (by omega) (by repeat first |apply Cl_b |apply Cl_q |apply Cl_r) ⟨rfl,FP.zero _ _⟩ (fun i h2 lg2 g2 hi hP2 hK2=> ?_) (fun h2 lg2 g2 hP2 hK2=> ?_)
    · have a2:=hK2.all (lg:=lg') (d:=d) (by repeat first |exact LogOK.nil |apply LogOK.cons)
      have a:=Keep.all (lg:=lg) (d:=d) (hK.trans hK2) (by repeat first |exact LogOK.nil |apply LogOK.cons)
      have hv:=hK2.sn (hK.sn H)
      have e:=hv.l.el hi
      have p:=hv.l.pv hi (by omega)
      have r:=rnd hi (by omega)
      have hx:=hv.la _ (gt_mem hi)
      have lf:=hx.1.len
      have d1:=hx.1.sc
      unfold linkC at e p
      simp+contextual -implicitDefEqProofs (maxSteps:=1000000) (maxDischargeDepth:=20) only[go_sem,simprocAttr,a,a2,e,p,r,lf,d1,l2,List.length_map]
      have hx':i<s.d.links.length:=by omega
      have x1:gt s.d.links i=(gt s.ls i).l:=gt_mapL hi
      have x2:gt s.d.links (i - 1)=(gt s.ls (i - 1)).l:=gt_mapL (by omega)
      have f1: ∀ y:Int,linkBad s.d.links i=y∧y≠0→y=snapE s.d:=fun y hy=>by
        rw[e1];exact hP2.s1 hx' hy
      have f3:linkBad s.d.links i=if linkE (gt s.ls i).l≠0 then linkE (gt s.ls i).l else if 0<i∧((gt s.ls i).l.src<(gt s.ls (i - 1)).l.src∨((gt s.ls i).l.src=(gt s.ls (i - 1)).l.src∧(gt s.ls i).l.dst≤(gt s.ls (i - 1)).l.dst)) then 19 else 0:=by rw[linkBad,x1,x2]
      (repeat' first |(refine f1 _ ?_)|apply And.intro |intro _) <;>(try refine hP2.next hx' ?_) <;>first |omega |assumption |(rw[f3];simp only[linkE];(repeat' split) <;>first |omega |contradiction |rfl)
    · have a2:=hK2.all (lg:=lg') (d:=d) (by repeat first |exact LogOK.nil |apply LogOK.cons)
      have a:=Keep.all (lg:=lg) (d:=d) (hK.trans hK2) (by repeat first |exact LogOK.nil |apply LogOK.cons)
      have r:=rndl s.ls.length
      simp+contextual -implicitDefEqProofs (maxSteps:=1000000) (maxDischargeDepth:=20) only[go_sem,simprocAttr,a,a2,r,l2,List.length_map]
      rw[e1]
      rw[n2] at hP2 ⊢
      simp[hP2.last]
end
section
variable {F:FuncId→Option AFunc} {meth:Meth} {sm:Summ}
def leftE (b:BunD) (now:Int):Int × Int:=if bunE b≠0 then (0,bunE b) else if now<0∨1099511627776<now then (0,2) else (b.born+b.life - now,0)
theorem bunE_ok {b:BunD} (h:bunE b=0):0≤b.born∧b.born≤1099511627776∧1≤b.life∧b.life≤1048576∧1≤b.total∧b.total≤20000∧1≤b.dest∧b.dest≤16∧0≤b.prio∧b.prio≤2∧(b.data.length:Int)≤1000∧0<(b.data.length:Int)∧b.id.o≤b.total - b.data.length∧idE b.id=0:=by
  rw[bunE] at h
  split at h
  · cases h
  · split at h
    · cases h
    · split at h
      · cases h
      · split at h
        · cases h
        · split at h
          · cases h
          · refine ⟨?_,?_,?_,?_,?_,?_,?_,?_,?_,?_,?_,?_,?_,?_⟩ <;>omega
def H108 (sm:Summ):Prop:= ∀ (b:BunD) (now:Int) (m:Mem),b.data.length≤1000000→I b.total→sm 108 [.agg (bunC b),.int .i64 now] m=some (.tuple [.int .i64 (leftE b now).1,.int .i64 (leftE b now).2],m)
theorem e108 (hF:F 108=some AF108) (hs: ∀ vs m,sm 108 vs m=none) (n:Nat) (h:Blks) (lg d:List Nat) (h63:H63 sm) {b:BunD} {now:Int} (w1:b.data.length≤1000000) (w2:I b.total):Ev F meth sm (n+2000) 108 [.agg (bunC b),.int .i64 now] ⟨h,lg,d⟩ (.tuple [.int .i64 (leftE b now).1,.int .i64 (leftE b now).2]):=by
  refine Ev.ofW ?_
  have g:=fun m=>h63 b m w1 w2
  have wa:bunE b=0→IntKind.i64.wrap (b.born+b.life)=b.born+b.life:=fun q=>by have:=bunE_ok q;exact wrapI (by omega) (by omega)
  have wb:bunE b=0→ ¬ now<0→ ¬ 1099511627776<now→IntKind.i64.wrap (b.born+b.life - now)=b.born+b.life - now:=fun q q1 q2=>by have:=bunE_ok q;exact wrapI (by omega) (by omega)
  unfold bunC at g
  simp+contextual -implicitDefEqProofs (maxSteps:=1000000) (maxDischargeDepth:=20) only[go_sem,simprocAttr,hs,hF,AF108,bunC,g,wa,wb]
  (repeat' first |apply And.intro |intro _) <;>(simp only[leftE] <;>(repeat' split) <;>first |rfl |omega)
def H64 (sm:Summ):Prop:= ∀ (b:BunD) (now:Int) (m:Mem),b.data.length≤1000000→I b.total→sm 64 [.agg (bunC b),.int .i64 now] m=some (.tuple [.bool (decide ((leftE b now).1≤0∧(leftE b now).2=0)),.int .i64 (leftE b now).2],m)
theorem e64 (hF:F 64=some AF64) (hs: ∀ vs m,sm 64 vs m=none) (n:Nat) (h:Blks) (lg d:List Nat) (h108:H108 sm) {b:BunD} {now:Int} (w1:b.data.length≤1000000) (w2:I b.total):Ev F meth sm (n+2000) 64 [.agg (bunC b),.int .i64 now] ⟨h,lg,d⟩ (.tuple [.bool (decide ((leftE b now).1≤0∧(leftE b now).2=0)),.int .i64 (leftE b now).2]):=by
  refine Ev.ofW ?_
  have g:=fun m=>h108 b now m w1 w2
  unfold bunC at g
  simp+contextual -implicitDefEqProofs (maxSteps:=1000000) (maxDischargeDepth:=20) only[go_sem,simprocAttr,hs,hF,AF64,bunC,g]
def rgBad (l:List (Int × Int)) (i:Nat):Int:=if (gt l i).2≤(gt l i).1 then 2 else if 0<i∧(gt l i).1≤(gt l (i - 1)).2 then 19 else 0
def stE (l:List (Int × Int)):Int × Int:=if 1000<(l.length:Int) then (5,0) else (first (rgBad l) l.length,firstI (rgBad l) l.length)
def H180 (sm:Summ):Prop:= ∀ (l:List (Int × Int)) (v:AV) (m:Mem),SlAt m.blks 2 v (l.map rngC)→l.length≤1000000→sm 180 [v] m=some (.tuple [.int .i64 (stE l).1,.int .i64 (stE l).2],m)
theorem e180 (hF:F 180=some AF180) (hs: ∀ vs m,sm 180 vs m=none) (n:Nat) (h:Blks) (lg d:List Nat) {l:List (Int × Int)} {v:AV} (hv:SlAt h 2 v (l.map rngC)) (hw:l.length≤1000000):Ev F meth sm (n+2000) 180 [v] ⟨h,lg,d⟩ (.tuple [.int .i64 (stE l).1,.int .i64 (stE l).2]):=by
  refine Ev.ofW ?_
  have lv:=hv.len
  simp+contextual -implicitDefEqProofs (maxSteps:=1000000) (maxDischargeDepth:=20) only[go_sem,simprocAttr,hs,hF,AF180,lv,List.length_map]
  refine ⟨fun q=>by simp[stE,q],fun q=> ?_⟩
  have e0:stE l=(first (rgBad l) l.length,firstI (rgBad l) l.length):=by rw[stE,if_neg q]
  refine WloopK l.length [X11] (fun i=> [.int .i64 i]) (FP (rgBad l) l.length) (by omega) (by repeat first |apply Cl_b |apply Cl_q |apply Cl_r) ⟨rfl,FP.zero _ _⟩ (fun i h' lg' g hi hP hK=> ?_) (fun h' lg' g hP hK=> ?_)
  · have a:=hK.all (lg:=lg) (d:=d) (by repeat first |exact LogOK.nil |apply LogOK.cons)
    have e:=(hK.sl hv).el hi
    have p:=(hK.sl hv).pv hi (by omega)
    have r:=rnd hi (by omega)
    unfold rngC at e p
    simp+contextual -implicitDefEqProofs (maxSteps:=1000000) (maxDischargeDepth:=20) only[go_sem,simprocAttr,a,e,p,r,e0]
    (repeat' first |apply And.intro |intro _) <;>(first |(refine hP.next hi ?_)|(refine hP.s1 hi ?_)|(refine hP.s2 hi ?_)) <;>(simp only[rgBad] <;>(repeat' split) <;>omega)
  · have a:=hK.all (lg:=lg) (d:=d) (by repeat first |exact LogOK.nil |apply LogOK.cons)
    have r:=rndl l.length
    simp+contextual -implicitDefEqProofs (maxSteps:=1000000) (maxDischargeDepth:=20) only[go_sem,simprocAttr,a,r,e0]
    simp[hP.last]
def sumR:List (Int × Int)→Int
  | []=>0
  |x::l=>(x.2 - x.1)+sumR l
theorem wrapu_mod (x:Int):IntKind.u64.wrap x=x % 18446744073709551616:=by
  simp only[IntKind.wrap,IntKind.bits,IntKind.signed]
  simp
theorem sumR_take {l:List (Int × Int)} {i:Nat} (hi:i<l.length):sumR (l.take (i+1))=sumR (l.take i)+((gt l i).2 - (gt l i).1):=by
  have key: ∀ (l:List (Int × Int)) (x:Int × Int),sumR (l++ [x])=sumR l+(x.2 - x.1):=fun l x=>by
    induction l with
    |nil=>simp[sumR]
    |cons y l ih=>rw[List.cons_append,sumR,ih,sumR];omega
  rw[List.take_add_one,List.getElem?_eq_getElem hi,Option.toList_some,key,gt_eq hi]
def H177 (sm:Summ):Prop:= ∀ (l:List (Int × Int)) (v:AV) (m:Mem),SlAt m.blks 2 v (l.map rngC)→l.length≤1000→sm 177 [v] m=some (.tuple [.int .u64 (if (stE l).1≠0 then 0 else IntKind.u64.wrap (sumR l)),.int .i64 (stE l).1],m)
theorem e177 (hF:F 177=some AF177) (hs: ∀ vs m,sm 177 vs m=none) (n:Nat) (h:Blks) (lg d:List Nat) (h180:H180 sm) {l:List (Int × Int)} {v:AV} (hv:SlAt h 2 v (l.map rngC)) (hw:l.length≤1000):Ev F meth sm (n+2000) 177 [v] ⟨h,lg,d⟩ (.tuple [.int .u64 (if (stE l).1≠0 then 0 else IntKind.u64.wrap (sumR l)),.int .i64 (stE l).1]):=by
  refine Ev.ofW ?_
  have lv:=hv.len
  have g:=fun q lg d=>h180 l v ⟨bxt h q,lg,d⟩ (hv.bx q) (by omega)
  simp+contextual -implicitDefEqProofs (maxSteps:=1000000) (maxDischargeDepth:=20) only[go_sem,simprocAttr,hs,hF,AF177,lv,g,List.length_map]
  intro q
  refine WloopK l.length [X19,X6] (fun i=> [.int .i64 i,.int .u64 (IntKind.u64.wrap (sumR (l.take i)))]) (fun _=>True) (by omega) (by repeat first |apply Cl_b |apply Cl_q |apply Cl_r) ⟨rfl,trivial⟩ (fun i h' lg' g hi hP hK=> ?_) (fun h' lg' g hP hK=> ?_)
  · have a:=hK.all (lg:=lg) (d:=d) (by repeat first |exact LogOK.nil |apply LogOK.cons)
    have e:=(hK.sl hv).el hi
    have r:=rnd hi (by omega)
    have w:IntKind.u64.wrap (IntKind.u64.wrap (sumR (l.take i))+IntKind.u64.wrap ((gt l i).2 - (gt l i).1))=IntKind.u64.wrap (sumR (l.take (i+1))):=by
      rw[sumR_take hi];simp only[wrapu_mod];omega
    unfold rngC at e
    simp+contextual -implicitDefEqProofs (maxSteps:=1000000) (maxDischargeDepth:=20) only[go_sem,simprocAttr,a,e,r,w]
  · have a:=hK.all (lg:=lg) (d:=d) (by repeat first |exact LogOK.nil |apply LogOK.cons)
    have r:=rndl l.length
    simp+contextual -implicitDefEqProofs (maxSteps:=1000000) (maxDischargeDepth:=20) only[go_sem,simprocAttr,a,r,List.take_length,q]
def resv (R:RecvD):Int:=IntKind.u64.wrap (R.g - R.r - R.f - sumR R.taken)
def H161 (sm:Summ):Prop:= ∀ (R:RecvD) (t k:AV) (m:Mem),RecvAt m.blks R t k→R.taken.length≤1000→sm 161 [.agg (recvC R t k)] m=some (.int .u64 (resv R),m)
theorem e161 (hF:F 161=some AF161) (hs: ∀ vs m,sm 161 vs m=none) (n:Nat) (h:Blks) (lg d:List Nat) {R:RecvD} {t k:AV} (H:RecvAt h R t k) (hw:R.taken.length≤1000):Ev F meth sm (n+2000) 161 [.agg (recvC R t k)] ⟨h,lg,d⟩ (.int .u64 (resv R)):=by
  refine Ev.ofW ?_
  have c1:=H.t.sc
  have c2:=H.k.sc
  have lt:=H.t.len
  simp+contextual -implicitDefEqProofs (maxSteps:=1000000) (maxDischargeDepth:=20) only[go_sem,simprocAttr,hs,hF,AF161,recvC,c1,c2,lt,List.length_map]
  have w0:IntKind.u64.wrap (IntKind.u64.wrap (R.g - R.r) - R.f)=IntKind.u64.wrap (R.g - R.r - R.f - sumR (R.taken.take 0)):=by
    simp only[wrapu_mod,List.take_zero,sumR];omega
  refine WloopK R.taken.length [X4,X3] (fun i=> [.int .i64 i,.int .u64 (IntKind.u64.wrap (R.g - R.r - R.f - sumR (R.taken.take i)))]) (fun _=>True) (by omega) (by repeat first |apply Cl_b |apply Cl_q |apply Cl_r) ⟨by simp only[List.map_cons,List.map_nil,tg_ze,tg_zn,tg_le,tg_ln,tg_re,tg_rn,w0];rfl,trivial⟩ (fun i h' lg' g hi hP hK=> ?_) (fun h' lg' g hP hK=> ?_)
  · have a:=hK.all (lg:=lg) (d:=d) (by repeat first |exact LogOK.nil |apply LogOK.cons)
    have e:=(hK.sl H.t).el hi
    have r:=rnd hi (by omega)
    have w:IntKind.u64.wrap (IntKind.u64.wrap (R.g - R.r - R.f - sumR (R.taken.take i)) - IntKind.u64.wrap ((gt R.taken i).2 - (gt R.taken i).1))=IntKind.u64.wrap (R.g - R.r - R.f - sumR (R.taken.take (i+1))):=by
      rw[sumR_take hi];simp only[wrapu_mod];omega
    unfold rngC at e
    simp+contextual -implicitDefEqProofs (maxSteps:=1000000) (maxDischargeDepth:=20) only[go_sem,simprocAttr,a,e,r,w,lt,List.length_map]
  · have a:=hK.all (lg:=lg) (d:=d) (by repeat first |exact LogOK.nil |apply LogOK.cons)
    have r:=rndl R.taken.length
    simp+contextual -implicitDefEqProofs (maxSteps:=1000000) (maxDischargeDepth:=20) only[go_sem,simprocAttr,a,r,lt,List.length_map,List.take_length]
    rfl
def H123 (sm:Summ):Prop:= ∀ (R:RecvD) (t k:AV) (m:Mem),RecvAt m.blks R t k→R.taken.length≤1000→sm 123 [.agg (recvC R t k)] m=some (.tuple [.int .u64 (if (recvE R).1≠0 then 0 else resv R),.int .i64 (recvE R).1],m)
theorem e123 (hF:F 123=some AF123) (hs: ∀ vs m,sm 123 vs m=none) (n:Nat) (h:Blks) (lg d:List Nat) (h105:H105 sm) (h161:H161 sm) {R:RecvD} {t k:AV} (H:RecvAt h R t k) (hw:R.taken.length≤1000):Ev F meth sm (n+2000) 123 [.agg (recvC R t k)] ⟨h,lg,d⟩ (.tuple [.int .u64 (if (recvE R).1≠0 then 0 else resv R),.int .i64 (recvE R).1]):=by
  refine Ev.ofW ?_
  have c1:=H.t.sc
  have c2:=H.k.sc
  have g1:=fun l lg d=>h105 R t k ⟨bxt h l,lg,d⟩ (H.bx l)
  have g2:=fun l lg d=>h161 R t k ⟨bxt h l,lg,d⟩ (H.bx l) hw
  unfold recvC at g1 g2
  simp+contextual -implicitDefEqProofs (maxSteps:=1000000) (maxDischargeDepth:=20) only[go_sem,simprocAttr,hs,hF,AF123,recvC,c1,c2,g1,g2]
end
section
variable {F:FuncId→Option AFunc} {meth:Meth} {sm:Summ}
theorem SlAt.forms {α:Type} {h:Blks} {e:Nat} {v:AV} {f:α→List AV} {l:List α} (H:SlAt h e v (l.map f)) (hno: ∀ n,v≠ .osl n):
    (l=[]∧v= .nilslice)∨(l=[]∧v= .slice0)∨(l=[]∧ ∃ b i c,v= .slice b i 0 c)∨(∃ y ys b i c own rows,l=y::ys∧v= .slice b i (ys.length+1) c∧(∀ q,bget (bxt h q) b=Option.some (.row own e rows))∧i+(ys.length+1)≤rows.length∧(rows.drop i).take (ys.length+1)=f y::ys.map f):=by
  rcases H with ⟨hn,hv⟩|⟨b,i,c,own,rows,rfl,hb,hw,hc⟩
  · have hl:l=[]:=by simpa using hn
    rcases hv with rfl |rfl |rfl
    · exact .inl ⟨hl,rfl⟩
    · exact .inr (.inl ⟨hl,rfl⟩)
    · exact absurd rfl (hno 0)
  · cases l with
    |nil=>exact .inr (.inr (.inl ⟨rfl,b,i,c,rfl⟩))
    | cons y ys=>
      refine .inr (.inr (.inr ⟨y,ys,b,i,c,own,rows,rfl,by simp,fun q=>(bxt_old q h b (bget_lt hb)).trans hb,?_⟩))
      have hl:(rows.drop i).take (ys.length+1)=f y::ys.map f:=by simpa using hw
      have hlen:i+(ys.length+1)≤rows.length:=by
        have:=congrArg List.length hl
        simp only[List.length_take,List.length_drop,List.length_cons,List.length_map] at this
        omega
      exact ⟨hlen,hl⟩
def NoOsl (v:AV):Prop:= ∀ n,v≠ .osl n
theorem eta_recv (R:RecvD):(⟨R.g,R.r,R.f,R.taken,R.kept⟩:RecvD)=R:=rfl
theorem st_ok {R:RecvD} (h:(recvE R).1=0):(stE R.taken).1=0∧R.r≤R.g∧R.f≤R.g - R.r∧R.g≤1125899906842624∧R.taken.length≤1000∧R.kept.length≤1000∧first (tkBad R) R.taken.length=0:=by
  rw[recvE] at h
  split at h
  · cases h
  · split at h
    · cases h
    · split at h
      · cases h
      · split at h
        · omega
        · rename_i q1 q2 q3 q4
          have q4:first (tkBad R) R.taken.length=0:=by omega
          refine ⟨?_,by omega,by omega,by omega,by omega,by omega,q4⟩
          have hz:=(ffrom_zero R.taken.length 0).1 q4
          rw[stE,if_neg (by omega)]
          refine (ffrom_zero R.taken.length 0).2 fun j h1 h2=> ?_
          have:=hz j h1 h2
          rw[tkBad] at this
          rw[rgBad]
          split at this
          · omega
          · rename_i q5
            rw[if_neg (fun q=>q5 (.inl q)),if_neg (fun q=>q5 (.inr (.inr q)))]
theorem refs_u64 (y:Int):refsL (u64C y)=[]:=rfl
theorem refs_rng (y:Int × Int):refsL (rngC y)=[]:=rfl
theorem refs_u64s (l:List Int):refsLL (l.map u64C)=[]:=by
  induction l with
  |nil=>rfl
  |cons y l ih=>rw[List.map_cons,refsLL,ih];rfl
theorem refs_rngs (l:List (Int × Int)):refsLL (l.map rngC)=[]:=by
  induction l with
  |nil=>rfl
  |cons y l ih=>rw[List.map_cons,refsLL,ih];rfl
def H128 (sm:Summ):Prop:= ∀ (R:RecvD) (t k:AV) (m:Mem),RecvAt m.blks R t k→NoOsl t→NoOsl k→R.taken.length≤1000→sm 128 [.agg (recvC R t k)] m=some (.tuple [.int .u64 (if (recvE R).1≠0 then 0 else resv R),.int .i64 (recvE R).1],m)
theorem e128 (hF:F 128=some AF128) (hs: ∀ vs m,sm 128 vs m=none) (n:Nat) (h:Blks) (lg d:List Nat) (s163: ∀ vs m,sm 163 vs m=none) (F163:F 163=some AF163) (s165: ∀ vs m,sm 165 vs m=none) (F165:F 165=some AF165) (s175: ∀ vs m,sm 175 vs m=none) (F175:F 175=some AF175) (s176: ∀ vs m,sm 176 vs m=none) (F176:F 176=some AF176) (h97:H97 sm) (h138:H138 sm) (h177:H177 sm)
    {R:RecvD} {t k:AV} (H:RecvAt h R t k) (ot:NoOsl t) (ok:NoOsl k) (hw:R.taken.length≤1000):Ev F meth sm (n+2000) 128 [.agg (recvC R t k)] ⟨h,lg,d⟩ (.tuple [.int .u64 (if (recvE R).1≠0 then 0 else resv R),.int .i64 (recvE R).1]):=by
  refine Ev.ofW ?_
  have c1:=H.t.sc
  have c2:=H.k.sc
  have g1:=fun l lg d=>h97 R t k ⟨bxt h l,lg,d⟩ (H.bx l)
  have z1:=fun (l:List (Option ABlk)) lg d=>h177 [] .nilslice ⟨bxt h l,lg,d⟩ (.none rfl (.inl rfl)) (by simp)
  have z2:=fun m=>h138 ⟨0,0,0,[],[]⟩ .nilslice .nilslice m rfl rfl (by simp) (by simp) (by simp)
  unfold recvC at g1 z2
  have z3:IntKind.u64.wrap 0=0:=by simp only[wrapu_mod];rfl
  have z4:(stE []).1=0:=rfl
  have z5:sumR []=0:=rfl
  rcases Classical.em ((recvE R).1=0) with hr |hr
  · have hq:=st_ok hr
    rcases H.t.forms ot with ⟨ht,rfl⟩|⟨ht,rfl⟩|⟨ht,b,i,c,rfl⟩|⟨y,ys,b,i,c,own,rows,ht,rfl,hb,hwa,hwn⟩ <;>rcases H.k.forms ok with ⟨hk,rfl⟩|⟨hk,rfl⟩|⟨hk,b2,i2,cc2,rfl⟩|⟨y2,ys2,b2,i2,cc2,own2,rows2,hk,rfl,hb2,hwa2,hwn2⟩
    all_goals
      have y1:=fun (l:List (Option ABlk)) lg d=>h177 [] .slice0 ⟨bxt h l,lg,d⟩ (.none rfl (.inr (.inl rfl))) (by simp)
      have y2:=fun t' k' m (q1:AV.scalar t'=true) (q2:AV.scalar k'=true)=>h138 R t' k' m q1 q2 hq.2.1 H.g0 H.g1
      have w0:R.taken=[]→IntKind.u64.wrap (IntKind.u64.wrap (R.g - R.r - R.f) - 0)=resv R:=fun q=>by rw[resv,q];simp only[wrapu_mod,sumR];omega
      have w1:IntKind.u64.wrap (IntKind.u64.wrap (R.g - R.r - R.f) - IntKind.u64.wrap (sumR R.taken))=resv R:=by rw[resv];simp only[wrapu_mod];omega
      unfold recvC at y2
    · simp+contextual -implicitDefEqProofs (maxSteps:=1000000) (maxDischargeDepth:=20) only[go_sem,simprocAttr,hs,hF,AF128,recvC,s163,F163,AF163,s165,F165,AF165,s175,F175,AF175,s176,F176,AF176,g1,hr,z1,y1,y2,z3,z4,z5,w0,w1,ht,hq.1,r_vc,r_vp,mskO,Mem.more,bmore,nb_more,List.filter_nil,List.flatMap_nil,List.filter_cons,List.flatMap_cons,List.map_nil,List.map_cons,mask,unmask,AOp.reads,AOpnd.top,top_p,top_s,top_m,top_i,top_b,top_t,top_a,top_u,top_ns,top_s0,top_d,top_f,nb_beq,nb_blt,nb_add,nidOf,slotIn,Nat.beq_refl,clash,Bool.or_self,List.any_nil,List.any_cons,AOp.isMaker]
    · simp+contextual -implicitDefEqProofs (maxSteps:=1000000) (maxDischargeDepth:=20) only[go_sem,simprocAttr,hs,hF,AF128,recvC,s163,F163,AF163,s165,F165,AF165,s175,F175,AF175,s176,F176,AF176,g1,hr,z1,y1,y2,z3,z4,z5,w0,w1,ht,hq.1,r_vc,r_vp,mskO,Mem.more,bmore,nb_more,List.filter_nil,List.flatMap_nil,List.filter_cons,List.flatMap_cons,List.map_nil,List.map_cons,mask,unmask,AOp.reads,AOpnd.top,top_p,top_s,top_m,top_i,top_b,top_t,top_a,top_u,top_ns,top_s0,top_d,top_f,nb_beq,nb_blt,nb_add,nidOf,slotIn,Nat.beq_refl,clash,Bool.or_self,List.any_nil,List.any_cons,AOp.isMaker]
    · simp+contextual -implicitDefEqProofs (maxSteps:=1000000) (maxDischargeDepth:=20) only[go_sem,simprocAttr,hs,hF,AF128,recvC,s163,F163,AF163,s165,F165,AF165,s175,F175,AF175,s176,F176,AF176,g1,hr,z1,y1,y2,z3,z4,z5,w0,w1,ht,hq.1,r_vc,r_vp,mskO,Mem.more,bmore,nb_more,List.filter_nil,List.flatMap_nil,List.filter_cons,List.flatMap_cons,List.map_nil,List.map_cons,mask,unmask,AOp.reads,AOpnd.top,top_p,top_s,top_m,top_i,top_b,top_t,top_a,top_u,top_ns,top_s0,top_d,top_f,nb_beq,nb_blt,nb_add,nidOf,slotIn,Nat.beq_refl,clash,Bool.or_self,List.any_nil,List.any_cons,AOp.isMaker]
    · have sz2:(ys2.length+1)*8≤1000000000000:=by have:=hq.2.2.2.2.2.1;rw[hk,List.length_cons] at this;omega
      simp+contextual -implicitDefEqProofs (maxSteps:=1000000) (maxDischargeDepth:=20) only[go_sem,simprocAttr,hs,hF,AF128,recvC,s163,F163,AF163,s165,F165,AF165,s175,F175,AF175,s176,F176,AF176,g1,hr,z1,y1,y2,z3,z4,z5,w0,w1,ht,hq.1,r_vc,r_vp,mskO,Mem.more,bmore,nb_more,List.filter_nil,List.flatMap_nil,List.filter_cons,List.flatMap_cons,List.map_nil,List.map_cons,mask,unmask,AOp.reads,AOpnd.top,top_p,top_s,top_m,top_i,top_b,top_t,top_a,top_u,top_ns,top_s0,top_d,top_f,nb_beq,nb_blt,nb_add,nidOf,slotIn,Nat.beq_refl,clash,Bool.or_self,List.any_nil,List.any_cons,AOp.isMaker,hb2,hwa2,hwn2,sz2,refs_u64,refs_u64s,List.length_map,List.length_cons]
    · simp+contextual -implicitDefEqProofs (maxSteps:=1000000) (maxDischargeDepth:=20) only[go_sem,simprocAttr,hs,hF,AF128,recvC,s163,F163,AF163,s165,F165,AF165,s175,F175,AF175,s176,F176,AF176,g1,hr,z1,y1,y2,z3,z4,z5,w0,w1,ht,hq.1,r_vc,r_vp,mskO,Mem.more,bmore,nb_more,List.filter_nil,List.flatMap_nil,List.filter_cons,List.flatMap_cons,List.map_nil,List.map_cons,mask,unmask,AOp.reads,AOpnd.top,top_p,top_s,top_m,top_i,top_b,top_t,top_a,top_u,top_ns,top_s0,top_d,top_f,nb_beq,nb_blt,nb_add,nidOf,slotIn,Nat.beq_refl,clash,Bool.or_self,List.any_nil,List.any_cons,AOp.isMaker]
    · simp+contextual -implicitDefEqProofs (maxSteps:=1000000) (maxDischargeDepth:=20) only[go_sem,simprocAttr,hs,hF,AF128,recvC,s163,F163,AF163,s165,F165,AF165,s175,F175,AF175,s176,F176,AF176,g1,hr,z1,y1,y2,z3,z4,z5,w0,w1,ht,hq.1,r_vc,r_vp,mskO,Mem.more,bmore,nb_more,List.filter_nil,List.flatMap_nil,List.filter_cons,List.flatMap_cons,List.map_nil,List.map_cons,mask,unmask,AOp.reads,AOpnd.top,top_p,top_s,top_m,top_i,top_b,top_t,top_a,top_u,top_ns,top_s0,top_d,top_f,nb_beq,nb_blt,nb_add,nidOf,slotIn,Nat.beq_refl,clash,Bool.or_self,List.any_nil,List.any_cons,AOp.isMaker]
    · simp+contextual -implicitDefEqProofs (maxSteps:=1000000) (maxDischargeDepth:=20) only[go_sem,simprocAttr,hs,hF,AF128,recvC,s163,F163,AF163,s165,F165,AF165,s175,F175,AF175,s176,F176,AF176,g1,hr,z1,y1,y2,z3,z4,z5,w0,w1,ht,hq.1,r_vc,r_vp,mskO,Mem.more,bmore,nb_more,List.filter_nil,List.flatMap_nil,List.filter_cons,List.flatMap_cons,List.map_nil,List.map_cons,mask,unmask,AOp.reads,AOpnd.top,top_p,top_s,top_m,top_i,top_b,top_t,top_a,top_u,top_ns,top_s0,top_d,top_f,nb_beq,nb_blt,nb_add,nidOf,slotIn,Nat.beq_refl,clash,Bool.or_self,List.any_nil,List.any_cons,AOp.isMaker]
    · have sz2:(ys2.length+1)*8≤1000000000000:=by have:=hq.2.2.2.2.2.1;rw[hk,List.length_cons] at this;omega
      simp+contextual -implicitDefEqProofs (maxSteps:=1000000) (maxDischargeDepth:=20) only[go_sem,simprocAttr,hs,hF,AF128,recvC,s163,F163,AF163,s165,F165,AF165,s175,F175,AF175,s176,F176,AF176,g1,hr,z1,y1,y2,z3,z4,z5,w0,w1,ht,hq.1,r_vc,r_vp,mskO,Mem.more,bmore,nb_more,List.filter_nil,List.flatMap_nil,List.filter_cons,List.flatMap_cons,List.map_nil,List.map_cons,mask,unmask,AOp.reads,AOpnd.top,top_p,top_s,top_m,top_i,top_b,top_t,top_a,top_u,top_ns,top_s0,top_d,top_f,nb_beq,nb_blt,nb_add,nidOf,slotIn,Nat.beq_refl,clash,Bool.or_self,List.any_nil,List.any_cons,AOp.isMaker,hb2,hwa2,hwn2,sz2,refs_u64,refs_u64s,List.length_map,List.length_cons]
    · simp+contextual -implicitDefEqProofs (maxSteps:=1000000) (maxDischargeDepth:=20) only[go_sem,simprocAttr,hs,hF,AF128,recvC,s163,F163,AF163,s165,F165,AF165,s175,F175,AF175,s176,F176,AF176,g1,hr,z1,y1,y2,z3,z4,z5,w0,w1,ht,hq.1,r_vc,r_vp,mskO,Mem.more,bmore,nb_more,List.filter_nil,List.flatMap_nil,List.filter_cons,List.flatMap_cons,List.map_nil,List.map_cons,mask,unmask,AOp.reads,AOpnd.top,top_p,top_s,top_m,top_i,top_b,top_t,top_a,top_u,top_ns,top_s0,top_d,top_f,nb_beq,nb_blt,nb_add,nidOf,slotIn,Nat.beq_refl,clash,Bool.or_self,List.any_nil,List.any_cons,AOp.isMaker]
    · simp+contextual -implicitDefEqProofs (maxSteps:=1000000) (maxDischargeDepth:=20) only[go_sem,simprocAttr,hs,hF,AF128,recvC,s163,F163,AF163,s165,F165,AF165,s175,F175,AF175,s176,F176,AF176,g1,hr,z1,y1,y2,z3,z4,z5,w0,w1,ht,hq.1,r_vc,r_vp,mskO,Mem.more,bmore,nb_more,List.filter_nil,List.flatMap_nil,List.filter_cons,List.flatMap_cons,List.map_nil,List.map_cons,mask,unmask,AOp.reads,AOpnd.top,top_p,top_s,top_m,top_i,top_b,top_t,top_a,top_u,top_ns,top_s0,top_d,top_f,nb_beq,nb_blt,nb_add,nidOf,slotIn,Nat.beq_refl,clash,Bool.or_self,List.any_nil,List.any_cons,AOp.isMaker]
    · simp+contextual -implicitDefEqProofs (maxSteps:=1000000) (maxDischargeDepth:=20) only[go_sem,simprocAttr,hs,hF,AF128,recvC,s163,F163,AF163,s165,F165,AF165,s175,F175,AF175,s176,F176,AF176,g1,hr,z1,y1,y2,z3,z4,z5,w0,w1,ht,hq.1,r_vc,r_vp,mskO,Mem.more,bmore,nb_more,List.filter_nil,List.flatMap_nil,List.filter_cons,List.flatMap_cons,List.map_nil,List.map_cons,mask,unmask,AOp.reads,AOpnd.top,top_p,top_s,top_m,top_i,top_b,top_t,top_a,top_u,top_ns,top_s0,top_d,top_f,nb_beq,nb_blt,nb_add,nidOf,slotIn,Nat.beq_refl,clash,Bool.or_self,List.any_nil,List.any_cons,AOp.isMaker]
    · have sz2:(ys2.length+1)*8≤1000000000000:=by have:=hq.2.2.2.2.2.1;rw[hk,List.length_cons] at this;omega
      simp+contextual -implicitDefEqProofs (maxSteps:=1000000) (maxDischargeDepth:=20) only[go_sem,simprocAttr,hs,hF,AF128,recvC,s163,F163,AF163,s165,F165,AF165,s175,F175,AF175,s176,F176,AF176,g1,hr,z1,y1,y2,z3,z4,z5,w0,w1,ht,hq.1,r_vc,r_vp,mskO,Mem.more,bmore,nb_more,List.filter_nil,List.flatMap_nil,List.filter_cons,List.flatMap_cons,List.map_nil,List.map_cons,mask,unmask,AOp.reads,AOpnd.top,top_p,top_s,top_m,top_i,top_b,top_t,top_a,top_u,top_ns,top_s0,top_d,top_f,nb_beq,nb_blt,nb_add,nidOf,slotIn,Nat.beq_refl,clash,Bool.or_self,List.any_nil,List.any_cons,AOp.isMaker,hb2,hwa2,hwn2,sz2,refs_u64,refs_u64s,List.length_map,List.length_cons]
    · have x1:=fun l lg d (q:bnth l 3=some (.row true 2 (rngC y::ys.map rngC)))=>h177 R.taken (.slice (nb h 3) 0 (ys.length+1) none) ⟨bxt h l,lg,d⟩ (by rw[ht];exact .some (nb h 3) 0 none true _ (by simp) (by rw[nb_get,q]) (by simp[List.take_of_length_le]) (fun _ h=>by cases h)) hw
      have q0:=hq.1
      rw[ht] at q0 w1
      have sz1:(ys.length+1)*16≤1000000000000:=by have:=hw;rw[ht,List.length_cons] at this;omega
      simp+contextual -implicitDefEqProofs (maxSteps:=1000000) (maxDischargeDepth:=20) only[go_sem,simprocAttr,hs,hF,AF128,recvC,s163,F163,AF163,s165,F165,AF165,s175,F175,AF175,s176,F176,AF176,g1,hr,z1,y1,y2,z3,z4,z5,w0,w1,ht,hq.1,r_vc,r_vp,mskO,Mem.more,bmore,nb_more,List.filter_nil,List.flatMap_nil,List.filter_cons,List.flatMap_cons,List.map_nil,List.map_cons,mask,unmask,AOp.reads,AOpnd.top,top_p,top_s,top_m,top_i,top_b,top_t,top_a,top_u,top_ns,top_s0,top_d,top_f,nb_beq,nb_blt,nb_add,nidOf,slotIn,Nat.beq_refl,clash,Bool.or_self,List.any_nil,List.any_cons,AOp.isMaker,hb,hwa,hwn,sz1,q0,refs_rng,refs_rngs,List.length_map,List.length_cons,x1]
    · have x1:=fun l lg d (q:bnth l 3=some (.row true 2 (rngC y::ys.map rngC)))=>h177 R.taken (.slice (nb h 3) 0 (ys.length+1) none) ⟨bxt h l,lg,d⟩ (by rw[ht];exact .some (nb h 3) 0 none true _ (by simp) (by rw[nb_get,q]) (by simp[List.take_of_length_le]) (fun _ h=>by cases h)) hw
      have q0:=hq.1
      rw[ht] at q0 w1
      have sz1:(ys.length+1)*16≤1000000000000:=by have:=hw;rw[ht,List.length_cons] at this;omega
      simp+contextual -implicitDefEqProofs (maxSteps:=1000000) (maxDischargeDepth:=20) only[go_sem,simprocAttr,hs,hF,AF128,recvC,s163,F163,AF163,s165,F165,AF165,s175,F175,AF175,s176,F176,AF176,g1,hr,z1,y1,y2,z3,z4,z5,w0,w1,ht,hq.1,r_vc,r_vp,mskO,Mem.more,bmore,nb_more,List.filter_nil,List.flatMap_nil,List.filter_cons,List.flatMap_cons,List.map_nil,List.map_cons,mask,unmask,AOp.reads,AOpnd.top,top_p,top_s,top_m,top_i,top_b,top_t,top_a,top_u,top_ns,top_s0,top_d,top_f,nb_beq,nb_blt,nb_add,nidOf,slotIn,Nat.beq_refl,clash,Bool.or_self,List.any_nil,List.any_cons,AOp.isMaker,hb,hwa,hwn,sz1,q0,refs_rng,refs_rngs,List.length_map,List.length_cons,x1]
    · have x1:=fun l lg d (q:bnth l 3=some (.row true 2 (rngC y::ys.map rngC)))=>h177 R.taken (.slice (nb h 3) 0 (ys.length+1) none) ⟨bxt h l,lg,d⟩ (by rw[ht];exact .some (nb h 3) 0 none true _ (by simp) (by rw[nb_get,q]) (by simp[List.take_of_length_le]) (fun _ h=>by cases h)) hw
      have q0:=hq.1
      rw[ht] at q0 w1
      have sz1:(ys.length+1)*16≤1000000000000:=by have:=hw;rw[ht,List.length_cons] at this;omega
      simp+contextual -implicitDefEqProofs (maxSteps:=1000000) (maxDischargeDepth:=20) only[go_sem,simprocAttr,hs,hF,AF128,recvC,s163,F163,AF163,s165,F165,AF165,s175,F175,AF175,s176,F176,AF176,g1,hr,z1,y1,y2,z3,z4,z5,w0,w1,ht,hq.1,r_vc,r_vp,mskO,Mem.more,bmore,nb_more,List.filter_nil,List.flatMap_nil,List.filter_cons,List.flatMap_cons,List.map_nil,List.map_cons,mask,unmask,AOp.reads,AOpnd.top,top_p,top_s,top_m,top_i,top_b,top_t,top_a,top_u,top_ns,top_s0,top_d,top_f,nb_beq,nb_blt,nb_add,nidOf,slotIn,Nat.beq_refl,clash,Bool.or_self,List.any_nil,List.any_cons,AOp.isMaker,hb,hwa,hwn,sz1,q0,refs_rng,refs_rngs,List.length_map,List.length_cons,x1]
    · have x1:=fun l lg d (q:bnth l 3=some (.row true 2 (rngC y::ys.map rngC)))=>h177 R.taken (.slice (nb h 3) 0 (ys.length+1) none) ⟨bxt h l,lg,d⟩ (by rw[ht];exact .some (nb h 3) 0 none true _ (by simp) (by rw[nb_get,q]) (by simp[List.take_of_length_le]) (fun _ h=>by cases h)) hw
      have sz2:(ys2.length+1)*8≤1000000000000:=by have:=hq.2.2.2.2.2.1;rw[hk,List.length_cons] at this;omega
      have q0:=hq.1
      rw[ht] at q0 w1
      have sz1:(ys.length+1)*16≤1000000000000:=by have:=hw;rw[ht,List.length_cons] at this;omega
      simp+contextual -implicitDefEqProofs (maxSteps:=1000000) (maxDischargeDepth:=20) only[go_sem,simprocAttr,hs,hF,AF128,recvC,s163,F163,AF163,s165,F165,AF165,s175,F175,AF175,s176,F176,AF176,g1,hr,z1,y1,y2,z3,z4,z5,w0,w1,ht,hq.1,r_vc,r_vp,mskO,Mem.more,bmore,nb_more,List.filter_nil,List.flatMap_nil,List.filter_cons,List.flatMap_cons,List.map_nil,List.map_cons,mask,unmask,AOp.reads,AOpnd.top,top_p,top_s,top_m,top_i,top_b,top_t,top_a,top_u,top_ns,top_s0,top_d,top_f,nb_beq,nb_blt,nb_add,nidOf,slotIn,Nat.beq_refl,clash,Bool.or_self,List.any_nil,List.any_cons,AOp.isMaker,hb,hwa,hwn,sz1,q0,refs_rng,refs_rngs,List.length_map,List.length_cons,x1,hb2,hwa2,hwn2,sz2,refs_u64,refs_u64s,List.length_map,List.length_cons]
  · simp+contextual -implicitDefEqProofs (maxSteps:=1000000) (maxDischargeDepth:=20) only[go_sem,simprocAttr,hs,hF,AF128,recvC,c1,c2,s163,F163,AF163,s165,F165,AF165,g1,hr,z1,z2,z3,z4,z5,r_vc,r_vp,mskO,Mem.more,bmore,nb_more,List.filter_nil,List.flatMap_nil,List.filter_cons,List.flatMap_cons,List.map_nil,List.map_cons,mask,unmask,AOp.reads,AOpnd.top,top_p,top_s,top_m,top_i,top_b,top_t,top_a,top_u,top_ns,top_s0,top_d,top_f,nb_beq,nb_blt,nb_add,nidOf,slotIn,Nat.beq_refl,clash,Bool.or_self,List.any_nil,List.any_cons,AOp.isMaker]
end
section
variable {F:FuncId→Option AFunc} {meth:Meth} {sm:Summ}
theorem sumR_room {R:RecvD} (h:first (tkBad R) R.taken.length=0) (h0:R.f≤R.g - R.r):0≤sumR R.taken∧sumR R.taken≤R.g - R.r - R.f:=by
  have hz:=(ffrom_zero R.taken.length 0).1 h
  have key: ∀ i,i≤R.taken.length→0≤sumR (R.taken.take i)∧(i=0→sumR (R.taken.take i)=0)∧(0<i→sumR (R.taken.take i)≤(gt R.taken (i - 1)).2 - R.f∧(gt R.taken (i - 1)).2≤R.g - R.r):=fun i=>by
    induction i with
    |zero=>intro _;exact ⟨by simp[sumR],fun _=>by simp[sumR],fun q=>absurd q (by omega)⟩
    | succ i ih=>
      intro hi
      have ih:=ih (by omega)
      have hb:=hz i (by omega) (by omega)
      rw[tkBad] at hb
      have ht:=sumR_take (l:=R.taken) (i:=i) (by omega)
      split at hb
      · omega
      · split at hb
        · omega
        · rename_i q1 q2
          rw[ht]
          simp only[Nat.add_sub_cancel]
          rcases Nat.eq_zero_or_pos i with h1 |h1
          · have:=ih.2.1 h1
            refine ⟨by omega,fun q=>by omega,fun _=>⟨by omega,by omega⟩⟩
          · have:=ih.2.2 h1
            refine ⟨by omega,fun q=>by omega,fun _=>⟨by omega,by omega⟩⟩
  have h1:=key R.taken.length (Nat.le_refl _)
  rw[List.take_length] at h1
  refine ⟨h1.1,?_⟩
  rcases Nat.eq_zero_or_pos R.taken.length with h2 |h2
  · have:=h1.2.1 h2;omega
  · have:=h1.2.2 h2;omega
theorem resv_ok {R:RecvD} (h:(recvE R).1=0) (h0:0≤R.r) (h1:0≤R.f):0≤resv R∧resv R≤R.g - R.r - R.f∧R.g - R.r - R.f≤1125899906842624 - R.f∧resv R=R.g - R.r - R.f - sumR R.taken:=by
  obtain ⟨q1,q2,q3,q4,q5,q6,q7⟩:=st_ok h
  have:=sumR_room q7 q3
  rw[resv,wrapu_mod]
  omega
theorem recv_f {R:RecvD} (h:(recvE R).1=0) (q:0≤R.f) (h0:0≤R.r):resv R≤1125899906842624:=by
  have:=resv_ok h h0 q;omega
def resE (R:RecvD):Int:=if (recvE R).1≠0 then 0 else resv R
theorem resE_ok {R:RecvD} (q:0≤R.f) (h0:0≤R.r):0≤resE R∧resE R≤1125899906842624:=by
  rw[resE]
  split
  · omega
  · rename_i h
    have h:(recvE R).1=0:=by omega
    exact ⟨(resv_ok h h0 q).1,recv_f h q h0⟩
def H88 (sm:Summ):Prop:= ∀ (P:PeerD) (s t k:AV) (m:Mem),PeerAt m.blks P s t k→NoOsl t→NoOsl k→P.recv.taken.length≤1000→0≤P.recv.f→0≤P.old→P.old≤1125899906842624→sm 88 [.agg (peerC P s t k)] m=some (.tuple [.int .u64 (P.old+resE P.recv),.bool true],m)
theorem e88 (hF:F 88=some AF88) (hs: ∀ vs m,sm 88 vs m=none) (n:Nat) (h:Blks) (lg d:List Nat) (h128:H128 sm) {P:PeerD} {s t k:AV} (H:PeerAt h P s t k) (ot:NoOsl t) (ok:NoOsl k) (hw:P.recv.taken.length≤1000) (w1:0≤P.recv.f) (w2:0≤P.old) (w3:P.old≤1125899906842624):Ev F meth sm (n+2000) 88 [.agg (peerC P s t k)] ⟨h,lg,d⟩ (.tuple [.int .u64 (P.old+resE P.recv),.bool true]):=by
  refine Ev.ofW ?_
  have c1:=H.s.s.sc
  have c2:=H.r.t.sc
  have c3:=H.r.k.sc
  have g1:=fun l lg d=>h128 P.recv t k ⟨bxt h l,lg,d⟩ (H.r.bx l) ot ok hw
  have e0:(if (recvE P.recv).1≠0 then 0 else resv P.recv)=resE P.recv:=rfl
  rw[e0] at g1
  have b:=resE_ok w1 H.r.g0
  have m1:(P.old+resE P.recv) % 18446744073709551616=P.old+resE P.recv:=by omega
  have m2:(P.old+resE P.recv) / 18446744073709551616=0:=by omega
  unfold recvC at g1
  simp+contextual -implicitDefEqProofs (maxSteps:=1000000) (maxDischargeDepth:=20) only[go_sem,simprocAttr,hs,hF,AF88,peerC,c1,c2,c3,g1,b,w2,m1,m2,Int.add_zero,Int.le_refl]
def heldE (P:PeerD):Int × Int:=if peerE P≠0 then (0,peerE P) else (P.old+resE P.recv,0)
theorem peer_old {P:PeerD} (h:peerE P=0):P.old≤1125899906842624∧1≤P.node∧P.node≤16∧(sendE P.send).1=0∧(recvE P.recv).1=0:=by
  rw[peerE] at h
  split at h
  · cases h
  · split at h
    · omega
    · split at h
      · omega
      · refine ⟨by omega,by omega,by omega,by omega,by omega⟩
def H80 (sm:Summ):Prop:= ∀ (P:PeerD) (s t k:AV) (m:Mem),PeerAt m.blks P s t k→NoOsl t→NoOsl k→P.recv.taken.length≤1000→0≤P.recv.f→0≤P.old→sm 80 [.agg (peerC P s t k)] m=some (.tuple [.int .u64 (heldE P).1,.int .i64 (heldE P).2],m)
theorem e80 (hF:F 80=some AF80) (hs: ∀ vs m,sm 80 vs m=none) (n:Nat) (h:Blks) (lg d:List Nat) (h58:H58 sm) (h88:H88 sm) {P:PeerD} {s t k:AV} (H:PeerAt h P s t k) (ot:NoOsl t) (ok:NoOsl k) (hw:P.recv.taken.length≤1000) (w1:0≤P.recv.f) (w2:0≤P.old):Ev F meth sm (n+2000) 80 [.agg (peerC P s t k)] ⟨h,lg,d⟩ (.tuple [.int .u64 (heldE P).1,.int .i64 (heldE P).2]):=by
  refine Ev.ofW ?_
  have c1:=H.s.s.sc
  have c2:=H.r.t.sc
  have c3:=H.r.k.sc
  have g1:=fun l lg d=>h58 P s t k ⟨bxt h l,lg,d⟩ (H.bx l)
  have g2:=fun (q:peerE P=0) l lg d=>h88 P s t k ⟨bxt h l,lg,d⟩ (H.bx l) ot ok hw w1 w2 (peer_old q).1
  unfold peerC at g1 g2
  simp+contextual -implicitDefEqProofs (maxSteps:=1000000) (maxDischargeDepth:=20) only[go_sem,simprocAttr,hs,hF,AF80,peerC,c1,c2,c3,g1,g2]
  (repeat' first |apply And.intro |intro _) <;>simp_all[heldE]
def H84 (sm:Summ):Prop:= ∀ (P:PeerD) (s t k:AV) (m:Mem),PeerAt m.blks P s t k→P.recv.taken.length≤1000→0≤P.recv.f→0≤P.old→sm 84 [.agg (peerC P s t k)] m=some (.tuple [.int .u64 (heldE P).1,.int .i64 (heldE P).2],m)
theorem e84 (hF:F 84=some AF84) (hs: ∀ vs m,sm 84 vs m=none) (n:Nat) (h:Blks) (lg d:List Nat) (h62:H62 sm) (h123:H123 sm) {P:PeerD} {s t k:AV} (H:PeerAt h P s t k) (hw:P.recv.taken.length≤1000) (w1:0≤P.recv.f) (w2:0≤P.old):Ev F meth sm (n+2000) 84 [.agg (peerC P s t k)] ⟨h,lg,d⟩ (.tuple [.int .u64 (heldE P).1,.int .i64 (heldE P).2]):=by
  refine Ev.ofW ?_
  have c1:=H.s.s.sc
  have c2:=H.r.t.sc
  have c3:=H.r.k.sc
  have g1:=fun l lg d=>h62 P s t k ⟨bxt h l,lg,d⟩ (H.bx l)
  have g2:=fun l lg d=>h123 P.recv t k ⟨bxt h l,lg,d⟩ (H.r.bx l) hw
  have e0:(if (recvE P.recv).1≠0 then 0 else resv P.recv)=resE P.recv:=rfl
  rw[e0] at g2
  have b:=resE_ok w1 H.r.g0
  have m1:peerE P=0→IntKind.u64.wrap (P.old+resE P.recv)=P.old+resE P.recv:=fun q=>by
    have:=(peer_old q).1
    rw[wrapu_mod];omega
  unfold peerC at g1
  unfold recvC at g2
  simp+contextual -implicitDefEqProofs (maxSteps:=1000000) (maxDischargeDepth:=20) only[go_sem,simprocAttr,hs,hF,AF84,peerC,c1,c2,c3,g1,g2,m1]
  (repeat' first |apply And.intro |intro _) <;>simp_all[heldE]
end
section
variable {F:FuncId→Option AFunc} {meth:Meth} {sm:Summ}
def nl:Nat→Int→Nat
  |0,_=>1
  |f+1,x=>if x<128 then 1 else nl f (x / 128)+1
def numLen (x:Int):Nat:=nl 10 x
structure Lft (x:Int) (i:Nat) (q:Int):Prop where
  a:0≤q
  b:q*128 ^ i≤18446744073709551615
  c:numLen x=i+nl (10 - i) q
  d:0<i→1≤q
theorem Lft.le {x:Int} {i:Nat} {q:Int} (H:Lft x i q):q≤18446744073709551615:=by
  have h1:(1:Int)≤128 ^ i:=Int.pow_pos (n:=128) (m:=i) (by omega)
  have h2:=Int.mul_le_mul_of_nonneg_left h1 H.a
  have h3:=H.b
  omega
theorem Lft.step {x:Int} {i:Nat} {q:Int} (H:Lft x i q) (hi:i<10) (hq:128≤q):Lft x (i+1) (q / 128):=by
  refine ⟨by omega,?_,?_,by omega⟩
  · have h1:q / 128*128≤q:=by omega
    have h2:(0:Int)≤128 ^ i:=by exact Int.pow_nonneg (by omega)
    have h3:=Int.mul_le_mul_of_nonneg_right h1 h2
    rw[Int.pow_succ,Int.mul_comm (128 ^ i) 128,←Int.mul_assoc]
    exact Int.le_trans h3 H.b
  · have h1:=H.c
    rw[show 10 - i=(10 - (i+1))+1 by omega,nl,if_neg (by omega)] at h1
    omega
theorem Lft.stop {x:Int} {i:Nat} {q:Int} (H:Lft x i q) (hi:i<10) (hq: ¬ 128≤q):numLen x=i+1:=by
  have h1:=H.c
  rw[show 10 - i=(10 - (i+1))+1 by omega,nl,if_pos (by omega)] at h1
  exact h1
theorem Lft.last {x:Int} {q:Int} (H:Lft x 10 q):False:=by
  have h1:=H.b
  have h2:=H.d (by omega)
  have:(128:Int) ^ 10=1180591620717411303424:=by decide
  rw[this] at h1
  omega
theorem Lft.zero {x:Int} (hx:U x):Lft x 0 x:=⟨hx.1,by simpa using hx.2,by rw[numLen];simp,by omega⟩
def H118 (sm:Summ):Prop:= ∀ (x:Int) (m:Mem),U x→sm 118 [.int .u64 x] m=some (.int .i64 (numLen x),m)
theorem e118 (hF:F 118=some AF118) (hs: ∀ vs m,sm 118 vs m=none) (n:Nat) (h:Blks) (lg d:List Nat) (s154: ∀ vs m,sm 154 vs m=none) (F154:F 154=some AF154) (s171: ∀ vs m,sm 171 vs m=none) (F171:F 171=some AF171) {x:Int} (hx:U x):Ev F meth sm (n+2000) 118 [.int .u64 x] ⟨h,lg,d⟩ (.int .i64 (numLen x)):=by
  refine Ev.ofW ?_
  simp+contextual -implicitDefEqProofs (maxSteps:=1000000) (maxDischargeDepth:=20) only[go_sem,simprocAttr,hs,hF,AF118,s154,F154,AF154]
  refine w_rf rfl (fun T1 hT=> ?_) (by simp only[Mem.apply,nb_len,blen];rw[nb_put (by rfl),nb_len];rfl)
  simp+contextual -implicitDefEqProofs (maxSteps:=1000000) (maxDischargeDepth:=20) only[go_sem,simprocAttr,s171,F171,AF171,kf_0,kg_r,kg_d,ky_0,kh_n,kh_e,kh_r,kz_n,ki_r,rt_n,rt_c,nb_add]
  refine WloopV 10 [X3] (fun i=> [.int .i64 i]) (fun i m'=> ∃ q lg',Lft x i q∧LogOK h lg lg'∧m'=⟨bxt h [some (.row true 1 [[.int .i64 i]]),some (.row true 1 [[.int .u64 q]]),some .dfr,some (.loop ⟨.ready,none,T1,[.l (.l (.l .z)),.r (.l (.l .z))],.region false 0 [⟨some (.r (.l .z)),.mv (.t (.l (.l (.l .z)))),none,none,[]⟩],.block 1 (.region false 0 [⟨some (.l (.r (.l .z))),.mv (.t (.r (.l .z))),none,none,[]⟩,⟨some (.r (.r (.l .z))),.bin .add (.t (.l (.r (.l .z)))) (.c (.int .i64 1)),none,none,[]⟩,⟨none,.store 1 (.t (.l (.l .z))) (.t (.r (.r (.l .z)))),none,none,[]⟩])⟩)],lg',[]⟩) (by omega) (by repeat first |apply Cl_b |apply Cl_q |apply Cl_r) ⟨rfl,x,_,Lft.zero hx,by repeat first |exact LogOK.nil |apply LogOK.cons,rfl⟩ (fun i m' g hi hP=> ?_) (fun m' g hP=> ?_)
  · obtain ⟨q,lg',hq,hl,rfl⟩:=hP
    have q0:=hq.a
    have r:=rnd (n:=10) hi (by omega)
    have w1:128≤q→IntKind.u64.wrap (q.tdiv 128)=q / 128:=fun h1=>by
      rw[Int.tdiv_eq_ediv_of_nonneg q0,wrapu_mod]
      have:=hq.le
      omega
    simp+contextual -implicitDefEqProofs (maxSteps:=1000000) (maxDischargeDepth:=20) only[go_sem,simprocAttr,q0]
    refine w_y (nb_get.trans (bn_3 _ _ _ _ _)) rfl rfl rfl (Teq.round hT _ _) ?_
    simp+contextual -implicitDefEqProofs (maxSteps:=1000000) (maxDischargeDepth:=20) only[go_sem,simprocAttr,kf_0,kg_r,kg_d,ky_0,kh_n,kh_e,kh_r,kz_n,ki_r,rt_n,rt_c,nb_add,r,w1]
    refine ⟨fun h1=>⟨q / 128,_,hq.step hi h1,by repeat first |exact hl |apply LogOK.cons,rfl⟩,fun h1=>⟨?_,keep_bx (by repeat first |exact hl |apply LogOK.cons)⟩⟩
    rw[hq.stop hi h1]
  · obtain ⟨q,lg',hq,hl,rfl⟩:=hP
    exact hq.last.elim
end
def Qp (P:AV→Prop) (m0:Mem):AV→Mem→Prop:=fun v' m'=>P v'∧Keep m0 m'
theorem q_p (P:AV→Prop) (v':AV) (m0 m':Mem):Qp P m0 v' m'=(P v'∧Keep m0 m'):=rfl
theorem Ev.ofWP {F:FuncId→Option AFunc} {meth:Meth} {sm:Summ} {n:Nat} {f:FuncId} {vs:List AV} {h:Blks} {lg d:List Nat} {P:AV→Prop}
    (e:Wa F meth sm n (.fn f) vs ⟨bxt h [],lg,d⟩ (Qp P ⟨h,lg,d⟩)): ∃ v,P v∧Ev F meth sm n f vs ⟨h,lg,d⟩ v:=by
  obtain ⟨v',m',e1,e2,e3⟩:=Wa_true n _ _ _ _ e
  exact ⟨v',e2,m',e1,e3⟩
section
variable {F:FuncId→Option AFunc} {meth:Meth} {sm:Summ}
def u8C (x:Int):List AV:=[.int .u8 x]
def bufR (i:Nat) (bs:List Int):List (List AV):=List.replicate (10 - i) [.int .u8 0]++bs.map u8C
theorem bufR_get {i:Nat} {bs:List Int} (hi:i<10) (hb:bs.length=i):(bufR i bs)[9 - i]? =some [.int .u8 0]:=by
  rw[bufR,List.getElem?_append_left (by simp;omega),List.getElem?_replicate,if_pos (by omega)]
theorem bufR_set {i:Nat} {bs:List Int} (hi:i<10) (hb:bs.length=i) (w:Int):(bufR i bs).set (9 - i) [.int .u8 w]=bufR (i+1) (w::bs):=by
  rw[bufR,bufR,show 10 - i=(9 - i)+1 by omega,List.replicate_succ',List.append_assoc,List.set_append_right _ _ (by simp),show 10 - (i+1)=9 - i by omega]
  simp[u8C]
theorem bufR_get2 {i:Nat} {bs:List Int} (hi:i<10) (w:Int):(bufR (i+1) (w::bs))[9 - i]? =some [.int .u8 w]:=by
  rw[bufR,show 10 - (i+1)=9 - i by omega,List.getElem?_append_right (by simp)]
  simp[u8C]
theorem bufR_set2 {i:Nat} {bs:List Int} (hi:i<10) (w w':Int):(bufR (i+1) (w::bs)).set (9 - i) [.int .u8 w']=bufR (i+1) (w'::bs):=by
  rw[bufR,bufR,show 10 - (i+1)=9 - i by omega,List.set_append_right _ _ (by simp)]
  simp[u8C]
theorem bufR_len {i:Nat} {bs:List Int} (hi:i≤10) (hb:bs.length=i):(bufR i bs).length=10:=by
  simp[bufR,hb];omega
theorem bufR_drop {i:Nat} {bs:List Int} (hi:i<10):(bufR (i+1) bs).drop (9 - i)=bs.map u8C:=by
  rw[bufR,show 10 - (i+1)=9 - i by omega,List.drop_append_of_le_length (by simp)]
  simp
theorem bytesOf_u8: ∀ l:List Int,bytesOf (l.map u8C)=some (l.map fun x=>UInt8.ofNat x.toNat)
  | []=>rfl
  | x::l=>by
    rw[List.map_cons]
    show (bytesOf (l.map u8C)).map _=_
    rw[bytesOf_u8 l]
    rfl
def byteOf (i:Nat) (q:Int):Int:=if 0<(i:Int) then IntKind.u8.wrap ((BitVec.ofInt IntKind.u8.bits (IntKind.u8.wrap (q.tmod 128))|||BitVec.ofInt IntKind.u8.bits 128).toNat:Int) else IntKind.u8.wrap (q.tmod 128)
def pq (x:Int):Nat→Int × List Int
  |0=>(x,[])
  |i+1=>((pq x i).1 / 128,byteOf i (pq x i).1::(pq x i).2)
theorem pq_len (x:Int): ∀ i,(pq x i).2.length=i
  |0=>rfl
  |i+1=>by rw[pq,List.length_cons,pq_len x i]
def putB (x:Int):List UInt8:=(pq x (numLen x)).2.map fun y=>UInt8.ofNat y.toNat
theorem putB_len (x:Int):(putB x).length=numLen x:=by rw[putB,List.length_map,pq_len]
def H153 (sm:Summ):Prop:= ∀ (x:Int) (m:Mem),U x→sm 153 [.int .u64 x] m=some (.str (putB x),m)
theorem e153 (hF:F 153=some AF153) (hs: ∀ vs m,sm 153 vs m=none) (n:Nat) (h:Blks) (lg d:List Nat) (s154: ∀ vs m,sm 154 vs m=none) (F154:F 154=some AF154) (s171: ∀ vs m,sm 171 vs m=none) (F171:F 171=some AF171) {x:Int} (hx:U x):Ev F meth sm (n+2000) 153 [.int .u64 x] ⟨h,lg,d⟩ (.str (putB x)):=by
  refine Ev.ofW ?_
  simp+contextual -implicitDefEqProofs (maxSteps:=1000000) (maxDischargeDepth:=20) only[go_sem,simprocAttr,hs,hF,AF153,s154,F154,AF154]
  refine w_rf rfl (fun T1 hT=> ?_) (by simp only[Mem.apply,nb_len,blen];rw[nb_put (by rfl),nb_len];rfl)
  simp+contextual -implicitDefEqProofs (maxSteps:=1000000) (maxDischargeDepth:=20) only[go_sem,simprocAttr,s171,F171,AF171,kf_0,kg_r,kg_d,ky_0,kh_n,kh_e,kh_r,kz_n,ki_r,rt_n,rt_c,nb_add]
  refine WloopV 10 [X3] (fun i=> [.int .i64 i]) (fun i m'=> ∃ lg',Lft x i (pq x i).1∧LogOK h lg lg'∧m'=⟨bxt h [some (.row true 1 (bufR i (pq x i).2)),some (.row true 1 [[.int .i64 ((10 - i:Nat):Int)]]),some (.row true 1 [[.int .u64 (pq x i).1]]),some .dfr,some (.loop ⟨.ready,none,T1,[X9,X10],(.seq (oR [oM X5 Y9]) (oR [oM X6 Y10])),(.block 1 (.seq (oR [oP X11 (.load false 1 Y4),oP X12 (.bin .sub Y11 (cI 1)),oN (.store 1 Y4 Y12)]) (.seq (oR [oP X13 (.load false 1 Y4),oM X14 Y6,oP X15 (.idxA 1 10 Y3 Y13),oN (.store 1 Y15 Y14)]) (.seq (oR [oM X16 Y5,oP X17 (.bin .gtr Y16 I0)]) (.cond Y17 (oR [oP X18 (.load false 1 Y4),oP X19 (.idxA 1 10 Y3 Y18),oP X20 (.load false 1 Y19),oP X21 (.bin .or Y20 (.c (.int .u8 128))),oP X22 (.idxA 1 10 Y3 Y18),oN (.store 1 Y22 Y21)]) .skip)))))⟩)],lg',[]⟩) (by omega) (by repeat first |apply Cl_b |apply Cl_q |apply Cl_r) ⟨rfl,_,Lft.zero hx,by repeat first |exact LogOK.nil |apply LogOK.cons,rfl⟩ (fun i m' g hi hP=> ?_) (fun m' g hP=> ?_)
  · obtain ⟨lg',hq,hl,rfl⟩:=hP
    have hbs:=pq_len x i
    have hn:pq x (i+1)=((pq x i).1 / 128,byteOf i (pq x i).1::(pq x i).2):=rfl
    generalize pq x i=pr at hq hbs hn ⊢
    obtain ⟨q,bs⟩:=pr
    simp only at hq hbs hn ⊢
    have q0:=hq.a
    have r:=rnd (n:=10) hi (by omega)
    have w1:128≤q→IntKind.u64.wrap (q.tdiv 128)=q / 128:=fun h1=>by
      rw[Int.tdiv_eq_ediv_of_nonneg q0,wrapu_mod]
      have:=hq.le
      omega
    have wr:IntKind.i64.wrap (((10 - i:Nat):Int) - 1)=((9 - i:Nat):Int):=by rw[wrapI (by omega) (by omega)];omega
    have e9:10 - (i+1)=9 - i:=by omega
    have l9:9 - i<10:=by omega
    have b1:=bufR_get hi hbs
    have b2:=bufR_set hi hbs
    have b3:=fun w=>bufR_get2 (bs:=bs) hi w
    have b4:=fun w w'=>bufR_set2 (bs:=bs) hi w w'
    have b5: ∀ w,((bufR (i+1) (w::bs)).length<10)=False:=fun w=>by rw[bufR_len (by omega) (by simp[hbs])];simp
    have e11:10 - (9 - i)=i+1:=by omega
    have b6: ∀ w,(9 - i+(i+1)≤(bufR (i+1) (w::bs)).length)=True:=fun w=>by rw[bufR_len (by omega) (by simp[hbs])];simp;omega
    have b7: ∀ w,List.take (i+1) (List.drop (9 - i) (bufR (i+1) (w::bs)))=(w::bs).map u8C:=fun w=>by rw[bufR_drop hi,List.take_of_length_le (by simp[hbs])]
    have b8: ∀ w:Int,bytesOf (u8C w::bs.map u8C)=some ((w::bs).map fun x=>UInt8.ofNat x.toNat):=fun w=>bytesOf_u8 (w::bs)
    have e10:9 - i≤10:=by omega
    simp+contextual -implicitDefEqProofs (maxSteps:=1000000) (maxDischargeDepth:=20) only[go_sem,simprocAttr,q0]
    refine w_y (nb_get.trans (bn_4 _ _ _ _ _ _)) rfl rfl rfl (Teq.round hT _ _) ?_
    simp+contextual -implicitDefEqProofs (maxSteps:=1000000) (maxDischargeDepth:=20) only[go_sem,simprocAttr,kf_0,kg_r,kg_d,ky_0,kh_n,kh_e,kh_r,kz_n,ki_r,rt_n,rt_c,nb_add,hn,r,w1,wr,e9,l9,b1,b2,b3,b4,b5,e10,e11,b6,b7,b8]
    have fin: ¬ 128≤q→putB x=(byteOf i q::bs).map fun y=>UInt8.ofNat y.toNat:=fun h1=>by rw[putB,hq.stop hi h1,hn]
    refine ⟨fun h0=>⟨fun h1=> ?_,fun h1=>⟨?_,keep_bx (by repeat first |exact hl |apply LogOK.cons)⟩⟩,fun h0=>⟨fun h1=> ?_,fun h1=>⟨?_,keep_bx (by repeat first |exact hl |apply LogOK.cons)⟩⟩⟩
    · refine ⟨_,hq.step hi h1,?_,by rw[byteOf,if_pos h0];rfl⟩
      repeat first |exact hl |apply LogOK.cons
    · rw[fin h1,byteOf,if_pos h0];rfl
    · refine ⟨_,hq.step hi h1,?_,by rw[byteOf,if_neg h0]⟩
      repeat first |exact hl |apply LogOK.cons
    · rw[fin h1,byteOf,if_neg h0];rfl
  · obtain ⟨lg',hq,hl,rfl⟩:=hP
    exact hq.last.elim
end
end Go.Abs
end
