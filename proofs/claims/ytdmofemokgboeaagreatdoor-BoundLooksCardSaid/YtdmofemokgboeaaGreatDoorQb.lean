/- Functions of the program on symbolic values: part b.
   Conditions: none. -/
import Derived.Test.YtdmofemokgboeaaGreatDoorQa
set_option linter.unusedSimpArgs false
set_option linter.unusedVariables false
set_option maxRecDepth 100000
set_option maxHeartbeats 16000000
noncomputable section
namespace Go.Abs
section
variable {F:FuncId→Option AFunc} {meth:Meth} {sm:Summ}
def nodeB (x:Int):Bool:=decide (1≤x) && decide (x≤16)
def H108 (sm:Summ):Prop:= ∀ (l:List Int) (v:AV) (m:Mem),SlAt m.blks 1 v (l.map i64C)→l.length≤1000→sm 108 [v] m=some (.bool (decide (l.all nodeB=true)),m)
theorem e108 (hF:F 108=some AF108) (hs: ∀ vs m,sm 108 vs m=none) (n:Nat) (h:Blks) (lg d:List Nat) {l:List Int} {v:AV} (hv:SlAt h 1 v (l.map i64C)) (hw:l.length≤1000):Ev F meth sm (n+2000) 108 [v] ⟨h,lg,d⟩ (.bool (decide (l.all nodeB=true))):=by
  refine Ev.ofW ?_
  have lv:=hv.len
  simp+contextual -implicitDefEqProofs (maxSteps:=1000000) (maxDischargeDepth:=20) only[go_sem,simprocAttr,hs,hF,AF108,lv]
  refine WloopK l.length [X7] (fun i=> [.int .i64 i]) (fun i=>l.all nodeB=(l.drop i).all nodeB) (by omega) (by repeat first |apply Cl_b |apply Cl_q |apply Cl_r) ⟨rfl,rfl⟩ (fun i h' lg' g hi hP hK=> ?_) (fun h' lg' g hP hK=> ?_)
  · have a:=hK.all (lg:=lg) (d:=d) (by repeat first |exact LogOK.nil |apply LogOK.cons)
    have e:=(hK.sl hv).elt hi
    have r:=rnd hi (by omega)
    unfold i64C at e
    rw[List.drop_eq_getElem_cons hi,List.all_cons] at hP
    simp+contextual -implicitDefEqProofs (maxSteps:=1000000) (maxDischargeDepth:=20) only[go_sem,simprocAttr,a,e,r]
    exact ⟨fun c=>by simp[hP,nodeB];omega,fun c=>⟨fun c'=>by simp[hP,nodeB];omega,fun c'=>by simp[hP,nodeB];omega⟩⟩
  · have a:=hK.all (lg:=lg) (d:=d) (by repeat first |exact LogOK.nil |apply LogOK.cons)
    have r:=rndl l.length
    simp+contextual -implicitDefEqProofs (maxSteps:=1000000) (maxDischargeDepth:=20) only[go_sem,simprocAttr,a,r]
    simpa using hP
def conE (c:ConD):Int:=if conOK c then 0 else 2
theorem conE_iff (c:ConD):conE c=0↔conOK c:=by unfold conE;split <;>simp_all
def H91 (sm:Summ):Prop:= ∀ (c:ConD) (m:Mem),sm 91 [.agg (conC c)] m=some (.int .i64 (conE c),m)
theorem e91 (hF:F 91=some AF91) (hs: ∀ vs m,sm 91 vs m=none) (n:Nat) (h:Blks) (lg d:List Nat) {c:ConD}:Ev F meth sm (n+2000) 91 [.agg (conC c)] ⟨h,lg,d⟩ (.int .i64 (conE c)):=by
  refine Ev.ofW ?_
  simp+contextual -implicitDefEqProofs (maxSteps:=1000000) (maxDischargeDepth:=20) only[go_sem,simprocAttr,hs,hF,AF91,conC]
  (repeat' first |apply And.intro |intro _) <;>(simp only[conE,conOK] <;>(repeat' split) <;>first |rfl |omega)
def H73 (sm:Summ):Prop:= ∀ (c:ConD) (m:Mem),sm 73 [.agg (conC c)] m=some (.int .i64 (conE c),m)
theorem e73 (hF:F 73=some AF73) (hs: ∀ vs m,sm 73 vs m=none) (n:Nat) (h:Blks) (lg d:List Nat) (h108:H108 sm) {c:ConD}:Ev F meth sm (n+2000) 73 [.agg (conC c)] ⟨h,lg,d⟩ (.int .i64 (conE c)):=by
  refine Ev.ofW ?_
  have g:=fun l lg d (q:bnth l 1=some (.row true 1 [[.int .i64 c.f],[.int .i64 c.t]]))=>h108 [c.f,c.t] (.slice (nb h 1) 0 2 (some 2)) ⟨bxt h l,lg,d⟩ (.some (nb h 1) 0 (some 2) true _ rfl (by rw[nb_get,q]) rfl (fun _ h=>by cases h;simp)) (by simp)
  simp only[List.all_cons,List.all_nil,nodeB] at g
  simp+contextual -implicitDefEqProofs (maxSteps:=1000000) (maxDischargeDepth:=20) only[go_sem,simprocAttr,hs,hF,AF73,conC,g]
  (repeat' first |apply And.intro |intro _) <;>(simp only[conE,conOK] <;>(repeat' split) <;>first |rfl |omega)
def H92 (sm:Summ):Prop:= ∀ (a b:ConD) (m:Mem),sm 92 [.agg (conC a),.agg (conC b)] m=some (.bool (decide (befC a b)),m)
theorem e92 (hF:F 92=some AF92) (hs: ∀ vs m,sm 92 vs m=none) (n:Nat) (h:Blks) (lg d:List Nat) {a b:ConD}:Ev F meth sm (n+2000) 92 [.agg (conC a),.agg (conC b)] ⟨h,lg,d⟩ (.bool (decide (befC a b))):=by
  refine Ev.ofW ?_
  simp+contextual -implicitDefEqProofs (maxSteps:=1000000) (maxDischargeDepth:=20) only[go_sem,simprocAttr,hs,hF,AF92,conC]
  refine ⟨fun q=> ?_,fun q=>⟨fun q'=> ?_,fun q'=> ?_⟩⟩ <;>(apply decide_eq_decide.2;unfold befC;omega)
def H93 (sm:Summ):Prop:= ∀ (a b:ConD) (m:Mem),sm 93 [.agg (conC a),.agg (conC b)] m=some (.bool (decide (a.f=b.f∧a.t=b.t)),m)
theorem e93 (hF:F 93=some AF93) (hs: ∀ vs m,sm 93 vs m=none) (n:Nat) (h:Blks) (lg d:List Nat) {a b:ConD}:Ev F meth sm (n+2000) 93 [.agg (conC a),.agg (conC b)] ⟨h,lg,d⟩ (.bool (decide (a.f=b.f∧a.t=b.t))):=by
  refine Ev.ofW ?_
  simp+contextual -implicitDefEqProofs (maxSteps:=1000000) (maxDischargeDepth:=20) only[go_sem,simprocAttr,hs,hF,AF93,conC]
def H75 (sm:Summ):Prop:= ∀ (c:ConD) (m:Mem),sm 75 [.agg (conC c)] m=some (.agg [.int .i64 c.f,.int .i64 c.t],m)
theorem e75 (hF:F 75=some AF75) (hs: ∀ vs m,sm 75 vs m=none) (n:Nat) (h:Blks) (lg d:List Nat) {c:ConD}:Ev F meth sm (n+2000) 75 [.agg (conC c)] ⟨h,lg,d⟩ (.agg [.int .i64 c.f,.int .i64 c.t]):=by
  refine Ev.ofW ?_
  simp+contextual -implicitDefEqProofs (maxSteps:=1000000) (maxDischargeDepth:=20) only[go_sem,simprocAttr,hs,hF,AF75,conC]
def cmpC (a b:ConD):Int:=if cmpI a.s b.s≠0 then cmpI a.s b.s else if cmpI a.f b.f≠0 then cmpI a.f b.f else cmpI a.t b.t
theorem cmpC_iff (a b:ConD):0≤cmpC a b↔ ¬ befC a b:=by
  unfold cmpC cmpI befC
  repeat' split
  all_goals omega
def H74 (sm:Summ):Prop:= ∀ (a b:ConD) (m:Mem),sm 74 [.agg (conC a),.agg (conC b)] m=some (.int .i64 (cmpC a b),m)
theorem e74 (hF:F 74=some AF74) (hs: ∀ vs m,sm 74 vs m=none) (n:Nat) (h:Blks) (lg d:List Nat) (h46:H46 sm) (h45:H45 sm) {a b:ConD}:Ev F meth sm (n+2000) 74 [.agg (conC a),.agg (conC b)] ⟨h,lg,d⟩ (.int .i64 (cmpC a b)):=by
  refine Ev.ofW ?_
  have g1:=fun x y=>h46 x y
  have g:=fun l lg d (q:bnth l 2=some (.row true 1 [[.int .i64 (cmpI a.s b.s)],[.int .i64 (cmpI a.f b.f)],[.int .i64 (cmpI a.t b.t)]]))=>h45 [cmpI a.s b.s,cmpI a.f b.f,cmpI a.t b.t] (.slice (nb h 2) 0 3 (some 3)) ⟨bxt h l,lg,d⟩ (.some (nb h 2) 0 (some 3) true _ rfl (by rw[nb_get,q]) rfl (fun _ h=>by cases h;simp)) (by simp)
  simp only[orI] at g
  simp+contextual -implicitDefEqProofs (maxSteps:=1000000) (maxDischargeDepth:=20) only[go_sem,simprocAttr,hs,hF,AF74,conC,g,g1,r_vc,r_vp,mskO,Mem.more,bmore,nb_more,List.filter_nil,List.flatMap_nil,List.filter_cons,List.flatMap_cons,List.map_nil,List.map_cons,mask,unmask,AOp.reads,AOpnd.top,top_p,top_s,top_m,top_i,top_b,top_t,top_a,top_u,top_ns,top_s0,top_d,top_f,nb_beq,nb_blt,nb_add,nidOf,slotIn,Nat.beq_refl,clash,Bool.or_self,List.any_nil,List.any_cons,AOp.isMaker]
  (repeat' first |apply And.intro |intro _) <;>(simp only[cmpC] <;>(repeat' split) <;>first |rfl |omega)
end
section
variable {F:FuncId→Option AFunc} {meth:Meth} {sm:Summ}
def termC (n c r d:Int):List AV:=[.int .i64 n,.int .i64 c,.int .i64 r,.int .i64 d]
theorem tdiv1199 {r:Int} (h:1≤r):IntKind.i64.wrap (Int.tdiv 1199 r)=1199 / r:=by
  rw[Int.tdiv_eq_ediv_of_nonneg (by omega)]
  have:=waitP_ok h
  unfold waitP at this
  exact wrapI (by omega) (by omega)
def H55 (sm:Summ):Prop:= ∀ (n c r d:Int) (m:Mem),1≤r→sm 55 [.agg (termC n c r d)] m=some (.int .i64 (waitP r),m)
theorem e55 (hF:F 55=some AF55) (hs: ∀ vs m,sm 55 vs m=none) (n:Nat) (h:Blks) (lg d:List Nat) {a c r e:Int} (hr:1≤r):Ev F meth sm (n+2000) 55 [.agg (termC a c r e)] ⟨h,lg,d⟩ (.int .i64 (waitP r)):=by
  refine Ev.ofW ?_
  have w:=tdiv1199 hr
  have o:=waitP_ok hr
  have w2:IntKind.i64.wrap (1199 / r+2)=waitP r:=wrapI (by unfold waitP at o;omega) (by unfold waitP at o;omega)
  have z:(r=0)=False:=by simp;omega
  simp+contextual -implicitDefEqProofs (maxSteps:=1000000) (maxDischargeDepth:=20) only[go_sem,simprocAttr,hs,hF,AF55,termC,w,w2,z]
theorem mul_b {a b A B:Int} (h1:0≤a) (h2:a≤A) (h3:0≤b) (h4:b≤B):0≤a*b∧a*b≤A*B:=
  ⟨Int.mul_nonneg h1 h3,Int.le_trans (Int.mul_le_mul_of_nonneg_left h4 h1) (Int.mul_le_mul_of_nonneg_right h2 (by omega))⟩
def boundT (n c r:Int):Int:=10+c*n*(waitP r+2)
theorem boundT_ok {n c r:Int} (h1:0≤n∧n≤1000) (h2:0≤c∧c≤1000) (h3:1≤r):(0≤c*n∧c*n≤1000000)∧(0≤c*n*(waitP r+2)∧c*n*(waitP r+2)≤1203000000):=by
  have a:=mul_b h2.1 h2.2 h1.1 h1.2
  have o:=waitP_ok h3
  have b:=mul_b a.1 a.2 (by omega:0≤waitP r+2) (by omega:waitP r+2≤1203)
  omega
def H40 (sm:Summ):Prop:= ∀ (n c r d:Int) (m:Mem),(0≤n∧n≤1000)→(0≤c∧c≤1000)→1≤r→sm 40 [.agg (termC n c r d)] m=some (.int .i64 (boundT n c r),m)
theorem e40 (hF:F 40=some AF40) (hs: ∀ vs m,sm 40 vs m=none) (n:Nat) (h:Blks) (lg d:List Nat) (h55:H55 sm) {a c r e:Int} (h1:0≤a∧a≤1000) (h2:0≤c∧c≤1000) (hr:1≤r):Ev F meth sm (n+2000) 40 [.agg (termC a c r e)] ⟨h,lg,d⟩ (.int .i64 (boundT a c r)):=by
  refine Ev.ofW ?_
  have g:=fun m=>h55 a c r e m hr
  unfold termC at g
  have o:=waitP_ok hr
  have b:=boundT_ok h1 h2 hr
  have w1:IntKind.i64.wrap (c*a)=c*a:=wrapI (by omega) (by omega)
  have w2:IntKind.i64.wrap (waitP r+2)=waitP r+2:=wrapI (by omega) (by omega)
  have w3:IntKind.i64.wrap (c*a*(waitP r+2))=c*a*(waitP r+2):=wrapI (by omega) (by omega)
  have w4:IntKind.i64.wrap (10+c*a*(waitP r+2))=boundT a c r:=wrapI (by omega) (by omega)
  simp+contextual -implicitDefEqProofs (maxSteps:=1000000) (maxDischargeDepth:=20) only[go_sem,simprocAttr,hs,hF,AF40,termC,g,w1,w2,w3,w4,r_vc,r_vp,mskO,Mem.more,bmore,nb_more,List.filter_nil,List.flatMap_nil,List.filter_cons,List.flatMap_cons,List.map_nil,List.map_cons,mask,unmask,AOp.reads,AOpnd.top,top_p,top_s,top_m,top_i,top_b,top_t,top_a,top_u,top_ns,top_s0,top_d,top_f,nb_beq,nb_blt,nb_add,nidOf,slotIn,Nat.beq_refl,clash,Bool.or_self,List.any_nil,List.any_cons,AOp.isMaker]
def reachT (n c r d:Int):Int:=boundT n c r+n*(waitP r+d+2)
theorem reachT_ok {n c r d:Int} (h1:0≤n∧n≤1000) (h2:0≤c∧c≤1000) (h3:1≤r) (h4:0≤d∧d≤1048576):(10≤boundT n c r∧boundT n c r≤1203000010)∧(0≤n*(waitP r+d+2)∧n*(waitP r+d+2)≤1050000000):=by
  have o:=waitP_ok h3
  have a:=boundT_ok h1 h2 h3
  have b:=mul_b h1.1 h1.2 (by omega:0≤waitP r+d+2) (by omega:waitP r+d+2≤1050000)
  unfold boundT
  omega
def H20 (sm:Summ):Prop:= ∀ (n c r d:Int) (m:Mem),(0≤n∧n≤1000)→(0≤c∧c≤1000)→1≤r→(0≤d∧d≤1048576)→sm 20 [.agg (termC n c r d)] m=some (.int .i64 (reachT n c r d),m)
theorem e20 (hF:F 20=some AF20) (hs: ∀ vs m,sm 20 vs m=none) (n:Nat) (h:Blks) (lg d:List Nat) (h40:H40 sm) (h55:H55 sm) {a c r e:Int} (h1:0≤a∧a≤1000) (h2:0≤c∧c≤1000) (hr:1≤r) (he:0≤e∧e≤1048576):Ev F meth sm (n+2000) 20 [.agg (termC a c r e)] ⟨h,lg,d⟩ (.int .i64 (reachT a c r e)):=by
  refine Ev.ofW ?_
  have g:=fun m=>h55 a c r e m hr
  have g2:=fun m=>h40 a c r e m h1 h2 hr
  unfold termC at g g2
  have o:=waitP_ok hr
  have b:=reachT_ok h1 h2 hr he
  have w1:IntKind.i64.wrap (waitP r+e)=waitP r+e:=wrapI (by omega) (by omega)
  have w2:IntKind.i64.wrap (waitP r+e+2)=waitP r+e+2:=wrapI (by omega) (by omega)
  have w3:IntKind.i64.wrap (a*(waitP r+e+2))=a*(waitP r+e+2):=wrapI (by omega) (by omega)
  have w4:IntKind.i64.wrap (boundT a c r+a*(waitP r+e+2))=reachT a c r e:=wrapI (by omega) (by omega)
  simp+contextual -implicitDefEqProofs (maxSteps:=1000000) (maxDischargeDepth:=20) only[go_sem,simprocAttr,hs,hF,AF20,termC,g,g2,w1,w2,w3,w4,r_vc,r_vp,mskO,Mem.more,bmore,nb_more,List.filter_nil,List.flatMap_nil,List.filter_cons,List.flatMap_cons,List.map_nil,List.map_cons,mask,unmask,AOp.reads,AOpnd.top,top_p,top_s,top_m,top_i,top_b,top_t,top_a,top_u,top_ns,top_s0,top_d,top_f,nb_beq,nb_blt,nb_add,nidOf,slotIn,Nat.beq_refl,clash,Bool.or_self,List.any_nil,List.any_cons,AOp.isMaker]
def pR (s:ScX):Int:=rateP s.pl s.pl.length
def pD (s:ScX):Int:=delayP s.pl s.pl.length
def ConsOK (l:List ConD):Prop:= ∀ i,i<l.length→conOK (gt l i)
def H67 (sm:Summ):Prop:= ∀ (s:ScX) (m:Mem),ScAt m.blks s→ConsOK s.pl→s.pl.length≤1000→sm 67 [.agg (scC s)] m=some (.int .i64 (waitP (pR s)),m)
theorem e67 (hF:F 67=some AF67) (hs: ∀ vs m,sm 67 vs m=none) (n:Nat) (h:Blks) (lg d:List Nat) {s:ScX} (H:ScAt h s) (hv:ConsOK s.pl) (hw:s.pl.length≤1000):Ev F meth sm (n+2000) 67 [.agg (scC s)] ⟨h,lg,d⟩ (.int .i64 (waitP (pR s))):=by
  refine Ev.ofW ?_
  have c1:=H.c.sc
  have c2:=H.p.sc
  have c3:=H.m.sc
  have lp:=H.p.len
  simp+contextual -implicitDefEqProofs (maxSteps:=1000000) (maxDischargeDepth:=20) only[go_sem,simprocAttr,hs,hF,AF67,scC,c1,c2,c3]
  refine WloopK s.pl.length [X4,X3] (fun i=> [.int .i64 i,.int .i64 (rateP s.pl i)]) (fun _=>True) (by omega) (by repeat first |apply Cl_b |apply Cl_q |apply Cl_r) ⟨rfl,trivial⟩ (fun i h' lg' g hi hP hK=> ?_) (fun h' lg' g hP hK=> ?_)
  · have a:=hK.all (lg:=lg) (d:=d) (by repeat first |exact LogOK.nil |apply LogOK.cons)
    have e:=(hK.sl H.p).el hi
    have r:=rnd hi (by omega)
    unfold conC at e
    rcases Nat.eq_zero_or_pos i with rfl |hp
    · simp only[show ((0:Nat):Int)=0 from rfl,Nat.add_zero] at e r
      have hl:0<s.pl.length:=hi
      simp+contextual -implicitDefEqProofs (maxSteps:=1000000) (maxDischargeDepth:=20) only[go_sem,simprocAttr,a,e,r,lp,List.length_map,hl]
      try rfl
    · have z:((i:Int)=0)=False:=by simp;omega
      have z2:(i=0)=False:=by simp;omega
      simp+contextual -implicitDefEqProofs (maxSteps:=1000000) (maxDischargeDepth:=20) only[go_sem,simprocAttr,a,e,r,lp,List.length_map,z]
      (repeat' first |apply And.intro |intro _) <;>(simp only[rateP,z2,if_false];omega)
  · have a:=hK.all (lg:=lg) (d:=d) (by repeat first |exact LogOK.nil |apply LogOK.cons)
    have r:=rndl s.pl.length
    have o:=rateP_ok hv s.pl.length (Nat.le_refl _)
    have z:(rateP s.pl s.pl.length=0)=False:=by simp;omega
    have w1:IntKind.i64.wrap (1200+rateP s.pl s.pl.length)=1200+rateP s.pl s.pl.length:=wrapI (by omega) (by omega)
    have w2:IntKind.i64.wrap (1200+rateP s.pl s.pl.length - 1)=1200+rateP s.pl s.pl.length - 1:=wrapI (by omega) (by omega)
    have q:=wait_eq o.1
    have q2:=waitP_ok o.1
    have w3:IntKind.i64.wrap ((1200+rateP s.pl s.pl.length - 1).tdiv (rateP s.pl s.pl.length))=(1200+rateP s.pl s.pl.length - 1) / rateP s.pl s.pl.length:=by
      rw[Int.tdiv_eq_ediv_of_nonneg (by omega)]
      exact wrapI (by omega) (by omega)
    have w4:IntKind.i64.wrap ((1200+rateP s.pl s.pl.length - 1) / rateP s.pl s.pl.length+1)=waitP (pR s):=by
      rw[q];exact wrapI (by omega) (by omega)
    simp+contextual -implicitDefEqProofs (maxSteps:=1000000) (maxDischargeDepth:=20) only[go_sem,simprocAttr,a,r,lp,List.length_map,z,w1,w2,w3,w4]
end
section
variable {F:FuncId→Option AFunc} {meth:Meth} {sm:Summ}
theorem ScAt.bx {h:Blks} {s:ScX} (H:ScAt h s) (l:List (Option ABlk)):ScAt (bxt h l) s:=⟨H.c.bx l,H.p.bx l,H.m.bx l⟩
structure ScL (s:ScX):Prop where
  c:s.cf.length≤1000
  p:s.pl.length≤1000
  m:s.cm.length≤1000
def boundS (s:ScX):Int:=boundT s.cf.length s.cm.length (pR s)
def reachS (s:ScX):Int:=reachT s.cf.length s.cm.length (pR s) (pD s)
def H41 (sm:Summ):Prop:= ∀ (s:ScX) (m:Mem),ScAt m.blks s→ConsOK s.pl→ScL s→sm 41 [.agg (scC s)] m=some (.int .i64 (boundS s),m)
theorem e41 (hF:F 41=some AF41) (hs: ∀ vs m,sm 41 vs m=none) (n:Nat) (h:Blks) (lg d:List Nat) (h67:H67 sm) {s:ScX} (H:ScAt h s) (hv:ConsOK s.pl) (hl:ScL s):Ev F meth sm (n+2000) 41 [.agg (scC s)] ⟨h,lg,d⟩ (.int .i64 (boundS s)):=by
  refine Ev.ofW ?_
  have c1:=H.c.sc
  have c2:=H.p.sc
  have c3:=H.m.sc
  have lc:=H.c.len
  have lm:=H.m.len
  have g:=fun l lg d=>h67 s ⟨bxt h l,lg,d⟩ (H.bx l) hv hl.p
  unfold scC at g
  have ro:=(rateP_ok hv s.pl.length (Nat.le_refl _)).1
  have o:=waitP_ok ro
  have l1:=hl.c
  have l2:=hl.m
  have b:=boundT_ok (n:=s.cf.length) (c:=s.cm.length) (r:=pR s) (by omega) (by omega) ro
  have o':2≤waitP (pR s)∧waitP (pR s)≤1201:=o
  have w1:IntKind.i64.wrap ((s.cm.length:Int)*s.cf.length)=(s.cm.length:Int)*s.cf.length:=wrapI (by omega) (by omega)
  have w2:IntKind.i64.wrap (waitP (pR s)+2)=waitP (pR s)+2:=wrapI (by omega) (by omega)
  have w3:IntKind.i64.wrap ((s.cm.length:Int)*s.cf.length*(waitP (pR s)+2))=(s.cm.length:Int)*s.cf.length*(waitP (pR s)+2):=wrapI (by omega) (by omega)
  have w4:IntKind.i64.wrap (10+(s.cm.length:Int)*s.cf.length*(waitP (pR s)+2))=boundS s:=wrapI (by omega) (by omega)
  simp+contextual -implicitDefEqProofs (maxSteps:=1000000) (maxDischargeDepth:=20) only[go_sem,simprocAttr,hs,hF,AF41,scC,c1,c2,c3,lc,lm,List.length_map,g,w1,w2,w3,w4,r_vc,r_vp,mskO,Mem.more,bmore,nb_more,List.filter_nil,List.flatMap_nil,List.filter_cons,List.flatMap_cons,List.map_nil,List.map_cons,mask,unmask,AOp.reads,AOpnd.top,top_p,top_s,top_m,top_i,top_b,top_t,top_a,top_u,top_ns,top_s0,top_d,top_f,nb_beq,nb_blt,nb_add,nidOf,slotIn,Nat.beq_refl,clash,Bool.or_self,List.any_nil,List.any_cons,AOp.isMaker]
def H42 (sm:Summ):Prop:= ∀ (s:ScX) (m:Mem),ScAt m.blks s→ConsOK s.pl→ScL s→sm 42 [.agg (scC s)] m=some (.int .i64 (reachS s),m)
theorem e42 (hF:F 42=some AF42) (hs: ∀ vs m,sm 42 vs m=none) (n:Nat) (h:Blks) (lg d:List Nat) (h67:H67 sm) (h41:H41 sm) {s:ScX} (H:ScAt h s) (hv:ConsOK s.pl) (hl:ScL s):Ev F meth sm (n+2000) 42 [.agg (scC s)] ⟨h,lg,d⟩ (.int .i64 (reachS s)):=by
  refine Ev.ofW ?_
  have c1:=H.c.sc
  have c2:=H.p.sc
  have c3:=H.m.sc
  have lp:=H.p.len
  have l0:=hl.p
  simp+contextual -implicitDefEqProofs (maxSteps:=1000000) (maxDischargeDepth:=20) only[go_sem,simprocAttr,hs,hF,AF42,scC,c1,c2,c3]
  refine WloopK s.pl.length [X4,X3] (fun i=> [.int .i64 i,.int .i64 (delayP s.pl i)]) (fun _=>True) (by omega) (by repeat first |apply Cl_b |apply Cl_q |apply Cl_r) ⟨rfl,trivial⟩ (fun i h' lg' g hi hP hK=> ?_) (fun h' lg' g hP hK=> ?_)
  · have a:=hK.all (lg:=lg) (d:=d) (by repeat first |exact LogOK.nil |apply LogOK.cons)
    have e:=(hK.sl H.p).el hi
    have r:=rnd hi (by omega)
    unfold conC at e
    simp+contextual -implicitDefEqProofs (maxSteps:=1000000) (maxDischargeDepth:=20) only[go_sem,simprocAttr,a,e,r,lp,List.length_map,delayP]
    try omega
  · have a:=hK.all (lg:=lg) (d:=d) (by repeat first |exact LogOK.nil |apply LogOK.cons)
    have r:=rndl s.pl.length
    have H':ScAt h' s:=⟨hK.sl H.c,hK.sl H.p,hK.sl H.m⟩
    have lc:=H'.c.len
    have lm:=H'.m.len
    have g1:=fun l lg d=>h67 s ⟨bxt h' l,lg,d⟩ (H'.bx l) hv hl.p
    have g2:=fun l lg d=>h41 s ⟨bxt h' l,lg,d⟩ (H'.bx l) hv hl
    unfold scC at g1 g2
    have ro:1≤pR s:=(rateP_ok hv s.pl.length (Nat.le_refl _)).1
    have o:=waitP_ok ro
    have od:0≤pD s∧pD s≤1048576:=delayP_ok hv s.pl.length (Nat.le_refl _)
    have l1:=hl.c
    have l2:=hl.m
    have b:=reachT_ok (n:=s.cf.length) (c:=s.cm.length) (r:=pR s) (d:=pD s) (by omega) (by omega) ro od
    have w1:IntKind.i64.wrap (waitP (pR s)+delayP s.pl s.pl.length)=waitP (pR s)+pD s:=wrapI (by unfold pD at od;omega) (by unfold pD at od;omega)
    have w2:IntKind.i64.wrap (waitP (pR s)+pD s+2)=waitP (pR s)+pD s+2:=wrapI (by omega) (by omega)
    have w3:IntKind.i64.wrap ((s.cf.length:Int)*(waitP (pR s)+pD s+2))=(s.cf.length:Int)*(waitP (pR s)+pD s+2):=wrapI (by omega) (by omega)
    have w4:IntKind.i64.wrap (boundS s+(s.cf.length:Int)*(waitP (pR s)+pD s+2))=reachS s:=wrapI (by unfold boundS;omega) (by unfold boundS;omega)
    simp+contextual -implicitDefEqProofs (maxSteps:=1000000) (maxDischargeDepth:=20) only[go_sem,simprocAttr,a,r,lp,lc,lm,List.length_map,g1,g2,w1,w2,w3,w4,r_vc,r_vp,mskO,Mem.more,bmore,nb_more,List.filter_nil,List.flatMap_nil,List.filter_cons,List.flatMap_cons,List.map_nil,List.map_cons,mask,unmask,AOp.reads,AOpnd.top,top_p,top_s,top_m,top_i,top_b,top_t,top_a,top_u,top_ns,top_s0,top_d,top_f,nb_beq,nb_blt,nb_add,nidOf,slotIn,Nat.beq_refl,clash,Bool.or_self,List.any_nil,List.any_cons,AOp.isMaker]
def H19 (sm:Summ):Prop:= ∀ (s:ScX) (m:Mem),ScAt m.blks s→ConsOK s.pl→ScL s→sm 19 [.agg (scC s)] m=some (.agg (termC s.cf.length s.cm.length (pR s) (pD s)),m)
theorem e19 (hF:F 19=some AF19) (hs: ∀ vs m,sm 19 vs m=none) (n:Nat) (h:Blks) (lg d:List Nat) {s:ScX} (H:ScAt h s) (hv:ConsOK s.pl) (hl:ScL s):Ev F meth sm (n+2000) 19 [.agg (scC s)] ⟨h,lg,d⟩ (.agg (termC s.cf.length s.cm.length (pR s) (pD s))):=by
  refine Ev.ofW ?_
  have c1:=H.c.sc
  have c2:=H.p.sc
  have c3:=H.m.sc
  have lc:=H.c.len
  have lm:=H.m.len
  have lp:=H.p.len
  have l0:=hl.p
  simp+contextual -implicitDefEqProofs (maxSteps:=1000000) (maxDischargeDepth:=20) only[go_sem,simprocAttr,hs,hF,AF19,scC,c1,c2,c3,lc,lm,lp,List.length_map]
  refine WloopV s.pl.length [X16] (fun i=> [.int .i64 i]) (fun i m'=>Keep ⟨h,lg,[]⟩ m'∧bget m'.blks (nb h 1)=some (.row true 4 [[.int .i64 0,.int .i64 0,.int .i64 0,.int .i64 0]])∧bget m'.blks (nb h 2)=some (.row true 4 [[.int .i64 s.cf.length,.int .i64 s.cm.length,.int .i64 (rateP s.pl i),.int .i64 (delayP s.pl i)]])) (by omega) (by repeat first |apply Cl_b |apply Cl_q |apply Cl_r) ⟨rfl,keep_bx (by repeat first |exact LogOK.nil |apply LogOK.cons),nb_get,nb_get⟩ (fun i m' g hi hP=> ?_) (fun m' g hP=> ?_)
  · obtain ⟨h3,lg3,d3⟩:=m'
    obtain ⟨k,b1,b0⟩:=hP
    obtain rfl:d3=[]:=k.dfrs
    simp only at b0 b1
    have hv3:SlAt h3 6 s.pv (s.pl.map conC):=SlAt.keep (m:=⟨h,lg,[]⟩) (m':=⟨h3,lg3,[]⟩) H.p k
    have e:=hv3.el hi
    have r:=rnd hi (by omega)
    have b0': ∀ q,bget (bxt h3 q) (nb h 2)=_:=fun q=>(bxt_old q h3 _ (bget_lt b0)).trans b0
    have o:=old_blk (bget_lt b0)
    unfold conC at e
    refine Wc_bx ?_
    have hle:h.length≤nb h 2:=nb_ge
    have q4:Nat.beq (nb h3 0) (nb h 2)=false:=nb_beq_ne' (bget_lt b0)
    have n12:nb h 1≠nb h 2:=by simp[nb]
    rcases Nat.eq_zero_or_pos i with rfl |hp
    · simp only[show ((0:Nat):Int)=0 from rfl,Nat.add_zero] at e r
      simp+contextual -implicitDefEqProofs (maxSteps:=1000000) (maxDischargeDepth:=20) only[go_sem,simprocAttr,e,r,b0',o,r_vc,r_vp,mskO,Mem.more,bmore,nb_more,List.filter_nil,List.flatMap_nil,List.filter_cons,List.flatMap_cons,List.map_nil,List.map_cons,mask,unmask,AOp.reads,AOpnd.top,top_p,top_s,top_m,top_i,top_b,top_t,top_a,top_u,top_ns,top_s0,top_d,top_f,nb_beq,nb_blt,nb_add,nidOf,slotIn,Nat.beq_refl,clash,Bool.or_self,List.any_nil,List.any_cons,AOp.isMaker,rateP,delayP,q4]
      refine ⟨k.own hle (bget_lt b0) _ _ (LgG.ok (by repeat first |exact LgG.nil |refine LgG.cons (by first |exact nb_ge |exact Nat.le_trans (k.len) nb_ge |assumption) ?_)),(old_get (bget_lt b0) (bget_lt b1) n12 _ _).trans b1,?_⟩
      rw[show (if (gt s.pl 0).r<(gt s.pl 0).r then (gt s.pl 0).r else (gt s.pl 0).r)=(gt s.pl 0).r by split <;>rfl,show (if 0<(gt s.pl 0).d then (gt s.pl 0).d else 0)=max 0 (gt s.pl 0).d by split <;>omega]
    · have z:((i:Int)=0)=False:=by simp;omega
      have z2:(i=0)=False:=by simp;omega
      simp+contextual -implicitDefEqProofs (maxSteps:=1000000) (maxDischargeDepth:=20) only[go_sem,simprocAttr,e,r,b0',o,r_vc,r_vp,mskO,Mem.more,bmore,nb_more,List.filter_nil,List.flatMap_nil,List.filter_cons,List.flatMap_cons,List.map_nil,List.map_cons,mask,unmask,AOp.reads,AOpnd.top,top_p,top_s,top_m,top_i,top_b,top_t,top_a,top_u,top_ns,top_s0,top_d,top_f,nb_beq,nb_blt,nb_add,nidOf,slotIn,Nat.beq_refl,clash,Bool.or_self,List.any_nil,List.any_cons,AOp.isMaker,z,rateP,delayP,z2,q4]
      refine ⟨k.own hle (bget_lt b0) _ _ (LgG.ok (by repeat first |exact LgG.nil |refine LgG.cons (by first |exact nb_ge |exact Nat.le_trans (k.len) nb_ge |assumption) ?_)),(old_get (bget_lt b0) (bget_lt b1) n12 _ _).trans b1,?_⟩
      rw[show (if (gt s.pl i).r<rateP s.pl i then (gt s.pl i).r else rateP s.pl i)=min (rateP s.pl i) (gt s.pl i).r by split <;>omega,show (if delayP s.pl i<(gt s.pl i).d then (gt s.pl i).d else delayP s.pl i)=max (delayP s.pl i) (gt s.pl i).d by split <;>omega]
  · obtain ⟨h3,lg3,d3⟩:=m'
    obtain ⟨k,b1,b0⟩:=hP
    obtain rfl:d3=[]:=k.dfrs
    simp only at b0 b1
    have r:=rndl s.pl.length
    have b0': ∀ q,bget (bxt h3 q) (nb h 2)=_:=fun q=>(bxt_old q h3 _ (bget_lt b0)).trans b0
    have b1': ∀ q,bget (bxt h3 q) (nb h 1)=_:=fun q=>(bxt_old q h3 _ (bget_lt b1)).trans b1
    have o:=old_blk (bget_lt b1)
    refine Wc_bx ?_
    simp+contextual -implicitDefEqProofs (maxSteps:=1000000) (maxDischargeDepth:=20) only[go_sem,simprocAttr,r,b0',b1',o]
    exact ⟨rfl,(k.sub (d:=d)).own (b:=nb h 1) nb_ge (bget_lt b1) _ _ (LgG.ok (by repeat first |exact LgG.nil |refine LgG.cons (by first |exact nb_ge |exact Nat.le_trans (k.len) nb_ge |assumption) ?_))⟩
end
section
variable {F:FuncId→Option AFunc} {meth:Meth} {sm:Summ}
def planE (l:List ConD):Int × Int:=if 200<(l.length:Int) then (5,0) else (first (conBad l) l.length,firstI (conBad l) l.length)
theorem conBad2 {l:List ConD} {i:Nat} (h: ¬ conE (gt l i)=0):conBad l i=2:=by
  unfold conBad;rw[if_pos (fun q=>h ((conE_iff _).2 q))]
theorem conBad19 {l:List ConD} {i:Nat} (h:conE (gt l i)=0) (h0:0<i) (hb: ¬ befC (gt l (i - 1)) (gt l i)):conBad l i=19:=by
  unfold conBad;rw[if_neg (fun q=>q ((conE_iff _).1 h)),if_pos ⟨h0,hb⟩]
theorem conBad12 {l:List ConD} {i:Nat} (h:conE (gt l i)=0) (hb:0<i→befC (gt l (i - 1)) (gt l i)):conBad l i=if overC l i=true then 12 else 0:=by
  unfold conBad;rw[if_neg (fun q=>q ((conE_iff _).1 h)),if_neg (fun q=>q.2 (hb q.1))]
def H63 (sm:Summ):Prop:= ∀ (l:List ConD) (v:AV) (m:Mem),SlAt m.blks 6 v (l.map conC)→l.length≤1000000→sm 63 [v] m=some (.tuple [.int .i64 (planE l).1,.int .i64 (planE l).2],m)
theorem e63 (hF:F 63=some AF63) (hs: ∀ vs m,sm 63 vs m=none) (n:Nat) (h:Blks) (lg d:List Nat) (h91:H91 sm) (h92:H92 sm) (h93:H93 sm) {l:List ConD} {v:AV} (hv:SlAt h 6 v (l.map conC)) (hw:l.length≤1000000):Ev F meth sm (n+2000) 63 [v] ⟨h,lg,d⟩ (.tuple [.int .i64 (planE l).1,.int .i64 (planE l).2]):=by
  refine Ev.ofW ?_
  have lv:=hv.len
  simp+contextual -implicitDefEqProofs (maxSteps:=1000000) (maxDischargeDepth:=20) only[go_sem,simprocAttr,hs,hF,AF63,lv,List.length_map]
  refine ⟨fun q=>by rw[planE,if_pos q];exact ⟨rfl,rfl⟩,fun q=> ?_⟩
  have e0:planE l=(first (conBad l) l.length,firstI (conBad l) l.length):=by rw[planE,if_neg q]
  rw[e0]
  refine WloopK l.length [X4] (fun i=> [.int .i64 i]) (FP (conBad l) l.length) (by omega) (by repeat first |apply Cl_b |apply Cl_q |apply Cl_r) ⟨rfl,FP.zero _ _⟩ (fun i h' lg' g hi hP hK=> ?_) (fun h' lg' g hP hK=> ?_)
  · have a:=hK.all (lg:=lg) (d:=d) (by repeat first |exact LogOK.nil |apply LogOK.cons)
    have e:=(hK.sl hv).el hi
    have p:=(hK.sl hv).pv hi (by omega)
    have r:=rnd hi (by omega)
    have g1:=h91 (gt l i)
    have g2:=h92 (gt l (i - 1)) (gt l i)
    unfold conC at e p g1 g2
    simp+contextual -implicitDefEqProofs (maxSteps:=1000000) (maxDischargeDepth:=20) only[go_sem,simprocAttr,a,e,p,r,g1,g2,lv,List.length_map]
    have fin:conE (gt l i)=0→(0<i→befC (gt l (i - 1)) (gt l i))→ ∀ k,k≤i→(overC l i=true↔ ∃ j,j<i∧(gt l j).f=(gt l i).f∧(gt l j).t=(gt l i).t∧(gt l i).s<(gt l j).e):=fun _ _ _ _=>by
      unfold overC
      rw[List.any_eq_true]
      constructor
      · rintro ⟨x,hx,c⟩
        obtain ⟨j,hj,rfl⟩:=List.mem_take_iff_getElem.1 hx
        simp only[decide_eq_true_eq] at c
        exact ⟨j,by omega,by rw[gt_eq (show j<l.length by omega)];exact c⟩
      · rintro ⟨j,hj,c⟩
        refine ⟨gt l j,?_,decide_eq_true c⟩
        rw[gt_eq (show j<l.length by omega)]
        exact List.mem_take_iff_getElem.2 ⟨j,by omega,rfl⟩
    refine ⟨fun c=> ?_,fun c=>⟨fun h0=>⟨fun hb=> ?_,fun hb=> ?_⟩,fun h0=> ?_⟩⟩
    · have:=hP.stop hi (conBad2 c) (by omega)
      exact ⟨this.1.symm,this.2.symm⟩
    · have:=hP.stop hi (conBad19 c (by omega) hb) (by omega)
      exact ⟨this.1.symm,this.2.symm⟩
    all_goals
      have hb2:0<i→befC (gt l (i - 1)) (gt l i):=fun q=>by first |exact hb |omega
      have cb:=conBad12 c hb2
      have ov:=fin c hb2 0 (Nat.zero_le _)
      refine WloopK i [X5] (fun k=> [.int .i64 k]) (fun k=> ∀ j,j<k→ ¬ ((gt l j).f=(gt l i).f∧(gt l j).t=(gt l i).t∧(gt l i).s<(gt l j).e)) (by omega) (by repeat first |apply Cl_b |apply Cl_q |apply Cl_r |apply Cl_v) ⟨rfl,fun j hj=>absurd hj (by omega)⟩ (fun k h2 lg2 g2 hk hP2 hK2=> ?_) (fun h2 lg2 g2 hP2 hK2=> ?_)
      · have kk:=hK.trans hK2
        have a:=Keep.all (lg:=lg) (d:=d) kk (by repeat first |exact LogOK.nil |apply LogOK.cons)
        have a2:=hK2.all (lg:=lg') (d:=d) (by repeat first |exact LogOK.nil |apply LogOK.cons)
        have e:=(kk.sl hv).el hi
        have ek:=(kk.sl hv).el (show k<l.length by omega)
        have r:=rnd hk (by omega)
        have g3:=h93 (gt l k) (gt l i)
        unfold conC at e ek g3
        simp+contextual -implicitDefEqProofs (maxSteps:=1000000) (maxDischargeDepth:=20) only[go_sem,simprocAttr,a,a2,e,ek,r,g3]
        have nx: ¬ ((gt l k).f=(gt l i).f∧(gt l k).t=(gt l i).t∧(gt l i).s<(gt l k).e)→ ∀ j,j<k+1→ ¬ ((gt l j).f=(gt l i).f∧(gt l j).t=(gt l i).t∧(gt l i).s<(gt l j).e):=fun c' j hj=>by
          rcases Nat.lt_or_ge j k with g |g
          · exact hP2 j g
          · rw[show j=k by omega];exact c'
        refine ⟨fun c1=>⟨fun c2=> ?_,fun c2=>nx fun c'=>c2 c'.2.2⟩,fun c1=>nx fun c'=>c1 ⟨c'.1,c'.2.1⟩⟩
        have:=hP.stop hi (cb.trans (if_pos (ov.2 ⟨k,hk,c1.1,c1.2,c2⟩))) (by omega)
        exact ⟨this.1.symm,this.2.symm⟩
      · have kk:=hK.trans hK2
        have a:=Keep.all (lg:=lg) (d:=d) kk (by repeat first |exact LogOK.nil |apply LogOK.cons)
        have a2:=hK2.all (lg:=lg') (d:=d) (by repeat first |exact LogOK.nil |apply LogOK.cons)
        have r:=rnd hi (by omega)
        have r2:=rndl i
        simp+contextual -implicitDefEqProofs (maxSteps:=1000000) (maxDischargeDepth:=20) only[go_sem,simprocAttr,a,a2,r,r2]
        exact hP.next hi (cb.trans (if_neg fun c'=>by
          obtain ⟨j,hj,c'⟩:=ov.1 c'
          exact hP2 j hj c'))
  · have a:=hK.all (lg:=lg) (d:=d) (by repeat first |exact LogOK.nil |apply LogOK.cons)
    have r:=rndl l.length
    simp+contextual -implicitDefEqProofs (maxSteps:=1000000) (maxDischargeDepth:=20) only[go_sem,simprocAttr,a,r,lv,List.length_map]
    have:=hP.last
    exact ⟨this.1.symm,this.2.symm⟩
def H53 (sm:Summ):Prop:= ∀ (l:List ConD) (v:AV) (m:Mem),SlAt m.blks 6 v (l.map conC)→l.length≤1000000→sm 53 [v] m=some (.tuple [.int .i64 (planE l).1,.int .i64 (planE l).2],m)
theorem e53 (hF:F 53=some AF53) (hs: ∀ vs m,sm 53 vs m=none) (n:Nat) (h:Blks) (lg d:List Nat) (h73:H73 sm) (h74:H74 sm) (h75:H75 sm) {l:List ConD} {v:AV} (hv:SlAt h 6 v (l.map conC)) (hw:l.length≤1000000):Ev F meth sm (n+2000) 53 [v] ⟨h,lg,d⟩ (.tuple [.int .i64 (planE l).1,.int .i64 (planE l).2]):=by
  refine Ev.ofW ?_
  have lv:=hv.len
  simp+contextual -implicitDefEqProofs (maxSteps:=1000000) (maxDischargeDepth:=20) only[go_sem,simprocAttr,hs,hF,AF53,lv,List.length_map]
  refine ⟨fun q=>by rw[planE,if_pos q];exact ⟨rfl,rfl⟩,fun q=> ?_⟩
  have e0:planE l=(first (conBad l) l.length,firstI (conBad l) l.length):=by rw[planE,if_neg q]
  rw[e0]
  refine WloopV l.length [X13] (fun i=> [.int .i64 i]) (fun i m'=>Keep ⟨h,lg,[]⟩ m'∧bget m'.blks (nb h 0)=some (.map (pEnt (ends l i)))∧FP (conBad l) l.length i∧ ∀ k,k<i→conBad l k=0) (by omega) (by repeat first |apply Cl_b |apply Cl_q |apply Cl_r) ⟨rfl,keep_bx (by repeat first |exact LogOK.nil |apply LogOK.cons),nb_get,FP.zero _ _,fun k hk=>absurd hk (by omega)⟩ (fun i m' g hi hP=> ?_) (fun m' g hP=> ?_)
  · obtain ⟨h3,lg3,d3⟩:=m'
    obtain ⟨k,b0,hP,hz⟩:=hP
    obtain rfl:d3=[]:=k.dfrs
    simp only at b0
    have hv3:SlAt h3 6 v (l.map conC):=SlAt.keep (m:=⟨h,lg,[]⟩) (m':=⟨h3,lg3,[]⟩) hv k
    have e:=hv3.el hi
    have p:=hv3.pv hi (by omega)
    have r:=rnd hi (by omega)
    have b0': ∀ q,bget (bxt h3 q) (nb h 0)=_:=fun q=>(bxt_old q h3 _ (bget_lt b0)).trans b0
    have o:=old_blk (bget_lt b0)
    have g1:=h73 (gt l i)
    have g2:=h74 (gt l (i - 1)) (gt l i)
    have g3:=h75 (gt l i)
    have p1:=peq_p ((gt l i).f,(gt l i).t) ((gt l i).f,(gt l i).t)
    rw[decide_eq_true rfl] at p1
    have f1:=find_p ((gt l i).f,(gt l i).t) (ends l i)
    have f2:=set_p ((gt l i).f,(gt l i).t) (gt l i).e (ends l i)
    have lk:=look_ends l (gt l i).f (gt l i).t i
    have q4:Nat.beq (nb h3 0) (nb h 0)=false:=nb_beq_ne' (bget_lt b0)
    simp only at p1 f1 f2
    unfold conC at e p g1 g2 g3
    refine Wc_bx ?_
    have K0:=fun q lg2 (hq:LogOK h3 lg3 lg2)=>(k.sub (d:=d)).trans (keep_bx (l:=q) (d:=d) hq)
    have S2:=fun {x:Int} (c:conBad l i=x) (hx:x≠0)=>show x=first (conBad l) l.length∧(i:Int)=firstI (conBad l) l.length from ⟨(hP.stop hi c hx).1.symm,(hP.stop hi c hx).2.symm⟩
    cases hq:lookP ((gt l i).f,(gt l i).t) (ends l i) with
    | none=>
      rw[hq] at f1 lk
      have ow:conE (gt l i)=0→(overC l i=true↔(gt l i).s<0):=fun c=>by
        have v:=(conE_iff _).1 c
        have:=over_iff hi hz v.2.2.2.1
        rw[←lk] at this
        exact this
      simp+contextual -implicitDefEqProofs (maxSteps:=1000000) (maxDischargeDepth:=20) only[go_sem,simprocAttr,e,p,r,b0',f1,f2,p1,o,g1,g2,g3,q4,r_vc,r_vp,mskO,Mem.more,bmore,nb_more,List.filter_nil,List.flatMap_nil,List.filter_cons,List.flatMap_cons,List.map_nil,List.map_cons,mask,unmask,AOp.reads,AOpnd.top,top_p,top_s,top_m,top_i,top_b,top_t,top_a,top_u,top_ns,top_s0,top_d,top_f,nb_beq,nb_blt,nb_add,nidOf,slotIn,Nat.beq_refl,clash,Bool.or_self,List.any_nil,List.any_cons,AOp.isMaker]
      have N:conE (gt l i)=0→(0<i→befC (gt l (i - 1)) (gt l i))→ ¬ (gt l i).s<0→FP (conBad l) l.length (i+1)∧ ∀ k,k<i+1→conBad l k=0:=fun c c2 c3=>by
        have cz:conBad l i=0:=(conBad12 c c2).trans (if_neg fun q=>c3 ((ow c).1 q))
        refine ⟨hP.next hi cz,fun j hj=> ?_⟩
        rcases Nat.lt_or_ge j i with g |g
        · exact hz j g
        · rw[show j=i by omega];exact cz
      have bz:=fun (c2: ¬ 0≤cmpC (gt l (i - 1)) (gt l i)) (_:0<i)=>show befC (gt l (i - 1)) (gt l i) by
        by_cases q:befC (gt l (i - 1)) (gt l i)
        · exact q
        · exact absurd ((cmpC_iff _ _).2 q) c2
      have bn: ¬ (0:Int)<i→0<i→befC (gt l (i - 1)) (gt l i):=fun c q=>by omega
      refine ⟨fun c=>⟨S2 (conBad2 c) (by omega),K0 _ _ (by repeat first |exact LogOK.nil |apply LogOK.cons)⟩,fun c=>⟨fun h0=>⟨fun c2=>⟨S2 (conBad19 c (by omega) ((cmpC_iff _ _).1 c2)) (by omega),K0 _ _ (by repeat first |exact LogOK.nil |apply LogOK.cons)⟩,fun c2=>⟨fun c3=>⟨S2 ((conBad12 c (bz c2)).trans (if_pos ((ow c).2 c3))) (by omega),K0 _ _ (by repeat first |exact LogOK.nil |apply LogOK.cons)⟩,fun c3=> ?_⟩⟩,fun h0=>⟨fun c3=>⟨S2 ((conBad12 c (bn h0)).trans (if_pos ((ow c).2 c3))) (by omega),K0 _ _ (by repeat first |exact LogOK.nil |apply LogOK.cons)⟩,fun c3=> ?_⟩⟩⟩
      · exact ⟨k.own (b:=nb h 0) nb_ge (bget_lt b0) _ _ (LgG.ok (by repeat first |exact LgG.nil |refine LgG.cons (by first |exact nb_ge |exact Nat.le_trans (k.len) nb_ge |assumption) ?_)),rfl,N c (bz c2) c3⟩
      · exact ⟨k.own (b:=nb h 0) nb_ge (bget_lt b0) _ _ (LgG.ok (by repeat first |exact LgG.nil |refine LgG.cons (by first |exact nb_ge |exact Nat.le_trans (k.len) nb_ge |assumption) ?_)),rfl,N c (bn h0) c3⟩
    | some w=>
      rw[hq] at f1 lk
      have ow:conE (gt l i)=0→(overC l i=true↔(gt l i).s<w):=fun c=>by
        have v:=(conE_iff _).1 c
        have:=over_iff hi hz v.2.2.2.1
        rw[←lk] at this
        exact this
      simp+contextual -implicitDefEqProofs (maxSteps:=1000000) (maxDischargeDepth:=20) only[go_sem,simprocAttr,e,p,r,b0',f1,f2,p1,o,g1,g2,g3,q4,r_vc,r_vp,mskO,Mem.more,bmore,nb_more,List.filter_nil,List.flatMap_nil,List.filter_cons,List.flatMap_cons,List.map_nil,List.map_cons,mask,unmask,AOp.reads,AOpnd.top,top_p,top_s,top_m,top_i,top_b,top_t,top_a,top_u,top_ns,top_s0,top_d,top_f,nb_beq,nb_blt,nb_add,nidOf,slotIn,Nat.beq_refl,clash,Bool.or_self,List.any_nil,List.any_cons,AOp.isMaker]
      have N:conE (gt l i)=0→(0<i→befC (gt l (i - 1)) (gt l i))→ ¬ (gt l i).s<w→FP (conBad l) l.length (i+1)∧ ∀ k,k<i+1→conBad l k=0:=fun c c2 c3=>by
        have cz:conBad l i=0:=(conBad12 c c2).trans (if_neg fun q=>c3 ((ow c).1 q))
        refine ⟨hP.next hi cz,fun j hj=> ?_⟩
        rcases Nat.lt_or_ge j i with g |g
        · exact hz j g
        · rw[show j=i by omega];exact cz
      have bz:=fun (c2: ¬ 0≤cmpC (gt l (i - 1)) (gt l i)) (_:0<i)=>show befC (gt l (i - 1)) (gt l i) by
        by_cases q:befC (gt l (i - 1)) (gt l i)
        · exact q
        · exact absurd ((cmpC_iff _ _).2 q) c2
      have bn: ¬ (0:Int)<i→0<i→befC (gt l (i - 1)) (gt l i):=fun c q=>by omega
      refine ⟨fun c=>⟨S2 (conBad2 c) (by omega),K0 _ _ (by repeat first |exact LogOK.nil |apply LogOK.cons)⟩,fun c=>⟨fun h0=>⟨fun c2=>⟨S2 (conBad19 c (by omega) ((cmpC_iff _ _).1 c2)) (by omega),K0 _ _ (by repeat first |exact LogOK.nil |apply LogOK.cons)⟩,fun c2=>⟨fun c3=>⟨S2 ((conBad12 c (bz c2)).trans (if_pos ((ow c).2 c3))) (by omega),K0 _ _ (by repeat first |exact LogOK.nil |apply LogOK.cons)⟩,fun c3=> ?_⟩⟩,fun h0=>⟨fun c3=>⟨S2 ((conBad12 c (bn h0)).trans (if_pos ((ow c).2 c3))) (by omega),K0 _ _ (by repeat first |exact LogOK.nil |apply LogOK.cons)⟩,fun c3=> ?_⟩⟩⟩
      · exact ⟨k.own (b:=nb h 0) nb_ge (bget_lt b0) _ _ (LgG.ok (by repeat first |exact LgG.nil |refine LgG.cons (by first |exact nb_ge |exact Nat.le_trans (k.len) nb_ge |assumption) ?_)),rfl,N c (bz c2) c3⟩
      · exact ⟨k.own (b:=nb h 0) nb_ge (bget_lt b0) _ _ (LgG.ok (by repeat first |exact LgG.nil |refine LgG.cons (by first |exact nb_ge |exact Nat.le_trans (k.len) nb_ge |assumption) ?_)),rfl,N c (bn h0) c3⟩
  · obtain ⟨h3,lg3,d3⟩:=m'
    obtain ⟨k,b0,hP,hz⟩:=hP
    obtain rfl:d3=[]:=k.dfrs
    have r:=rndl l.length
    refine Wc_bx ?_
    simp+contextual -implicitDefEqProofs (maxSteps:=1000000) (maxDischargeDepth:=20) only[go_sem,simprocAttr,r]
    have:=hP.last
    exact ⟨⟨this.1.symm,this.2.symm⟩,k.sub⟩
end
section
variable {F:FuncId→Option AFunc} {meth:Meth} {sm:Summ}
def idxF {α:Type} (p:α→Bool):Nat→List α→Int
  |_,[]=> -1
  |i,x::l=>if p x=true then i else idxF p (i+1) l
theorem idxF_any {α:Type} (p:α→Bool): ∀ (l:List α) (i:Nat),(0≤idxF p i l)↔l.any p=true
  | [],i=>by simp[idxF]
  | x::l,i=>by
    rw[idxF,List.any_cons]
    cases h:p x with
    |true=>simp
    |false=>simpa using idxF_any p l (i+1)
def hasN (l:List CfgD) (x:Int):Bool:=l.any fun c=>decide (c.node=x)
def HcF (kf:FuncId) (sm:Summ):Prop:= ∀ (c:CfgD) (x:Int) (b:Nat) (own:Bool) (m:Mem),bget m.blks b=some (.row own 1 [[.int .i64 x]])→sm kf [.agg (cfgC c),.ptr b 0 0] m=some (.bool (decide (c.node=x)),m)
def H58 (sm:Summ):Prop:=HcF 58 sm
def H78 (sm:Summ):Prop:=HcF 78 sm
theorem e58 (hF:F 58=some AF58) (hs: ∀ vs m,sm 58 vs m=none) (n:Nat) (h:Blks) (lg d:List Nat) {c:CfgD} {x:Int} {b:Nat} {own:Bool} (hb:bget h b=some (.row own 1 [[.int .i64 x]])):Ev F meth sm (n+2000) 58 [.agg (cfgC c),.ptr b 0 0] ⟨h,lg,d⟩ (.bool (decide (c.node=x))):=by
  refine Ev.ofW ?_
  have hb':=fun l=>(bxt_old l h b (bget_lt hb)).trans hb
  simp+contextual -implicitDefEqProofs (maxSteps:=1000000) (maxDischargeDepth:=20) only[go_sem,simprocAttr,hs,hF,AF58,cfgC,hb',o_ldg]
theorem e78 (hF:F 78=some AF78) (hs: ∀ vs m,sm 78 vs m=none) (n:Nat) (h:Blks) (lg d:List Nat) {c:CfgD} {x:Int} {b:Nat} {own:Bool} (hb:bget h b=some (.row own 1 [[.int .i64 x]])):Ev F meth sm (n+2000) 78 [.agg (cfgC c),.ptr b 0 0] ⟨h,lg,d⟩ (.bool (decide (c.node=x))):=by
  refine Ev.ofW ?_
  have hb':=fun l=>(bxt_old l h b (bget_lt hb)).trans hb
  simp+contextual -implicitDefEqProofs (maxSteps:=1000000) (maxDischargeDepth:=20) only[go_sem,simprocAttr,hs,hF,AF78,cfgC,hb',o_ldg]
def H82 (sm:Summ):Prop:= ∀ (kf:FuncId) (l:List CfgD) (v:AV) (x:Int) (b:Nat) (own:Bool) (m:Mem),kf=58∨kf=78→SlAt m.blks 16 v (l.map cfgC)→l.length≤1000→bget m.blks b=some (.row own 1 [[.int .i64 x]])→sm 82 [v,.func kf [] [.ptr b 0 0]] m=some (.int .i64 (idxF (fun c=>decide (c.node=x)) 0 l),m)
theorem e82 (hF:F 82=some AF82) (hs: ∀ vs m,sm 82 vs m=none) (n:Nat) (h:Blks) (lg d:List Nat) {kf:FuncId} (hk:HcF kf sm) {l:List CfgD} {v:AV} {x:Int} {b:Nat} {own:Bool} (hv:SlAt h 16 v (l.map cfgC)) (hw:l.length≤1000) (hb:bget h b=some (.row own 1 [[.int .i64 x]])):
    Ev F meth sm (n+2000) 82 [v,.func kf [] [.ptr b 0 0]] ⟨h,lg,d⟩ (.int .i64 (idxF (fun c=>decide (c.node=x)) 0 l)):=by
  refine Ev.ofW ?_
  have lv:=hv.len
  simp+contextual -implicitDefEqProofs (maxSteps:=1000000) (maxDischargeDepth:=20) only[go_sem,simprocAttr,hs,hF,AF82,lv,List.length_map]
  refine WloopK l.length [X8] (fun i=> [.int .i64 i]) (fun i=>idxF (fun c=>decide (c.node=x)) 0 l=idxF (fun c=>decide (c.node=x)) i (l.drop i)) (by omega) (by repeat first |apply Cl_b |apply Cl_q |apply Cl_r) ⟨rfl,rfl⟩ (fun i h' lg' g hi hP hK=> ?_) (fun h' lg' g hP hK=> ?_)
  · have a:=hK.all (lg:=lg) (d:=d) (by repeat first |exact LogOK.nil |apply LogOK.cons)
    have e:=(hK.sl hv).el hi
    have r:=rnd hi (by omega)
    have g1:=fun l' lg d=>hk (gt l i) x b own ⟨bxt h' l',lg,d⟩ ((bxt_old l' h' b (Nat.lt_of_lt_of_le (bget_lt hb) hK.len)).trans ((hK.get b (bget_lt hb)).trans hb))
    unfold cfgC at e g1
    rw[List.drop_eq_getElem_cons hi,idxF,←gt_eq hi] at hP
    simp+contextual -implicitDefEqProofs (maxSteps:=1000000) (maxDischargeDepth:=20) only[go_sem,simprocAttr,a,e,r,g1]
    exact ⟨fun c=>by rw[hP,if_pos (decide_eq_true c)],fun c=>by rw[hP,if_neg (fun q=>c (of_decide_eq_true q))]⟩
  · have a:=hK.all (lg:=lg) (d:=d) (by repeat first |exact LogOK.nil |apply LogOK.cons)
    have r:=rndl l.length
    simp+contextual -implicitDefEqProofs (maxSteps:=1000000) (maxDischargeDepth:=20) only[go_sem,simprocAttr,a,r]
    rw[hP,List.drop_length]
    rfl
def H57 (sm:Summ):Prop:= ∀ (kf:FuncId) (l:List CfgD) (v:AV) (x:Int) (b:Nat) (own:Bool) (m:Mem),kf=58∨kf=78→SlAt m.blks 16 v (l.map cfgC)→l.length≤1000→bget m.blks b=some (.row own 1 [[.int .i64 x]])→sm 57 [v,.func kf [] [.ptr b 0 0]] m=some (.bool (decide (hasN l x=true)),m)
theorem e57 (hF:F 57=some AF57) (hs: ∀ vs m,sm 57 vs m=none) (n:Nat) (h:Blks) (lg d:List Nat) (h82:H82 sm) {kf:FuncId} (hk:kf=58∨kf=78) {l:List CfgD} {v:AV} {x:Int} {b:Nat} {own:Bool} (hv:SlAt h 16 v (l.map cfgC)) (hw:l.length≤1000) (hb:bget h b=some (.row own 1 [[.int .i64 x]])):
    Ev F meth sm (n+2000) 57 [v,.func kf [] [.ptr b 0 0]] ⟨h,lg,d⟩ (.bool (decide (hasN l x=true))):=by
  refine Ev.ofW ?_
  have g1:=fun l' lg d=>h82 kf l v x b own ⟨bxt h l',lg,d⟩ hk (hv.bx l') hw ((bxt_old l' h b (bget_lt hb)).trans hb)
  simp+contextual -implicitDefEqProofs (maxSteps:=1000000) (maxDischargeDepth:=20) only[go_sem,simprocAttr,hs,hF,AF57,g1]
  rw[hasN,decide_eq_decide]
  exact idxF_any _ _ _
def H23 (sm:Summ):Prop:= ∀ (s:ScX) (x:Int) (m:Mem),ScAt m.blks s→s.cf.length≤1000→sm 23 [.agg (scC s),.int .i64 x] m=some (.bool (decide (hasN s.cf x=true)),m)
theorem e23 (hF:F 23=some AF23) (hs: ∀ vs m,sm 23 vs m=none) (n:Nat) (h:Blks) (lg d:List Nat) (h57:H57 sm) {s:ScX} {x:Int} (H:ScAt h s) (hw:s.cf.length≤1000):Ev F meth sm (n+2000) 23 [.agg (scC s),.int .i64 x] ⟨h,lg,d⟩ (.bool (decide (hasN s.cf x=true))):=by
  refine Ev.ofW ?_
  have c1:=H.c.sc
  have c2:=H.p.sc
  have c3:=H.m.sc
  have g1:=fun l lg d (q:bnth l 1=some (.row true 1 [[.int .i64 x]]))=>h57 58 s.cf s.cv x (nb h 1) true ⟨bxt h l,lg,d⟩ (.inl rfl) (H.c.bx l) hw (by rw[nb_get,q])
  simp+contextual -implicitDefEqProofs (maxSteps:=1000000) (maxDischargeDepth:=20) only[go_sem,simprocAttr,hs,hF,AF23,scC,c1,c2,c3,g1]
def H77 (sm:Summ):Prop:= ∀ (s:ScX) (x:Int) (b:Nat) (own:Bool) (m:Mem),ScAt m.blks s→s.cf.length≤1000→bget m.blks b=some (.row own 3 [scC s])→sm 77 [.int .i64 x,.ptr b 0 0] m=some (.bool (decide (hasN s.cf x=true)),m)
theorem e77 (hF:F 77=some AF77) (hs: ∀ vs m,sm 77 vs m=none) (n:Nat) (h:Blks) (lg d:List Nat) (h57:H57 sm) {s:ScX} {x:Int} {b:Nat} {own:Bool} (H:ScAt h s) (hw:s.cf.length≤1000) (hb:bget h b=some (.row own 3 [scC s])):Ev F meth sm (n+2000) 77 [.int .i64 x,.ptr b 0 0] ⟨h,lg,d⟩ (.bool (decide (hasN s.cf x=true))):=by
  refine Ev.ofW ?_
  have c1:=H.c.sc
  have hb':=fun l=>(bxt_old l h b (bget_lt hb)).trans hb
  unfold scC at hb'
  have g1:=fun l lg d (q:bnth l 0=some (.row true 1 [[.int .i64 x]]))=>h57 78 s.cf s.cv x (nb h 0) true ⟨bxt h l,lg,d⟩ (.inr rfl) (H.c.bx l) hw (by rw[nb_get,q])
  simp+contextual -implicitDefEqProofs (maxSteps:=1000000) (maxDischargeDepth:=20) only[go_sem,simprocAttr,hs,hF,AF77,c1,hb',o_ldg,g1]
end
section
variable {F:FuncId→Option AFunc} {meth:Meth} {sm:Summ}
structure UseD where
  w:List UInt8
  node:Bool
  other:Bool
  n:Bool
  p:Bool
  y:Bool
  b:Bool
  low:Int
  most:Int
  far:Int
  deriving DecidableEq,Inhabited
def useC (u:UseD):List AV:=[.str u.w,.bool (decide (u.node=true)),.bool (decide (u.other=true)),.bool (decide (u.n=true)),.bool (decide (u.p=true)),.bool (decide (u.y=true)),.bool (decide (u.b=true)),.int .i64 u.low,.int .i64 u.most,.int .i64 u.far]
def rangP (u:UseD) (c:CmdD):Prop:= ¬ (u.node=true∧(c.node<1∨16<c.node))∧ ¬ (u.other=true∧(c.other<1∨16<c.other∨c.other=c.node))∧ ¬ (u.n=true∧(c.n<u.low∨u.most<c.n))∧ ¬ (u.p=true∧(c.pos<0∨u.far<c.pos))∧ ¬ (u.y=true∧(c.by_<1∨255<c.by_))
instance (u:UseD) (c:CmdD):Decidable (rangP u c):=by unfold rangP;infer_instance
def bun0:BunD:=⟨⟨0,0,0⟩,0,0,0,0,0,[]⟩
def unusP (u:UseD) (c:CmdD):Prop:=(u.node=true∨c.node=0)∧(u.other=true∨c.other=0)∧(u.n=true∨c.n=0)∧(u.p=true∨c.pos=0)∧(u.y=true∨c.by_=0)∧(u.b=true∨c.b=bun0)
instance (u:UseD) (c:CmdD):Decidable (unusP u c):=by unfold unusP;infer_instance
theorem bun_eq (b:BunD):(b=bun0)=(b.id.n=0∧b.id.s=0∧b.id.o=0∧b.dest=0∧b.prio=0∧b.born=0∧b.life=0∧b.total=0∧b.data=[]):=by
  obtain ⟨⟨_,_,_⟩,_,_,_,_,_,_⟩:=b
  simp only[bun0,BunD.mk.injEq,IdD.mk.injEq,eq_iff_iff]
  constructor
  · rintro ⟨⟨a,b,c⟩,d⟩;exact ⟨a,b,c,d⟩
  · rintro ⟨a,b,c,d⟩;exact ⟨⟨a,b,c⟩,d⟩
def H123 (sm:Summ):Prop:= ∀ (s:ScX) (x:Int) (m:Mem),ScAt m.blks s→s.cf.length≤1000→sm 123 [.agg (scC s),.int .i64 x] m=some (.bool (decide (hasN s.cf x=true)),m)
theorem e123 (hF:F 123=some AF123) (hs: ∀ vs m,sm 123 vs m=none) (n:Nat) (h:Blks) (lg d:List Nat) {s:ScX} {x:Int} (H:ScAt h s) (hw:s.cf.length≤1000):Ev F meth sm (n+2000) 123 [.agg (scC s),.int .i64 x] ⟨h,lg,d⟩ (.bool (decide (hasN s.cf x=true))):=by
  refine Ev.ofW ?_
  have c1:=H.c.sc
  have c2:=H.p.sc
  have c3:=H.m.sc
  have lc:=H.c.len
  simp+contextual -implicitDefEqProofs (maxSteps:=1000000) (maxDischargeDepth:=20) only[go_sem,simprocAttr,hs,hF,AF123,scC,c1,c2,c3]
  refine WloopK s.cf.length [X5] (fun i=> [.int .i64 i]) (fun i=>hasN s.cf x=(s.cf.drop i).any fun c=>decide (c.node=x)) (by omega) (by repeat first |apply Cl_b |apply Cl_q |apply Cl_r) ⟨rfl,rfl⟩ (fun i h' lg' g hi hP hK=> ?_) (fun h' lg' g hP hK=> ?_)
  · have a:=hK.all (lg:=lg) (d:=d) (by repeat first |exact LogOK.nil |apply LogOK.cons)
    have e:=(hK.sl H.c).el hi
    have r:=rnd hi (by omega)
    unfold cfgC at e
    rw[List.drop_eq_getElem_cons hi,List.any_cons,←gt_eq hi] at hP
    simp+contextual -implicitDefEqProofs (maxSteps:=1000000) (maxDischargeDepth:=20) only[go_sem,simprocAttr,a,e,r,lc,List.length_map]
    exact ⟨fun c=>by rw[hP,decide_eq_true c];rfl,fun c=>by rw[hP,decide_eq_false c];rfl⟩
  · have a:=hK.all (lg:=lg) (d:=d) (by repeat first |exact LogOK.nil |apply LogOK.cons)
    have r:=rndl s.cf.length
    simp+contextual -implicitDefEqProofs (maxSteps:=1000000) (maxDischargeDepth:=20) only[go_sem,simprocAttr,a,r,lc,List.length_map]
    rw[List.drop_length] at hP
    simp[hP]
def H122 (sm:Summ):Prop:= ∀ (u:UseD) (c:CmdD) (m:Mem),sm 122 [.agg (useC u),.agg (cmdC c)] m=some (.bool (decide (rangP u c)),m)
theorem e122 (hF:F 122=some AF122) (hs: ∀ vs m,sm 122 vs m=none) (n:Nat) (h:Blks) (lg d:List Nat) {u:UseD} {c:CmdD}:Ev F meth sm (n+2000) 122 [.agg (useC u),.agg (cmdC c)] ⟨h,lg,d⟩ (.bool (decide (rangP u c))):=by
  refine Ev.ofW ?_
  simp+contextual -implicitDefEqProofs (maxSteps:=1000000) (maxDischargeDepth:=20) only[go_sem,simprocAttr,hs,hF,AF122,useC,cmdC]
  clear hF hs
  (repeat' first |apply And.intro |intro _) <;>(simp[rangP, *] <;>omega)
def H124 (sm:Summ):Prop:= ∀ (u:UseD) (c:CmdD) (m:Mem),sm 124 [.agg (useC u),.agg (cmdC c)] m=some (.bool (decide (unusP u c)),m)
theorem e124 (hF:F 124=some AF124) (hs: ∀ vs m,sm 124 vs m=none) (n:Nat) (h:Blks) (lg d:List Nat) {u:UseD} {c:CmdD}:Ev F meth sm (n+2000) 124 [.agg (useC u),.agg (cmdC c)] ⟨h,lg,d⟩ (.bool (decide (unusP u c))):=by
  refine Ev.ofW ?_
  simp+contextual -implicitDefEqProofs (maxSteps:=1000000) (maxDischargeDepth:=20) only[go_sem,simprocAttr,hs,hF,AF124,useC,cmdC]
  clear hF hs
  (repeat' first |apply And.intro |intro _) <;>(simp[unusP,bun_eq, *])
end
section
variable {F:FuncId→Option AFunc} {meth:Meth} {sm:Summ}
def useD (k:Int):UseD:=
  if k=1 then ⟨[115,117,98,109,105,116],true,false,false,false,false,true,0,0,0⟩
  else if k=2 then ⟨[111,112,101,110],true,true,false,false,false,false,0,0,0⟩
  else if k=3 then ⟨[99,108,111,115,101],true,true,false,false,false,false,0,0,0⟩
  else if k=4 then ⟨[116,105,99,107],false,false,true,false,false,false,1,1000,0⟩
  else if k=5 then ⟨[100,101,108,105,118,101,114],true,true,true,false,false,false,0,63,0⟩
  else if k=6 then ⟨[108,111,115,101],true,true,true,false,false,false,0,63,0⟩
  else if k=7 then ⟨[100,111,117,98,108,101],true,true,true,false,false,false,0,63,0⟩
  else if k=8 then ⟨[115,119,97,112],true,true,true,true,false,false,0,63,63⟩
  else if k=9 then ⟨[115,112,111,105,108],true,true,true,true,true,false,0,63,1199⟩
  else if k=10 then ⟨[99,117,116],true,true,true,true,false,false,0,63,1199⟩
  else if k=11 then ⟨[99,114,97,115,104],true,false,false,false,false,false,0,0,0⟩
  else if k=12 then ⟨[116,114,105,112],true,false,true,true,false,false,0,1000,262144⟩
  else if k=13 then ⟨[114,101,115,116,97,114,116],true,false,false,false,false,false,0,0,0⟩
  else if k=14 then ⟨[100,114,97,105,110],false,false,true,false,false,false,1,1000,0⟩
  else ⟨[],false,false,false,false,false,false,0,0,0⟩
def H121 (sm:Summ):Prop:= ∀ (k:Int) (m:Mem),sm 121 [.int .i64 k] m=some (.tuple [.agg (useC (useD k)),.bool (decide (1≤k∧k≤14))],m)
theorem e121 (hF:F 121=some AF121) (hs: ∀ vs m,sm 121 vs m=none) (n:Nat) (h:Blks) (lg d:List Nat) {k:Int}:Ev F meth sm (n+2000) 121 [.int .i64 k] ⟨h,lg,d⟩ (.tuple [.agg (useC (useD k)),.bool (decide (1≤k∧k≤14))]):=by
  refine Ev.ofW ?_
  simp+contextual -implicitDefEqProofs (maxSteps:=1000000) (maxDischargeDepth:=20) only[go_sem,simprocAttr,hs,hF,AF121]
  clear hF hs
  (repeat' first |apply And.intro |intro _) <;>first |rfl |(simp[useD,useC, *];done)|(simp[useD,useC, *];omega)
end
section
variable {F:FuncId→Option AFunc} {meth:Meth} {sm:Summ}
def missP (u:UseD) (cf:List CfgD) (c:CmdD):Prop:=u.node=true∧ ¬ hasN cf c.node=true∨u.other=true∧ ¬ hasN cf c.other=true
instance (u:UseD) (cf:List CfgD) (c:CmdD):Decidable (missP u cf c):=by unfold missP;infer_instance
def oneU (u:UseD) (cf:List CfgD) (c:CmdD):Int:=
  if ¬ (1≤c.kind∧c.kind≤14) then 7 else if ¬ rangP u c then 2 else if missP u cf c then 8 else if ¬ unusP u c then 3 else if u.b=true then bunE c.b else 0
def oneE (cf:List CfgD) (c:CmdD):Int:=oneU (useD c.kind) cf c
def H94 (sm:Summ):Prop:= ∀ (s:ScX) (c:CmdD) (m:Mem),ScAt m.blks s→s.cf.length≤1000→c.b.data.length≤1000000→I c.b.total→sm 94 [.agg (scC s),.agg (cmdC c),.bool false] m=some (.int .i64 (oneE s.cf c),m)
theorem e94 (hF:F 94=some AF94) (hs: ∀ vs m,sm 94 vs m=none) (n:Nat) (h:Blks) (lg d:List Nat) (h121:H121 sm) (h122:H122 sm) (h123:H123 sm) (h124:H124 sm) (h125:H125 sm) {s:ScX} {c:CmdD} (H:ScAt h s) (hw:s.cf.length≤1000) (hd:c.b.data.length≤1000000) (ht:I c.b.total):Ev F meth sm (n+2000) 94 [.agg (scC s),.agg (cmdC c),.bool false] ⟨h,lg,d⟩ (.int .i64 (oneE s.cf c)):=by
  refine Ev.ofW ?_
  have c1:=H.c.sc
  have c2:=H.p.sc
  have c3:=H.m.sc
  have g1:=h121 c.kind
  unfold oneE
  generalize useD c.kind=u at*
  have g2:=h122 u c
  have g3:=fun x l lg d=>h123 s x ⟨bxt h l,lg,d⟩ (H.bx l) hw
  have g4:=fun (x y:Bool) (hx:decide (u.node=true)=x) (hy:decide (u.other=true)=y) m=>show sm 124 [.agg [.str u.w,.bool x,.bool y,.bool (decide (u.n=true)),.bool (decide (u.p=true)),.bool (decide (u.y=true)),.bool (decide (u.b=true)),.int .i64 u.low,.int .i64 u.most,.int .i64 u.far],.agg (cmdC c)] m=some (.bool (decide (unusP u c)),m) by rw[←hx,←hy];exact h124 u c m
  have g5:=fun m=>h125 c.b m hd ht
  unfold useC at g1 g2
  unfold cmdC at g2 g4
  unfold scC at g3
  unfold bunC at g5
  simp+contextual -implicitDefEqProofs (maxSteps:=1000000) (maxDischargeDepth:=20) only[go_sem,simprocAttr,hs,hF,AF94,scC,cmdC,c1,c2,c3,g1,g2,g3,g4,g5]
  clear hF hs h121 h122 h123 h124 h125 g1 g2 g3 g4 g5
  (repeat' first |apply And.intro |intro _) <;>(simp[oneU,missP, *])
def H64 (sm:Summ):Prop:= ∀ (s:ScX) (c:CmdD) (m:Mem),ScAt m.blks s→s.cf.length≤1000→c.b.data.length≤1000000→I c.b.total→sm 64 [.agg (scC s),.agg (cmdC c)] m=some (.int .i64 (oneE s.cf c),m)
theorem e64 (hF:F 64=some AF64) (hs: ∀ vs m,sm 64 vs m=none) (n:Nat) (h:Blks) (lg d:List Nat) (h94:H94 sm) {s:ScX} {c:CmdD} (H:ScAt h s) (hw:s.cf.length≤1000) (hd:c.b.data.length≤1000000) (ht:I c.b.total):Ev F meth sm (n+2000) 64 [.agg (scC s),.agg (cmdC c)] ⟨h,lg,d⟩ (.int .i64 (oneE s.cf c)):=by
  refine Ev.ofW ?_
  have c1:=H.c.sc
  have c2:=H.p.sc
  have c3:=H.m.sc
  have g1:=fun l lg d=>h94 s c ⟨bxt h l,lg,d⟩ (H.bx l) hw hd ht
  unfold scC cmdC at g1
  simp+contextual -implicitDefEqProofs (maxSteps:=1000000) (maxDischargeDepth:=20) only[go_sem,simprocAttr,hs,hF,AF64,scC,cmdC,c1,c2,c3,g1]
end
section
variable {F:FuncId→Option AFunc} {meth:Meth} {sm:Summ}
def H109 (sm:Summ):Prop:= ∀ (x:Int) (m:Mem),sm 109 [.int .i64 x] m=some (.bool (decide (1≤x∧x≤16)),m)
theorem e109 (hF:F 109=some AF109) (hs: ∀ vs m,sm 109 vs m=none) (n:Nat) (h:Blks) (lg d:List Nat) {x:Int}:Ev F meth sm (n+2000) 109 [.int .i64 x] ⟨h,lg,d⟩ (.bool (decide (1≤x∧x≤16))):=by
  refine Ev.ofW ?_
  simp+contextual -implicitDefEqProofs (maxSteps:=1000000) (maxDischargeDepth:=20) only[go_sem,simprocAttr,hs,hF,AF109]
def H110 (sm:Summ):Prop:= ∀ (x a b:Int) (m:Mem),sm 110 [.int .i64 x,.int .i64 a,.int .i64 b] m=some (.bool (decide (b<0∨a≤x∧x≤b)),m)
theorem e110 (hF:F 110=some AF110) (hs: ∀ vs m,sm 110 vs m=none) (n:Nat) (h:Blks) (lg d:List Nat) {x a b:Int}:Ev F meth sm (n+2000) 110 [.int .i64 x,.int .i64 a,.int .i64 b] ⟨h,lg,d⟩ (.bool (decide (b<0∨a≤x∧x≤b))):=by
  refine Ev.ofW ?_
  simp+contextual -implicitDefEqProofs (maxSteps:=1000000) (maxDischargeDepth:=20) only[go_sem,simprocAttr,hs,hF,AF110]
theorem one2 {cf:List CfgD} {c:CmdD} (hk:1≤c.kind∧c.kind≤14) (h1: ¬ rangP (useD c.kind) c):oneE cf c=2:=by rw[oneE,oneU,if_neg (fun q=>q hk),if_pos h1]
theorem one8 {cf:List CfgD} {c:CmdD} (hk:1≤c.kind∧c.kind≤14) (h1:rangP (useD c.kind) c) (h2:missP (useD c.kind) cf c):oneE cf c=8:=by rw[oneE,oneU,if_neg (fun q=>q hk),if_neg (fun q=>q h1),if_pos h2]
theorem one3 {cf:List CfgD} {c:CmdD} (hk:1≤c.kind∧c.kind≤14) (h1:rangP (useD c.kind) c) (h2: ¬ missP (useD c.kind) cf c) (h3: ¬ unusP (useD c.kind) c):oneE cf c=3:=by rw[oneE,oneU,if_neg (fun q=>q hk),if_neg (fun q=>q h1),if_neg h2,if_pos h3]
theorem oneB {cf:List CfgD} {c:CmdD} (hk:1≤c.kind∧c.kind≤14) (h1:rangP (useD c.kind) c) (h2: ¬ missP (useD c.kind) cf c) (h3:unusP (useD c.kind) c) (h4:(useD c.kind).b=true):oneE cf c=bunE c.b:=by rw[oneE,oneU,if_neg (fun q=>q hk),if_neg (fun q=>q h1),if_neg h2,if_neg (fun q=>q h3),if_pos h4]
theorem oneZ {cf:List CfgD} {c:CmdD} (hk:1≤c.kind∧c.kind≤14) (h1:rangP (useD c.kind) c) (h2: ¬ missP (useD c.kind) cf c) (h3:unusP (useD c.kind) c) (h4: ¬ (useD c.kind).b=true):oneE cf c=0:=by rw[oneE,oneU,if_neg (fun q=>q hk),if_neg (fun q=>q h1),if_neg h2,if_neg (fun q=>q h3),if_neg h4]
def H76 (sm:Summ):Prop:= ∀ (s:ScX) (c:CmdD) (b:Nat) (own own2:Bool) (m:Mem),bget m.blks 1=some (.row own 8 usesR)→ScAt m.blks s→s.cf.length≤1000→bget m.blks b=some (.row own2 3 [scC s])→c.b.data.length≤1000000→I c.b.total→sm 76 [.agg (cmdC c),.func 77 [] [.ptr b 0 0]] m=some (.int .i64 (oneE s.cf c),m)
theorem e76 (hF:F 76=some AF76) (hs: ∀ vs m,sm 76 vs m=none) (n:Nat) (h:Blks) (lg d:List Nat) (h109:H109 sm) (h110:H110 sm) (h77:H77 sm) (h79:H79 sm) {s:ScX} {c:CmdD} {b:Nat} {own own2:Bool} (hu:bget h 1=some (.row own 8 usesR)) (H:ScAt h s) (hw:s.cf.length≤1000) (hb:bget h b=some (.row own2 3 [scC s])) (hd:c.b.data.length≤1000000) (ht:I c.b.total):Ev F meth sm (n+2000) 76 [.agg (cmdC c),.func 77 [] [.ptr b 0 0]] ⟨h,lg,d⟩ (.int .i64 (oneE s.cf c)):=by
  refine Ev.ofW ?_
  have hu':=fun l=>(bxt_old l h 1 (bget_lt hu)).trans hu
  have g1:=fun x=>h109 x
  have g2:=fun x a b=>h110 x a b
  have g3:=fun x l lg d=>h77 s x b own2 ⟨bxt h l,lg,d⟩ (H.bx l) hw ((bxt_old l h b (bget_lt hb)).trans hb)
  have g5:=fun m=>h79 c.b m hd ht
  unfold bunC at g5
  by_cases hk:c.kind<1∨14<c.kind
  · have hk1:(c.kind<1)=True∨(c.kind<1)=False∧(14<c.kind)=True:=by
      by_cases h1:c.kind<1
      · exact .inl (eq_true h1)
      · exact .inr ⟨eq_false h1,eq_true (by omega)⟩
    have e:oneE s.cf c=7:=by rw[oneE,oneU,if_pos (by omega)]
    rcases hk1 with q |q
    · simp+contextual -implicitDefEqProofs (maxSteps:=1000000) (maxDischargeDepth:=20) only[go_sem,simprocAttr,hs,hF,AF76,cmdC,q,e]
    · simp+contextual -implicitDefEqProofs (maxSteps:=1000000) (maxDischargeDepth:=20) only[go_sem,simprocAttr,hs,hF,AF76,cmdC,q,e]
  · have q0:c.kind=1∨c.kind=2∨c.kind=3∨c.kind=4∨c.kind=5∨c.kind=6∨c.kind=7∨c.kind=8∨c.kind=9∨c.kind=10∨c.kind=11∨c.kind=12∨c.kind=13∨c.kind=14:=by omega
    rcases q0 with q0 |q0 |q0 |q0 |q0 |q0 |q0 |q0 |q0 |q0 |q0 |q0 |q0 |q0
    all_goals
      have hu'':useD c.kind=_:=(congrArg useD q0).trans (by simp only[useD,Int.reduceEq,if_false,if_true];rfl)
      simp+contextual -implicitDefEqProofs (maxSteps:=1000000) (maxDischargeDepth:=20) only[go_sem,simprocAttr,hs,hF,AF76,cmdC,q0,hu',usesR,o_ldg,g1,g2,g3,g5]
      clear hF hs h109 h110 h77 h79 hu' g1 g2 g3 g5
      have hk':1≤c.kind∧c.kind≤14:=by omega
      (repeat' first |apply And.intro |intro _) <;>first
        |exact (one2 hk' (by rw[hu''];simp[rangP] <;>omega)).symm
        |exact (one8 hk' (by rw[hu''];simp[rangP] <;>omega) (by rw[hu''];simp[missP, *])).symm
        |exact (one3 hk' (by rw[hu''];simp[rangP] <;>omega) (by rw[hu''];simp[missP, *]) (by rw[hu''];simp[unusP,bun_eq, *])).symm
        |exact (oneB hk' (by rw[hu''];simp[rangP] <;>omega) (by rw[hu''];simp[missP, *]) (by rw[hu''];simp[unusP,bun_eq, *]) (by rw[hu''])).symm
        |exact (oneZ hk' (by rw[hu''];simp[rangP] <;>omega) (by rw[hu''];simp[missP, *]) (by rw[hu''];simp[unusP,bun_eq, *]) (by rw[hu''];simp)).symm
end
end Go.Abs
end
