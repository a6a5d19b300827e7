/- Functions of the program on symbolic values: part e.
   Conditions: none. -/
import Derived.Test.YtdmofemokgboeaaGreatDoorQd
set_option linter.unusedSimpArgs false
set_option linter.unusedVariables false
set_option maxRecDepth 100000
set_option maxHeartbeats 16000000
noncomputable section
namespace Go.Abs
section
variable {F:FuncId→Option AFunc} {meth:Meth} {sm:Summ}
def Old (h h2:Blks):Prop:=h.length≤h2.length∧ ∀ b,b<h.length→bget h2 b=bget h b
theorem Old.bx {h h2:Blks} (o:Old h h2) (l:List (Option ABlk)):Old h (bxt h2 l):=⟨by rw[bxt_len];have:=o.1;omega,fun b hb=>(bxt_old l h2 b (by have:=o.1;omega)).trans (o.2 b hb)⟩
theorem Old.refl (h:Blks):Old h h:=⟨Nat.le_refl _,fun _ _=>rfl⟩
theorem Keep.old {m m':Mem} (k:Keep m m'):Old m.blks m'.blks:=⟨k.len,k.get⟩
theorem Old.get {h h2:Blks} (o:Old h h2) {b:Nat} {x:ABlk} (hb:bget h b=some x):bget h2 b=some x:=(o.2 b (bget_lt hb)).trans hb
theorem SlAt.old {h h2:Blks} {e:Nat} {v:AV} {es:List (List AV)} (H:SlAt h e v es) (o:Old h h2):SlAt h2 e v es:=by
  rcases H with ⟨hn,hv⟩|⟨b,i,c,own,rows,hv,hb,hw,hc⟩
  · exact .none hn hv
  · exact .some b i c own rows hv (o.get hb) hw hc
theorem ScAt.old {h h2:Blks} {s:ScX} (H:ScAt h s) (o:Old h h2):ScAt h2 s:=⟨H.c.old o,H.p.old o,H.m.old o⟩
structure ScV (s:ScX):Prop where
  ok:ScOK s
  z:(scE s).1=0
  p:s.pl.length≤40
  ids: ∀ c∈s.cm,0≤c.b.id.s
  q: ∀ c∈s.cf,U c.quota∧U c.window∧U c.low
theorem ScV.con {s:ScX} (V:ScV s): ∀ c∈s.pl,conOK c:=fun c hc=>by
  obtain ⟨i,hi,rfl⟩:=List.getElem_of_mem hc
  have:=scE_con V.z i hi
  rw[gt_eq hi] at this
  exact this
theorem ScV.pe {s:ScX} (V:ScV s):(planE s.pl).1=0:=by
  have h:=V.z
  unfold scE at h
  split at h
  · cases h
  · split at h
    · cases h
    · split at h
      · rename_i q;exact absurd h q
      · split at h
        · rename_i q;exact absurd h q
        · rename_i q;omega
theorem ScV.sub {s:ScX} (V:ScV s) {c:CmdD} (hc:c∈s.cm) (h1:c.kind=1):(1≤c.node∧c.node≤16)∧bunE c.b=0:=by
  obtain ⟨i,hi,rfl⟩:=List.getElem_of_mem hc
  have h:=(scE_ok V.z).2.2.2 i hi
  rw[cmBad,gt_eq hi,oneE,h1] at h
  have hu:useD 1=⟨[115,117,98,109,105,116],true,false,false,false,false,true,0,0,0⟩:=rfl
  unfold oneU at h
  rw[hu] at h
  split at h
  · cases h
  · split at h
    · cases h
    · rename_i r
      split at h
      · cases h
      · split at h
        · cases h
        · rw[if_pos rfl] at h
          refine ⟨?_,h⟩
          unfold rangP at r
          simp only[true_and,Decidable.not_not] at r
          have:=r.1
          omega
theorem size_ok {b:BunD} (h:bunE b=0):1≤sizeB b∧sizeB b≤1200:=by
  have ok:=bunE_ok h
  have:=front_le b
  have:=numLen_le (b.data.length:Int)
  rw[sizeB,if_neg (by omega)]
  omega
def H21 (sm:Summ):Prop:= ∀ (b:BunD) (own:Bool) (m:Mem),bget m.blks 0=some (.row own 1 headsR)→0≤b.id.s→b.data.length≤1000000→I b.total→sm 21 [.agg (bunC b)] m=some (.int .i64 (sizeB b),m)
theorem e21 (hF:F 21=some AF21) (hs: ∀ vs m,sm 21 vs m=none) (n:Nat) (h:Blks) (lg d:List Nat) (h56:H56 sm) {b:BunD} {own:Bool} (hg:bget h 0=some (.row own 1 headsR)) (hq:0≤b.id.s) (w1:b.data.length≤1000000) (w2:I b.total):Ev F meth sm (n+2000) 21 [.agg (bunC b)] ⟨h,lg,d⟩ (.int .i64 (sizeB b)):=by
  refine Ev.ofW ?_
  have g:=fun l lg d=>h56 b own ⟨bxt h l,lg,d⟩ ((bxt_old l h 0 (bget_lt hg)).trans hg) hq w1 w2
  unfold bunC at g
  simp+contextual -implicitDefEqProofs (maxSteps:=1000000) (maxDischargeDepth:=20) only[go_sem,simprocAttr,hs,hF,AF21,bunC,g]
def backP (c x:ConD):Prop:=x.f=c.t∧x.t=c.f
instance (c x:ConD):Decidable (backP c x):=by unfold backP;infer_instance
def H26 (sm:Summ):Prop:= ∀ (c x:ConD) (b:Nat) (own:Bool) (m:Mem),bget m.blks b=some (.row own 6 [conC c])→sm 26 [.agg (conC x),.ptr b 0 0] m=some (.bool (decide (backP c x)),m)
theorem e26 (hF:F 26=some AF26) (hs: ∀ vs m,sm 26 vs m=none) (n:Nat) (h:Blks) (lg d:List Nat) {c x:ConD} {b:Nat} {own:Bool} (hb:bget h b=some (.row own 6 [conC c])):Ev F meth sm (n+2000) 26 [.agg (conC x),.ptr b 0 0] ⟨h,lg,d⟩ (.bool (decide (backP c x))):=by
  refine Ev.ofW ?_
  have hb':=fun l=>(bxt_old l h b (bget_lt hb)).trans hb
  unfold conC at hb'
  simp+contextual -implicitDefEqProofs (maxSteps:=1000000) (maxDischargeDepth:=20) only[go_sem,simprocAttr,hs,hF,AF26,conC,hb',o_ldg,backP]
def H61 (sm:Summ):Prop:= ∀ (l:List ConD) (v:AV) (c:ConD) (b:Nat) (own:Bool) (m:Mem),SlAt m.blks 6 v (l.map conC)→l.length≤1000→bget m.blks b=some (.row own 6 [conC c])→sm 61 [v,.func 26 [] [.ptr b 0 0]] m=some (.int .i64 (idxF (fun x=>decide (backP c x)) 0 l),m)
theorem e61 (hF:F 61=some AF61) (hs: ∀ vs m,sm 61 vs m=none) (n:Nat) (h:Blks) (lg d:List Nat) (h26:H26 sm) {l:List ConD} {v:AV} {c:ConD} {b:Nat} {own:Bool} (hv:SlAt h 6 v (l.map conC)) (hw:l.length≤1000) (hb:bget h b=some (.row own 6 [conC c])):
    Ev F meth sm (n+2000) 61 [v,.func 26 [] [.ptr b 0 0]] ⟨h,lg,d⟩ (.int .i64 (idxF (fun x=>decide (backP c x)) 0 l)):=by
  refine Ev.ofW ?_
  have lv:=hv.len
  simp+contextual -implicitDefEqProofs (maxSteps:=1000000) (maxDischargeDepth:=20) only[go_sem,simprocAttr,hs,hF,AF61,lv,List.length_map]
  refine WloopK l.length [X8] (fun i=> [.int .i64 i]) (fun i=>idxF (fun x=>decide (backP c x)) 0 l=idxF (fun x=>decide (backP c x)) i (l.drop i)) (by omega) (by repeat first |apply Cl_b |apply Cl_q |apply Cl_r) ⟨rfl,rfl⟩ (fun i h' lg' g hi hP hK=> ?_) (fun h' lg' g hP hK=> ?_)
  · have a:=hK.all (lg:=lg) (d:=d) (by repeat first |exact LogOK.nil |apply LogOK.cons)
    have e:=(hK.sl hv).el hi
    have r:=rnd hi (by omega)
    have g1:=fun l' lg d=>h26 c (gt l i) b own ⟨bxt h' l',lg,d⟩ ((bxt_old l' h' b (Nat.lt_of_lt_of_le (bget_lt hb) hK.len)).trans ((hK.get b (bget_lt hb)).trans hb))
    unfold conC at e g1
    rw[List.drop_eq_getElem_cons hi,idxF,←gt_eq hi] at hP
    simp+contextual -implicitDefEqProofs (maxSteps:=1000000) (maxDischargeDepth:=20) only[go_sem,simprocAttr,a,e,r,g1]
    exact ⟨fun c=>by rw[hP,if_pos (decide_eq_true c)],fun c=>by rw[hP,if_neg (fun q=>c (of_decide_eq_true q))]⟩
  · have a:=hK.all (lg:=lg) (d:=d) (by repeat first |exact LogOK.nil |apply LogOK.cons)
    have r:=rndl l.length
    simp+contextual -implicitDefEqProofs (maxSteps:=1000000) (maxDischargeDepth:=20) only[go_sem,simprocAttr,a,r]
    rw[hP,List.drop_length]
    rfl
def backB (l:List ConD) (c:ConD):Bool:=l.any fun x=>decide (backP c x)
def H27 (sm:Summ):Prop:= ∀ (l:List ConD) (v:AV) (c:ConD) (b:Nat) (own:Bool) (m:Mem),SlAt m.blks 6 v (l.map conC)→l.length≤1000→bget m.blks b=some (.row own 6 [conC c])→sm 27 [v,.func 26 [] [.ptr b 0 0]] m=some (.bool (decide (backB l c=true)),m)
theorem e27 (hF:F 27=some AF27) (hs: ∀ vs m,sm 27 vs m=none) (n:Nat) (h:Blks) (lg d:List Nat) (h61:H61 sm) {l:List ConD} {v:AV} {c:ConD} {b:Nat} {own:Bool} (hv:SlAt h 6 v (l.map conC)) (hw:l.length≤1000) (hb:bget h b=some (.row own 6 [conC c])):
    Ev F meth sm (n+2000) 27 [v,.func 26 [] [.ptr b 0 0]] ⟨h,lg,d⟩ (.bool (decide (backB l c=true))):=by
  refine Ev.ofW ?_
  have g1:=fun l' lg d=>h61 l v c b own ⟨bxt h l',lg,d⟩ (hv.bx l') hw ((bxt_old l' h b (bget_lt hb)).trans hb)
  simp+contextual -implicitDefEqProofs (maxSteps:=1000000) (maxDischargeDepth:=20) only[go_sem,simprocAttr,hs,hF,AF27,g1]
  rw[backB,decide_eq_decide]
  exact idxF_any _ _ _
end
section
variable {F:FuncId→Option AFunc} {meth:Meth} {sm:Summ}
def cmdP (s:ScX) (c:CmdD):Prop:=c.kind=1∧c.b.born=0∧c.b.id.n=c.node∧hasN s.cf c.b.dest=true∧reachS s<c.b.life∧(isR s.pl (sizeB c.b) c.node.toNat c.b.dest.toNat∨c.b.dest=c.node)
instance (s:ScX) (c:CmdD):Decidable (cmdP s c):=by unfold cmdP;infer_instance
def conP (s:ScX) (c:ConD):Prop:=c.s=0∧reachS s≤c.e∧hasN s.cf c.f=true∧hasN s.cf c.t=true∧backB s.pl c=true
instance (s:ScX) (c:ConD):Decidable (conP s c):=by unfold conP;infer_instance
def roomV (s:ScX) (sum:Int) (c:CfgD):Int:=IntKind.u64.wrap (IntKind.u64.wrap (IntKind.u64.wrap sum+IntKind.u64.wrap (IntKind.u64.wrap (IntKind.i64.wrap ((s.cf.length:Int) - 1))*c.window))+c.low)
def roomP (s:ScX) (sum:Int) (c:CfgD):Prop:=(∀ x∈s.cm,sizeB x.b≤c.window)∧roomV s sum c≤c.quota∧1024≤c.blocks
instance (s:ScX) (sum:Int) (c:CfgD):Decidable (roomP s sum c):=by unfold roomP;infer_instance
def H22 (sm:Summ):Prop:= ∀ (s:ScX) (c:CmdD) (bs br:Nat) (o0 o1 o2:Bool) (m:Mem),bget m.blks 0=some (.row o0 1 headsR)→ScAt m.blks s→ScV s→c∈s.cm→bget m.blks bs=some (.row o1 3 [scC s])→bget m.blks br=some (.row o2 1 [[.int .i64 (reachS s)]])→sm 22 [.agg (cmdC c),.ptr bs 0 0,.ptr br 0 0] m=some (.bool (decide (cmdP s c)),m)
theorem e22 (hF:F 22=some AF22) (hs: ∀ vs m,sm 22 vs m=none) (n:Nat) (h:Blks) (lg d:List Nat) (h21:H21 sm) (h23:H23 sm) (h24:H24 sm) {s:ScX} {c:CmdD} {bs br:Nat} {o0 o1 o2:Bool} (hg:bget h 0=some (.row o0 1 headsR)) (H:ScAt h s) (V:ScV s) (hc:c∈s.cm) (hbs:bget h bs=some (.row o1 3 [scC s])) (hbr:bget h br=some (.row o2 1 [[.int .i64 (reachS s)]])):
    Ev F meth sm (n+2000) 22 [.agg (cmdC c),.ptr bs 0 0,.ptr br 0 0] ⟨h,lg,d⟩ (.bool (decide (cmdP s c))):=by
  refine Ev.ofW ?_
  have hbs':=fun l=>(bxt_old l h bs (bget_lt hbs)).trans hbs
  have hbr':=fun l=>(bxt_old l h br (bget_lt hbr)).trans hbr
  have c1:=H.c.sc
  have c2:=H.p.sc
  have c3:=H.m.sc
  have dd:=V.ok.d c hc
  have g1:=fun l lg d=>h21 c.b o0 ⟨bxt h l,lg,d⟩ ((bxt_old l h 0 (bget_lt hg)).trans hg) (V.ids c hc) dd.1 dd.2
  have g2:=fun l lg d=>h23 s c.b.dest ⟨bxt h l,lg,d⟩ (H.bx l) V.ok.l.c
  unfold scC at hbs' g2
  unfold bunC at g1
  by_cases k1:c.kind=1
  · have sb :=V.sub hc k1
    have be:=bunE_ok sb.2
    have g3:=fun l lg d=>h24 s.pl s.pv c.node.toNat c.b.dest.toNat (sizeB c.b) ⟨bxt h l,lg,d⟩ (H.p.bx l) V.p V.pe V.con (by omega) (by omega) (size_ok sb.2)
    rw[Int.toNat_of_nonneg (by omega),Int.toNat_of_nonneg (by omega)] at g3
    have k1':=eq_true k1
    by_cases k2:c.b.born=0
    · have k2':=eq_true k2
      by_cases k3:c.b.id.n=c.node
      · have k3':=eq_true k3
        by_cases k4:hasN s.cf c.b.dest=true
        · rw[decide_eq_true k4] at g2
          by_cases k5:reachS s<c.b.life
          · have k5':(c.b.life≤reachS s)=False:=by simp;omega
            simp+contextual -implicitDefEqProofs (maxSteps:=1000000) (maxDischargeDepth:=20) only[go_sem,simprocAttr,hs,hF,AF22,cmdC,c1,c2,c3,hbs',hbr',o_ldg,g1,g2,g3,k1',k2',k3',k5']
            unfold cmdP
            by_cases q:isR s.pl (sizeB c.b) c.node.toNat c.b.dest.toNat <;>simp[k1,k2,k3,k4,k5,q]
          · have k5':(c.b.life≤reachS s)=True:=by simp;omega
            have e:decide (cmdP s c)=false:=decide_eq_false fun q=>k5 q.2.2.2.2.1
            rw[e]
            simp+contextual -implicitDefEqProofs (maxSteps:=1000000) (maxDischargeDepth:=20) only[go_sem,simprocAttr,hs,hF,AF22,cmdC,c1,c2,c3,hbs',hbr',o_ldg,g1,g2,g3,k1',k2',k3',k5']
        · rw[decide_eq_false k4] at g2
          have e:decide (cmdP s c)=false:=decide_eq_false fun q=>k4 q.2.2.2.1
          rw[e]
          simp+contextual -implicitDefEqProofs (maxSteps:=1000000) (maxDischargeDepth:=20) only[go_sem,simprocAttr,hs,hF,AF22,cmdC,c1,c2,c3,hbs',hbr',o_ldg,g1,g2,g3,k1',k2',k3']
      · have k3':=eq_false k3
        have e:decide (cmdP s c)=false:=decide_eq_false fun q=>k3 q.2.2.1
        rw[e]
        simp+contextual -implicitDefEqProofs (maxSteps:=1000000) (maxDischargeDepth:=20) only[go_sem,simprocAttr,hs,hF,AF22,cmdC,c1,c2,c3,hbs',hbr',o_ldg,g1,g2,g3,k1',k2',k3']
    · have k2':=eq_false k2
      have e:decide (cmdP s c)=false:=decide_eq_false fun q=>k2 q.2.1
      rw[e]
      simp+contextual -implicitDefEqProofs (maxSteps:=1000000) (maxDischargeDepth:=20) only[go_sem,simprocAttr,hs,hF,AF22,cmdC,c1,c2,c3,hbs',hbr',o_ldg,g1,g2,g3,k1',k2']
  · have k1':=eq_false k1
    have e:decide (cmdP s c)=false:=decide_eq_false fun q=>k1 q.1
    rw[e]
    simp+contextual -implicitDefEqProofs (maxSteps:=1000000) (maxDischargeDepth:=20) only[go_sem,simprocAttr,hs,hF,AF22,cmdC,c1,c2,c3,hbs',hbr',o_ldg,g1,g2,k1']
def H25 (sm:Summ):Prop:= ∀ (s:ScX) (c:ConD) (bs br:Nat) (o1 o2:Bool) (m:Mem),ScAt m.blks s→ScL s→bget m.blks bs=some (.row o1 3 [scC s])→bget m.blks br=some (.row o2 1 [[.int .i64 (reachS s)]])→sm 25 [.agg (conC c),.ptr br 0 0,.ptr bs 0 0] m=some (.bool (decide (conP s c)),m)
theorem e25 (hF:F 25=some AF25) (hs: ∀ vs m,sm 25 vs m=none) (n:Nat) (h:Blks) (lg d:List Nat) (h23:H23 sm) (h27:H27 sm) {s:ScX} {c:ConD} {bs br:Nat} {o1 o2:Bool} (H:ScAt h s) (hl:ScL s) (hbs:bget h bs=some (.row o1 3 [scC s])) (hbr:bget h br=some (.row o2 1 [[.int .i64 (reachS s)]])):
    Ev F meth sm (n+2000) 25 [.agg (conC c),.ptr br 0 0,.ptr bs 0 0] ⟨h,lg,d⟩ (.bool (decide (conP s c))):=by
  refine Ev.ofW ?_
  have hbs':=fun l=>(bxt_old l h bs (bget_lt hbs)).trans hbs
  have hbr':=fun l=>(bxt_old l h br (bget_lt hbr)).trans hbr
  have c1:=H.c.sc
  have c2:=H.p.sc
  have c3:=H.m.sc
  have g1:=fun x l lg d=>h23 s x ⟨bxt h l,lg,d⟩ (H.bx l) hl.c
  have g2:=fun l lg d (q:bnth l 0=some (.row true 6 [conC c]))=>h27 s.pl s.pv c (nb h 0) true ⟨bxt h l,lg,d⟩ (H.p.bx l) hl.p (by rw[nb_get,q])
  unfold scC at hbs' g1
  unfold conC at g2
  simp+contextual -implicitDefEqProofs (maxSteps:=1000000) (maxDischargeDepth:=20) only[go_sem,simprocAttr,hs,hF,AF25,conC,c1,c2,c3,hbs',hbr',o_ldg,g1,g2]
  unfold conP
  by_cases k1:c.s=0 <;>by_cases k2:reachS s≤c.e <;>by_cases k3:hasN s.cf c.f=true <;>by_cases k4:hasN s.cf c.t=true <;>by_cases k5:backB s.pl c=true <;>simp[k1,k2,k3,k4,k5]
def cfgR (c:CfgD):List (List AV):=(cfgC c).map fun x=> [x]
def H29 (sm:Summ):Prop:= ∀ (x:CmdD) (c:CfgD) (b:Nat) (o0 o1:Bool) (m:Mem),bget m.blks 0=some (.row o0 1 headsR)→bget m.blks b=some (.row o1 1 (cfgR c))→0≤x.b.id.s→x.b.data.length≤1000000→I x.b.total→sm 29 [.agg (cmdC x),.ptr b 0 0] m=some (.bool (decide (sizeB x.b≤c.window)),m)
theorem e29 (hF:F 29=some AF29) (hs: ∀ vs m,sm 29 vs m=none) (n:Nat) (h:Blks) (lg d:List Nat) (h21:H21 sm) {x:CmdD} {c:CfgD} {b:Nat} {o0 o1:Bool} (hg:bget h 0=some (.row o0 1 headsR)) (hb:bget h b=some (.row o1 1 (cfgR c))) (hq:0≤x.b.id.s) (w1:x.b.data.length≤1000000) (w2:I x.b.total):
    Ev F meth sm (n+2000) 29 [.agg (cmdC x),.ptr b 0 0] ⟨h,lg,d⟩ (.bool (decide (sizeB x.b≤c.window))):=by
  refine Ev.ofW ?_
  have hb':=fun l=>(bxt_old l h b (bget_lt hb)).trans hb
  simp only[cfgR,cfgC,List.map_cons,List.map_nil] at hb'
  have g1:=fun l lg d=>h21 x.b o0 ⟨bxt h l,lg,d⟩ ((bxt_old l h 0 (bget_lt hg)).trans hg) hq w1 w2
  have sz:=sizeB_le x.b
  have w:IntKind.u64.wrap (sizeB x.b)=sizeB x.b:=wrapU (by omega) (by omega)
  unfold bunC at g1
  simp+contextual -implicitDefEqProofs (maxSteps:=1000000) (maxDischargeDepth:=20) only[go_sem,simprocAttr,hs,hF,AF29,cmdC,hb',o_ldg,g1,w]
def H30b (sm:Summ):Prop:= ∀ (l:List CmdD) (v:AV) (c:CfgD) (b:Nat) (o0 o1:Bool) (m:Mem),bget m.blks 0=some (.row o0 1 headsR)→SlAt m.blks 15 v (l.map cmdC)→l.length≤1000→bget m.blks b=some (.row o1 1 (cfgR c))→(∀ x∈l,0≤x.b.id.s∧x.b.data.length≤1000000∧I x.b.total)→sm 30 [v,.func 29 [] [.ptr b 0 0]] m=some (.bool (decide (∀ x∈l,sizeB x.b≤c.window)),m)
def H28 (sm:Summ):Prop:= ∀ (s:ScX) (c:CfgD) (sum:Int) (bs bt:Nat) (o0 o1 o2:Bool) (m:Mem),bget m.blks 0=some (.row o0 1 headsR)→ScAt m.blks s→ScV s→bget m.blks bs=some (.row o1 3 [scC s])→bget m.blks bt=some (.row o2 1 [[.int .i64 sum]])→sm 28 [.agg (cfgC c),.ptr bs 0 0,.ptr bt 0 0] m=some (.bool (decide (roomP s sum c)),m)
theorem e28 (hF:F 28=some AF28) (hs: ∀ vs m,sm 28 vs m=none) (n:Nat) (h:Blks) (lg d:List Nat) (h30:H30b sm) {s:ScX} {c:CfgD} {sum:Int} {bs bt:Nat} {o0 o1 o2:Bool} (hg:bget h 0=some (.row o0 1 headsR)) (H:ScAt h s) (V:ScV s) (hbs:bget h bs=some (.row o1 3 [scC s])) (hbt:bget h bt=some (.row o2 1 [[.int .i64 sum]])):
    Ev F meth sm (n+2000) 28 [.agg (cfgC c),.ptr bs 0 0,.ptr bt 0 0] ⟨h,lg,d⟩ (.bool (decide (roomP s sum c))):=by
  refine Ev.ofW ?_
  have hbs':=fun l=>(bxt_old l h bs (bget_lt hbs)).trans hbs
  have hbt':=fun l=>(bxt_old l h bt (bget_lt hbt)).trans hbt
  have c1:=H.c.sc
  have c2:=H.p.sc
  have c3:=H.m.sc
  have lc:=H.c.len
  have g1:=fun l lg d (q:bnth l 0=some (.row true 1 (cfgR c)))=>h30 s.cm s.mv c (nb h 0) o0 true ⟨bxt h l,lg,d⟩ ((bxt_old l h 0 (bget_lt hg)).trans hg) (H.m.bx l) V.ok.l.m (by rw[nb_get,q]) (fun x hx=>⟨V.ids x hx,V.ok.d x hx⟩)
  unfold scC at hbs'
  simp only[cfgR,cfgC,List.map_cons,List.map_nil] at g1
  simp+contextual -implicitDefEqProofs (maxSteps:=1000000) (maxDischargeDepth:=20) only[go_sem,simprocAttr,hs,hF,AF28,cfgC,c1,c2,c3,lc,List.length_map,hbs',hbt',o_ldg,g1]
  by_cases k1: ∀ x∈s.cm,sizeB x.b≤c.window
  · by_cases k2:roomV s sum c≤c.quota
    · have e:decide (roomP s sum c)=decide (1024≤c.blocks):=decide_eq_decide.2 ⟨fun q=>q.2.2,fun q=>⟨k1,k2,q⟩⟩
      rw[e]
      exact ⟨fun _=>⟨fun _=>rfl,fun q=>absurd k2 q⟩,fun q=>absurd k1 q⟩
    · have e:decide (roomP s sum c)=false:=decide_eq_false fun q=>k2 q.2.1
      rw[e]
      exact ⟨fun _=>⟨fun q=>absurd q k2,fun q=>rfl⟩,fun q=>absurd k1 q⟩
  · have e:decide (roomP s sum c)=false:=decide_eq_false fun q=>k1 q.1
    rw[e]
    exact ⟨fun q=>absurd q k1,fun _=>rfl⟩
end
section
variable {F:FuncId→Option AFunc} {meth:Meth} {sm:Summ}
theorem e30 (hF:F 30=some AF30) (hs: ∀ vs m,sm 30 vs m=none) (n:Nat) (h:Blks) (lg d:List Nat) {kf:FuncId} {caps:List AV} {P:CmdD→Prop} [DecidablePred P] {l:List CmdD} {v:AV} (hv:SlAt h 15 v (l.map cmdC)) (hw:l.length≤1000)
    (hk: ∀ x∈l,∀ h2 lg2 d2,Old h h2→sm kf (.agg (cmdC x)::caps) ⟨h2,lg2,d2⟩=some (.bool (decide (P x)),⟨h2,lg2,d2⟩)):Ev F meth sm (n+2000) 30 [v,.func kf [] caps] ⟨h,lg,d⟩ (.bool (decide (∀ x∈l,P x))):=by
  refine Ev.ofW ?_
  have lv:=hv.len
  simp+contextual -implicitDefEqProofs (maxSteps:=1000000) (maxDischargeDepth:=20) only[go_sem,simprocAttr,hs,hF,AF30,lv,List.length_map]
  refine WloopK l.length [X9] (fun i=> [.int .i64 i]) (fun i=> ∀ j,j<i→P (gt l j)) (by omega) (by repeat first |apply Cl_b |apply Cl_q |apply Cl_r) ⟨rfl,fun j hj=>absurd hj (by omega)⟩ (fun i h' lg' g hi hP hK=> ?_) (fun h' lg' g hP hK=> ?_)
  · have a:=hK.all (lg:=lg) (d:=d) (by repeat first |exact LogOK.nil |apply LogOK.cons)
    have e:=(hK.sl hv).el hi
    have r:=rnd hi (by omega)
    have mi:gt l i∈l:=by rw[gt_eq hi];exact List.getElem_mem _
    have g1:=fun l' lg d=>hk (gt l i) mi (bxt h' l') lg d ((show Old h h' from ⟨hK.len,hK.get⟩).bx l')
    by_cases q:P (gt l i)
    · rw[decide_eq_true q] at g1
      unfold cmdC at e g1
      simp+contextual -implicitDefEqProofs (maxSteps:=1000000) (maxDischargeDepth:=20) only[go_sem,simprocAttr,a,e,r,g1]
      intro j hj
      rcases Nat.lt_or_ge j i with c |c
      · exact hP j c
      · rw[show j=i by omega];exact q
    · rw[decide_eq_false q] at g1
      have e0:decide (∀ x∈l,P x)=false:=decide_eq_false fun c=>q (c _ mi)
      rw[e0]
      unfold cmdC at e g1
      simp+contextual -implicitDefEqProofs (maxSteps:=1000000) (maxDischargeDepth:=20) only[go_sem,simprocAttr,a,e,r,g1]
  · have a:=hK.all (lg:=lg) (d:=d) (by repeat first |exact LogOK.nil |apply LogOK.cons)
    have r:=rndl l.length
    have e0:decide (∀ x∈l,P x)=true:=decide_eq_true fun x hx=>by
      obtain ⟨i,hi,rfl⟩:=List.getElem_of_mem hx
      have:=hP i hi
      rw[gt_eq hi] at this
      exact this
    rw[e0]
    simp+contextual -implicitDefEqProofs (maxSteps:=1000000) (maxDischargeDepth:=20) only[go_sem,simprocAttr,a,r]
theorem e33 (hF:F 33=some AF33) (hs: ∀ vs m,sm 33 vs m=none) (n:Nat) (h:Blks) (lg d:List Nat) {kf:FuncId} {caps:List AV} {P:ConD→Prop} [DecidablePred P] {l:List ConD} {v:AV} (hv:SlAt h 6 v (l.map conC)) (hw:l.length≤1000)
    (hk: ∀ x∈l,∀ h2 lg2 d2,Old h h2→sm kf (.agg (conC x)::caps) ⟨h2,lg2,d2⟩=some (.bool (decide (P x)),⟨h2,lg2,d2⟩)):Ev F meth sm (n+2000) 33 [v,.func kf [] caps] ⟨h,lg,d⟩ (.bool (decide (∀ x∈l,P x))):=by
  refine Ev.ofW ?_
  have lv:=hv.len
  simp+contextual -implicitDefEqProofs (maxSteps:=1000000) (maxDischargeDepth:=20) only[go_sem,simprocAttr,hs,hF,AF33,lv,List.length_map]
  refine WloopK l.length [X9] (fun i=> [.int .i64 i]) (fun i=> ∀ j,j<i→P (gt l j)) (by omega) (by repeat first |apply Cl_b |apply Cl_q |apply Cl_r) ⟨rfl,fun j hj=>absurd hj (by omega)⟩ (fun i h' lg' g hi hP hK=> ?_) (fun h' lg' g hP hK=> ?_)
  · have a:=hK.all (lg:=lg) (d:=d) (by repeat first |exact LogOK.nil |apply LogOK.cons)
    have e:=(hK.sl hv).el hi
    have r:=rnd hi (by omega)
    have mi:gt l i∈l:=by rw[gt_eq hi];exact List.getElem_mem _
    have g1:=fun l' lg d=>hk (gt l i) mi (bxt h' l') lg d ((show Old h h' from ⟨hK.len,hK.get⟩).bx l')
    by_cases q:P (gt l i)
    · rw[decide_eq_true q] at g1
      unfold conC at e g1
      simp+contextual -implicitDefEqProofs (maxSteps:=1000000) (maxDischargeDepth:=20) only[go_sem,simprocAttr,a,e,r,g1]
      intro j hj
      rcases Nat.lt_or_ge j i with c |c
      · exact hP j c
      · rw[show j=i by omega];exact q
    · rw[decide_eq_false q] at g1
      have e0:decide (∀ x∈l,P x)=false:=decide_eq_false fun c=>q (c _ mi)
      rw[e0]
      unfold conC at e g1
      simp+contextual -implicitDefEqProofs (maxSteps:=1000000) (maxDischargeDepth:=20) only[go_sem,simprocAttr,a,e,r,g1]
  · have a:=hK.all (lg:=lg) (d:=d) (by repeat first |exact LogOK.nil |apply LogOK.cons)
    have r:=rndl l.length
    have e0:decide (∀ x∈l,P x)=true:=decide_eq_true fun x hx=>by
      obtain ⟨i,hi,rfl⟩:=List.getElem_of_mem hx
      have:=hP i hi
      rw[gt_eq hi] at this
      exact this
    rw[e0]
    simp+contextual -implicitDefEqProofs (maxSteps:=1000000) (maxDischargeDepth:=20) only[go_sem,simprocAttr,a,r]
theorem e35 (hF:F 35=some AF35) (hs: ∀ vs m,sm 35 vs m=none) (n:Nat) (h:Blks) (lg d:List Nat) {kf:FuncId} {caps:List AV} {P:CfgD→Prop} [DecidablePred P] {l:List CfgD} {v:AV} (hv:SlAt h 16 v (l.map cfgC)) (hw:l.length≤1000)
    (hk: ∀ x∈l,∀ h2 lg2 d2,Old h h2→sm kf (.agg (cfgC x)::caps) ⟨h2,lg2,d2⟩=some (.bool (decide (P x)),⟨h2,lg2,d2⟩)):Ev F meth sm (n+2000) 35 [v,.func kf [] caps] ⟨h,lg,d⟩ (.bool (decide (∀ x∈l,P x))):=by
  refine Ev.ofW ?_
  have lv:=hv.len
  simp+contextual -implicitDefEqProofs (maxSteps:=1000000) (maxDischargeDepth:=20) only[go_sem,simprocAttr,hs,hF,AF35,lv,List.length_map]
  refine WloopK l.length [X9] (fun i=> [.int .i64 i]) (fun i=> ∀ j,j<i→P (gt l j)) (by omega) (by repeat first |apply Cl_b |apply Cl_q |apply Cl_r) ⟨rfl,fun j hj=>absurd hj (by omega)⟩ (fun i h' lg' g hi hP hK=> ?_) (fun h' lg' g hP hK=> ?_)
  · have a:=hK.all (lg:=lg) (d:=d) (by repeat first |exact LogOK.nil |apply LogOK.cons)
    have e:=(hK.sl hv).el hi
    have r:=rnd hi (by omega)
    have mi:gt l i∈l:=by rw[gt_eq hi];exact List.getElem_mem _
    have g1:=fun l' lg d=>hk (gt l i) mi (bxt h' l') lg d ((show Old h h' from ⟨hK.len,hK.get⟩).bx l')
    by_cases q:P (gt l i)
    · rw[decide_eq_true q] at g1
      unfold cfgC at e g1
      simp+contextual -implicitDefEqProofs (maxSteps:=1000000) (maxDischargeDepth:=20) only[go_sem,simprocAttr,a,e,r,g1]
      intro j hj
      rcases Nat.lt_or_ge j i with c |c
      · exact hP j c
      · rw[show j=i by omega];exact q
    · rw[decide_eq_false q] at g1
      have e0:decide (∀ x∈l,P x)=false:=decide_eq_false fun c=>q (c _ mi)
      rw[e0]
      unfold cfgC at e g1
      simp+contextual -implicitDefEqProofs (maxSteps:=1000000) (maxDischargeDepth:=20) only[go_sem,simprocAttr,a,e,r,g1]
  · have a:=hK.all (lg:=lg) (d:=d) (by repeat first |exact LogOK.nil |apply LogOK.cons)
    have r:=rndl l.length
    have e0:decide (∀ x∈l,P x)=true:=decide_eq_true fun x hx=>by
      obtain ⟨i,hi,rfl⟩:=List.getElem_of_mem hx
      have:=hP i hi
      rw[gt_eq hi] at this
      exact this
    rw[e0]
    simp+contextual -implicitDefEqProofs (maxSteps:=1000000) (maxDischargeDepth:=20) only[go_sem,simprocAttr,a,r]
def H30a (sm:Summ):Prop:= ∀ (s:ScX) (bs br:Nat) (o0 o1 o2:Bool) (m:Mem),bget m.blks 0=some (.row o0 1 headsR)→ScAt m.blks s→ScV s→bget m.blks bs=some (.row o1 3 [scC s])→bget m.blks br=some (.row o2 1 [[.int .i64 (reachS s)]])→sm 30 [s.mv,.func 22 [] [.ptr bs 0 0,.ptr br 0 0]] m=some (.bool (decide (∀ c∈s.cm,cmdP s c)),m)
theorem e30a (hF:F 30=some AF30) (hs: ∀ vs m,sm 30 vs m=none) (n:Nat) (h:Blks) (lg d:List Nat) (h22:H22 sm) {s:ScX} {bs br:Nat} {o0 o1 o2:Bool} (hg:bget h 0=some (.row o0 1 headsR)) (H:ScAt h s) (V:ScV s) (hbs:bget h bs=some (.row o1 3 [scC s])) (hbr:bget h br=some (.row o2 1 [[.int .i64 (reachS s)]])):
    Ev F meth sm (n+2000) 30 [s.mv,.func 22 [] [.ptr bs 0 0,.ptr br 0 0]] ⟨h,lg,d⟩ (.bool (decide (∀ c∈s.cm,cmdP s c))):=
  e30 hF hs n h lg d H.m V.ok.l.m fun x hx h2 lg2 d2 o=>h22 s x bs br o0 o1 o2 ⟨h2,lg2,d2⟩ (o.get hg) (H.old o) V hx (o.get hbs) (o.get hbr)
theorem e30b (hF:F 30=some AF30) (hs: ∀ vs m,sm 30 vs m=none) (n:Nat) (h:Blks) (lg d:List Nat) (h29:H29 sm) {l:List CmdD} {v:AV} {c:CfgD} {b:Nat} {o0 o1:Bool} (hg:bget h 0=some (.row o0 1 headsR)) (hv:SlAt h 15 v (l.map cmdC)) (hw:l.length≤1000) (hb:bget h b=some (.row o1 1 (cfgR c))) (hx: ∀ x∈l,0≤x.b.id.s∧x.b.data.length≤1000000∧I x.b.total):
    Ev F meth sm (n+2000) 30 [v,.func 29 [] [.ptr b 0 0]] ⟨h,lg,d⟩ (.bool (decide (∀ x∈l,sizeB x.b≤c.window))):=
  e30 hF hs n h lg d hv hw fun x hm h2 lg2 d2 o=>h29 x c b o0 o1 ⟨h2,lg2,d2⟩ (o.get hg) (o.get hb) (hx x hm).1 (hx x hm).2.1 (hx x hm).2.2
def H33 (sm:Summ):Prop:= ∀ (s:ScX) (bs br:Nat) (o1 o2:Bool) (m:Mem),ScAt m.blks s→ScL s→bget m.blks bs=some (.row o1 3 [scC s])→bget m.blks br=some (.row o2 1 [[.int .i64 (reachS s)]])→sm 33 [s.pv,.func 25 [] [.ptr br 0 0,.ptr bs 0 0]] m=some (.bool (decide (∀ c∈s.pl,conP s c)),m)
theorem e33a (hF:F 33=some AF33) (hs: ∀ vs m,sm 33 vs m=none) (n:Nat) (h:Blks) (lg d:List Nat) (h25:H25 sm) {s:ScX} {bs br:Nat} {o1 o2:Bool} (H:ScAt h s) (hl:ScL s) (hbs:bget h bs=some (.row o1 3 [scC s])) (hbr:bget h br=some (.row o2 1 [[.int .i64 (reachS s)]])):
    Ev F meth sm (n+2000) 33 [s.pv,.func 25 [] [.ptr br 0 0,.ptr bs 0 0]] ⟨h,lg,d⟩ (.bool (decide (∀ c∈s.pl,conP s c))):=
  e33 hF hs n h lg d H.p hl.p fun x hx h2 lg2 d2 o=>h25 s x bs br o1 o2 ⟨h2,lg2,d2⟩ (H.old o) hl (o.get hbs) (o.get hbr)
def H35 (sm:Summ):Prop:= ∀ (s:ScX) (sum:Int) (bs bt:Nat) (o0 o1 o2:Bool) (m:Mem),bget m.blks 0=some (.row o0 1 headsR)→ScAt m.blks s→ScV s→bget m.blks bs=some (.row o1 3 [scC s])→bget m.blks bt=some (.row o2 1 [[.int .i64 sum]])→sm 35 [s.cv,.func 28 [] [.ptr bs 0 0,.ptr bt 0 0]] m=some (.bool (decide (∀ c∈s.cf,roomP s sum c)),m)
theorem e35a (hF:F 35=some AF35) (hs: ∀ vs m,sm 35 vs m=none) (n:Nat) (h:Blks) (lg d:List Nat) (h28:H28 sm) {s:ScX} {sum:Int} {bs bt:Nat} {o0 o1 o2:Bool} (hg:bget h 0=some (.row o0 1 headsR)) (H:ScAt h s) (V:ScV s) (hbs:bget h bs=some (.row o1 3 [scC s])) (hbt:bget h bt=some (.row o2 1 [[.int .i64 sum]])):
    Ev F meth sm (n+2000) 35 [s.cv,.func 28 [] [.ptr bs 0 0,.ptr bt 0 0]] ⟨h,lg,d⟩ (.bool (decide (∀ c∈s.cf,roomP s sum c))):=
  e35 hF hs n h lg d H.c V.ok.l.c fun x hx h2 lg2 d2 o=>h28 s x sum bs bt o0 o1 o2 ⟨h2,lg2,d2⟩ (o.get hg) (H.old o) V (o.get hbs) (o.get hbt)
def H31 (sm:Summ):Prop:= ∀ (s:ScX) (bs br bf:Nat) (o0 o1 o2 o3:Bool) (m:Mem),bget m.blks 0=some (.row o0 1 headsR)→ScAt m.blks s→ScV s→bget m.blks bs=some (.row o1 3 [scC s])→bget m.blks br=some (.row o2 1 [[.int .i64 (reachS s)]])→bget m.blks bf=some (.row o3 1 [[.func 22 [] [.ptr bs 0 0,.ptr br 0 0]]])→
    sm 31 [.ptr bs 0 0,.ptr bf 0 0] m=some (.bool (decide (s.cm.length≤30∧ ∀ c∈s.cm,cmdP s c)),m)
theorem e31 (hF:F 31=some AF31) (hs: ∀ vs m,sm 31 vs m=none) (n:Nat) (h:Blks) (lg d:List Nat) (h30:H30a sm) {s:ScX} {bs br bf:Nat} {o0 o1 o2 o3:Bool} (hg:bget h 0=some (.row o0 1 headsR)) (H:ScAt h s) (V:ScV s) (hbs:bget h bs=some (.row o1 3 [scC s])) (hbr:bget h br=some (.row o2 1 [[.int .i64 (reachS s)]])) (hbf:bget h bf=some (.row o3 1 [[.func 22 [] [.ptr bs 0 0,.ptr br 0 0]]])):
    Ev F meth sm (n+2000) 31 [.ptr bs 0 0,.ptr bf 0 0] ⟨h,lg,d⟩ (.bool (decide (s.cm.length≤30∧ ∀ c∈s.cm,cmdP s c))):=by
  refine Ev.ofW ?_
  have hbs':=fun l=>(bxt_old l h bs (bget_lt hbs)).trans hbs
  have hbf':=fun l=>(bxt_old l h bf (bget_lt hbf)).trans hbf
  have c3:=H.m.sc
  have lm:=H.m.len
  have o:=Old.refl h
  have g1:=fun l lg d=>h30 s bs br o0 o1 o2 ⟨bxt h l,lg,d⟩ ((o.bx l).get hg) (H.bx l) V ((o.bx l).get hbs) ((o.bx l).get hbr)
  unfold scC at hbs'
  by_cases q:s.cm.length≤30
  · have q':((s.cm.length:Int)≤30)=True:=by simp;omega
    have e:decide (s.cm.length≤30∧ ∀ c∈s.cm,cmdP s c)=decide (∀ c∈s.cm,cmdP s c):=decide_eq_decide.2 ⟨fun x=>x.2,fun x=>⟨q,x⟩⟩
    rw[e]
    simp+contextual -implicitDefEqProofs (maxSteps:=1000000) (maxDischargeDepth:=20) only[go_sem,simprocAttr,hs,hF,AF31,c3,lm,List.length_map,hbs',hbf',o_ldg,g1,q']
  · have q':((s.cm.length:Int)≤30)=False:=by simp;omega
    have e:decide (s.cm.length≤30∧ ∀ c∈s.cm,cmdP s c)=false:=decide_eq_false fun x=>q x.1
    rw[e]
    simp+contextual -implicitDefEqProofs (maxSteps:=1000000) (maxDischargeDepth:=20) only[go_sem,simprocAttr,hs,hF,AF31,c3,lm,List.length_map,hbs',hbf',o_ldg,g1,q']
def H32 (sm:Summ):Prop:= ∀ (s:ScX) (bs br bf:Nat) (o1 o2 o3:Bool) (m:Mem),ScAt m.blks s→ScL s→bget m.blks bs=some (.row o1 3 [scC s])→bget m.blks br=some (.row o2 1 [[.int .i64 (reachS s)]])→bget m.blks bf=some (.row o3 1 [[.func 25 [] [.ptr br 0 0,.ptr bs 0 0]]])→
    sm 32 [.ptr bs 0 0,.ptr bf 0 0] m=some (.bool (decide (∀ c∈s.pl,conP s c)),m)
theorem e32 (hF:F 32=some AF32) (hs: ∀ vs m,sm 32 vs m=none) (n:Nat) (h:Blks) (lg d:List Nat) (h33:H33 sm) {s:ScX} {bs br bf:Nat} {o1 o2 o3:Bool} (H:ScAt h s) (hl:ScL s) (hbs:bget h bs=some (.row o1 3 [scC s])) (hbr:bget h br=some (.row o2 1 [[.int .i64 (reachS s)]])) (hbf:bget h bf=some (.row o3 1 [[.func 25 [] [.ptr br 0 0,.ptr bs 0 0]]])):
    Ev F meth sm (n+2000) 32 [.ptr bs 0 0,.ptr bf 0 0] ⟨h,lg,d⟩ (.bool (decide (∀ c∈s.pl,conP s c))):=by
  refine Ev.ofW ?_
  have hbs':=fun l=>(bxt_old l h bs (bget_lt hbs)).trans hbs
  have hbf':=fun l=>(bxt_old l h bf (bget_lt hbf)).trans hbf
  have c2:=H.p.sc
  have o:=Old.refl h
  have g1:=fun l lg d=>h33 s bs br o1 o2 ⟨bxt h l,lg,d⟩ (H.bx l) hl ((o.bx l).get hbs) ((o.bx l).get hbr)
  unfold scC at hbs'
  simp+contextual -implicitDefEqProofs (maxSteps:=1000000) (maxDischargeDepth:=20) only[go_sem,simprocAttr,hs,hF,AF32,c2,hbs',hbf',o_ldg,g1]
def H34 (sm:Summ):Prop:= ∀ (s:ScX) (sum:Int) (bs bt bf:Nat) (o0 o1 o2 o3:Bool) (m:Mem),bget m.blks 0=some (.row o0 1 headsR)→ScAt m.blks s→ScV s→bget m.blks bs=some (.row o1 3 [scC s])→bget m.blks bt=some (.row o2 1 [[.int .i64 sum]])→bget m.blks bf=some (.row o3 1 [[.func 28 [] [.ptr bs 0 0,.ptr bt 0 0]]])→
    sm 34 [.ptr bt 0 0,.ptr bs 0 0,.ptr bf 0 0] m=some (.bool (decide (sum≤8000∧ ∀ c∈s.cf,roomP s sum c)),m)
theorem e34 (hF:F 34=some AF34) (hs: ∀ vs m,sm 34 vs m=none) (n:Nat) (h:Blks) (lg d:List Nat) (h35:H35 sm) {s:ScX} {sum:Int} {bs bt bf:Nat} {o0 o1 o2 o3:Bool} (hg:bget h 0=some (.row o0 1 headsR)) (H:ScAt h s) (V:ScV s) (hbs:bget h bs=some (.row o1 3 [scC s])) (hbt:bget h bt=some (.row o2 1 [[.int .i64 sum]])) (hbf:bget h bf=some (.row o3 1 [[.func 28 [] [.ptr bs 0 0,.ptr bt 0 0]]])):
    Ev F meth sm (n+2000) 34 [.ptr bt 0 0,.ptr bs 0 0,.ptr bf 0 0] ⟨h,lg,d⟩ (.bool (decide (sum≤8000∧ ∀ c∈s.cf,roomP s sum c))):=by
  refine Ev.ofW ?_
  have hbs':=fun l=>(bxt_old l h bs (bget_lt hbs)).trans hbs
  have hbt':=fun l=>(bxt_old l h bt (bget_lt hbt)).trans hbt
  have hbf':=fun l=>(bxt_old l h bf (bget_lt hbf)).trans hbf
  have c1:=H.c.sc
  have o:=Old.refl h
  have g1:=fun l lg d=>h35 s sum bs bt o0 o1 o2 ⟨bxt h l,lg,d⟩ ((o.bx l).get hg) (H.bx l) V ((o.bx l).get hbs) ((o.bx l).get hbt)
  unfold scC at hbs'
  by_cases q:sum≤8000
  · have q':=eq_true q
    have e:decide (sum≤8000∧ ∀ c∈s.cf,roomP s sum c)=decide (∀ c∈s.cf,roomP s sum c):=decide_eq_decide.2 ⟨fun x=>x.2,fun x=>⟨q,x⟩⟩
    rw[e]
    simp+contextual -implicitDefEqProofs (maxSteps:=1000000) (maxDischargeDepth:=20) only[go_sem,simprocAttr,hs,hF,AF34,c1,hbs',hbt',hbf',o_ldg,g1,q']
  · have q':=eq_false q
    have e:decide (sum≤8000∧ ∀ c∈s.cf,roomP s sum c)=false:=decide_eq_false fun x=>q x.1
    rw[e]
    simp+contextual -implicitDefEqProofs (maxSteps:=1000000) (maxDischargeDepth:=20) only[go_sem,simprocAttr,hs,hF,AF34,c1,hbs',hbt',hbf',o_ldg,g1,q']
end
section
variable {F:FuncId→Option AFunc} {meth:Meth} {sm:Summ}
def szC (c:CmdD):Int:=if c.kind=1 then sizeB c.b else 0
def sumS (l:List CmdD):Int:=(l.map szC).sum
theorem szC_ok (c:CmdD):0≤szC c∧szC c≤2000:=by
  unfold szC
  split
  · exact sizeB_le _
  · omega
theorem sumS_ok: ∀ l:List CmdD,0≤sumS l∧sumS l≤2000*l.length
  | []=>by simp[sumS]
  | c::l=>by
    have:=sumS_ok l
    have:=szC_ok c
    unfold sumS at*
    rw[List.map_cons,List.sum_cons,List.length_cons]
    omega
theorem sumS_step {l:List CmdD} {i:Nat} (hi:i<l.length):sumS (l.take (i+1))=sumS (l.take i)+szC (gt l i):=by
  rw[gt_eq hi,List.take_add_one,List.getElem?_eq_getElem hi]
  unfold sumS
  show ((l.take i++ [l[i]]).map szC).sum=_
  rw[List.map_append,List.sum_append,List.map_singleton,List.sum_singleton]
def lightP (s:ScX):Prop:=(s.cm.length≤30∧ ∀ c∈s.cm,cmdP s c)∧(∀ c∈s.pl,conP s c)∧(sumS s.cm≤8000∧ ∀ c∈s.cf,roomP s (sumS s.cm) c)
instance (s:ScX):Decidable (lightP s):=by unfold lightP;infer_instance
def outL (s:ScX):AV:= .tuple [.bool (decide ((scE s).1=0∧lightP s)),.agg [.int .i64 (if (scE s).1≠0 then (scE s).1 else 0),.int .i64 (if (scE s).1≠0 then (scE s).2 else 0)]]
structure ScW (s:ScX):Prop where
  ok:ScOK s
  p:s.pl.length≤40
  ids: ∀ c∈s.cm,0≤c.b.id.s
  q: ∀ c∈s.cf,U c.quota∧U c.window∧U c.low
theorem ScW.v {s:ScX} (W:ScW s) (z:(scE s).1=0):ScV s:=⟨W.ok,z,W.p,W.ids,W.q⟩
def H6 (sm:Summ):Prop:= ∀ (s:ScX) (o0 o1:Bool) (m:Mem),bget m.blks 0=some (.row o0 1 headsR)→bget m.blks 1=some (.row o1 8 usesR)→ScAt m.blks s→ScW s→sm 6 [.agg (scC s)] m=some (outL s,m)
theorem e6 (hF:F 6=some AF6) (hs: ∀ vs m,sm 6 vs m=none) (n:Nat) (h:Blks) (lg d:List Nat) (h18:H18 sm) (h19:H19 sm) (h20:H20 sm) (h21:H21 sm) (h31:H31 sm) (h32:H32 sm) (h34:H34 sm) {s:ScX} {o0 o1:Bool} (hg:bget h 0=some (.row o0 1 headsR)) (hu:bget h 1=some (.row o1 8 usesR)) (H:ScAt h s) (W:ScW s):
    Ev F meth sm (n+2000) 6 [.agg (scC s)] ⟨h,lg,d⟩ (outL s):=by
  refine Ev.ofW ?_
  have c1:=H.c.sc
  have c2:=H.p.sc
  have c3:=H.m.sc
  have hl:=W.ok
  have g1:=fun l lg d=>h18 s o1 ⟨bxt h l,lg,d⟩ ((bxt_old l h 1 (bget_lt hu)).trans hu) (H.bx l) hl.l hl.c hl.d
  have l1:=hl.l.c
  have l2:=hl.l.m
  unfold scC at g1
  unfold outL
  by_cases z:(scE s).1=0
  · have V:=W.v z
    have cv:=scE_con z
    have g2:=fun l lg d=>h19 s ⟨bxt h l,lg,d⟩ (H.bx l) cv hl.l
    have ro:1≤pR s:=(rateP_ok cv s.pl.length (Nat.le_refl _)).1
    have od:0≤pD s∧pD s≤1048576:=delayP_ok cv s.pl.length (Nat.le_refl _)
    have g3:=fun m=>h20 s.cf.length s.cm.length (pR s) (pD s) m (by omega) (by omega) ro od
    have rs:reachT s.cf.length s.cm.length (pR s) (pD s)=reachS s:=rfl
    rw[rs] at g3
    unfold scC at g2
    unfold termC at g2 g3
    have lm:=H.m.len
    rw[z,if_neg (by omega),if_neg (by omega)]
    simp+contextual -implicitDefEqProofs (maxSteps:=1000000) (maxDischargeDepth:=20) only[go_sem,simprocAttr,hs,hF,AF6,scC,c1,c2,c3,g1,g2,g3,z,lm,List.length_map,r_vc,r_vp,mskO,Mem.more,bmore,nb_more,List.filter_nil,List.flatMap_nil,List.filter_cons,List.flatMap_cons,List.map_nil,List.map_cons,mask,unmask,AOp.reads,AOpnd.top,top_p,top_s,top_m,top_i,top_b,top_t,top_a,top_u,top_ns,top_s0,top_d,top_f,nb_beq,nb_blt,nb_add,nidOf,slotIn,Nat.beq_refl,clash,Bool.or_self,List.any_nil,List.any_cons,AOp.isMaker]
    refine WloopV s.cm.length [X26] (fun i=> [.int .i64 i]) (fun i m'=>Keep ⟨h,lg,[]⟩ m'∧bget m'.blks (nb h 0)=some (.row true 3 [scC s])∧bget m'.blks (nb h 1)=some (.row true 2 [[.int .i64 0,.int .i64 0]])∧bget m'.blks (nb h 3)=some (.row true 1 [[.int .i64 (reachS s)]])∧bget m'.blks (nb h 4)=some (.row true 1 [[.int .i64 (sumS (s.cm.take i))]])) (by omega) (by repeat first |apply Cl_b |apply Cl_q |apply Cl_r) ⟨rfl,keep_bx (by repeat first |exact LogOK.nil |apply LogOK.cons),nb_get,nb_get,nb_get,nb_get⟩ (fun i m g hi hP=> ?_) (fun m g hP=> ?_)
    · obtain ⟨h3,lg3,d3⟩:=m
      obtain ⟨k,b0,b1,b3,b4⟩:=hP
      obtain rfl:d3=[]:=k.dfrs
      simp only at b0 b1 b3 b4
      have e:=(SlAt.keep (m:=⟨h,lg,[]⟩) (m':=⟨h3,lg3,[]⟩) H.m k).el hi
      have r:=rnd hi (by omega)
      have mi:gt s.cm i∈s.cm:=by rw[gt_eq hi];exact List.getElem_mem _
      have dd:=hl.d _ mi
      have g4:=fun l lg d=>h21 (gt s.cm i).b o0 ⟨bxt h3 l,lg,d⟩ ((k.old.bx l).get hg) (W.ids _ mi) dd.1 dd.2
      have b4':=fun l=>(bxt_old l h3 _ (bget_lt b4)).trans b4
      have l4:nb h 4<h3.length:=bget_lt b4
      have l0:nb h 0<h3.length:=bget_lt b0
      have l1':nb h 1<h3.length:=bget_lt b1
      have l3:nb h 3<h3.length:=bget_lt b3
      have o:=old_blk l4
      have q4: ∀ j,Nat.beq (nb h3 j) (nb h 4)=false:=fun j=>nb_beq_ne' l4
      have q5: ∀ j,Nat.beq (nb h 4) (nb h3 j)=false:=fun j=>nb_beq_ne l4
      have ss:=sumS_step hi
      have so:=sumS_ok (s.cm.take i)
      have sz:=szC_ok (gt s.cm i)
      have lt:(s.cm.take i).length≤1000:=by rw[List.length_take];omega
      refine Wc_bx ?_
      by_cases k1:(gt s.cm i).kind=1
      · have k1':=eq_true k1
        have es:szC (gt s.cm i)=sizeB (gt s.cm i).b:=by unfold szC;rw[if_pos k1]
        rw[es] at ss sz
        have w:IntKind.i64.wrap (sumS (s.cm.take i)+sizeB (gt s.cm i).b)=sumS (s.cm.take (i+1)):=by rw[ss];exact wrapI (by omega) (by omega)
        unfold cmdC at e
        unfold bunC at g4
        simp+contextual -implicitDefEqProofs (maxSteps:=1000000) (maxDischargeDepth:=20) only[go_sem,simprocAttr,e,r,g4,b4',k1',w,o,q4,q5,r_vc,r_vp,mskO,Mem.more,bmore,nb_more,List.filter_nil,List.flatMap_nil,List.filter_cons,List.flatMap_cons,List.map_nil,List.map_cons,mask,unmask,AOp.reads,AOpnd.top,top_p,top_s,top_m,top_i,top_b,top_t,top_a,top_u,top_ns,top_s0,top_d,top_f,nb_beq,nb_blt,nb_add,nidOf,slotIn,Nat.beq_refl,clash,Bool.or_self,List.any_nil,List.any_cons,AOp.isMaker]
        exact ⟨k.own nb_ge l4 _ _ (LgG.ok (by repeat first |exact LgG.nil |refine LgG.cons (by first |exact nb_ge |exact Nat.le_trans (k.len) nb_ge |assumption) ?_)),(old_get l4 l0 (by rw[ne_eq,nb_inj];omega) _ _).trans b0,(old_get l4 l1' (by rw[ne_eq,nb_inj];omega) _ _).trans b1,(old_get l4 l3 (by rw[ne_eq,nb_inj];omega) _ _).trans b3⟩
      · have k1':=eq_false k1
        have es:szC (gt s.cm i)=0:=by unfold szC;rw[if_neg k1]
        rw[es,Int.add_zero] at ss
        unfold cmdC at e
        simp+contextual -implicitDefEqProofs (maxSteps:=1000000) (maxDischargeDepth:=20) only[go_sem,simprocAttr,e,r,k1']
        exact ⟨k.trans (keep_bx (by repeat first |exact LogOK.nil |apply LogOK.cons)),(bxt_old _ h3 _ l0).trans b0,(bxt_old _ h3 _ l1').trans b1,(bxt_old _ h3 _ l3).trans b3,by rw[ss];exact b4' _⟩
    · obtain ⟨h3,lg3,d3⟩:=m
      obtain ⟨k,b0,b1,b3,b4⟩:=hP
      obtain rfl:d3=[]:=k.dfrs
      simp only at b0 b1 b3 b4
      rw[List.take_length] at b4
      have r:=rndl s.cm.length
      refine Wc_bx ?_
      simp+contextual -implicitDefEqProofs (maxSteps:=1000000) (maxDischargeDepth:=20) only[go_sem,simprocAttr,r]
      have l1':nb h 1<h3.length:=bget_lt b1
      have l0:nb h 0<h3.length:=bget_lt b0
      have l3:nb h 3<h3.length:=bget_lt b3
      have l4:nb h 4<h3.length:=bget_lt b4
      have K:=k.old
      have o:=old_blk l1'
      have b1':=fun l=>(bxt_old l h3 _ l1').trans b1
      have H3:=H.old K
      have g31:=fun l lg d (q:bnth l 0=some (.row true 1 [[.func 22 [] [.ptr (nb h 0) 0 0,.ptr (nb h 3) 0 0]]]))=>h31 s (nb h 0) (nb h 3) (nb h3 0) o0 true true true ⟨bxt h3 l,lg,d⟩ ((K.bx l).get hg) (H3.bx l) V ((bxt_old l h3 _ l0).trans b0) ((bxt_old l h3 _ l3).trans b3) (by rw[nb_get,q])
      have g32:=fun l lg d (q:bnth l 1=some (.row true 1 [[.func 25 [] [.ptr (nb h 3) 0 0,.ptr (nb h 0) 0 0]]]))=>h32 s (nb h 0) (nb h 3) (nb h3 1) true true true ⟨bxt h3 l,lg,d⟩ (H3.bx l) hl.l ((bxt_old l h3 _ l0).trans b0) ((bxt_old l h3 _ l3).trans b3) (by rw[nb_get,q])
      have g34:=fun l lg d (q:bnth l 2=some (.row true 1 [[.func 28 [] [.ptr (nb h 0) 0 0,.ptr (nb h 4) 0 0]]]))=>h34 s (sumS s.cm) (nb h 0) (nb h 4) (nb h3 2) o0 true true true ⟨bxt h3 l,lg,d⟩ ((K.bx l).get hg) (H3.bx l) V ((bxt_old l h3 _ l0).trans b0) ((bxt_old l h3 _ l4).trans b4) (by rw[nb_get,q])
      refine Wunroll 3 (by omega) ?_
      by_cases p1:s.cm.length≤30∧ ∀ c∈s.cm,cmdP s c
      · rw[decide_eq_true p1] at g31
        by_cases p2: ∀ c∈s.pl,conP s c
        · rw[decide_eq_true p2] at g32
          by_cases p3:sumS s.cm≤8000∧ ∀ c∈s.cf,roomP s (sumS s.cm) c
          · rw[decide_eq_true p3] at g34
            rw[show decide (lightP s)=true from decide_eq_true ⟨p1,p2,p3⟩]
            simp+contextual -implicitDefEqProofs (maxSteps:=1000000) (maxDischargeDepth:=20) only[go_sem,simprocAttr,g31,g32,g34,b1',o,o_ldg]
            exact Keep.own (k.sub (d:=d)) nb_ge l1' _ _ (LgG.ok (by repeat first |exact LgG.nil |refine LgG.cons (by first |exact nb_ge |exact Nat.le_trans (k.len) nb_ge |assumption) ?_))
          · rw[decide_eq_false p3] at g34
            rw[show decide (lightP s)=false from decide_eq_false fun q=>p3 q.2.2]
            simp+contextual -implicitDefEqProofs (maxSteps:=1000000) (maxDischargeDepth:=20) only[go_sem,simprocAttr,g31,g32,g34,b1',o,o_ldg]
            exact Keep.own (k.sub (d:=d)) nb_ge l1' _ _ (LgG.ok (by repeat first |exact LgG.nil |refine LgG.cons (by first |exact nb_ge |exact Nat.le_trans (k.len) nb_ge |assumption) ?_))
        · rw[decide_eq_false p2] at g32
          rw[show decide (lightP s)=false from decide_eq_false fun q=>p2 q.2.1]
          simp+contextual -implicitDefEqProofs (maxSteps:=1000000) (maxDischargeDepth:=20) only[go_sem,simprocAttr,g31,g32,b1',o,o_ldg]
          exact Keep.own (k.sub (d:=d)) nb_ge l1' _ _ (LgG.ok (by repeat first |exact LgG.nil |refine LgG.cons (by first |exact nb_ge |exact Nat.le_trans (k.len) nb_ge |assumption) ?_))
      · rw[decide_eq_false p1] at g31
        rw[show decide (lightP s)=false from decide_eq_false fun q=>p1 q.1]
        simp+contextual -implicitDefEqProofs (maxSteps:=1000000) (maxDischargeDepth:=20) only[go_sem,simprocAttr,g31,b1',o,o_ldg]
        exact Keep.own (k.sub (d:=d)) nb_ge l1' _ _ (LgG.ok (by repeat first |exact LgG.nil |refine LgG.cons (by first |exact nb_ge |exact Nat.le_trans (k.len) nb_ge |assumption) ?_))
  · simp+contextual -implicitDefEqProofs (maxSteps:=1000000) (maxDischargeDepth:=20) only[go_sem,simprocAttr,hs,hF,AF6,scC,c1,c2,c3,g1,z,r_vc,r_vp,mskO,Mem.more,bmore,nb_more,List.filter_nil,List.flatMap_nil,List.filter_cons,List.flatMap_cons,List.map_nil,List.map_cons,mask,unmask,AOp.reads,AOpnd.top,top_p,top_s,top_m,top_i,top_b,top_t,top_a,top_u,top_ns,top_s0,top_d,top_f,nb_beq,nb_blt,nb_add,nidOf,slotIn,Nat.beq_refl,clash,Bool.or_self,List.any_nil,List.any_cons,AOp.isMaker]
end
section
variable {F:FuncId→Option AFunc} {meth:Meth} {sm:Summ}
def H49 (sm:Summ):Prop:= ∀ (s:ScX) (x:Int) (m:Mem),ScAt m.blks s→s.cf.length≤1000→sm 49 [.agg (scC s),.int .i64 x] m=some (.bool (decide (hasN s.cf x=true)),m)
theorem e49 (hF:F 49=some AF49) (hs: ∀ vs m,sm 49 vs m=none) (n:Nat) (h:Blks) (lg d:List Nat) {s:ScX} {x:Int} (H:ScAt h s) (hw:s.cf.length≤1000):Ev F meth sm (n+2000) 49 [.agg (scC s),.int .i64 x] ⟨h,lg,d⟩ (.bool (decide (hasN s.cf x=true))):=by
  refine Ev.ofW ?_
  have c1:=H.c.sc
  have c2:=H.p.sc
  have c3:=H.m.sc
  have lc:=H.c.len
  simp+contextual -implicitDefEqProofs (maxSteps:=1000000) (maxDischargeDepth:=20) only[go_sem,simprocAttr,hs,hF,AF49,scC,c1,c2,c3]
  refine WloopK s.cf.length [X5] (fun i=> [.int .i64 i]) (fun i=>hasN s.cf x=(s.cf.drop i).any fun c=>decide (c.node=x)) (by omega) (by repeat first |apply Cl_b |apply Cl_q |apply Cl_r) ⟨rfl,rfl⟩ (fun i h' lg' g hi hP hK=> ?_) (fun h' lg' g hP hK=> ?_)
  · have a:=hK.all (lg:=lg) (d:=d) (by repeat first |exact LogOK.nil |apply LogOK.cons)
    have e:=(hK.sl H.c).el hi
    have r:=rnd hi (by omega)
    unfold cfgC at e
    rw[List.drop_eq_getElem_cons hi,List.any_cons,←gt_eq hi] at hP
    simp+contextual -implicitDefEqProofs (maxSteps:=1000000) (maxDischargeDepth:=20) only[go_sem,simprocAttr,a,e,r,lc,List.length_map]
    exact ⟨fun c=>by rw[hP,decide_eq_true c];rfl,fun c=>by rw[hP,decide_eq_false c];rfl⟩
  · have a:=hK.all (lg:=lg) (d:=d) (by repeat first |exact LogOK.nil |apply LogOK.cons)
    have r:=rndl s.cf.length
    simp+contextual -implicitDefEqProofs (maxSteps:=1000000) (maxDischargeDepth:=20) only[go_sem,simprocAttr,a,r,lc,List.length_map]
    rw[List.drop_length] at hP
    simp[hP]
def backK (l:List ConD) (c:ConD) (k:Nat):Prop:=((l.take k).any fun x=>decide (backP c x))=true
instance (l:List ConD) (c:ConD) (k:Nat):Decidable (backK l c k):=by unfold backK;infer_instance
theorem backK_step {l:List ConD} {c:ConD} {k:Nat} (hk:k<l.length):backK l c (k+1)↔backK l c k∨backP c (gt l k):=by
  unfold backK
  rw[List.take_add_one,List.getElem?_eq_getElem hk,gt_eq hk,List.any_append,Bool.or_eq_true]
  show _∨(([l[k]]:List ConD).any _=true)↔_
  rw[List.any_cons,List.any_nil,Bool.or_false,decide_eq_true_eq]
def H39 (sm:Summ):Prop:= ∀ (s:ScX) (m:Mem),ScAt m.blks s→ScL s→ConsOK s.pl→sm 39 [.agg (scC s)] m=some (.bool (decide (∀ c∈s.pl,conP s c)),m)
theorem e39 (hF:F 39=some AF39) (hs: ∀ vs m,sm 39 vs m=none) (n:Nat) (h:Blks) (lg d:List Nat) (h42:H42 sm) (h49:H49 sm) {s:ScX} (H:ScAt h s) (hl:ScL s) (cv:ConsOK s.pl):Ev F meth sm (n+2000) 39 [.agg (scC s)] ⟨h,lg,d⟩ (.bool (decide (∀ c∈s.pl,conP s c))):=by
  refine Ev.ofW ?_
  have c1:=H.c.sc
  have c2:=H.p.sc
  have c3:=H.m.sc
  have l0:=hl.p
  simp+contextual -implicitDefEqProofs (maxSteps:=1000000) (maxDischargeDepth:=20) only[go_sem,simprocAttr,hs,hF,AF39,scC,c1,c2,c3]
  refine WloopK s.pl.length [X3] (fun i=> [.int .i64 i]) (fun i=> ∀ j,j<i→conP s (gt s.pl j)) (by omega) (by repeat first |apply Cl_b |apply Cl_q |apply Cl_r) ⟨rfl,fun j hj=>absurd hj (by omega)⟩ (fun i h' lg' g hi hP hK=> ?_) (fun h' lg' g hP hK=> ?_)
  · have a:=hK.all (lg:=lg) (d:=d) (by repeat first |exact LogOK.nil |apply LogOK.cons)
    have e:=(hK.sl H.p).el hi
    have r:=rnd hi (by omega)
    have lp:=(hK.sl H.p).len
    unfold conC at e
    simp+contextual -implicitDefEqProofs (maxSteps:=1000000) (maxDischargeDepth:=20) only[go_sem,simprocAttr,a,e,r,lp,List.length_map]
    refine WloopK s.pl.length [X6,X5] (fun k=> [.int .i64 k,.bool (decide (backK s.pl (gt s.pl i) k))]) (fun _=>True) (by omega) (by repeat first |apply Cl_b |apply Cl_q |apply Cl_r |apply Cl_v) ⟨rfl,trivial⟩ (fun k h2 lg2 g2 hk hP2 hK2=> ?_) (fun h2 lg2 g2 hP2 hK2=> ?_)
    · have kk:Keep ⟨bxt h [some (.row true 3 [[s.cv,s.pv,s.mv]])],nb h 0::lg,[]⟩ ⟨h2,lg2,[]⟩:=hK.trans ((keep_bx (lg':=nb h' 0::nb h' 0::lg') (d:=[]) (by repeat first |exact LogOK.nil |apply LogOK.cons)).trans hK2)
      have a:=Keep.all (lg:=lg) (d:=d) kk (by repeat first |exact LogOK.nil |apply LogOK.cons)
      have a2:=hK2.all (lg:=lg') (d:=d) (by repeat first |exact LogOK.nil |apply LogOK.cons)
      have ek:=(kk.sl H.p).el hk
      have lp:=(kk.sl H.p).len
      have r:=rnd hk (by omega)
      have st:=backK_step (c:=gt s.pl i) hk
      have s1:backK s.pl (gt s.pl i) k→decide (backK s.pl (gt s.pl i) (k+1))=true:=fun q=>decide_eq_true (st.2 (.inl q))
      have s2: ¬ backK s.pl (gt s.pl i) k→decide (backK s.pl (gt s.pl i) (k+1))=decide ((gt s.pl k).f=(gt s.pl i).t∧(gt s.pl k).t=(gt s.pl i).f):=fun q=>decide_eq_decide.2 (st.trans ⟨fun x=>x.resolve_left q,.inr⟩)
      generalize decide (backK s.pl (gt s.pl i) (k+1))=bn at*
      unfold conC at ek
      simp+contextual -implicitDefEqProofs (maxSteps:=1000000) (maxDischargeDepth:=20) only[go_sem,simprocAttr,a,a2,ek,r,lp,List.length_map]
      refine ⟨fun q=>(s1 q).symm,fun q=>⟨fun x=> ?_,fun x=> ?_⟩⟩
      · rw[s2 q];exact decide_eq_decide.2 ⟨fun y=>⟨x,y⟩,fun y=>y.2⟩
      · rw[s2 q];exact (decide_eq_false fun y=>x y.1).symm
    · have kk:Keep ⟨bxt h [some (.row true 3 [[s.cv,s.pv,s.mv]])],nb h 0::lg,[]⟩ ⟨h2,lg2,[]⟩:=hK.trans ((keep_bx (lg':=nb h' 0::nb h' 0::lg') (d:=[]) (by repeat first |exact LogOK.nil |apply LogOK.cons)).trans hK2)
      have a:=Keep.all (lg:=lg) (d:=d) kk (by repeat first |exact LogOK.nil |apply LogOK.cons)
      have a2:=hK2.all (lg:=lg') (d:=d) (by repeat first |exact LogOK.nil |apply LogOK.cons)
      have r:=rnd hi (by omega)
      have r2:=rndl s.pl.length
      have lp:=(kk.sl H.p).len
      have H2:ScAt h2 s:=⟨kk.sl H.c,kk.sl H.p,kk.sl H.m⟩
      have g1:=fun l lg d=>h42 s ⟨bxt h2 l,lg,d⟩ (H2.bx l) cv hl
      have g3:=fun x l lg d=>h49 s x ⟨bxt h2 l,lg,d⟩ (H2.bx l) hl.c
      unfold scC at g1 g3
      have bb:backK s.pl (gt s.pl i) s.pl.length↔backB s.pl (gt s.pl i)=true:=by unfold backK backB;rw[List.take_length]
      have cp:conP s (gt s.pl i)↔(gt s.pl i).s=0∧reachS s≤(gt s.pl i).e∧hasN s.cf (gt s.pl i).f=true∧hasN s.cf (gt s.pl i).t=true∧backK s.pl (gt s.pl i) s.pl.length:=by unfold conP;rw[bb]
      have mi:gt s.pl i∈s.pl:=by rw[gt_eq hi];exact List.getElem_mem _
      have no: ¬ conP s (gt s.pl i)→decide (∀ c∈s.pl,conP s c)=false:=fun q=>decide_eq_false fun x=>q (x _ mi)
      simp+contextual -implicitDefEqProofs (maxSteps:=1000000) (maxDischargeDepth:=20) only[go_sem,simprocAttr,a,a2,r,r2,lp,List.length_map,g1,g3]
      refine ⟨fun q=>(no fun p=>q (cp.1 p).2.2.2.2).symm,fun q1=>⟨fun q=>(no fun p=>q p.1).symm,fun q2=>⟨fun q=>(no fun p=>by have:=p.2.1;omega).symm,fun q3=>⟨fun q=>(no fun p=>q p.2.2.1).symm,fun q4=>⟨fun q=>(no fun p=>q p.2.2.2.1).symm,fun q5 j hj=> ?_⟩⟩⟩⟩⟩
      rcases Nat.lt_or_ge j i with c |c
      · exact hP j c
      · rw[show j=i by omega];exact cp.2 ⟨q2,by omega,q4,q5,q1⟩
  · have a:=hK.all (lg:=lg) (d:=d) (by repeat first |exact LogOK.nil |apply LogOK.cons)
    have r:=rndl s.pl.length
    have lp:=(hK.sl H.p).len
    have e0:decide (∀ c∈s.pl,conP s c)=true:=decide_eq_true fun x hx=>by
      obtain ⟨i,hi,rfl⟩:=List.getElem_of_mem hx
      have:=hP i hi
      rw[gt_eq hi] at this
      exact this
    rw[e0]
    simp+contextual -implicitDefEqProofs (maxSteps:=1000000) (maxDischargeDepth:=20) only[go_sem,simprocAttr,a,r,lp,List.length_map]
end
section
variable {F:FuncId→Option AFunc} {meth:Meth} {sm:Summ}
def maxP (l:List CmdD):Nat→Int
  |0=>0
  |i+1=>if maxP l i<sizeB (gt l i).b then sizeB (gt l i).b else maxP l i
theorem maxP_ok (l:List CmdD): ∀ i,0≤maxP l i∧maxP l i≤2000
  |0=>by simp[maxP]
  | i+1=>by
    have:=maxP_ok l i
    have:=sizeB_le (gt l i).b
    rw[maxP]
    split <;>omega
theorem maxP_le (l:List CmdD) (w:Int) (hw:0≤w): ∀ i,maxP l i≤w↔ ∀ j,j<i→sizeB (gt l j).b≤w
  | 0=>by
    rw[maxP]
    exact ⟨fun _ j hj=>absurd hj (by omega),fun _=>hw⟩
  | i +1=>by
    have ih:=maxP_le l w hw i
    rw[maxP]
    constructor
    · intro q j hj
      have a:maxP l i≤w:=by split at q <;>omega
      rcases Nat.lt_or_ge j i with c |c
      · exact ih.1 a j c
      · rw[show j=i by omega];split at q <;>omega
    · intro q
      have a:=ih.2 fun j hj=>q j (by omega)
      have b:=q i (by omega)
      split <;>assumption
def bB (s:ScX):Prop:=s.cm.length≤30∧ ∀ c∈s.cm,cmdP s c
instance (s:ScX):Decidable (bB s):=by unfold bB;infer_instance
def out38 (s:ScX):AV:= .tuple [.bool (decide (bB s∧sumS s.cm≤8000)),.int .i64 (if bB s then maxP s.cm s.cm.length else 0),.int .i64 (if bB s then sumS s.cm else 0)]
theorem out38_no {s:ScX} (h: ¬ bB s):out38 s= .tuple [.bool false,.int .i64 0,.int .i64 0]:=by
  unfold out38
  rw[if_neg h,if_neg h,decide_eq_false fun q=>h q.1]
theorem out38_yes {s:ScX} (h:bB s):out38 s= .tuple [.bool (decide (sumS s.cm≤8000)),.int .i64 (maxP s.cm s.cm.length),.int .i64 (sumS s.cm)]:=by
  unfold out38
  rw[if_pos h,if_pos h,show decide (bB s∧sumS s.cm≤8000)=decide (sumS s.cm≤8000) from decide_eq_decide.2 ⟨fun x=>x.2,fun x=>⟨h,x⟩⟩]
def H38 (sm:Summ):Prop:= ∀ (s:ScX) (m:Mem),ScAt m.blks s→ScV s→sm 38 [.agg (scC s)] m=some (out38 s,m)
theorem e38 (hF : F 38=some AF38) (hs: ∀ vs m,sm 38 vs m=none) (n:Nat) (h:Blks) (lg d:List Nat) (h42:H42 sm) (h49:H49 sm) (h65:H65 sm) (h66:H66 sm) {s:ScX} (H:ScAt h s) (V:ScV s):Ev F meth sm (n+2000) 38 [.agg (scC s)] ⟨h,lg,d⟩ (out38 s):=by
  refine Ev.ofW ?_
  have c1:=H.c.sc
  have c2:=H.p.sc
  have c3:=H.m.sc
  have hl:=V.ok.l
  have l0:=hl.m
  have lm:=H.m.len
  have cv:=scE_con V.z
  by_cases q30:s.cm.length≤30
  · have q' : (30 < (s.cm.length:Int))=False:=by simp;omega
    simp+contextual -implicitDefEqProofs (maxSteps:=1000000) (maxDischargeDepth:=20) only[go_sem,simprocAttr,hs,hF,AF38,scC,c1,c2,c3,lm,List.length_map,q']
    refine WloopK s.cm.length [X7,X5,X6] (fun i=> [.int .i64 i,.int .i64 (maxP s.cm i),.int .i64 (sumS (s.cm.take i))]) (fun i=> ∀ j,j<i→cmdP s (gt s.cm j)) (by omega) (by repeat first |apply Cl_b |apply Cl_q |apply Cl_r) ⟨rfl,fun j hj=>absurd hj (by omega)⟩ (fun i h' lg' g hi hP hK=> ?_) (fun h' lg' g hP hK=> ?_)
    · have a := hK.all (lg:=lg) (d:=d) (by repeat first |exact LogOK.nil |apply LogOK.cons)
      have e:=(hK.sl H.m).el hi
      have r:=rnd hi (by omega)
      have lm:=(hK.sl H.m).len
      have H2:ScAt h' s:=⟨hK.sl H.c,hK.sl H.p,hK.sl H.m⟩
      have mi:gt s.cm i∈s.cm:=by rw[gt_eq hi];exact List.getElem_mem _
      have dd:=V.ok.d _ mi
      have ss:=sumS_step hi
      have so:=sumS_ok (s.cm.take i)
      have lt:(s.cm.take i).length≤1000:=by rw[List.length_take];omega
      have mx:=maxP_ok s.cm i
      have mp:maxP s.cm (i+1)=if maxP s.cm i<sizeB (gt s.cm i).b then sizeB (gt s.cm i).b else maxP s.cm i:=rfl
      generalize hc:gt s.cm i=c at*
      have no: ¬ cmdP s c→out38 s= .tuple [.bool false,.int .i64 0,.int .i64 0]:=fun q=>out38_no fun x=>q (x.2 _ mi)
      have yes:cmdP s c→ ∀ j,j<i+1→cmdP s (gt s.cm j):=fun q j hj=>by
        rcases Nat.lt_or_ge j i with x |x
        · exact hP j x
        · rw[show j=i by omega,hc];exact q
      have g1:=fun l lg d=>h42 s ⟨bxt h' l,lg,d⟩ (H2.bx l) cv hl
      have g2:=fun l lg d=>h49 s c.b.dest ⟨bxt h' l,lg,d⟩ (H2.bx l) hl.c
      have g3:=fun m=>h65 c.b m (V.ids c mi) dd.1 dd.2
      unfold scC at g1 g2
      unfold cmdC at e
      unfold bunC at g3
      by_cases k1:c.kind=1
      · have sb :=V.sub mi k1
        have be:=bunE_ok sb.2
        have g4:=fun l lg d=>h66 s.pl s.pv c.node.toNat c.b.dest.toNat (sizeB c.b) ⟨bxt h' l,lg,d⟩ (H2.p.bx l) V.p V.pe V.con (by omega) (by omega) (size_ok sb.2)
        rw[Int.toNat_of_nonneg (by omega),Int.toNat_of_nonneg (by omega)] at g4
        have k1':=eq_true k1
        have es:szC c=sizeB c.b:=by unfold szC;rw[if_pos k1]
        have sz:=sizeB_le c.b
        rw[es] at ss
        have w:IntKind.i64.wrap (sumS (s.cm.take i)+sizeB c.b)=sumS (s.cm.take (i+1)):=by rw[ss];exact wrapI (by omega) (by omega)
        by_cases k2:c.b.born=0
        · have k2':=eq_true k2
          by_cases k3:c.b.id.n=c.node
          · have k3':=eq_true k3
            by_cases k4:hasN s.cf c.b.dest=true
            · rw[decide_eq_true k4] at g2
              by_cases k5:reachS s<c.b.life
              · have k5':(c.b.life≤reachS s)=False:=by simp;omega
                by_cases k6:c.b.dest=c.node
                · have k6':=eq_true k6
                  simp+contextual -implicitDefEqProofs (maxSteps:=1000000) (maxDischargeDepth:=20) only[go_sem,simprocAttr,a,e,r,lm,List.length_map,g1,g2,g3,k1',k2',k3',k5',k6',w,←mp,r_vc,r_vp,mskO,Mem.more,bmore,nb_more,List.filter_nil,List.flatMap_nil,List.filter_cons,List.flatMap_cons,List.map_nil,List.map_cons,mask,unmask,AOp.reads,AOpnd.top,top_p,top_s,top_m,top_i,top_b,top_t,top_a,top_u,top_ns,top_s0,top_d,top_f,nb_beq,nb_blt,nb_add,nidOf,slotIn,Nat.beq_refl,clash,Bool.or_self,List.any_nil,List.any_cons,AOp.isMaker]
                  exact yes ⟨k1,k2,k3,k4,k5,.inr k6⟩
                · have k6':=eq_false k6
                  by_cases k7:isR s.pl (sizeB c.b) c.node.toNat c.b.dest.toNat
                  · rw[decide_eq_true k7] at g4
                    simp+contextual -implicitDefEqProofs (maxSteps:=1000000) (maxDischargeDepth:=20) only[go_sem,simprocAttr,a,e,r,lm,List.length_map,g1,g2,g3,g4,k1',k2',k3',k5',k6',w,←mp,r_vc,r_vp,mskO,Mem.more,bmore,nb_more,List.filter_nil,List.flatMap_nil,List.filter_cons,List.flatMap_cons,List.map_nil,List.map_cons,mask,unmask,AOp.reads,AOpnd.top,top_p,top_s,top_m,top_i,top_b,top_t,top_a,top_u,top_ns,top_s0,top_d,top_f,nb_beq,nb_blt,nb_add,nidOf,slotIn,Nat.beq_refl,clash,Bool.or_self,List.any_nil,List.any_cons,AOp.isMaker]
                    exact yes ⟨k1,k2,k3,k4,k5,.inl k7⟩
                  · rw[decide_eq_false k7] at g4
                    rw[no fun q=>by rcases q.2.2.2.2.2 with x |x;exact k7 x;exact k6 x]
                    simp+contextual -implicitDefEqProofs (maxSteps:=1000000) (maxDischargeDepth:=20) only[go_sem,simprocAttr,a,e,r,lm,List.length_map,g1,g2,g3,g4,k1',k2',k3',k5',k6',r_vc,r_vp,mskO,Mem.more,bmore,nb_more,List.filter_nil,List.flatMap_nil,List.filter_cons,List.flatMap_cons,List.map_nil,List.map_cons,mask,unmask,AOp.reads,AOpnd.top,top_p,top_s,top_m,top_i,top_b,top_t,top_a,top_u,top_ns,top_s0,top_d,top_f,nb_beq,nb_blt,nb_add,nidOf,slotIn,Nat.beq_refl,clash,Bool.or_self,List.any_nil,List.any_cons,AOp.isMaker]
              · have k5':(c.b.life≤reachS s)=True:=by simp;omega
                rw[no fun q=>k5 q.2.2.2.2.1]
                simp+contextual -implicitDefEqProofs (maxSteps:=1000000) (maxDischargeDepth:=20) only[go_sem,simprocAttr,a,e,r,lm,List.length_map,g1,g2,k1',k2',k3',k5',r_vc,r_vp,mskO,Mem.more,bmore,nb_more,List.filter_nil,List.flatMap_nil,List.filter_cons,List.flatMap_cons,List.map_nil,List.map_cons,mask,unmask,AOp.reads,AOpnd.top,top_p,top_s,top_m,top_i,top_b,top_t,top_a,top_u,top_ns,top_s0,top_d,top_f,nb_beq,nb_blt,nb_add,nidOf,slotIn,Nat.beq_refl,clash,Bool.or_self,List.any_nil,List.any_cons,AOp.isMaker]
            · rw[decide_eq_false k4] at g2
              rw[no fun q=>k4 q.2.2.2.1]
              simp+contextual -implicitDefEqProofs (maxSteps:=1000000) (maxDischargeDepth:=20) only[go_sem,simprocAttr,a,e,r,lm,List.length_map,g1,g2,k1',k2',k3',r_vc,r_vp,mskO,Mem.more,bmore,nb_more,List.filter_nil,List.flatMap_nil,List.filter_cons,List.flatMap_cons,List.map_nil,List.map_cons,mask,unmask,AOp.reads,AOpnd.top,top_p,top_s,top_m,top_i,top_b,top_t,top_a,top_u,top_ns,top_s0,top_d,top_f,nb_beq,nb_blt,nb_add,nidOf,slotIn,Nat.beq_refl,clash,Bool.or_self,List.any_nil,List.any_cons,AOp.isMaker]
          · have k3':=eq_false k3
            rw[no fun q=>k3 q.2.2.1]
            simp+contextual -implicitDefEqProofs (maxSteps:=1000000) (maxDischargeDepth:=20) only[go_sem,simprocAttr,a,e,r,lm,List.length_map,g1,g2,k1',k2',k3',r_vc,r_vp,mskO,Mem.more,bmore,nb_more,List.filter_nil,List.flatMap_nil,List.filter_cons,List.flatMap_cons,List.map_nil,List.map_cons,mask,unmask,AOp.reads,AOpnd.top,top_p,top_s,top_m,top_i,top_b,top_t,top_a,top_u,top_ns,top_s0,top_d,top_f,nb_beq,nb_blt,nb_add,nidOf,slotIn,Nat.beq_refl,clash,Bool.or_self,List.any_nil,List.any_cons,AOp.isMaker]
        · have k2':=eq_false k2
          rw[no fun q=>k2 q.2.1]
          simp+contextual -implicitDefEqProofs (maxSteps:=1000000) (maxDischargeDepth:=20) only[go_sem,simprocAttr,a,e,r,lm,List.length_map,g1,g2,k1',k2',r_vc,r_vp,mskO,Mem.more,bmore,nb_more,List.filter_nil,List.flatMap_nil,List.filter_cons,List.flatMap_cons,List.map_nil,List.map_cons,mask,unmask,AOp.reads,AOpnd.top,top_p,top_s,top_m,top_i,top_b,top_t,top_a,top_u,top_ns,top_s0,top_d,top_f,nb_beq,nb_blt,nb_add,nidOf,slotIn,Nat.beq_refl,clash,Bool.or_self,List.any_nil,List.any_cons,AOp.isMaker]
      · have k1':=eq_false k1
        rw[no fun q=>k1 q.1]
        simp+contextual -implicitDefEqProofs (maxSteps:=1000000) (maxDischargeDepth:=20) only[go_sem,simprocAttr,a,e,r,lm,List.length_map,k1',r_vc,r_vp,mskO,Mem.more,bmore,nb_more,List.filter_nil,List.flatMap_nil,List.filter_cons,List.flatMap_cons,List.map_nil,List.map_cons,mask,unmask,AOp.reads,AOpnd.top,top_p,top_s,top_m,top_i,top_b,top_t,top_a,top_u,top_ns,top_s0,top_d,top_f,nb_beq,nb_blt,nb_add,nidOf,slotIn,Nat.beq_refl,clash,Bool.or_self,List.any_nil,List.any_cons,AOp.isMaker]
    · have a:=hK.all (lg:=lg) (d:=d) (by repeat first |exact LogOK.nil |apply LogOK.cons)
      have r:=rndl s.cm.length
      have lm:=(hK.sl H.m).len
      have y:bB s:=⟨q30,fun x hx=>by
        obtain ⟨i,hi,rfl⟩:=List.getElem_of_mem hx
        have:=hP i hi
        rw[gt_eq hi] at this
        exact this⟩
      rw[out38_yes y,List.take_length]
      simp+contextual -implicitDefEqProofs (maxSteps:=1000000) (maxDischargeDepth:=20) only[go_sem,simprocAttr,a,r,lm,List.length_map]
  · have q':(30<(s.cm.length:Int))=True:=by simp;omega
    rw[out38_no fun q=>q30 q.1]
    simp+contextual -implicitDefEqProofs (maxSteps:=1000000) (maxDischargeDepth:=20) only[go_sem,simprocAttr,hs,hF,AF38,scC,c1,c2,c3,lm,List.length_map,q']
end
section
variable {F:FuncId→Option AFunc} {meth:Meth} {sm:Summ}
theorem light_iff (s:ScX):lightP s↔(bB s∧sumS s.cm≤8000)∧(∀ c∈s.pl,conP s c)∧ ∀ c∈s.cf,roomP s (sumS s.cm) c:=by
  unfold lightP bB
  constructor
  · rintro ⟨a,b,c,d⟩;exact ⟨⟨a,c⟩,b,d⟩
  · rintro ⟨⟨a,c⟩,b,d⟩;exact ⟨a,b,c,d⟩
def H8 (sm:Summ):Prop:= ∀ (s:ScX) (m:Mem),ScAt m.blks s→ScW s→sm 8 [.agg (scC s)] m=some (outL s,m)
theorem e8 (hF:F 8=some AF8) (hs: ∀ vs m,sm 8 vs m=none) (n:Nat) (h:Blks) (lg d:List Nat) (h37:H37 sm) (h38:H38 sm) (h39:H39 sm) {s:ScX} (H:ScAt h s) (W:ScW s):Ev F meth sm (n+2000) 8 [.agg (scC s)] ⟨h,lg,d⟩ (outL s):=by
  refine Ev.ofW ?_
  have c1:=H.c.sc
  have c2:=H.p.sc
  have c3:=H.m.sc
  have hl:=W.ok
  have g1:=fun l lg d=>h37 s ⟨bxt h l,lg,d⟩ (H.bx l) hl.l hl.d
  have l1:=hl.l.c
  have l2:=hl.l.m
  unfold scC at g1
  unfold outL
  by_cases z:(scE s).1=0
  · have V := W.v z
    have cv:=scE_con z
    have g2:=fun l lg d=>h38 s ⟨bxt h l,lg,d⟩ (H.bx l) V
    have g3:=fun l lg d=>h39 s ⟨bxt h l,lg,d⟩ (H.bx l) hl.l cv
    unfold scC at g2 g3
    rw[z,if_neg (by omega),if_neg (by omega)]
    have li:=light_iff s
    by_cases k1:bB s
    · rw[out38_yes k1] at g2
      by_cases k2:sumS s.cm≤8000
      · rw[decide_eq_true k2] at g2
        by_cases k3: ∀ c∈s.pl,conP s c
        · rw[decide_eq_true k3] at g3
          have li2:lightP s↔ ∀ c∈s.cf,roomP s (sumS s.cm) c:=by rw[li];exact ⟨fun x=>x.2.2,fun x=>⟨⟨k1,k2⟩,k3,x⟩⟩
          simp+contextual -implicitDefEqProofs (maxSteps:=1000000) (maxDischargeDepth:=20) only[go_sem,simprocAttr,hs,hF,AF8,scC,c1,c2,c3,g1,g2,g3,z,r_vc,r_vp,mskO,Mem.more,bmore,nb_more,List.filter_nil,List.flatMap_nil,List.filter_cons,List.flatMap_cons,List.map_nil,List.map_cons,mask,unmask,AOp.reads,AOpnd.top,top_p,top_s,top_m,top_i,top_b,top_t,top_a,top_u,top_ns,top_s0,top_d,top_f,nb_beq,nb_blt,nb_add,nidOf,slotIn,Nat.beq_refl,clash,Bool.or_self,List.any_nil,List.any_cons,AOp.isMaker]
          refine WloopK s.cf.length [X8] (fun i=> [.int .i64 i]) (fun i=> ∀ j,j<i→roomP s (sumS s.cm) (gt s.cf j)) (by omega) (by repeat first |apply Cl_b |apply Cl_q |apply Cl_r) ⟨rfl,fun j hj=>absurd hj (by omega)⟩ (fun i h' lg' g hi hP hK=> ?_) (fun h' lg' g hP hK=> ?_)
          · have a:=hK.all (lg:=lg) (d:=d) (by repeat first |exact LogOK.nil |apply LogOK.cons)
            have e:=(hK.sl H.c).el hi
            have r:=rnd hi (by omega)
            have lc:=(hK.sl H.c).len
            have mi:gt s.cf i∈s.cf:=by rw[gt_eq hi];exact List.getElem_mem _
            have mx:=maxP_ok s.cm s.cm.length
            have ml:=maxP_le s.cm (gt s.cf i).window (W.q _ mi).2.1.1 s.cm.length
            have wm:IntKind.u64.wrap (maxP s.cm s.cm.length)=maxP s.cm s.cm.length:=wrapU (by omega) (by omega)
            have mem:(∀ x∈s.cm,sizeB x.b≤(gt s.cf i).window)↔maxP s.cm s.cm.length≤(gt s.cf i).window:=by
              rw[ml]
              constructor
              · intro q j hj
                exact q _ (by rw[gt_eq hj];exact List.getElem_mem _)
              · intro q x hx
                obtain ⟨j,hj,rfl⟩:=List.getElem_of_mem hx
                have:=q j hj
                rw[gt_eq hj] at this
                exact this
            have rp:roomP s (sumS s.cm) (gt s.cf i)↔maxP s.cm s.cm.length≤(gt s.cf i).window∧roomV s (sumS s.cm) (gt s.cf i)≤(gt s.cf i).quota∧1024≤(gt s.cf i).blocks:=by unfold roomP;rw[mem]
            have no: ¬ roomP s (sumS s.cm) (gt s.cf i)→decide (lightP s)=false:=fun q=>decide_eq_false fun x=>q (li2.1 x _ mi)
            have l1':nb h 1<h'.length:=by have:=hK.len;simp only[bxt_len,List.length_cons,List.length_nil] at this;rw[nb];omega
            have o:=old_blk l1'
            have k0:Keep ⟨h,lg,d⟩ ⟨h',lg',d⟩:=a.2.2 [] lg' .nil
            unfold cfgC at e
            simp+contextual -implicitDefEqProofs (maxSteps:=1000000) (maxDischargeDepth:=20) only[go_sem,simprocAttr,a,e,r,lc,List.length_map,wm,o,r_vc,r_vp,mskO,Mem.more,bmore,nb_more,List.filter_nil,List.flatMap_nil,List.filter_cons,List.flatMap_cons,List.map_nil,List.map_cons,mask,unmask,AOp.reads,AOpnd.top,top_p,top_s,top_m,top_i,top_b,top_t,top_a,top_u,top_ns,top_s0,top_d,top_f,nb_beq,nb_blt,nb_add,nidOf,slotIn,Nat.beq_refl,clash,Bool.or_self,List.any_nil,List.any_cons,AOp.isMaker]
            have K0: ∀ x l lg2,(∃ q,lg2=q++lg'∧ ∀ y∈q,h.length≤y)→Keep ⟨h,lg,d⟩ ⟨bxt (bput h' (nb h 1) x) l,lg2,d⟩:=fun x l lg2 q=>Keep.own k0 nb_ge l1' x l q
            have rv:roomV s (sumS s.cm) (gt s.cf i)=IntKind.u64.wrap (IntKind.u64.wrap (IntKind.u64.wrap (sumS s.cm)+IntKind.u64.wrap (IntKind.u64.wrap (IntKind.i64.wrap ((s.cf.length:Int) - 1))*(gt s.cf i).window))+(gt s.cf i).low):=rfl
            rw[←rv]
            refine ⟨fun q=>⟨(no fun p=>by have:=(rp.1 p).1;omega).symm,K0 _ _ _ (LgG.ok (by repeat first |exact LgG.nil |refine LgG.cons (by first |exact nb_ge |exact Nat.le_trans (k0.len) nb_ge |assumption) ?_))⟩,fun q1=>⟨fun q=>⟨(no fun p=>by have:=(rp.1 p).2.1;omega).symm,K0 _ _ _ (LgG.ok (by repeat first |exact LgG.nil |refine LgG.cons (by first |exact nb_ge |exact Nat.le_trans (k0.len) nb_ge |assumption) ?_))⟩,fun q2=>⟨fun q=>⟨(no fun p=>by have:=(rp.1 p).2.2;omega).symm,K0 _ _ _ (LgG.ok (by repeat first |exact LgG.nil |refine LgG.cons (by first |exact nb_ge |exact Nat.le_trans (k0.len) nb_ge |assumption) ?_))⟩,fun q3 j hj=> ?_⟩⟩⟩
            rcases Nat.lt_or_ge j i with x |x
            · exact hP j x
            · rw[show j=i by omega];exact rp.2 ⟨by omega,by omega,by omega⟩
          · have a:=hK.all (lg:=lg) (d:=d) (by repeat first |exact LogOK.nil |apply LogOK.cons)
            have r:=rndl s.cf.length
            have lc:=(hK.sl H.c).len
            have yes:decide (lightP s)=true:=decide_eq_true (li2.2 fun x hx=>by
              obtain ⟨i,hi,rfl⟩:=List.getElem_of_mem hx
              have:=hP i hi
              rw[gt_eq hi] at this
              exact this)
            have l1':nb h 1<h'.length:=by have:=hK.len;simp only[bxt_len,List.length_cons,List.length_nil] at this;rw[nb];omega
            have o:=old_blk l1'
            have k0:Keep ⟨h,lg,d⟩ ⟨h',lg',d⟩:=a.2.2 [] lg' .nil
            rw[yes]
            simp+contextual -implicitDefEqProofs (maxSteps:=1000000) (maxDischargeDepth:=20) only[go_sem,simprocAttr,a,r,lc,List.length_map,o]
            exact Keep.own k0 nb_ge l1' _ _ (LgG.ok (by repeat first |exact LgG.nil |refine LgG.cons (by first |exact nb_ge |exact Nat.le_trans (k0.len) nb_ge |assumption) ?_))
        · rw[decide_eq_false k3] at g3
          have n: ¬ lightP s:=fun x=>k3 (li.1 x).2.1
          simp+contextual -implicitDefEqProofs (maxSteps:=1000000) (maxDischargeDepth:=20) only[go_sem,simprocAttr,hs,hF,AF8,scC,c1,c2,c3,g1,g2,g3,z,n,r_vc,r_vp,mskO,Mem.more,bmore,nb_more,List.filter_nil,List.flatMap_nil,List.filter_cons,List.flatMap_cons,List.map_nil,List.map_cons,mask,unmask,AOp.reads,AOpnd.top,top_p,top_s,top_m,top_i,top_b,top_t,top_a,top_u,top_ns,top_s0,top_d,top_f,nb_beq,nb_blt,nb_add,nidOf,slotIn,Nat.beq_refl,clash,Bool.or_self,List.any_nil,List.any_cons,AOp.isMaker]
      · rw[decide_eq_false k2] at g2
        have n: ¬ lightP s:=fun x=>k2 (li.1 x).1.2
        simp+contextual -implicitDefEqProofs (maxSteps:=1000000) (maxDischargeDepth:=20) only[go_sem,simprocAttr,hs,hF,AF8,scC,c1,c2,c3,g1,g2,z,n,r_vc,r_vp,mskO,Mem.more,bmore,nb_more,List.filter_nil,List.flatMap_nil,List.filter_cons,List.flatMap_cons,List.map_nil,List.map_cons,mask,unmask,AOp.reads,AOpnd.top,top_p,top_s,top_m,top_i,top_b,top_t,top_a,top_u,top_ns,top_s0,top_d,top_f,nb_beq,nb_blt,nb_add,nidOf,slotIn,Nat.beq_refl,clash,Bool.or_self,List.any_nil,List.any_cons,AOp.isMaker]
    · rw[out38_no k1] at g2
      have n: ¬ lightP s:=fun x=>k1 (li.1 x).1.1
      simp+contextual -implicitDefEqProofs (maxSteps:=1000000) (maxDischargeDepth:=20) only[go_sem,simprocAttr,hs,hF,AF8,scC,c1,c2,c3,g1,g2,z,n,r_vc,r_vp,mskO,Mem.more,bmore,nb_more,List.filter_nil,List.flatMap_nil,List.filter_cons,List.flatMap_cons,List.map_nil,List.map_cons,mask,unmask,AOp.reads,AOpnd.top,top_p,top_s,top_m,top_i,top_b,top_t,top_a,top_u,top_ns,top_s0,top_d,top_f,nb_beq,nb_blt,nb_add,nidOf,slotIn,Nat.beq_refl,clash,Bool.or_self,List.any_nil,List.any_cons,AOp.isMaker]
  · simp+contextual -implicitDefEqProofs (maxSteps:=1000000) (maxDischargeDepth:=20) only[go_sem,simprocAttr,hs,hF,AF8,scC,c1,c2,c3,g1,z,r_vc,r_vp,mskO,Mem.more,bmore,nb_more,List.filter_nil,List.flatMap_nil,List.filter_cons,List.flatMap_cons,List.map_nil,List.map_cons,mask,unmask,AOp.reads,AOpnd.top,top_p,top_s,top_m,top_i,top_b,top_t,top_a,top_u,top_ns,top_s0,top_d,top_f,nb_beq,nb_blt,nb_add,nidOf,slotIn,Nat.beq_refl,clash,Bool.or_self,List.any_nil,List.any_cons,AOp.isMaker]
end
end Go.Abs
end
