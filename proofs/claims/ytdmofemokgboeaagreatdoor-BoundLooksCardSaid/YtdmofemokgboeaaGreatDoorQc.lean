/- Functions of the program on symbolic values: part c.
   Conditions: none. -/
import Derived.Test.YtdmofemokgboeaaGreatDoorQb
set_option linter.unusedSimpArgs false
set_option linter.unusedVariables false
set_option maxRecDepth 100000
set_option maxHeartbeats 16000000
noncomputable section
namespace Go.Abs
section
variable {F:FuncId→Option AFunc} {meth:Meth} {sm:Summ}
def H54 (sm:Summ):Prop:= ∀ (s:ScX) (c:CmdD) (own:Bool) (m:Mem),bget m.blks 1=some (.row own 8 usesR)→ScAt m.blks s→s.cf.length≤1000→c.b.data.length≤1000000→I c.b.total→sm 54 [.agg (scC s),.agg (cmdC c)] m=some (.int .i64 (oneE s.cf c),m)
theorem e54 (hF:F 54=some AF54) (hs: ∀ vs m,sm 54 vs m=none) (n:Nat) (h:Blks) (lg d:List Nat) (h76:H76 sm) {s:ScX} {c:CmdD} {own:Bool} (hu:bget h 1=some (.row own 8 usesR)) (H:ScAt h s) (hw:s.cf.length≤1000) (hd:c.b.data.length≤1000000) (ht:I c.b.total):Ev F meth sm (n+2000) 54 [.agg (scC s),.agg (cmdC c)] ⟨h,lg,d⟩ (.int .i64 (oneE s.cf c)):=by
  refine Ev.ofW ?_
  have c1:=H.c.sc
  have c2:=H.p.sc
  have c3:=H.m.sc
  have g1:=fun l lg d (q:bnth l 0=some (.row true 3 [scC s]))=>h76 s c (nb h 0) own true ⟨bxt h l,lg,d⟩ ((bxt_old l h 1 (bget_lt hu)).trans hu) (H.bx l) hw (by rw[nb_get,q]) hd ht
  unfold scC cmdC at g1
  simp+contextual -implicitDefEqProofs (maxSteps:=1000000) (maxDischargeDepth:=20) only[go_sem,simprocAttr,hs,hF,AF54,scC,cmdC,c1,c2,c3,g1]
end
section
variable {F:FuncId→Option AFunc} {meth:Meth} {sm:Summ}
theorem gt_mem {α:Type} [Inhabited α] {l:List α} {i:Nat} (hi:i<l.length):gt l i∈l:=by rw[gt_eq hi];exact List.getElem_mem hi
def cfBad (l:List CfgD) (i:Nat):Int:=if cfgE (gt l i)≠0 then cfgE (gt l i) else if 0<i∧(gt l i).node≤(gt l (i - 1)).node then 19 else 0
def cmBad (s:ScX) (i:Nat):Int:=oneE s.cf (gt s.cm i)
def scE (s:ScX):Int × Int:=
  if s.cf.length=0 then (8,0) else if 16<(s.cf.length:Int) then (5,0)
  else if first (cfBad s.cf) s.cf.length≠0 then (first (cfBad s.cf) s.cf.length,firstI (cfBad s.cf) s.cf.length)
  else if (planE s.pl).1≠0 then planE s.pl else if 400<(s.cm.length:Int) then (5,0)
  else (first (cmBad s) s.cm.length,firstI (cmBad s) s.cm.length)
def H37 (sm:Summ):Prop:= ∀ (s:ScX) (m:Mem),ScAt m.blks s→ScL s→(∀ c∈s.cm,c.b.data.length≤1000000∧I c.b.total)→sm 37 [.agg (scC s)] m=some (.agg [.int .i64 (scE s).1,.int .i64 (scE s).2],m)
theorem e37 (hF:F 37=some AF37) (hs: ∀ vs m,sm 37 vs m=none) (n:Nat) (h:Blks) (lg d:List Nat) (h62:H62 sm) (h63:H63 sm) (h64:H64 sm) {s:ScX} (H:ScAt h s) (hl:ScL s) (hd: ∀ c∈s.cm,c.b.data.length≤1000000∧I c.b.total):Ev F meth sm (n+2000) 37 [.agg (scC s)] ⟨h,lg,d⟩ (.agg [.int .i64 (scE s).1,.int .i64 (scE s).2]):=by
  refine Ev.ofW ?_
  have c1:=H.c.sc
  have c2:=H.p.sc
  have c3:=H.m.sc
  have lc:=H.c.len
  have l0:=hl.c
  simp+contextual -implicitDefEqProofs (maxSteps:=1000000) (maxDischargeDepth:=20) only[go_sem,simprocAttr,hs,hF,AF37,scC,c1,c2,c3,lc,List.length_map]
  refine ⟨fun q=> ?_,fun q=>⟨fun q2=> ?_,fun q2=> ?_⟩⟩
  · rw[scE,if_pos (by omega)];exact ⟨rfl,rfl⟩
  · rw[scE,if_neg (by omega),if_pos q2];exact ⟨rfl,rfl⟩
  have e0:scE s=if first (cfBad s.cf) s.cf.length≠0 then (first (cfBad s.cf) s.cf.length,firstI (cfBad s.cf) s.cf.length) else if (planE s.pl).1≠0 then planE s.pl else if 400<(s.cm.length:Int) then (5,0) else (first (cmBad s) s.cm.length,firstI (cmBad s) s.cm.length):=by rw[scE,if_neg (by omega),if_neg q2]
  refine WloopK s.cf.length [X3] (fun i=> [.int .i64 i]) (FP (cfBad s.cf) s.cf.length) (by omega) (by repeat first |apply Cl_b |apply Cl_q |apply Cl_r) ⟨rfl,FP.zero _ _⟩ (fun i h' lg' g hi hP hK=> ?_) (fun h' lg' g hP hK=> ?_)
  · have a:=hK.all (lg:=lg) (d:=d) (by repeat first |exact LogOK.nil |apply LogOK.cons)
    have lt1:nb h 1<h'.length:=by have:=hK.len;rw[bxt_len] at this;simp only[nb,List.length_cons,List.length_nil] at this ⊢;omega
    have o:=old_blk lt1
    have kk:Keep ⟨h,lg,[]⟩ ⟨h',lg',[]⟩:=Keep.trans (keep_bx (by repeat first |exact LogOK.nil |apply LogOK.cons)) hK
    have e:=(hK.sl H.c).el hi
    have p:=(hK.sl H.c).pv hi (by omega)
    have r:=rnd hi (by omega)
    have g1:=h62 (gt s.cf i)
    unfold cfgC at e p g1
    simp+contextual -implicitDefEqProofs (maxSteps:=1000000) (maxDischargeDepth:=20) only[go_sem,simprocAttr,a,e,p,r,g1,lc,List.length_map,o]
    have K1:=fun x=>(kk.sub (d:=d)).own (b:=nb h 1) nb_ge lt1 x [] (lg2:=nb h 1::lg') (LgG.ok (by repeat first |exact LgG.nil |refine LgG.cons (by first |exact nb_ge |exact Nat.le_trans (kk.len) nb_ge |assumption) ?_))
    have SC: ∀ x,cfBad s.cf i=x→x≠0→x=(scE s).1∧(i:Int)=(scE s).2:=fun x c hx=>by
      have:=hP.stop hi c hx
      rw[e0,if_pos (by rw[this.1];exact hx)]
      exact ⟨this.1.symm,this.2.symm⟩
    refine ⟨fun c=>⟨SC _ (by rw[cfBad,if_pos c]) c,K1 _⟩,fun c=>⟨fun h0=>⟨fun c2=>⟨SC 19 (by rw[cfBad,if_neg (by omega),if_pos ⟨by omega,c2⟩]) (by omega),K1 _⟩,fun c2=>hP.next hi (by rw[cfBad,if_neg (by omega),if_neg (fun q=>c2 q.2)])⟩,fun h0=>hP.next hi (by rw[cfBad,if_neg (by omega),if_neg (fun q=>h0 (by omega))])⟩⟩
  · have a:=hK.all (lg:=lg) (d:=d) (by repeat first |exact LogOK.nil |apply LogOK.cons)
    have lt1:nb h 1<h'.length:=by have:=hK.len;rw[bxt_len] at this;simp only[nb,List.length_cons,List.length_nil] at this ⊢;omega
    have o:=old_blk lt1
    have kk:Keep ⟨h,lg,[]⟩ ⟨h',lg',[]⟩:=Keep.trans (keep_bx (by repeat first |exact LogOK.nil |apply LogOK.cons)) hK
    have r:=rndl s.cf.length
    have H':ScAt h' s:=⟨hK.sl H.c,hK.sl H.p,hK.sl H.m⟩
    have g2:=fun l lg d=>h63 s.pl s.pv ⟨bxt h' l,lg,d⟩ (H'.p.bx l) (by have:=hl.p;omega)
    have lm:=H'.m.len
    simp+contextual -implicitDefEqProofs (maxSteps:=1000000) (maxDischargeDepth:=20) only[go_sem,simprocAttr,a,r,lc,List.length_map,g2,lm,o]
    have K1:=fun x=>(kk.sub (d:=d)).own (b:=nb h 1) nb_ge lt1 x [] (lg2:=nb h 1::lg') (LgG.ok (by repeat first |exact LgG.nil |refine LgG.cons (by first |exact nb_ge |exact Nat.le_trans (kk.len) nb_ge |assumption) ?_))
    have e1:scE s=if (planE s.pl).1≠0 then planE s.pl else if 400<(s.cm.length:Int) then (5,0) else (first (cmBad s) s.cm.length,firstI (cmBad s) s.cm.length):=by rw[e0,if_neg (by have:=hP.last.1;omega)]
    refine ⟨fun c=>⟨by rw[e1,if_pos c];exact ⟨rfl,rfl⟩,K1 _⟩,fun c=>⟨fun c2=>⟨by rw[e1,if_neg (by omega),if_pos c2];exact ⟨rfl,rfl⟩,K1 _⟩,fun c2=> ?_⟩⟩
    have e2:scE s=(first (cmBad s) s.cm.length,firstI (cmBad s) s.cm.length):=by rw[e1,if_neg (by omega),if_neg c2]
    refine WloopK s.cm.length [X7] (fun i=> [.int .i64 i]) (FP (cmBad s) s.cm.length) (by have:=hl.m;omega) (by repeat first |apply Cl_b |apply Cl_q |apply Cl_r) ⟨rfl,FP.zero _ _⟩ (fun i h2 lg2 g2 hi hP2 hK2=> ?_) (fun h2 lg2 g2 hP2 hK2=> ?_)
    · have k3:=hK.trans hK2
      have a2:=hK2.all (lg:=lg') (d:=d) (by repeat first |exact LogOK.nil |apply LogOK.cons)
      have a:=Keep.all (lg:=lg) (d:=d) k3 (by repeat first |exact LogOK.nil |apply LogOK.cons)
      have lt2:nb h 1<h2.length:=by have:=k3.len;rw[bxt_len] at this;simp only[nb,List.length_cons,List.length_nil] at this ⊢;omega
      have o:=old_blk lt2
      have kk2:Keep ⟨h,lg,[]⟩ ⟨h2,lg2,[]⟩:=Keep.trans (keep_bx (by repeat first |exact LogOK.nil |apply LogOK.cons)) k3
      have H2:ScAt h2 s:=⟨k3.sl H.c,k3.sl H.p,k3.sl H.m⟩
      have e:=H2.m.el hi
      have r:=rnd hi (by have:=hl.m;omega)
      have u:=hd _ (gt_mem hi)
      have g4:=fun l lg d=>h64 s (gt s.cm i) ⟨bxt h2 l,lg,d⟩ (H2.bx l) hl.c u.1 u.2
      have lm2:=H2.m.len
      unfold scC at g4
      unfold cmdC at e g4
      simp+contextual -implicitDefEqProofs (maxSteps:=1000000) (maxDischargeDepth:=20) only[go_sem,simprocAttr,a,a2,e,r,g4,lm2,List.length_map,o]
      refine ⟨fun c=>⟨?_,(kk2.sub (d:=d)).own (b:=nb h 1) nb_ge lt2 _ [] (LgG.ok (by repeat first |exact LgG.nil |refine LgG.cons (by first |exact nb_ge |exact Nat.le_trans (kk2.len) nb_ge |assumption) ?_))⟩,fun c=>hP2.next hi c⟩
      have z:=hP2.stop hi (x:=oneE s.cf (gt s.cm i)) rfl c
      rw[e2,z.1,z.2]
      exact ⟨rfl,rfl⟩
    · have k3:=hK.trans hK2
      have a2:=hK2.all (lg:=lg') (d:=d) (by repeat first |exact LogOK.nil |apply LogOK.cons)
      have a:=Keep.all (lg:=lg) (d:=d) k3 (by repeat first |exact LogOK.nil |apply LogOK.cons)
      have H2:ScAt h2 s:=⟨k3.sl H.c,k3.sl H.p,k3.sl H.m⟩
      have r:=rndl s.cm.length
      have lm2:=H2.m.len
      have lt2:nb h 1<h2.length:=by have:=k3.len;rw[bxt_len] at this;simp only[nb,List.length_cons,List.length_nil] at this ⊢;omega
      have o:=old_blk lt2
      simp+contextual -implicitDefEqProofs (maxSteps:=1000000) (maxDischargeDepth:=20) only[go_sem,simprocAttr,a,a2,r,lm2,List.length_map,o]
      have kk2:Keep ⟨h,lg,[]⟩ ⟨h2,lg2,[]⟩:=Keep.trans (keep_bx (by repeat first |exact LogOK.nil |apply LogOK.cons)) k3
      have z:=hP2.last
      rw[e2,z.1,z.2]
      exact ⟨⟨rfl,rfl⟩,(kk2.sub (d:=d)).own (b:=nb h 1) nb_ge lt2 _ [] (LgG.ok (by repeat first |exact LgG.nil |refine LgG.cons (by first |exact nb_ge |exact Nat.le_trans (kk2.len) nb_ge |assumption) ?_))⟩
end
section
variable {F:FuncId→Option AFunc} {meth:Meth} {sm:Summ}
def H18 (sm:Summ):Prop:= ∀ (s:ScX) (own:Bool) (m:Mem),bget m.blks 1=some (.row own 8 usesR)→ScAt m.blks s→ScL s→(∀ c∈s.cf,0≤c.window∧0≤c.low)→(∀ c∈s.cm,c.b.data.length≤1000000∧I c.b.total)→sm 18 [.agg (scC s)] m=some (.agg [.int .i64 (scE s).1,.int .i64 (scE s).2],m)
theorem e18 (hF:F 18=some AF18) (hs: ∀ vs m,sm 18 vs m=none) (n:Nat) (h:Blks) (lg d:List Nat) (h52:H52 sm) (h53:H53 sm) (h54:H54 sm) {s:ScX} {own:Bool} (hu:bget h 1=some (.row own 8 usesR)) (H:ScAt h s) (hl:ScL s) (hc: ∀ c∈s.cf,0≤c.window∧0≤c.low) (hd: ∀ c∈s.cm,c.b.data.length≤1000000∧I c.b.total):Ev F meth sm (n+2000) 18 [.agg (scC s)] ⟨h,lg,d⟩ (.agg [.int .i64 (scE s).1,.int .i64 (scE s).2]):=by
  refine Ev.ofW ?_
  have c1:=H.c.sc
  have c2:=H.p.sc
  have c3:=H.m.sc
  have lc:=H.c.len
  have l0:=hl.c
  simp+contextual -implicitDefEqProofs (maxSteps:=1000000) (maxDischargeDepth:=20) only[go_sem,simprocAttr,hs,hF,AF18,scC,c1,c2,c3,lc,List.length_map]
  refine ⟨fun q=> ?_,fun q=>⟨fun q2=> ?_,fun q2=> ?_⟩⟩
  · rw[scE,if_pos (by omega)];exact ⟨rfl,rfl⟩
  · rw[scE,if_neg (by omega),if_pos q2];exact ⟨rfl,rfl⟩
  have e0:scE s=if first (cfBad s.cf) s.cf.length≠0 then (first (cfBad s.cf) s.cf.length,firstI (cfBad s.cf) s.cf.length) else if (planE s.pl).1≠0 then planE s.pl else if 400<(s.cm.length:Int) then (5,0) else (first (cmBad s) s.cm.length,firstI (cmBad s) s.cm.length):=by rw[scE,if_neg (by omega),if_neg q2]
  refine WloopK s.cf.length [X24] (fun i=> [.int .i64 i]) (FP (cfBad s.cf) s.cf.length) (by omega) (by repeat first |apply Cl_b |apply Cl_q |apply Cl_r) ⟨rfl,FP.zero _ _⟩ (fun i h' lg' g hi hP hK=> ?_) (fun h' lg' g hP hK=> ?_)
  · have a:=hK.all (lg:=lg) (d:=d) (by repeat first |exact LogOK.nil |apply LogOK.cons)
    have lt1:nb h 1<h'.length:=by have:=hK.len;rw[bxt_len] at this;simp only[nb,List.length_cons,List.length_nil] at this ⊢;omega
    have o:=old_blk lt1
    have kk:Keep ⟨h,lg,[]⟩ ⟨h',lg',[]⟩:=Keep.trans (keep_bx (by repeat first |exact LogOK.nil |apply LogOK.cons)) hK
    have e:=(hK.sl H.c).el hi
    have p:=(hK.sl H.c).pv hi (by omega)
    have r:=rnd hi (by omega)
    have v:=hc _ (gt_mem hi)
    have g1:=fun m=>h52 (gt s.cf i) m v.1 v.2
    unfold cfgC at e p g1
    simp+contextual -implicitDefEqProofs (maxSteps:=1000000) (maxDischargeDepth:=20) only[go_sem,simprocAttr,a,e,p,r,g1,lc,List.length_map,o]
    have SC: ∀ x,cfBad s.cf i=x→x≠0→x=(scE s).1∧(i:Int)=(scE s).2:=fun x c hx=>by
      have:=hP.stop hi c hx
      rw[e0,if_pos (by rw[this.1];exact hx)]
      exact ⟨this.1.symm,this.2.symm⟩
    refine ⟨fun c=>⟨SC _ (by rw[cfBad,if_pos c]) c,(kk.sub (d:=d)).own (b:=nb h 1) nb_ge lt1 _ _ (LgG.ok (by repeat first |exact LgG.nil |refine LgG.cons (by first |exact nb_ge |exact Nat.le_trans (kk.len) nb_ge |assumption) ?_))⟩,fun c=>⟨fun h0=>⟨fun c2=>⟨SC 19 (by rw[cfBad,if_neg (by omega),if_pos ⟨by omega,c2⟩]) (by omega),(kk.sub (d:=d)).own (b:=nb h 1) nb_ge lt1 _ _ (LgG.ok (by repeat first |exact LgG.nil |refine LgG.cons (by first |exact nb_ge |exact Nat.le_trans (kk.len) nb_ge |assumption) ?_))⟩,fun c2=>hP.next hi (by rw[cfBad,if_neg (by omega),if_neg (fun q=>c2 q.2)])⟩,fun h0=>hP.next hi (by rw[cfBad,if_neg (by omega),if_neg (fun q=>h0 (by omega))])⟩⟩
  · have a:=hK.all (lg:=lg) (d:=d) (by repeat first |exact LogOK.nil |apply LogOK.cons)
    have lt1:nb h 1<h'.length:=by have:=hK.len;rw[bxt_len] at this;simp only[nb,List.length_cons,List.length_nil] at this ⊢;omega
    have o:=old_blk lt1
    have kk:Keep ⟨h,lg,[]⟩ ⟨h',lg',[]⟩:=Keep.trans (keep_bx (by repeat first |exact LogOK.nil |apply LogOK.cons)) hK
    have r:=rndl s.cf.length
    have H':ScAt h' s:=⟨hK.sl H.c,hK.sl H.p,hK.sl H.m⟩
    have g2:=fun l lg d=>h53 s.pl s.pv ⟨bxt h' l,lg,d⟩ (H'.p.bx l) (by have:=hl.p;omega)
    have lm:=H'.m.len
    simp+contextual -implicitDefEqProofs (maxSteps:=1000000) (maxDischargeDepth:=20) only[go_sem,simprocAttr,a,r,lc,List.length_map,g2,lm,o]
    have e1:scE s=if (planE s.pl).1≠0 then planE s.pl else if 400<(s.cm.length:Int) then (5,0) else (first (cmBad s) s.cm.length,firstI (cmBad s) s.cm.length):=by rw[e0,if_neg (by have:=hP.last.1;omega)]
    refine ⟨fun c=>⟨by rw[e1,if_pos c];exact ⟨rfl,rfl⟩,(kk.sub (d:=d)).own (b:=nb h 1) nb_ge lt1 _ _ (LgG.ok (by repeat first |exact LgG.nil |refine LgG.cons (by first |exact nb_ge |exact Nat.le_trans (kk.len) nb_ge |assumption) ?_))⟩,fun c=>⟨fun c2=>⟨by rw[e1,if_neg (by omega),if_pos c2];exact ⟨rfl,rfl⟩,(kk.sub (d:=d)).own (b:=nb h 1) nb_ge lt1 _ _ (LgG.ok (by repeat first |exact LgG.nil |refine LgG.cons (by first |exact nb_ge |exact Nat.le_trans (kk.len) nb_ge |assumption) ?_))⟩,fun c2=> ?_⟩⟩
    have e2:scE s=(first (cmBad s) s.cm.length,firstI (cmBad s) s.cm.length):=by rw[e1,if_neg (by omega),if_neg c2]
    refine WloopK s.cm.length [X72] (fun i=> [.int .i64 i]) (FP (cmBad s) s.cm.length) (by have:=hl.m;omega) (by repeat first |apply Cl_b |apply Cl_q |apply Cl_r) ⟨rfl,FP.zero _ _⟩ (fun i h2 lg2 g2 hi hP2 hK2=> ?_) (fun h2 lg2 g2 hP2 hK2=> ?_)
    · have k3:=hK.trans hK2
      have a2:=hK2.all (lg:=lg') (d:=d) (by repeat first |exact LogOK.nil |apply LogOK.cons)
      have a:=Keep.all (lg:=lg) (d:=d) k3 (by repeat first |exact LogOK.nil |apply LogOK.cons)
      have lt2:nb h 1<h2.length:=by have:=k3.len;rw[bxt_len] at this;simp only[nb,List.length_cons,List.length_nil] at this ⊢;omega
      have o:=old_blk lt2
      have kk2:Keep ⟨h,lg,[]⟩ ⟨h2,lg2,[]⟩:=Keep.trans (keep_bx (by repeat first |exact LogOK.nil |apply LogOK.cons)) k3
      have H2:ScAt h2 s:=⟨k3.sl H.c,k3.sl H.p,k3.sl H.m⟩
      have e:=H2.m.el hi
      have r:=rnd hi (by have:=hl.m;omega)
      have u:=hd _ (gt_mem hi)
      have hu2:bget h2 1=some (.row own 8 usesR):=(kk2.get 1 (bget_lt hu)).trans hu
      have g4:=fun l lg d=>h54 s (gt s.cm i) own ⟨bxt h2 l,lg,d⟩ ((bxt_old l h2 1 (bget_lt hu2)).trans hu2) (H2.bx l) hl.c u.1 u.2
      have lm2:=H2.m.len
      unfold scC at g4
      unfold cmdC at e g4
      simp+contextual -implicitDefEqProofs (maxSteps:=1000000) (maxDischargeDepth:=20) only[go_sem,simprocAttr,a,a2,e,r,g4,lm2,List.length_map,o]
      refine ⟨fun c=>⟨?_,(kk2.sub (d:=d)).own (b:=nb h 1) nb_ge lt2 _ _ (LgG.ok (by repeat first |exact LgG.nil |refine LgG.cons (by first |exact nb_ge |exact Nat.le_trans (kk2.len) nb_ge |assumption) ?_))⟩,fun c=>hP2.next hi c⟩
      have z:=hP2.stop hi (x:=oneE s.cf (gt s.cm i)) rfl c
      rw[e2,z.1,z.2]
      exact ⟨rfl,rfl⟩
    · have k3:=hK.trans hK2
      have a2:=hK2.all (lg:=lg') (d:=d) (by repeat first |exact LogOK.nil |apply LogOK.cons)
      have a:=Keep.all (lg:=lg) (d:=d) k3 (by repeat first |exact LogOK.nil |apply LogOK.cons)
      have H2:ScAt h2 s:=⟨k3.sl H.c,k3.sl H.p,k3.sl H.m⟩
      have r:=rndl s.cm.length
      have lm2:=H2.m.len
      have lt2:nb h 1<h2.length:=by have:=k3.len;rw[bxt_len] at this;simp only[nb,List.length_cons,List.length_nil] at this ⊢;omega
      have o:=old_blk lt2
      simp+contextual -implicitDefEqProofs (maxSteps:=1000000) (maxDischargeDepth:=20) only[go_sem,simprocAttr,a,a2,r,lm2,List.length_map,o]
      have kk2:Keep ⟨h,lg,[]⟩ ⟨h2,lg2,[]⟩:=Keep.trans (keep_bx (by repeat first |exact LogOK.nil |apply LogOK.cons)) k3
      have z:=hP2.last
      rw[e2,z.1,z.2]
      exact ⟨⟨rfl,rfl⟩,(kk2.sub (d:=d)).own (b:=nb h 1) nb_ge lt2 _ _ (LgG.ok (by repeat first |exact LgG.nil |refine LgG.cons (by first |exact nb_ge |exact Nat.le_trans (kk2.len) nb_ge |assumption) ?_))⟩
end
section
variable {F:FuncId→Option AFunc} {meth:Meth} {sm:Summ}
theorem first_all {bad:Nat→Int} {n:Nat} (h:first bad n=0): ∀ i,i<n→bad i=0:=fun i hi=>(ffrom_zero n 0).1 h i (Nat.zero_le _) (by omega)
theorem scE_ok {s:ScX} (h:(scE s).1=0):(s.cf.length≤16∧s.pl.length≤200∧s.cm.length≤400)∧(∀ i,i<s.cf.length→cfBad s.cf i=0)∧(∀ i,i<s.pl.length→conBad s.pl i=0)∧ ∀ i,i<s.cm.length→cmBad s i=0:=by
  unfold scE at h
  split at h
  · cases h
  · split at h
    · cases h
    · split at h
      · rename_i q;exact absurd h q
      · split at h
        · rename_i q;exact absurd h q
        · split at h
          · cases h
          · rename_i q1 q2 q3 q4 q5
            have p:(planE s.pl).1=0:=by omega
            unfold planE at p
            split at p
            · cases p
            · rename_i q6
              exact ⟨⟨by omega,by omega,by omega⟩,first_all (by omega),first_all p,first_all h⟩
theorem scE_con {s:ScX} (h:(scE s).1=0):ConsOK s.pl:=fun i hi=>con_ok ((scE_ok h).2.2.1 i hi)
end
section
variable {F:FuncId→Option AFunc} {meth:Meth} {sm:Summ}
def outB (s:ScX) (x:Int):AV:= .tuple [.int .i64 (if (scE s).1≠0 then 0 else x),.agg [.int .i64 (if (scE s).1≠0 then (scE s).1 else 0),.int .i64 (if (scE s).1≠0 then (scE s).2 else 0)]]
structure ScOK (s:ScX):Prop where
  l:ScL s
  c: ∀ c∈s.cf,0≤c.window∧0≤c.low
  d: ∀ c∈s.cm,c.b.data.length≤1000000∧I c.b.total
def H9 (sm:Summ):Prop:= ∀ (s:ScX) (own:Bool) (m:Mem),bget m.blks 1=some (.row own 8 usesR)→ScAt m.blks s→ScOK s→sm 9 [.agg (scC s)] m=some (outB s (boundS s),m)
theorem e9 (hF:F 9=some AF9) (hs: ∀ vs m,sm 9 vs m=none) (n:Nat) (h:Blks) (lg d:List Nat) (h18:H18 sm) (h19:H19 sm) (h40:H40 sm) {s:ScX} {own:Bool} (hu:bget h 1=some (.row own 8 usesR)) (H:ScAt h s) (hl:ScOK s):Ev F meth sm (n+2000) 9 [.agg (scC s)] ⟨h,lg,d⟩ (outB s (boundS s)):=by
  refine Ev.ofW ?_
  have c1:=H.c.sc
  have c2:=H.p.sc
  have c3:=H.m.sc
  have g1:=fun l lg d=>h18 s own ⟨bxt h l,lg,d⟩ ((bxt_old l h 1 (bget_lt hu)).trans hu) (H.bx l) hl.l hl.c hl.d
  have l1:=hl.l.c
  have l2:=hl.l.m
  by_cases z:(scE s).1=0
  · have cv:=scE_con z
    have g2:=fun l lg d=>h19 s ⟨bxt h l,lg,d⟩ (H.bx l) cv hl.l
    have ro:1≤pR s:=(rateP_ok cv s.pl.length (Nat.le_refl _)).1
    have g3:=fun m=>h40 s.cf.length s.cm.length (pR s) (pD s) m (by omega) (by omega) ro
    unfold scC at g1 g2
    unfold termC at g2 g3
    unfold outB
    simp+contextual -implicitDefEqProofs (maxSteps:=1000000) (maxDischargeDepth:=20) only[go_sem,simprocAttr,hs,hF,AF9,scC,c1,c2,c3,g1,g2,g3,z,r_vc,r_vp,mskO,Mem.more,bmore,nb_more,List.filter_nil,List.flatMap_nil,List.filter_cons,List.flatMap_cons,List.map_nil,List.map_cons,mask,unmask,AOp.reads,AOpnd.top,top_p,top_s,top_m,top_i,top_b,top_t,top_a,top_u,top_ns,top_s0,top_d,top_f,nb_beq,nb_blt,nb_add,nidOf,slotIn,Nat.beq_refl,clash,Bool.or_self,List.any_nil,List.any_cons,AOp.isMaker]
    rfl
  · unfold scC at g1
    unfold outB
    simp+contextual -implicitDefEqProofs (maxSteps:=1000000) (maxDischargeDepth:=20) only[go_sem,simprocAttr,hs,hF,AF9,scC,c1,c2,c3,g1,z,r_vc,r_vp,mskO,Mem.more,bmore,nb_more,List.filter_nil,List.flatMap_nil,List.filter_cons,List.flatMap_cons,List.map_nil,List.map_cons,mask,unmask,AOp.reads,AOpnd.top,top_p,top_s,top_m,top_i,top_b,top_t,top_a,top_u,top_ns,top_s0,top_d,top_f,nb_beq,nb_blt,nb_add,nidOf,slotIn,Nat.beq_refl,clash,Bool.or_self,List.any_nil,List.any_cons,AOp.isMaker]
def H11 (sm:Summ):Prop:= ∀ (s:ScX) (own:Bool) (m:Mem),bget m.blks 1=some (.row own 8 usesR)→ScAt m.blks s→ScOK s→sm 11 [.agg (scC s)] m=some (outB s (reachS s),m)
theorem e11 (hF:F 11=some AF11) (hs: ∀ vs m,sm 11 vs m=none) (n:Nat) (h:Blks) (lg d:List Nat) (h18:H18 sm) (h19:H19 sm) (h20:H20 sm) {s:ScX} {own:Bool} (hu:bget h 1=some (.row own 8 usesR)) (H:ScAt h s) (hl:ScOK s):Ev F meth sm (n+2000) 11 [.agg (scC s)] ⟨h,lg,d⟩ (outB s (reachS s)):=by
  refine Ev.ofW ?_
  have c1:=H.c.sc
  have c2:=H.p.sc
  have c3:=H.m.sc
  have g1:=fun l lg d=>h18 s own ⟨bxt h l,lg,d⟩ ((bxt_old l h 1 (bget_lt hu)).trans hu) (H.bx l) hl.l hl.c hl.d
  have l1:=hl.l.c
  have l2:=hl.l.m
  by_cases z:(scE s).1=0
  · have cv:=scE_con z
    have g2:=fun l lg d=>h19 s ⟨bxt h l,lg,d⟩ (H.bx l) cv hl.l
    have ro:1≤pR s:=(rateP_ok cv s.pl.length (Nat.le_refl _)).1
    have od:0≤pD s∧pD s≤1048576:=delayP_ok cv s.pl.length (Nat.le_refl _)
    have g3:=fun m=>h20 s.cf.length s.cm.length (pR s) (pD s) m (by omega) (by omega) ro od
    unfold scC at g1 g2
    unfold termC at g2 g3
    unfold outB
    simp+contextual -implicitDefEqProofs (maxSteps:=1000000) (maxDischargeDepth:=20) only[go_sem,simprocAttr,hs,hF,AF11,scC,c1,c2,c3,g1,g2,g3,z,r_vc,r_vp,mskO,Mem.more,bmore,nb_more,List.filter_nil,List.flatMap_nil,List.filter_cons,List.flatMap_cons,List.map_nil,List.map_cons,mask,unmask,AOp.reads,AOpnd.top,top_p,top_s,top_m,top_i,top_b,top_t,top_a,top_u,top_ns,top_s0,top_d,top_f,nb_beq,nb_blt,nb_add,nidOf,slotIn,Nat.beq_refl,clash,Bool.or_self,List.any_nil,List.any_cons,AOp.isMaker]
    rfl
  · unfold scC at g1
    unfold outB
    simp+contextual -implicitDefEqProofs (maxSteps:=1000000) (maxDischargeDepth:=20) only[go_sem,simprocAttr,hs,hF,AF11,scC,c1,c2,c3,g1,z,r_vc,r_vp,mskO,Mem.more,bmore,nb_more,List.filter_nil,List.flatMap_nil,List.filter_cons,List.flatMap_cons,List.map_nil,List.map_cons,mask,unmask,AOp.reads,AOpnd.top,top_p,top_s,top_m,top_i,top_b,top_t,top_a,top_u,top_ns,top_s0,top_d,top_f,nb_beq,nb_blt,nb_add,nidOf,slotIn,Nat.beq_refl,clash,Bool.or_self,List.any_nil,List.any_cons,AOp.isMaker]
def H10 (sm:Summ):Prop:= ∀ (s:ScX) (m:Mem),ScAt m.blks s→ScOK s→sm 10 [.agg (scC s)] m=some (outB s (boundS s),m)
theorem e10 (hF:F 10=some AF10) (hs: ∀ vs m,sm 10 vs m=none) (n:Nat) (h:Blks) (lg d:List Nat) (h37:H37 sm) (h41:H41 sm) {s:ScX} (H:ScAt h s) (hl:ScOK s):Ev F meth sm (n+2000) 10 [.agg (scC s)] ⟨h,lg,d⟩ (outB s (boundS s)):=by
  refine Ev.ofW ?_
  have c1:=H.c.sc
  have c2:=H.p.sc
  have c3:=H.m.sc
  have g1:=fun l lg d=>h37 s ⟨bxt h l,lg,d⟩ (H.bx l) hl.l hl.d
  by_cases z:(scE s).1=0
  · have cv:=scE_con z
    have g2:=fun l lg d=>h41 s ⟨bxt h l,lg,d⟩ (H.bx l) cv hl.l
    unfold scC at g1 g2
    unfold outB
    simp+contextual -implicitDefEqProofs (maxSteps:=1000000) (maxDischargeDepth:=20) only[go_sem,simprocAttr,hs,hF,AF10,scC,c1,c2,c3,g1,g2,z,r_vc,r_vp,mskO,Mem.more,bmore,nb_more,List.filter_nil,List.flatMap_nil,List.filter_cons,List.flatMap_cons,List.map_nil,List.map_cons,mask,unmask,AOp.reads,AOpnd.top,top_p,top_s,top_m,top_i,top_b,top_t,top_a,top_u,top_ns,top_s0,top_d,top_f,nb_beq,nb_blt,nb_add,nidOf,slotIn,Nat.beq_refl,clash,Bool.or_self,List.any_nil,List.any_cons,AOp.isMaker]
  · unfold scC at g1
    unfold outB
    simp+contextual -implicitDefEqProofs (maxSteps:=1000000) (maxDischargeDepth:=20) only[go_sem,simprocAttr,hs,hF,AF10,scC,c1,c2,c3,g1,z,r_vc,r_vp,mskO,Mem.more,bmore,nb_more,List.filter_nil,List.flatMap_nil,List.filter_cons,List.flatMap_cons,List.map_nil,List.map_cons,mask,unmask,AOp.reads,AOpnd.top,top_p,top_s,top_m,top_i,top_b,top_t,top_a,top_u,top_ns,top_s0,top_d,top_f,nb_beq,nb_blt,nb_add,nidOf,slotIn,Nat.beq_refl,clash,Bool.or_self,List.any_nil,List.any_cons,AOp.isMaker]
def H12 (sm:Summ):Prop:= ∀ (s:ScX) (m:Mem),ScAt m.blks s→ScOK s→sm 12 [.agg (scC s)] m=some (outB s (reachS s),m)
theorem e12 (hF:F 12=some AF12) (hs: ∀ vs m,sm 12 vs m=none) (n:Nat) (h:Blks) (lg d:List Nat) (h37:H37 sm) (h42:H42 sm) {s:ScX} (H:ScAt h s) (hl:ScOK s):Ev F meth sm (n+2000) 12 [.agg (scC s)] ⟨h,lg,d⟩ (outB s (reachS s)):=by
  refine Ev.ofW ?_
  have c1:=H.c.sc
  have c2:=H.p.sc
  have c3:=H.m.sc
  have g1:=fun l lg d=>h37 s ⟨bxt h l,lg,d⟩ (H.bx l) hl.l hl.d
  by_cases z:(scE s).1=0
  · have cv:=scE_con z
    have g2:=fun l lg d=>h42 s ⟨bxt h l,lg,d⟩ (H.bx l) cv hl.l
    unfold scC at g1 g2
    unfold outB
    simp+contextual -implicitDefEqProofs (maxSteps:=1000000) (maxDischargeDepth:=20) only[go_sem,simprocAttr,hs,hF,AF12,scC,c1,c2,c3,g1,g2,z,r_vc,r_vp,mskO,Mem.more,bmore,nb_more,List.filter_nil,List.flatMap_nil,List.filter_cons,List.flatMap_cons,List.map_nil,List.map_cons,mask,unmask,AOp.reads,AOpnd.top,top_p,top_s,top_m,top_i,top_b,top_t,top_a,top_u,top_ns,top_s0,top_d,top_f,nb_beq,nb_blt,nb_add,nidOf,slotIn,Nat.beq_refl,clash,Bool.or_self,List.any_nil,List.any_cons,AOp.isMaker]
  · unfold scC at g1
    unfold outB
    simp+contextual -implicitDefEqProofs (maxSteps:=1000000) (maxDischargeDepth:=20) only[go_sem,simprocAttr,hs,hF,AF12,scC,c1,c2,c3,g1,z,r_vc,r_vp,mskO,Mem.more,bmore,nb_more,List.filter_nil,List.flatMap_nil,List.filter_cons,List.flatMap_cons,List.map_nil,List.map_cons,mask,unmask,AOp.reads,AOpnd.top,top_p,top_s,top_m,top_i,top_b,top_t,top_a,top_u,top_ns,top_s0,top_d,top_f,nb_beq,nb_blt,nb_add,nidOf,slotIn,Nat.beq_refl,clash,Bool.or_self,List.any_nil,List.any_cons,AOp.isMaker]
end
section
variable {F:FuncId→Option AFunc} {meth:Meth} {sm:Summ}
theorem vol_ok {c:ConD} (h:conOK c):1≤volC c∧volC c≤1152921504606846976:=by
  obtain ⟨_,_,_,h4,h5,h6,h7,h8,_,_⟩:=h
  unfold volC
  have a:=mul_b (a:=c.r) (b:=c.e - c.s) (A:=1048576) (B:=1099511627776) (by omega) h8 (by omega) (by omega)
  have b:=Int.mul_pos (a:=c.r) (b:=c.e - c.s) (by omega) (by omega)
  omega
theorem pos_ok {c:ConD} (h:conOK c) (x:Int):0≤posC c x∧posC c x≤volC c:=by
  have v:=vol_ok h
  obtain ⟨_,_,_,h4,h5,h6,h7,h8,_,_⟩:=h
  unfold posC
  split
  · omega
  · refine ⟨Int.mul_nonneg (by omega) (by omega),Int.mul_le_mul_of_nonneg_left (by omega) (by omega)⟩
def thrC (c:ConD) (p:Int):Int:=c.s+(p+c.r - 1) / c.r
theorem thr_ok {c:ConD} (h:conOK c) {p:Int} (h0:0≤p) (h1:p≤volC c):0≤(p+c.r - 1) / c.r∧(p+c.r - 1) / c.r≤1099511627777:=by
  obtain ⟨_,_,_,h4,h5,h6,h7,h8,h9,h10⟩:=h
  refine ⟨Int.ediv_nonneg (by omega) (by omega),?_⟩
  have e1:(p+c.r - 1) / c.r≤(volC c+(c.r - 1)) / c.r:=Int.ediv_le_ediv (by omega) (by omega)
  have e2:volC c+(c.r - 1)=(c.r - 1)+c.r*(c.e - c.s):=by unfold volC;omega
  rw[e2,Int.add_mul_ediv_left _ _ (by omega),Int.ediv_eq_zero_of_lt (a:=c.r - 1) (b:=c.r) (by omega) (by omega)] at e1
  omega
def H153 (sm:Summ):Prop:= ∀ (x a b:Int) (m:Mem),sm 153 [.int .i64 x,.int .i64 a,.int .i64 b] m=some (.bool (decide (a≤x∧x≤b)),m)
theorem e153 (hF:F 153=some AF153) (hs: ∀ vs m,sm 153 vs m=none) (n:Nat) (h:Blks) (lg d:List Nat) {x a b:Int}:Ev F meth sm (n+2000) 153 [.int .i64 x,.int .i64 a,.int .i64 b] ⟨h,lg,d⟩ (.bool (decide (a≤x∧x≤b))):=by
  refine Ev.ofW ?_
  simp+contextual -implicitDefEqProofs (maxSteps:=1000000) (maxDischargeDepth:=20) only[go_sem,simprocAttr,hs,hF,AF153]
def H146 (sm:Summ):Prop:= ∀ (x:Int) (m:Mem),sm 146 [.int .i64 x] m=some (.bool (decide (0≤x∧x≤1099511627776)),m)
theorem e146 (hF:F 146=some AF146) (hs: ∀ vs m,sm 146 vs m=none) (n:Nat) (h:Blks) (lg d:List Nat) (h153:H153 sm) {x:Int}:Ev F meth sm (n+2000) 146 [.int .i64 x] ⟨h,lg,d⟩ (.bool (decide (0≤x∧x≤1099511627776))):=by
  refine Ev.ofW ?_
  have g:=fun m=>h153 x 0 1099511627776 m
  simp+contextual -implicitDefEqProofs (maxSteps:=1000000) (maxDischargeDepth:=20) only[go_sem,simprocAttr,hs,hF,AF146,g]
def H148 (sm:Summ):Prop:= ∀ (x:Int) (m:Mem),sm 148 [.int .i64 x] m=some (.bool (decide (1≤x∧x≤1099511627776)),m)
theorem e148 (hF:F 148=some AF148) (hs: ∀ vs m,sm 148 vs m=none) (n:Nat) (h:Blks) (lg d:List Nat) (h153:H153 sm) {x:Int}:Ev F meth sm (n+2000) 148 [.int .i64 x] ⟨h,lg,d⟩ (.bool (decide (1≤x∧x≤1099511627776))):=by
  refine Ev.ofW ?_
  have g:=fun m=>h153 x 1 1099511627776 m
  simp+contextual -implicitDefEqProofs (maxSteps:=1000000) (maxDischargeDepth:=20) only[go_sem,simprocAttr,hs,hF,AF148,g]
def H147 (sm:Summ):Prop:= ∀ (c:ConD) (m:Mem),conOK c→sm 147 [.agg (conC c)] m=some (.int .i64 (volC c),m)
theorem e147 (hF:F 147=some AF147) (hs: ∀ vs m,sm 147 vs m=none) (n:Nat) (h:Blks) (lg d:List Nat) {c:ConD} (hc:conOK c):Ev F meth sm (n+2000) 147 [.agg (conC c)] ⟨h,lg,d⟩ (.int .i64 (volC c)):=by
  refine Ev.ofW ?_
  have v:=vol_ok hc
  have w1:IntKind.i64.wrap (c.e - c.s)=c.e - c.s:=wrapI (by have:=hc.2.2.2;omega) (by have:=hc.2.2.2;omega)
  have w2:IntKind.i64.wrap (c.r*(c.e - c.s))=volC c:=wrapI (by unfold volC at v;omega) (by unfold volC at v;omega)
  simp+contextual -implicitDefEqProofs (maxSteps:=1000000) (maxDischargeDepth:=20) only[go_sem,simprocAttr,hs,hF,AF147,conC,w1,w2]
def H156 (sm:Summ):Prop:= ∀ (c:ConD) (m:Mem),conOK c→sm 156 [.agg (conC c)] m=some (.int .i64 (volC c),m)
theorem e156 (hF:F 156=some AF156) (hs: ∀ vs m,sm 156 vs m=none) (n:Nat) (h:Blks) (lg d:List Nat) {c:ConD} (hc:conOK c):Ev F meth sm (n+2000) 156 [.agg (conC c)] ⟨h,lg,d⟩ (.int .i64 (volC c)):=by
  refine Ev.ofW ?_
  have v:=vol_ok hc
  have w1:IntKind.i64.wrap (c.e - c.s)=c.e - c.s:=wrapI (by have:=hc.2.2.2;omega) (by have:=hc.2.2.2;omega)
  have w2:IntKind.i64.wrap (c.r*(c.e - c.s))=volC c:=wrapI (by unfold volC at v;omega) (by unfold volC at v;omega)
  simp+contextual -implicitDefEqProofs (maxSteps:=1000000) (maxDischargeDepth:=20) only[go_sem,simprocAttr,hs,hF,AF156,conC,w1,w2]
def H154 (sm:Summ):Prop:= ∀ (c:ConD) (x:Int) (m:Mem),conOK c→(0≤x∧x≤hopT)→sm 154 [.agg (conC c),.int .i64 x] m=some (.int .i64 (posC c x),m)
theorem e154 (hF:F 154=some AF154) (hs: ∀ vs m,sm 154 vs m=none) (n:Nat) (h:Blks) (lg d:List Nat) {c:ConD} {x:Int} (hc:conOK c) (hx:0≤x∧x≤hopT):Ev F meth sm (n+2000) 154 [.agg (conC c),.int .i64 x] ⟨h,lg,d⟩ (.int .i64 (posC c x)):=by
  refine Ev.ofW ?_
  have v:=vol_ok hc
  have p:=pos_ok hc x
  unfold hopT at hx
  have hc':=hc.2.2.2
  have w1:IntKind.i64.wrap (min x c.e - c.s)=min x c.e - c.s:=wrapI (by omega) (by omega)
  have w2: ¬ x≤c.s→IntKind.i64.wrap (c.r*(min x c.e - c.s))=c.r*(min x c.e - c.s):=fun q=>wrapI (by unfold posC at p;rw[if_neg q] at p;omega) (by unfold posC at p;rw[if_neg q] at p;omega)
  have e:(if c.e<x then c.e else x)=min x c.e:=by omega
  simp+contextual -implicitDefEqProofs (maxSteps:=1000000) (maxDischargeDepth:=20) only[go_sem,simprocAttr,hs,hF,AF154,conC,e,w1,w2]
  (repeat' first |apply And.intro |intro _) <;>(simp only[posC] <;>(repeat' split) <;>first |rfl |omega)
def H157 (sm:Summ):Prop:= ∀ (c:ConD) (x:Int) (m:Mem),conOK c→(0≤x∧x≤hopT)→sm 157 [.agg (conC c),.int .i64 x] m=some (.int .i64 (posC c x),m)
theorem e157 (hF:F 157=some AF157) (hs: ∀ vs m,sm 157 vs m=none) (n:Nat) (h:Blks) (lg d:List Nat) (h156:H156 sm) {c:ConD} {x:Int} (hc:conOK c) (hx:0≤x∧x≤hopT):Ev F meth sm (n+2000) 157 [.agg (conC c),.int .i64 x] ⟨h,lg,d⟩ (.int .i64 (posC c x)):=by
  refine Ev.ofW ?_
  have v:=vol_ok hc
  have p:=pos_ok hc x
  unfold hopT at hx
  have hc':=hc.2.2.2
  have g:=fun m=>h156 c m hc
  unfold conC at g
  have w1:IntKind.i64.wrap (x - c.s)=x - c.s:=wrapI (by omega) (by omega)
  have e2: ¬ x≤c.s→ ¬ c.e≤x→c.r*(x - c.s)=posC c x:=fun q q'=>by unfold posC;rw[if_neg q,Int.min_eq_left (by omega)]
  have w2: ¬ x≤c.s→ ¬ c.e≤x→IntKind.i64.wrap (c.r*(x - c.s))=posC c x:=fun q q'=>by rw[e2 q q'];exact wrapI (by omega) (by omega)
  simp+contextual -implicitDefEqProofs (maxSteps:=1000000) (maxDischargeDepth:=20) only[go_sem,simprocAttr,hs,hF,AF157,conC,g,w1,w2,r_vc,r_vp,mskO,Mem.more,bmore,nb_more,List.filter_nil,List.flatMap_nil,List.filter_cons,List.flatMap_cons,List.map_nil,List.map_cons,mask,unmask,AOp.reads,AOpnd.top,top_p,top_s,top_m,top_i,top_b,top_t,top_a,top_u,top_ns,top_s0,top_d,top_f,nb_beq,nb_blt,nb_add,nidOf,slotIn,Nat.beq_refl,clash,Bool.or_self,List.any_nil,List.any_cons,AOp.isMaker]
  refine ⟨fun q=> ?_,fun q q'=> ?_⟩
  · unfold posC;rw[if_pos q]
  · unfold posC volC;rw[if_neg q,Int.min_eq_right (by omega)]
def H149 (sm:Summ):Prop:= ∀ (c:ConD) (x:Int) (m:Mem),conOK c→(0≤x∧x≤hopT)→sm 149 [.agg (conC c),.int .i64 0,.int .i64 x] m=some (.int .i64 (posC c x),m)
theorem e149 (hF:F 149=some AF149) (hs: ∀ vs m,sm 149 vs m=none) (n:Nat) (h:Blks) (lg d:List Nat) (h154:H154 sm) {c:ConD} {x:Int} (hc:conOK c) (hx:0≤x∧x≤hopT):Ev F meth sm (n+2000) 149 [.agg (conC c),.int .i64 0,.int .i64 x] ⟨h,lg,d⟩ (.int .i64 (posC c x)):=by
  refine Ev.ofW ?_
  have p:=pos_ok hc x
  have g:=fun m=>h154 c x m hc hx
  unfold conC at g
  have e:(if 0<posC c x then posC c x else 0)=posC c x:=by omega
  simp+contextual -implicitDefEqProofs (maxSteps:=1000000) (maxDischargeDepth:=20) only[go_sem,simprocAttr,hs,hF,AF149,conC,g,e,r_vc,r_vp,mskO,Mem.more,bmore,nb_more,List.filter_nil,List.flatMap_nil,List.filter_cons,List.flatMap_cons,List.map_nil,List.map_cons,mask,unmask,AOp.reads,AOpnd.top,top_p,top_s,top_m,top_i,top_b,top_t,top_a,top_u,top_ns,top_s0,top_d,top_f,nb_beq,nb_blt,nb_add,nidOf,slotIn,Nat.beq_refl,clash,Bool.or_self,List.any_nil,List.any_cons,AOp.isMaker]
def H150 (sm:Summ):Prop:= ∀ (c:ConD) (p:Int) (m:Mem),conOK c→(0≤p∧p≤volC c)→sm 150 [.agg (conC c),.int .i64 p] m=some (.int .i64 (thrC c p),m)
theorem e150 (hF:F 150=some AF150) (hs: ∀ vs m,sm 150 vs m=none) (n:Nat) (h:Blks) (lg d:List Nat) {c:ConD} {p:Int} (hc:conOK c) (hp:0≤p∧p≤volC c):Ev F meth sm (n+2000) 150 [.agg (conC c),.int .i64 p] ⟨h,lg,d⟩ (.int .i64 (thrC c p)):=by
  refine Ev.ofW ?_
  have v:=vol_ok hc
  have t:=thr_ok hc hp.1 hp.2
  have hc':=hc.2.2.2
  have w1:IntKind.i64.wrap (p+c.r)=p+c.r:=wrapI (by omega) (by omega)
  have w2:IntKind.i64.wrap (p+c.r - 1)=p+c.r - 1:=wrapI (by omega) (by omega)
  have w3:IntKind.i64.wrap (Int.tdiv (p+c.r - 1) c.r)=(p+c.r - 1) / c.r:=by
    rw[Int.tdiv_eq_ediv_of_nonneg (by omega)]
    exact wrapI (by omega) (by omega)
  have w4:IntKind.i64.wrap (c.s+(p+c.r - 1) / c.r)=thrC c p:=wrapI (by omega) (by omega)
  have z:(c.r=0)=False:=by simp;omega
  simp+contextual -implicitDefEqProofs (maxSteps:=1000000) (maxDischargeDepth:=20) only[go_sem,simprocAttr,hs,hF,AF150,conC,w1,w2,w3,w4,z]
def bookO (c:ConD) (z x:Int):Option Int:=if 1099511627776<x∨volC c<posC c x+z then none else some (thrC c (posC c x+z))
theorem hop_book {c:ConD} {z x:Int} (hx:0≤x):hopO c z x=(bookO c z x).map (· +c.d):=by
  unfold hopO bookO thrC
  by_cases q:1099511627776<x∨volC c<posC c x+z
  · rw[if_pos (by omega),if_pos q];rfl
  · rw[if_neg (by omega),if_neg q];rfl
def bookE (c:ConD) (z x:Int):Int:=if 1099511627776<x then 2 else if volC c<posC c x+z then 16 else 0
def bookA (c:ConD) (z x:Int):Int:=if bookE c z x=0 then posC c x+z else 0
def bookF (c:ConD) (z x:Int):Int:=if bookE c z x=0 then thrC c (posC c x+z) else 0
theorem book_some {c:ConD} {z x:Int}:(bookE c z x=0↔(bookO c z x).isSome=true)∧bookF c z x=(bookO c z x).getD 0:=by
  unfold bookF bookE bookO
  by_cases q:1099511627776<x
  · rw[if_pos q,if_pos (.inl q)];simp
  · by_cases q2:volC c<posC c x+z
    · rw[if_neg q,if_pos q2,if_pos (.inr q2)];simp
    · rw[if_neg q,if_neg q2,if_neg (by omega)];simp
def H139 (sm:Summ):Prop:= ∀ (c:ConD) (z x:Int) (m:Mem),conOK c→(1≤z∧z≤1200)→(0≤x∧x≤hopT)→sm 139 [.agg (conC c),.int .i64 0,.int .i64 x,.int .i64 z] m=some (.tuple [.int .i64 (bookF c z x),.int .i64 (bookA c z x),.int .i64 (bookE c z x)],m)
theorem e139 (hF:F 139=some AF139) (hs: ∀ vs m,sm 139 vs m=none) (n:Nat) (h:Blks) (lg d:List Nat) (h73:H73 sm) (h146:H146 sm) (h147:H147 sm) (h148:H148 sm) (h149:H149 sm) (h150:H150 sm) {c:ConD} {z x:Int} (hc:conOK c) (hz:1≤z∧z≤1200) (hx:0≤x∧x≤hopT):
    Ev F meth sm (n+2000) 139 [.agg (conC c),.int .i64 0,.int .i64 x,.int .i64 z] ⟨h,lg,d⟩ (.tuple [.int .i64 (bookF c z x),.int .i64 (bookA c z x),.int .i64 (bookE c z x)]):=by
  refine Ev.ofW ?_
  have v:=vol_ok hc
  have p:=pos_ok hc x
  have g1:=fun m=>h73 c m
  rw[(conE_iff c).2 hc] at g1
  have g2:=fun m=>h146 x m
  have g3:=fun m=>h147 c m hc
  have g4:=fun m=>h148 z m
  have g5:=fun m=>h149 c x m hc hx
  have g6:=fun m (q: ¬ volC c<posC c x+z)=>h150 c (posC c x+z) m hc ⟨by omega,by omega⟩
  rw[decide_eq_true (by omega:1≤z∧z≤1099511627776)] at g4
  have w1:IntKind.i64.wrap (posC c x+z)=posC c x+z:=wrapI (by omega) (by omega)
  have vn:(volC c<0)=False:=by simp;omega
  unfold conC at g1 g3 g5 g6
  by_cases q:1099511627776<x
  · rw[decide_eq_false (by omega)] at g2
    have e:bookE c z x=2:=by unfold bookE;rw[if_pos q]
    have e2:bookF c z x=0:=by unfold bookF;rw[e];rfl
    have e3:bookA c z x=0:=by unfold bookA;rw[e];rfl
    rw[e,e2,e3]
    simp+contextual -implicitDefEqProofs (maxSteps:=1000000) (maxDischargeDepth:=20) only[go_sem,simprocAttr,hs,hF,AF139,conC,g1,g2,g3,g4,g5,vn,r_vc,r_vp,mskO,Mem.more,bmore,nb_more,List.filter_nil,List.flatMap_nil,List.filter_cons,List.flatMap_cons,List.map_nil,List.map_cons,mask,unmask,AOp.reads,AOpnd.top,top_p,top_s,top_m,top_i,top_b,top_t,top_a,top_u,top_ns,top_s0,top_d,top_f,nb_beq,nb_blt,nb_add,nidOf,slotIn,Nat.beq_refl,clash,Bool.or_self,List.any_nil,List.any_cons,AOp.isMaker]
  · rw[decide_eq_true (by omega)] at g2
    by_cases q2:volC c<posC c x+z
    · have e:bookE c z x=16:=by unfold bookE;rw[if_neg q,if_pos q2]
      have e2:bookF c z x=0:=by unfold bookF;rw[e];rfl
      have e3:bookA c z x=0:=by unfold bookA;rw[e];rfl
      rw[e,e2,e3]
      simp+contextual -implicitDefEqProofs (maxSteps:=1000000) (maxDischargeDepth:=20) only[go_sem,simprocAttr,hs,hF,AF139,conC,g1,g2,g3,g4,g5,w1,q2,vn,r_vc,r_vp,mskO,Mem.more,bmore,nb_more,List.filter_nil,List.flatMap_nil,List.filter_cons,List.flatMap_cons,List.map_nil,List.map_cons,mask,unmask,AOp.reads,AOpnd.top,top_p,top_s,top_m,top_i,top_b,top_t,top_a,top_u,top_ns,top_s0,top_d,top_f,nb_beq,nb_blt,nb_add,nidOf,slotIn,Nat.beq_refl,clash,Bool.or_self,List.any_nil,List.any_cons,AOp.isMaker]
    · have g6:=fun m=>g6 m q2
      have e:bookE c z x=0:=by unfold bookE;rw[if_neg q,if_neg q2]
      have e2:bookF c z x=thrC c (posC c x+z):=by unfold bookF;rw[if_pos e]
      have e3:bookA c z x=posC c x+z:=by unfold bookA;rw[if_pos e]
      rw[e,e2,e3]
      simp+contextual -implicitDefEqProofs (maxSteps:=1000000) (maxDischargeDepth:=20) only[go_sem,simprocAttr,hs,hF,AF139,conC,g1,g2,g3,g4,g5,g6,w1,q2,vn,r_vc,r_vp,mskO,Mem.more,bmore,nb_more,List.filter_nil,List.flatMap_nil,List.filter_cons,List.flatMap_cons,List.map_nil,List.map_cons,mask,unmask,AOp.reads,AOpnd.top,top_p,top_s,top_m,top_i,top_b,top_t,top_a,top_u,top_ns,top_s0,top_d,top_f,nb_beq,nb_blt,nb_add,nidOf,slotIn,Nat.beq_refl,clash,Bool.or_self,List.any_nil,List.any_cons,AOp.isMaker]
def H119 (sm:Summ):Prop:= ∀ (c:ConD) (z x:Int) (m:Mem),conOK c→(1≤z∧z≤1200)→(0≤x∧x≤hopT)→sm 119 [.agg (conC c),.int .i64 x,.int .i64 z] m=some (.tuple [.int .i64 (bookF c z x),.int .i64 (bookE c z x)],m)
theorem e119 (hF:F 119=some AF119) (hs: ∀ vs m,sm 119 vs m=none) (n:Nat) (h:Blks) (lg d:List Nat) (h139:H139 sm) {c:ConD} {z x:Int} (hc:conOK c) (hz:1≤z∧z≤1200) (hx:0≤x∧x≤hopT):
    Ev F meth sm (n+2000) 119 [.agg (conC c),.int .i64 x,.int .i64 z] ⟨h,lg,d⟩ (.tuple [.int .i64 (bookF c z x),.int .i64 (bookE c z x)]):=by
  refine Ev.ofW ?_
  have g:=fun m=>h139 c z x m hc hz hx
  unfold conC at g
  simp+contextual -implicitDefEqProofs (maxSteps:=1000000) (maxDischargeDepth:=20) only[go_sem,simprocAttr,hs,hF,AF119,conC,g]
def hopV (c:ConD) (z x:Int):Int:=(hopO c z x).getD (if 1099511627776<x then 0 else c.d)
theorem bookF_ok {c:ConD} {z x:Int} (hc:conOK c) (hz:1≤z):0≤bookF c z x∧bookF c z x≤2199023255553:=by
  unfold bookF
  split
  · rename_i q
    unfold bookE at q
    have p:=pos_ok hc x
    have t:=thr_ok hc (p:=posC c x+z) (by omega) (by split at q;omega;split at q;omega;omega)
    unfold thrC
    have:=hc.2.2.2
    omega
  · omega
def H88 (sm:Summ):Prop:= ∀ (c:ConD) (z x:Int) (m:Mem),conOK c→(1≤z∧z≤1200)→(0≤x∧x≤hopT)→sm 88 [.agg (conC c),.int .i64 x,.int .i64 z] m=some (.tuple [.int .i64 (hopV c z x),.bool (hopO c z x).isSome],m)
theorem e88 (hF:F 88=some AF88) (hs: ∀ vs m,sm 88 vs m=none) (n:Nat) (h:Blks) (lg d:List Nat) (h119:H119 sm) {c:ConD} {z x:Int} (hc:conOK c) (hz:1≤z∧z≤1200) (hx:0≤x∧x≤hopT):
    Ev F meth sm (n+2000) 88 [.agg (conC c),.int .i64 x,.int .i64 z] ⟨h,lg,d⟩ (.tuple [.int .i64 (hopV c z x),.bool (hopO c z x).isSome]):=by
  refine Ev.ofW ?_
  have g:=fun m=>h119 c z x m hc hz hx
  unfold conC at g
  have b:=bookF_ok (x:=x) hc hz.1
  have hc':=hc.2.2.2
  have w1:IntKind.i64.wrap (bookF c z x+c.d)=bookF c z x+c.d:=wrapI (by omega) (by omega)
  have s:=book_some (c:=c) (z:=z) (x:=x)
  have hb:=hop_book (c:=c) (z:=z) hx.1
  simp+contextual -implicitDefEqProofs (maxSteps:=1000000) (maxDischargeDepth:=20) only[go_sem,simprocAttr,hs,hF,AF88,conC,g,w1,r_vc,r_vp,mskO,Mem.more,bmore,nb_more,List.filter_nil,List.flatMap_nil,List.filter_cons,List.flatMap_cons,List.map_nil,List.map_cons,mask,unmask,AOp.reads,AOpnd.top,top_p,top_s,top_m,top_i,top_b,top_t,top_a,top_u,top_ns,top_s0,top_d,top_f,nb_beq,nb_blt,nb_add,nidOf,slotIn,Nat.beq_refl,clash,Bool.or_self,List.any_nil,List.any_cons,AOp.isMaker]
  refine ⟨fun q=> ?_,fun q=> ?_⟩
  · have:hopO c z x=none:=by unfold hopO;rw[if_pos (by omega)]
    rw[hopV,this,if_pos q];exact ⟨rfl,rfl⟩
  · rw[hopV,hb,s.2,if_neg q]
    cases e:bookO c z x with
    |none=>rw[e] at s;simpa using s.1
    |some t=>rw[e] at s;simpa using s.1
end
section
variable {F:FuncId→Option AFunc} {meth:Meth} {sm:Summ}
def stC (x:Int × Int):List AV:=[.int .i64 x.1,.int .i64 x.2]
structure Chgd (P:Nat→Prop) (m m':Mem):Prop where
  len:m.blks.length≤m'.blks.length
  get: ∀ b,b<m.blks.length→ ¬ P b→bget m'.blks b=bget m.blks b
  dfrs:m'.dfrs=m.dfrs
  log: ∃ l,m'.log=l++m.log∧ ∀ b∈l,P b∨m.blks.length≤b
theorem Chgd.refl (P:Nat→Prop) (m:Mem):Chgd P m m:=⟨Nat.le_refl _,fun _ _ _=>rfl,rfl,[],rfl,fun _ h=>by cases h⟩
theorem Chgd.trans {P P':Nat→Prop} {a b c:Mem} (h:Chgd P a b) (k:Chgd P' b c) (hp: ∀ x,P' x→P x∨a.blks.length≤x):Chgd P a c where
  len:=Nat.le_trans h.len k.len
  get:=fun x hx hn=>(k.get x (Nat.lt_of_lt_of_le hx h.len) (fun q=>by rcases hp x q with q |q;exact hn q;omega)).trans (h.get x hx hn)
  dfrs:=k.dfrs.trans h.dfrs
  log :=by
    obtain ⟨l,e,hl⟩:=h.log
    obtain ⟨l',e',hl'⟩:=k.log
    refine ⟨l'++l,by rw[e',e,List.append_assoc],fun x hx=> ?_⟩
    rcases List.mem_append.1 hx with hx |hx
    · rcases hl' x hx with q |q
      · exact hp x q
      · exact .inr (Nat.le_trans h.len q)
    · exact hl x hx
theorem Keep.chgd {P:Nat→Prop} {m m':Mem} (k:Keep m m'):Chgd P m m':=⟨k.len,fun x hx _=>k.get x hx,k.dfrs,by obtain ⟨l,e,hl⟩:=k.log;exact ⟨l,e,fun x hx=> .inr (hl x hx)⟩⟩
theorem Keep.chg {P:Nat→Prop} {a b c:Mem} (h:Keep a b) (k:Chgd P b c) (hp: ∀ x,P x→a.blks.length≤x):Keep a c where
  len:=Nat.le_trans h.len k.len
  get:=fun x hx=>(k.get x (Nat.lt_of_lt_of_le hx h.len) (fun q=>by have:=hp x q;omega)).trans (h.get x hx)
  dfrs:=k.dfrs.trans h.dfrs
  log :=by
    obtain ⟨l,e,hl⟩:=h.log
    obtain ⟨l',e',hl'⟩:=k.log
    refine ⟨l'++l,by rw[e',e,List.append_assoc],fun x hx=> ?_⟩
    rcases List.mem_append.1 hx with hx |hx
    · rcases hl' x hx with q |q
      · exact hp x q
      · exact Nat.le_trans h.len q
    · exact hl x hx
theorem Chgd.sub {P:Nat→Prop} {h h':Blks} {lg lg' d d' d2:List Nat} (k:Chgd P ⟨h,lg,d⟩ ⟨h',lg',d'⟩):Chgd P ⟨h,lg,d2⟩ ⟨h',lg',d2⟩:=⟨k.len,k.get,rfl,k.log⟩
inductive LgP (P:Nat→Prop) (n:Nat) (lg:List Nat):List Nat→Prop
  |nil:LgP P n lg lg
  |cons {b:Nat} {l:List Nat}:P b∨n≤b→LgP P n lg l→LgP P n lg (b::l)
theorem LgP.ok {P:Nat→Prop} {n:Nat} {lg l:List Nat} (H:LgP P n lg l): ∃ q,l=q++lg∧ ∀ y∈q,P y∨n≤y:=by
  induction H with
  |nil=>exact ⟨[],rfl,fun y hy=>by cases hy⟩
  | cons hb _ ih=>
    obtain ⟨q,rfl,h2⟩:=ih
    exact ⟨_::q,rfl,fun y hy=>by rcases List.mem_cons.1 hy with rfl |hy;exact hb;exact h2 y hy⟩
theorem chgd_put {P:Nat→Prop} {h:Blks} {lg lg2 d:List Nat} {b:Nat} (hb:b<h.length) (hp:P b) (x:Option ABlk) (l:List (Option ABlk)) (hl:LgP P h.length lg lg2):Chgd P ⟨h,lg,d⟩ ⟨bxt (bput h b x) l,lg2,d⟩ where
  len:=by simp only[bxt_len,bput_len_eq hb];omega
  get:=fun c hc hn=>by
    simp only at hc ⊢
    rw[old_get hb hc (fun q=>hn (by rw[q];exact hp))]
  dfrs:=rfl
  log:=hl.ok
structure QAt (h:Blks) (q b:Nat) (c:Option Nat) (L:List (Int × Int)) (rows:List (List AV)):Prop where
  hq:bget h q=some (.row true 1 [[.slice b 0 L.length c]])
  hb:bget h b=some (.row true 2 rows)
  hr:rows.take L.length=L.map stC
  hl:L.length≤rows.length
  hc:c=none∨c=some rows.length
theorem QAt.ne {h:Blks} {q b:Nat} {c:Option Nat} {L:List (Int × Int)} {rows:List (List AV)} (H:QAt h q b c L rows):q≠b:=fun e=>by
  have h1:=H.hq
  have h2:=H.hb
  rw[e,h2] at h1
  simp at h1
theorem QAt.row {h:Blks} {q b:Nat} {c:Option Nat} {L:List (Int × Int)} {rows:List (List AV)} (H:QAt h q b c L rows) {k:Nat} (hk:k<L.length):rows[k]? =some (stC (gt L k)):=by
  have h1:(rows.take L.length)[k]? =(L.map stC)[k]? :=by rw[H.hr]
  rw[List.getElem?_take,if_pos hk,List.getElem?_map,List.getElem?_eq_getElem hk,←gt_eq hk] at h1
  exact h1
theorem QAt.rg {h:Blks} {q b:Nat} {c:Option Nat} {L:List (Int × Int)} {rows:List (List AV)} (H:QAt h q b c L rows) {k:Nat} (hk:k<L.length):
    rowGet 2 rows k 1 1=some [.int .i64 (gt L k).2]∧rowGet 2 rows k 0 2=some [.int .i64 (gt L k).1,.int .i64 (gt L k).2]∧(decide (k<L.length)=true):=by
  have e:=H.row hk
  refine ⟨?_,?_,by simpa using hk⟩
  · simp only[rowGet,Nat.ble,cond_false,rowGet0,e];rfl
  · simp only[rowGet,Nat.ble,cond_false,rowGet0,e];rfl
theorem rs2 {rows:List (List AV)} {k:Nat} {x y:AV} {r:List AV} (hk:rows[k]? =some r) (hr:r.length=2):rowSet 2 rows k 0 [x,y]=some (rows.set k [x,y]):=by
  have:r.drop 2=[]:=List.drop_eq_nil_of_le (by omega)
  simp only[rowSet,Nat.ble,cond_false,rowSet0,hk,List.length_cons,List.length_nil,Nat.zero_add,List.take_zero,List.nil_append]
  rw[if_pos (by omega),this,List.append_nil]
theorem QAt.sw {h:Blks} {q b:Nat} {c:Option Nat} {L:List (Int × Int)} {rows:List (List AV)} (H:QAt h q b c L rows) {i j:Nat} (hi:i<L.length) (hj:j<L.length) (l:List (Option ABlk)):
    QAt (bxt (bput h b (some (.row true 2 ((rows.set i (stC (gt L j))).set j (stC (gt L i)))))) l) q b c (sw L i j) ((rows.set i (stC (gt L j))).set j (stC (gt L i))) where
  hq:=by rw[old_get (bget_lt H.hb) (bget_lt H.hq) H.ne,sw_len];exact H.hq
  hb:=(old_blk (bget_lt H.hb)).2.2.2.2.1 _ _
  hr:=by
    rw[sw_len]
    unfold Go.Abs.sw
    rw[List.map_set,List.map_set,←H.hr,List.take_set,List.take_set]
  hl:=by rw[sw_len];simpa using H.hl
  hc:=by simpa using H.hc
theorem QAt.sl {h:Blks} {q b:Nat} {c:Option Nat} {L:List (Int × Int)} {rows:List (List AV)} (H:QAt h q b c L rows):(∀ l,bget (bxt h l) q=some (.row true 1 [[.slice b 0 L.length c]]))∧(∀ l,bget (bxt h l) b=some (.row true 2 rows)):=
  ⟨fun l=>(bxt_old l h q (bget_lt H.hq)).trans H.hq,fun l=>(bxt_old l h b (bget_lt H.hb)).trans H.hb⟩
theorem QAt.rs {h:Blks} {q b:Nat} {c:Option Nat} {L:List (Int × Int)} {rows:List (List AV)} (H:QAt h q b c L rows) {i j:Nat} (hi:i<L.length) (hj:j<L.length):
    (∀ x y,rowSet 2 rows i 0 [x,y]=some (rows.set i [x,y]))∧(∀ x y z w,rowSet 2 (rows.set i [x,y]) j 0 [z,w]=some ((rows.set i [x,y]).set j [z,w])):=by
  refine ⟨fun x y=>rs2 (H.row hi) rfl,fun x y z w=> ?_⟩
  by_cases e:j=i
  · subst e
    exact rs2 (r:=[x,y]) (by rw[List.getElem?_set_self (by have:=H.hl;omega)]) rfl
  · exact rs2 (r:=stC (gt L j)) (by rw[List.getElem?_set_ne (Ne.symm e)];exact H.row hj) rfl
def ainv (get:Nat→Option ABlk) (meth:Meth) (x:AV) (name:String) (vs:List AV):Option (ACallee × List AV):=
  match x with
  | .iface t v=>match meth t name with
    |some (f,none)=>some (.fn f,v::vs)
    | some (f,some (agg,n))=>match aprim get 0 .e (.load agg n (.c v)) with
      |some (r,_)=>some (.fn f,r::vs)
      |none=>none
    |none=>none
  |_=>none
theorem inv_0 (get:Nat→Option ABlk) (T:Tr) (x:AOpnd) (name:String) (args:List AOpnd):acallee get meth T (.invoke x name args)=ainv get meth (aev T x) name (aevs T args):=by
  simp only[acallee,ainv,aprim,aev]
  cases aev T x <;>rfl
def ainv2 (f:FuncId) (y:Option ABlk) (vs:List AV):Option (ACallee × List AV):=
  match y with
  | some (.row _ e es)=>match rowGet e es 0 0 1 with
    |some [v]=>some (.fn f,v::vs)
    |_=>none
  |_=>none
theorem inv_2 (f:FuncId) (own:Bool) (v:AV) (vs:List AV):ainv2 f (some (.row own 1 [[v]])) vs=some (.fn f,v::vs):=rfl
structure Mth (meth:Meth):Prop where
  a:meth 114 "Len" =some (86,some (false,1))
  b:meth 114 "Less" =some (175,some (false,1))
  c:meth 114 "Swap" =some (178,some (false,1))
  d:meth 114 "Push" =some (177,none)
  e:meth 114 "Pop" =some (176,none)
theorem inv_l {name:String} {f:FuncId} (h:meth 114 name=some (f,some (false,1))) (get:Nat→Option ABlk) (q:Nat) (own:Bool) (v:AV) (vs:List AV) (hg:get q=some (.row own 1 [[v]])):ainv get meth (.iface 114 (.ptr q 0 0)) name vs=some (.fn f,v::vs):=by
  simp only[ainv,h,aprim,aev,hg]
  rfl
theorem inv_p {name:String} {f:FuncId} (h:meth 114 name=some (f,none)) (get:Nat→Option ABlk) (v:AV) (vs:List AV):ainv get meth (.iface 114 v) name vs=some (.fn f,v::vs):=by
  simp only[ainv,h]
abbrev kQ:Int × Int→Int:=fun x=>x.2
def RUp (m0:Mem) (q b:Nat) (c:Option Nat) (L:List (Int × Int)):AV→Mem→Prop:=fun _ m=> ∃ L' rows',Chgd (· =b) m0 m∧QAt m.blks q b c L' rows'∧L'.Perm L∧Heap kQ L'.length L'
theorem e120 (hF:F 120=some AF120) (hs: ∀ vs m,sm 120 vs m=none) (n:Nat) (h:Blks) (lg d:List Nat) (hm:Mth meth) (s175: ∀ vs m,sm 175 vs m=none) (F175:F 175=some AF175) (s178: ∀ vs m,sm 178 vs m=none) (F178:F 178=some AF178)
    {q b:Nat} {c:Option Nat} {L:List (Int × Int)} {rows:List (List AV)} {j:Nat} (H:QAt h q b c L rows) (hj:j<L.length) (hn:L.length≤900) (hu:UpI kQ L j):
    Wa F meth sm (n+1000) (.fn 120) [.iface 114 (.ptr q 0 0),.int .i64 j] ⟨bxt h [],lg,d⟩ (RUp ⟨h,lg,d⟩ q b c L):=by
  simp+contextual -implicitDefEqProofs (maxSteps:=1000000) (maxDischargeDepth:=20) only[go_sem,simprocAttr,hs,hF,AF120]
  refine WloopE (α:=Nat × List (Int × Int) × List (List AV)) j [X1] (fun i a=> [.int .i64 a.1]) (fun i a m=>Chgd (· =b) ⟨h,lg,[]⟩ m∧QAt m.blks q b c a.2.1 a.2.2∧a.2.1.Perm L∧UpI kQ a.2.1 a.1∧a.1<L.length∧a.1+i≤j) (by omega) (by repeat first |apply Cl_b |apply Cl_q |apply Cl_r) ⟨(j,L,rows),rfl,Chgd.refl _ _,H,.refl _,hu,hj,by simp⟩ (fun i a m g hi hP=> ?_) (fun a m g hP=> ?_)
  · obtain ⟨h3,lg3,d3⟩:=m
    obtain ⟨k,L',rows'⟩:=a
    obtain ⟨kk,Q,pe,up,hk,hik⟩:=hP
    obtain rfl:d3=[]:=kk.dfrs
    simp only at Q pe up hk hik
    have le:=pe.length_eq
    have qs:=Q.sl
    have hkL:k<L'.length:=by omega
    have o:=old_blk (bget_lt Q.hb)
    refine Wc_bx ?_
    rcases Nat.eq_zero_or_pos k with e0 |k0
    · subst e0
      have w1:IntKind.i64.wrap (-1)= -1:=wrapI (by omega) (by omega)
      have w2:IntKind.i64.wrap (Int.tdiv (-1) 2)=0:=wrapI (by decide) (by decide)
      simp+contextual -implicitDefEqProofs (maxSteps:=1000000) (maxDischargeDepth:=20) only[go_sem,simprocAttr,w1,w2,e_n,e_e,e_r]
      exact ⟨L',rows',kk.sub,Q,pe,up_end up (.inl rfl)⟩
    · have hp:(k - 1) / 2<L'.length:=by omega
      have w1:IntKind.i64.wrap ((k:Int) - 1)=((k - 1:Nat):Int):=by rw[wrapI (by omega) (by omega)];omega
      have w2:IntKind.i64.wrap (Int.tdiv ((k - 1:Nat):Int) 2)=(((k - 1) / 2:Nat):Int):=by rw[Int.tdiv_eq_ediv_of_nonneg (by omega)];exact wrapI (by omega) (by omega)
      have ne:((((k - 1) / 2:Nat):Int)=(k:Int))=False:=by simp;omega
      have g1:=Q.rg hkL
      have g2:=Q.rg hp
      have st:=Q.rs hp hkL
      have m1:=fun l vs=>inv_l hm.b (bget (bxt h3 l)) q true _ vs (qs.1 l)
      have m2:=fun l vs=>inv_l hm.c (bget (bxt h3 l)) q true _ vs (qs.1 l)
      simp+contextual -implicitDefEqProofs (maxSteps:=1000000) (maxDischargeDepth:=20) only[go_sem,simprocAttr,w1,w2,ne,o_ldg,↓inv_0,m1,m2,s175,F175,s178,F178,AF175,AF178,qs,o,↓g1,↓g2,↓st,r_vc,r_vp,mskO,Mem.more,bmore,nb_more,List.filter_nil,List.flatMap_nil,List.filter_cons,List.flatMap_cons,List.map_nil,List.map_cons,mask,unmask,AOp.reads,AOpnd.top,top_p,top_s,top_m,top_i,top_b,top_t,top_a,top_u,top_ns,top_s0,top_d,top_f,nb_beq,nb_blt,nb_add,nidOf,slotIn,Nat.beq_refl,clash,Bool.or_self,List.any_nil,List.any_cons,AOp.isMaker,e_n,e_e,e_r]
      refine ⟨fun c=>⟨L',rows',kk.sub,Q,pe,up_end up (.inr c)⟩,fun c=>⟨((k - 1) / 2,sw L' ((k - 1) / 2) k,_),rfl,?_,Q.sw hp hkL [],(sw_perm hp hkL).trans pe,up_step up k0 hkL c,by simp only;omega,by simp only;omega⟩⟩
      exact kk.trans (chgd_put (P:=(· =b)) (bget_lt Q.hb) rfl _ _ (.cons (.inl rfl) (.cons (.inl rfl) .nil))) (fun x e=> .inl e)
  · obtain ⟨h3,lg3,d3⟩:=m
    obtain ⟨k,L',rows'⟩:=a
    obtain ⟨kk,Q,pe,up,hk,hik⟩:=hP
    obtain rfl:d3=[]:=kk.dfrs
    simp only at Q pe up hk hik
    have e0:k=0:=by omega
    subst e0
    have w1:IntKind.i64.wrap (-1)= -1:=wrapI (by omega) (by omega)
    have w2:IntKind.i64.wrap (Int.tdiv (-1) 2)=0:=wrapI (by decide) (by decide)
    refine Wc_bx ?_
    simp+contextual -implicitDefEqProofs (maxSteps:=1000000) (maxDischargeDepth:=20) only[go_sem,simprocAttr,w1,w2,e_n,e_e,e_r]
    exact ⟨L',rows',kk.sub,Q,pe,up_end up (.inl rfl)⟩
end
section
variable {F:FuncId→Option AFunc} {meth:Meth} {sm:Summ}
def RDn (m0:Mem) (q b:Nat) (c:Option Nat) (L:List (Int × Int)) (e:Nat):AV→Mem→Prop:=fun _ m=> ∃ L' rows',Chgd (· =b) m0 m∧QAt m.blks q b c L' rows'∧L'.Perm L∧Heap kQ e L'∧ ∀ x,e≤x→gt L' x=gt L x
theorem e118 (hF:F 118=some AF118) (hs: ∀ vs m,sm 118 vs m=none) (n:Nat) (h:Blks) (lg d:List Nat) (hm:Mth meth) (s175: ∀ vs m,sm 175 vs m=none) (F175:F 175=some AF175) (s178: ∀ vs m,sm 178 vs m=none) (F178:F 178=some AF178)
    {q b:Nat} {c:Option Nat} {L:List (Int × Int)} {rows:List (List AV)} {e:Nat} (H:QAt h q b c L rows) (he:e≤L.length) (hn:L.length≤900) (hu:DnI kQ e L 0):
    Wa F meth sm (n+1000) (.fn 118) [.iface 114 (.ptr q 0 0),.int .i64 0,.int .i64 e] ⟨bxt h [],lg,d⟩ (RDn ⟨h,lg,d⟩ q b c L e):=by
  simp+contextual -implicitDefEqProofs (maxSteps:=1000000) (maxDischargeDepth:=20) only[go_sem,simprocAttr,hs,hF,AF118]
  refine WloopE (α:=Nat × List (Int × Int) × List (List AV)) e [X7] (fun i a=> [.int .i64 a.1]) (fun i a m=>Chgd (· =b) ⟨h,lg,[]⟩ m∧QAt m.blks q b c a.2.1 a.2.2∧a.2.1.Perm L∧DnI kQ e a.2.1 a.1∧a.1≤e∧i≤a.1∧ ∀ x,e≤x→gt a.2.1 x=gt L x) (by omega) (by repeat first |apply Cl_b |apply Cl_q |apply Cl_r) ⟨(0,L,rows),rfl,Chgd.refl _ _,H,.refl _,hu,by simp,by simp,fun _ _=>rfl⟩ (fun i a m g hi hP=> ?_) (fun a m g hP=> ?_)
  · obtain ⟨h3,lg3,d3⟩:=m
    obtain ⟨k,L',rows'⟩:=a
    obtain ⟨kk,Q,pe,dn,hk,hik,ls⟩:=hP
    obtain rfl:d3=[]:=kk.dfrs
    simp only at Q pe dn hk hik ls
    have le:=pe.length_eq
    have qs:=Q.sl
    have o:=old_blk (bget_lt Q.hb)
    obtain ⟨j1,hj1⟩: ∃ j1,j1=2*k+1:=⟨_,rfl⟩
    obtain ⟨j2,hj2⟩: ∃ j2,j2=2*k+2:=⟨_,rfl⟩
    have w1:IntKind.i64.wrap (2*(k:Int))=((2*k:Nat):Int):=by rw[wrapI (by omega) (by omega)];omega
    have w2:IntKind.i64.wrap (((2*k:Nat):Int)+1)=(j1:Int):=by rw[wrapI (by omega) (by omega)];omega
    have w3:IntKind.i64.wrap ((j1:Int)+1)=(j2:Int):=by rw[wrapI (by omega) (by omega)];omega
    refine Wc_bx ?_
    by_cases c1:e≤j1
    · have q1:((e:Int)≤(j1:Int))=True:=by simp;omega
      simp+contextual -implicitDefEqProofs (maxSteps:=1000000) (maxDischargeDepth:=20) only[go_sem,simprocAttr,w1,w2,q1,e_n,e_e,e_r]
      exact ⟨L',rows',kk.sub,Q,pe,dn_end dn fun x h1 h2 h3=>by omega,ls⟩
    · have q1:((e:Int)≤(j1:Int))=False:=by simp;omega
      have q0:((j1:Int)<0)=False:=by simp
      have hkL:k<L'.length:=by omega
      have h1L:j1<L'.length:=by omega
      have m1:=fun l vs=>inv_l hm.b (bget (bxt h3 l)) q true _ vs (qs.1 l)
      have m2:=fun l vs=>inv_l hm.c (bget (bxt h3 l)) q true _ vs (qs.1 l)
      have gk:=Q.rg hkL
      have g1:=Q.rg h1L
      have st1:=Q.rs hkL h1L
      have sw1:=Q.sw hkL h1L []
      have chg: ∀ y,Chgd (· =b) ⟨h,lg,[]⟩ ⟨bxt (bput h3 b y) [],b::b::lg3,[]⟩:=fun y=>kk.trans (chgd_put (P:=(· =b)) (bget_lt Q.hb) rfl _ _ (.cons (.inl rfl) (.cons (.inl rfl) .nil))) (fun x e=> .inl e)
      have lsw: ∀ j,j<e→ ∀ x,e≤x→gt (sw L' k j) x=gt L x:=fun j hj x hx=>by rw[gt_sw hkL (by omega),if_neg (by omega),if_neg (by omega)];exact ls x hx
      by_cases c2:j2<e
      · have q2:((j2:Int)<(e:Int))=True:=by simp;omega
        have h2L:j2<L'.length:=by omega
        have g2:=Q.rg h2L
        have st2:=Q.rs hkL h2L
        have sw2:=Q.sw hkL h2L []
        by_cases c3:(gt L' j2).2<(gt L' j1).2
        · simp+contextual -implicitDefEqProofs (maxSteps:=1000000) (maxDischargeDepth:=20) only[go_sem,simprocAttr,w1,w2,w3,q0,q1,q2,c3,o_ldg,↓inv_0,m1,m2,s175,F175,s178,F178,AF175,AF178,qs,o,↓g1,↓g2,↓gk,↓st2,r_vc,r_vp,mskO,Mem.more,bmore,nb_more,List.filter_nil,List.flatMap_nil,List.filter_cons,List.flatMap_cons,List.map_nil,List.map_cons,mask,unmask,AOp.reads,AOpnd.top,top_p,top_s,top_m,top_i,top_b,top_t,top_a,top_u,top_ns,top_s0,top_d,top_f,nb_beq,nb_blt,nb_add,nidOf,slotIn,Nat.beq_refl,clash,Bool.or_self,List.any_nil,List.any_cons,AOp.isMaker,e_n,e_e,e_r]
          refine ⟨fun cc=>⟨L',rows',kk.sub,Q,pe,dn_end dn fun x h1 h2 h3=> ?_,ls⟩,fun cc=>⟨(j2,sw L' k j2,_),rfl,chg _,sw2,(sw_perm hkL h2L).trans pe,dn_step dn (by omega) c2 (by omega) (by omega) cc (fun x h1 h2 h3=> ?_),by simp only;omega,by simp only;omega,lsw j2 c2⟩⟩
          · rcases (by omega:x=j1∨x=j2) with rfl |rfl <;>simp only[kQ] <;>omega
          · rcases (by omega:x=j1∨x=j2) with rfl |rfl <;>simp only[kQ] <;>omega
        · simp+contextual -implicitDefEqProofs (maxSteps:=1000000) (maxDischargeDepth:=20) only[go_sem,simprocAttr,w1,w2,w3,q0,q1,q2,c3,o_ldg,↓inv_0,m1,m2,s175,F175,s178,F178,AF175,AF178,qs,o,↓g1,↓g2,↓gk,↓st1,r_vc,r_vp,mskO,Mem.more,bmore,nb_more,List.filter_nil,List.flatMap_nil,List.filter_cons,List.flatMap_cons,List.map_nil,List.map_cons,mask,unmask,AOp.reads,AOpnd.top,top_p,top_s,top_m,top_i,top_b,top_t,top_a,top_u,top_ns,top_s0,top_d,top_f,nb_beq,nb_blt,nb_add,nidOf,slotIn,Nat.beq_refl,clash,Bool.or_self,List.any_nil,List.any_cons,AOp.isMaker,e_n,e_e,e_r]
          refine ⟨fun cc=>⟨L',rows',kk.sub,Q,pe,dn_end dn fun x h1 h2 h3=> ?_,ls⟩,fun cc=>⟨(j1,sw L' k j1,_),rfl,chg _,sw1,(sw_perm hkL h1L).trans pe,dn_step dn (by omega) (by omega) (by omega) (by omega) cc (fun x h1 h2 h3=> ?_),by simp only;omega,by simp only;omega,lsw j1 (by omega)⟩⟩
          · rcases (by omega:x=j1∨x=j2) with rfl |rfl <;>simp only[kQ] <;>omega
          · rcases (by omega:x=j1∨x=j2) with rfl |rfl <;>simp only[kQ] <;>omega
      · have q2:((j2:Int)<(e:Int))=False:=by simp;omega
        simp+contextual -implicitDefEqProofs (maxSteps:=1000000) (maxDischargeDepth:=20) only[go_sem,simprocAttr,w1,w2,w3,q0,q1,q2,o_ldg,↓inv_0,m1,m2,s175,F175,s178,F178,AF175,AF178,qs,o,↓g1,↓gk,↓st1,r_vc,r_vp,mskO,Mem.more,bmore,nb_more,List.filter_nil,List.flatMap_nil,List.filter_cons,List.flatMap_cons,List.map_nil,List.map_cons,mask,unmask,AOp.reads,AOpnd.top,top_p,top_s,top_m,top_i,top_b,top_t,top_a,top_u,top_ns,top_s0,top_d,top_f,nb_beq,nb_blt,nb_add,nidOf,slotIn,Nat.beq_refl,clash,Bool.or_self,List.any_nil,List.any_cons,AOp.isMaker,e_n,e_e,e_r]
        refine ⟨fun cc=>⟨L',rows',kk.sub,Q,pe,dn_end dn fun x h1 h2 h3=> ?_,ls⟩,fun cc=>⟨(j1,sw L' k j1,_),rfl,chg _,sw1,(sw_perm hkL h1L).trans pe,dn_step dn (by omega) (by omega) (by omega) (by omega) cc (fun x h1 h2 h3=> ?_),by simp only;omega,by simp only;omega,lsw j1 (by omega)⟩⟩
        · obtain rfl:x=j1:=by omega
          simp only[kQ];omega
        · obtain rfl:x=j1:=by omega
          simp only[kQ];omega
  · obtain ⟨h3,lg3,d3⟩:=m
    obtain ⟨k,L',rows'⟩:=a
    obtain ⟨kk,Q,pe,dn,hk,hik,ls⟩:=hP
    obtain rfl:d3=[]:=kk.dfrs
    simp only at Q pe dn hk hik ls
    obtain ⟨j1,hj1⟩: ∃ j1,j1=2*k+1:=⟨_,rfl⟩
    have w1:IntKind.i64.wrap (2*(k:Int))=((2*k:Nat):Int):=by rw[wrapI (by omega) (by omega)];omega
    have w2:IntKind.i64.wrap (((2*k:Nat):Int)+1)=(j1:Int):=by rw[wrapI (by omega) (by omega)];omega
    have q1:((e:Int)≤(j1:Int))=True:=by simp;omega
    refine Wc_bx ?_
    simp+contextual -implicitDefEqProofs (maxSteps:=1000000) (maxDischargeDepth:=20) only[go_sem,simprocAttr,w1,w2,q1,e_n,e_e,e_r]
    exact ⟨L',rows',kk.sub,Q,pe,dn_end dn fun x h1 h2 h3=>by omega,ls⟩
end
end Go.Abs
end
