/- Functions of the program on symbolic values: part g.
   Conditions: none. -/
import Derived.Test.YtdmofemokgboeaaGreatDoorQf
set_option linter.unusedSimpArgs false
set_option linter.unusedVariables false
set_option maxRecDepth 100000
set_option maxHeartbeats 16000000
noncomputable section
namespace Go.Abs
section
variable {F:FuncId→Option AFunc} {meth:Meth} {sm:Summ}
theorem SlAt.nnone {h:Blks} {e:Nat} {v:AV} {es:List (List AV)} {b:Nat} (H:SlAt h e v es) (hb:bget h b=Option.none): ∀ c∈v.refs,c≠b:=by
  rcases H with ⟨_,rfl |rfl |rfl⟩|⟨c,i,k,own,rows,rfl,hc,hw,hk⟩
  · intro c hc;cases hc
  · intro c hc;cases hc
  · intro c hc;cases hc
  · intro x hx
    simp only[AV.refs,List.mem_singleton] at hx
    subst hx
    intro hq
    rw[hq,hb] at hc
    cases hc
theorem beqn {a b:Nat} (h:a≠b):Nat.beq a b=false:=by
  cases e:Nat.beq a b with
  |false=>rfl
  |true=>exact absurd (Nat.eq_of_beq_eq_true e) h
theorem app_ownn (get:Nat→Option ABlk) (nid e bt b n:Nat) (x:AV) (es xs:List (List AV)) (hn:n=es.length) (h1:elemsOf get e x=some xs) (h2:xs≠ []) (h3:get b=some (.row true e es)) (h5:(es.length+xs.length)*bt≤roomMost):aappend get nid e bt (.slice b 0 n none) x=some (.slice nid 0 (n+xs.length) none,[⟨b,none,[]⟩,⟨nid,some (.row true e (es++xs)),refsLL (es++xs)⟩]):=by
  subst hn
  cases xs with
  |nil=>exact absurd rfl h2
  | cons y ys=>
    simp only[aappend,h1,h3,Nat.zero_add]
    rw[if_neg (by omega)]
    have q:decide (es.length+(y::ys).length≤es.length)=false:=by apply decide_eq_false;simp
    simp only[q,Bool.false_eq_true,if_false,if_true,List.drop_zero,List.take_length]
theorem elsG1 (M:Blks) (e c:Nat) (x:AV):elemsOf (fun b=>bif bif Nat.beq c b then true else ins x.top b then bget M b else none) e x=elemsOf (bget M) e x:=elems_same fun b hb=>by
  simp only[(ins_iff _ _).2 hb]
  cases Nat.beq c b <;>rfl
theorem getG1 (M:Blks) (c:Nat) (l:List Nat):(fun b=>bif bif Nat.beq c b then true else ins l b then bget M b else none) c=bget M c:=by
  simp only[Nat.beq_refl,cond_true]
theorem app_z (get:Nat→Option ABlk) (nid e b:Nat) (s x:AV) (hs:s= .nilslice∨ ∃ b i m c,s= .slice b i m c) (hx:elemsOf get e x=Option.some []):aappend get nid e b s x=Option.some (s,[]):=by
  rcases hs with rfl |⟨b,i,m,c,rfl⟩ <;>simp only[aappend,hx]
structure OI (h:Blks) (lg:List Nat) (s:ScX) (x8:Nat) (cv pv v mv:AV) (i:Nat) (m:Mem):Prop where
  k:Keep ⟨h,lg,[]⟩ m
  b0:bget m.blks (nb h 0)=some (.row true 3 [scC s])
  b1:bget m.blks (nb h 1)=some (.row true 3 [[.nilslice,.nilslice,.nilslice]])
  b2:bget m.blks (nb h 2)=some (.row true 2 [[.int .i64 0,.int .i64 0]])
  b8:bget m.blks x8=some (.row true 3 [[cv,pv,mv]])
  c:SlAt m.blks 16 cv (s.cf.map cfgC)
  p:SlAt m.blks 6 pv (s.pl.map conC)
  v:SlAt m.blks 1 v ((srt s).map iC)
  o:OutAt h.length m.blks 15 mv (((srt s).take i).map fun x=>cmdC (opnC (cP s.pl x)))
theorem take_opn {s:ScX} {i:Nat} (hi:i<(srt s).length):((srt s).take (i+1)).map (fun x=>cmdC (opnC (cP s.pl x)))=((srt s).take i).map (fun x=>cmdC (opnC (cP s.pl x)))++ [cmdC (opnC (cP s.pl (gt (srt s) i)))]:=by
  rw[List.take_add_one,List.getElem?_eq_getElem hi,gt_eq hi,List.map_append]
  rfl
abbrev nil3:List (List AV):=[[.nilslice,.nilslice,.nilslice]]
theorem e13 (hF:F 13=some AF13) (hs: ∀ vs m,sm 13 vs m=none) (n:Nat) (h:Blks) (lg d:List Nat) (h18:H18 sm) (h23:H23 sm) (h44:H44 sm) (h69:H69 sm) (s43: ∀ vs m,sm 43 vs m=none) (F43:F 43=some AF43) (s98: ∀ vs m,sm 98 vs m=none) (F98:F 98=some AF98) (s68: ∀ vs m,sm 68 vs m=none) (F68:F 68=some AF68) (s47: ∀ vs m,sm 47 vs m=none) (F47:F 47=some AF47) (s48: ∀ vs m,sm 48 vs m=none) (F48:F 48=some AF48)
    {s:ScX} {o1:Bool} (hu:bget h 1=some (.row o1 8 usesR)) (H:ScAt h s) (W:ScW s) (h4':s.cf.length≤4) (nc:NoOsl s.cv) (np:NoOsl s.pv):Wa F meth sm (n+2000) (.fn 13) [.agg (scC s)] ⟨bxt h [],lg,d⟩ (Qk ⟨h,lg,d⟩ (ROp s)):=by
  have c1:=H.c.sc
  have c2:=H.p.sc
  have c3:=H.m.sc
  have hl:=W.ok
  have g1:=fun l lg d=>h18 s o1 ⟨bxt h l,lg,d⟩ ((bxt_old l h 1 (bget_lt hu)).trans hu) (H.bx l) hl.l hl.c hl.d
  have l1:=hl.l.c
  have l2:=hl.l.m
  unfold scC at g1
  have rm:roomMost=1000000000000:=rfl
  by_cases z:(scE s).1=0
  · have V := W.v z
    have ok:=scE_ok z
    have lp:=H.p.len
    simp+contextual -implicitDefEqProofs (maxSteps:=1000000) (maxDischargeDepth:=20) only[go_sem,simprocAttr,hs,hF,AF13,scC,c1,c2,c3,g1,z,lp,List.length_map,r_vc,r_vp,mskO,Mem.more,bmore,nb_more,List.filter_nil,List.flatMap_nil,List.filter_cons,List.flatMap_cons,List.map_nil,List.map_cons,mask,unmask,AOp.reads,AOpnd.top,top_p,top_s,top_m,top_i,top_b,top_t,top_a,top_u,top_ns,top_s0,top_d,top_f,nb_beq,nb_blt,nb_add,nidOf,slotIn,Nat.beq_refl,clash,Bool.or_self,List.any_nil,List.any_cons,AOp.isMaker]
    refine WloopE (α:=AV) s.pl.length [X21,X5] (fun i v=> [.int .i64 i,v]) (fun i v m=>Keep ⟨h,lg,[]⟩ m∧bget m.blks (nb h 0)=some (.row true 3 [scC s])∧bget m.blks (nb h 1)=some (.row true 3 nil3)∧bget m.blks (nb h 2)=some (.row true 2 [[.int .i64 0,.int .i64 0]])∧OutAt h.length m.blks 1 v ((opI (stO s) i).map iC)) (by have:=W.p;omega) (by repeat first |apply Cl_b |apply Cl_q |apply Cl_r) ⟨.nilslice,rfl,keep_bx (by repeat first |exact LogOK.nil |apply LogOK.cons),nb_get,nb_get,nb_get,.nil rfl rfl⟩ (fun i v m g hi hP=> ?_) (fun v m g hP=> ?_)
    · obtain ⟨h3,lg3,d3⟩:=m
      obtain ⟨k,b0,b1,b2,ov⟩:=hP
      obtain rfl:d3=[]:=k.dfrs
      simp only at b0 b1 b2 ov
      have vc:=ov.sl.sc
      have e:=(SlAt.keep (m:=⟨h,lg,[]⟩) (m':=⟨h3,lg3,[]⟩) H.p k).el hi
      have r:=rnd hi (by have:=W.p;omega)
      have H3:ScAt h3 s:=H.old k.old
      have g2:=fun x l lg d=>h23 s x ⟨bxt h3 l,lg,d⟩ (H3.bx l) l1
      have b0':=fun l=>(bxt_old l h3 _ (bget_lt b0)).trans b0
      have l0:nb h 0<h3.length:=bget_lt b0
      have l1':nb h 1<h3.length:=bget_lt b1
      have l2':nb h 2<h3.length:=bget_lt b2
      have ol:=opI_len (stO s) i
      have os:opI (stO s) (i+1)=opI (stO s) i++if stO s i=true then [(i:Int)] else []:=rfl
      unfold scC at b0' g2
      unfold conC at e
      refine Wc_bx ?_
      by_cases q:stO s i=true
      · have qq:=of_decide_eq_true q
        have g2a:=fun l lg d=>g2 (gt s.pl i).f l lg d
        have g2b:=fun l lg d=>g2 (gt s.pl i).t l lg d
        rw[decide_eq_true qq.2.1] at g2a
        rw[decide_eq_true qq.2.2] at g2b
        have k1:=eq_true qq.1
        rw[q,if_pos rfl] at os
        rcases ov with ⟨hn,rfl⟩|⟨b,rfl,hk,hb⟩
        · have o0:opI (stO s) i=[]:=List.map_eq_nil_iff.1 hn
          have ap:=fun get nid h1=>app_nil 1 8 (.slice (nb h3 1) 0 1 (some 1)) [.int .i64 i] get nid h1 (by rw[rm];omega)
          simp+contextual -implicitDefEqProofs (maxSteps:=1000000) (maxDischargeDepth:=20) only[go_sem,simprocAttr,e,r,b0',g2a,g2b,k1,vc,ap,e_n,e_e,e_r]
          exact ⟨_,rfl,k.trans (keep_bx (by repeat first |exact LogOK.nil |apply LogOK.cons)),rfl,(bxt_old _ h3 _ l1').trans b1,(bxt_old _ h3 _ l2').trans b2,.some (nb h3 2) (by rw[os,o0];rfl) (Nat.le_trans k.len nb_ge) (by rw[nb_get,os,o0];rfl)⟩
        · have o:=old_blk (bget_lt hb)
          have ap:=fun get nid h1 h2=>app_own 1 8 (.slice (nb h3 1) 0 1 (some 1)) [.int .i64 i] get nid b ((opI (stO s) i).map iC) h1 h2 (by rw[rm,List.length_map];have:=W.p;omega)
          have hb':=fun l=>(bxt_old l h3 _ (bget_lt hb)).trans hb
          rw[List.length_map] at ap vc
          rw[List.length_map]
          simp+contextual -implicitDefEqProofs (maxSteps:=1000000) (maxDischargeDepth:=20) only[go_sem,simprocAttr,e,r,b0',g2a,g2b,k1,vc,ap,hb',o,e_n,e_e,e_r]
          have n0:nb h 0≠b:=fun e=>by rw[e,hb] at b0;simp at b0
          have n1:nb h 1≠b:=fun e=>by rw[e,hb] at b1;simp at b1
          have n2:nb h 2≠b:=fun e=>by rw[e,hb] at b2;simp at b2
          exact ⟨_,rfl,k.own hk (bget_lt hb) _ _ (LgG.ok (by repeat first |exact LgG.nil |refine LgG.cons (by first |exact nb_ge |exact Nat.le_trans (k.len) nb_ge |assumption) ?_)),(old_get (bget_lt hb) l0 n0 _ _).trans b0,(old_get (bget_lt hb) l1' n1 _ _).trans b1,(old_get (bget_lt hb) l2' n2 _ _).trans b2,.some (nb h3 2) (by rw[os];simp) (Nat.le_trans k.len nb_ge) (by rw[o.2.1,os,List.map_append];rfl)⟩
      · rw[if_neg q,List.append_nil] at os
        have q': ¬ ((gt s.pl i).s=0∧hasN s.cf (gt s.pl i).f=true∧hasN s.cf (gt s.pl i).t=true):=fun x=>q (decide_eq_true x)
        have fin: ∃ a,v=a∧Keep ⟨h,lg,[]⟩ ⟨bxt h3 [some (.row true 6 [conC (gt s.pl i)])],nb h3 0::nb h3 0::lg3,[]⟩∧bget (bxt h3 [some (.row true 6 [conC (gt s.pl i)])]) (nb h 0)=some (.row true 3 [scC s])∧bget (bxt h3 [some (.row true 6 [conC (gt s.pl i)])]) (nb h 1)=some (.row true 3 nil3)∧bget (bxt h3 [some (.row true 6 [conC (gt s.pl i)])]) (nb h 2)=some (.row true 2 [[.int .i64 0,.int .i64 0]])∧OutAt h.length (bxt h3 [some (.row true 6 [conC (gt s.pl i)])]) 1 a ((opI (stO s) (i+1)).map iC):=⟨v,rfl,k.trans (keep_bx (by repeat first |exact LogOK.nil |apply LogOK.cons)),(bxt_old _ h3 _ l0).trans b0,(bxt_old _ h3 _ l1').trans b1,(bxt_old _ h3 _ l2').trans b2,by rw[os];exact ov.bx _⟩
        unfold conC at fin
        by_cases k1:(gt s.pl i).s=0
        · have k1':=eq_true k1
          by_cases k2:hasN s.cf (gt s.pl i).f=true
          · have k3: ¬ hasN s.cf (gt s.pl i).t=true:=fun x=>q' ⟨k1,k2,x⟩
            have g2a:=fun l lg d=>g2 (gt s.pl i).f l lg d
            have g2b:=fun l lg d=>g2 (gt s.pl i).t l lg d
            rw[decide_eq_true k2] at g2a
            rw[decide_eq_false k3] at g2b
            simp+contextual -implicitDefEqProofs (maxSteps:=1000000) (maxDischargeDepth:=20) only[go_sem,simprocAttr,e,r,b0',g2a,g2b,k1',vc,e_n,e_e,e_r]
            obtain ⟨a,ea,f1,f2,f3,f4,f5⟩:=fin
            exact ⟨a,ea,f1,rfl,f3,f4,f5⟩
          · have g2a:=fun l lg d=>g2 (gt s.pl i).f l lg d
            rw[decide_eq_false k2] at g2a
            simp+contextual -implicitDefEqProofs (maxSteps:=1000000) (maxDischargeDepth:=20) only[go_sem,simprocAttr,e,r,b0',g2a,k1',vc,e_n,e_e,e_r]
            obtain ⟨a,ea,f1,f2,f3,f4,f5⟩:=fin
            exact ⟨a,ea,f1,rfl,f3,f4,f5⟩
        · have k1':=eq_false k1
          simp+contextual -implicitDefEqProofs (maxSteps:=1000000) (maxDischargeDepth:=20) only[go_sem,simprocAttr,e,r,b0',k1',vc,e_n,e_e,e_r]
          obtain ⟨a,ea,f1,f2,f3,f4,f5⟩:=fin
          exact ⟨a,ea,f1,rfl,f3,f4,f5⟩
    · obtain ⟨h3,lg3,d3⟩:=m
      obtain ⟨k,b0,b1,b2,ov⟩:=hP
      obtain rfl:d3=[]:=k.dfrs
      simp only at b0 b1 b2 ov
      have vc:=ov.sl.sc
      have r:=rndl s.pl.length
      have H3:ScAt h3 s:=H.old k.old
      have b0':=fun l=>(bxt_old l h3 _ (bget_lt b0)).trans b0
      have tv: ∀ c∈s.pl,1≤c.t∧c.t≤16:=fun c hc=>(V.con c hc).2.1
      refine Wc_bx ?_
      simp+contextual -implicitDefEqProofs (maxSteps:=1000000) (maxDischargeDepth:=20) only[go_sem,simprocAttr,r,vc]
      rw[←w_a]
      refine Wa_mono _ _ _ _ _ _ (fun v' m' R=> ?_) (e43 F43 s43 (n+499) h3 lg3 [] s98 F98 s68 F68 h69 h44 (L:=opI (stO s) s.pl.length) H3 (by have:=W.p;omega) ov b0 opI_rng (opI_le ok.2.2.1 h4') tv)
      obtain ⟨k4,ov4⟩:=R
      obtain ⟨h4,lg4,d4⟩:=m'
      obtain rfl:d4=[]:=k4.dfrs
      simp only at ov4
      have np0: ¬ PS h.length h3 (opI (stO s) s.pl.length) (nb h 0):=fun q=>by have:=q.2;rw[b0] at this;simp at this
      have np1: ¬ PS h.length h3 (opI (stO s) s.pl.length) (nb h 1):=fun q=>by have:=q.2;rw[b1] at this;simp at this
      have np2: ¬ PS h.length h3 (opI (stO s) s.pl.length) (nb h 2):=fun q=>by have:=q.2;rw[b2] at this;simp at this
      have a0:bget h4 (nb h 0)=some (.row true 3 [scC s]):=(k4.get _ (bget_lt b0) np0).trans b0
      have a1:bget h4 (nb h 1)=some (.row true 3 nil3):=(k4.get _ (bget_lt b1) np1).trans b1
      have a2:bget h4 (nb h 2)=some (.row true 2 [[.int .i64 0,.int .i64 0]]):=(k4.get _ (bget_lt b2) np2).trans b2
      have kk:Keep ⟨h,lg,[]⟩ ⟨h4,lg4,[]⟩:=k.chg k4 fun x q=>q.1
      have H4:ScAt h4 s:=H.old kk.old
      have a0':=fun l=>(bxt_old l h4 _ (bget_lt a0)).trans a0
      have vc4:=ov4.sl.sc
      unfold scC at a0'
      show Kc _ _ _ _ _ _ _ _ _ ⟨bxt h4 [],lg4,[]⟩
      simp+contextual -implicitDefEqProofs (maxSteps:=1000000) (maxDischargeDepth:=20) only[go_sem,simprocAttr,c1,c2,c3,a0',vc4,r_oF,r_oL,r_oM,r_vc,r_vp,mskO,Mem.more,bmore,nb_more,List.filter_nil,List.flatMap_nil,List.filter_cons,List.flatMap_cons,List.map_nil,List.map_cons,mask,unmask,AOp.reads,AOpnd.top,top_p,top_s,top_m,top_i,top_b,top_t,top_a,top_u,top_ns,top_s0,top_d,top_f,nb_beq,nb_blt,nb_add,nidOf,slotIn,Nat.beq_refl,clash,Bool.or_self,List.any_nil,List.any_cons,AOp.isMaker]
      rw[←w_a]
      refine Wa_k (e47 F47 s47 (n+1899) (bxt h4 [none]) [] [] _ s.cv (H4.c.bx _) (by rw[List.length_map];omega) nc) (fun cv h5 lg5 k5 hc5=> ?_)
      have l40:nb h4 0<h5.length:=by have:=k5.len;simp only[bxt_len,List.length_cons,List.length_nil] at this;rw[nb];omega
      have n40:nb h4 0<(bxt h4 [none]).length:=by rw[bxt_len,nb];simp
      have K5:Keep ⟨h4,lg4,[]⟩ ⟨h5,lg5++lg4,[]⟩:=Keep.trans (b:=⟨bxt h4 [none],lg4,[]⟩) (keep_bx (by repeat first |exact LogOK.nil |apply LogOK.cons)) (k5.lg _ _)
      have z4:bget h5 (nb h4 0)=none:=(k5.get _ n40).trans nb_get
      have z4':=fun q=>(bxt_old q h5 _ l40).trans z4
      have d0:bget h5 (nb h 0)=some (.row true 3 [scC s]):=K5.old.get a0
      have d0':=fun q=>(bxt_old q h5 _ (bget_lt d0)).trans d0
      have i5:ins lg5 (nb h4 0)=false:=k5.insl n40
      have i50:ins lg5 (nb h 0)=false:=k5.insl (Nat.lt_of_lt_of_le (bget_lt a0) (by rw[bxt_len];omega))
      have cc:=hc5.1.sc
      have H5:ScAt h5 s:=H4.old K5.old
      unfold scC at d0'
      simp+contextual -implicitDefEqProofs (maxSteps:=1000000) (maxDischargeDepth:=20) only[go_sem,simprocAttr,c1,c2,c3,d0',cc,i50,ins_app,r_oF,r_oL,r_oM,Bool.cond_self,List.append_nil,r_vc,r_vp,mskO,Mem.more,bmore,nb_more,List.filter_nil,List.flatMap_nil,List.filter_cons,List.flatMap_cons,List.map_nil,List.map_cons,mask,unmask,AOp.reads,AOpnd.top,top_p,top_s,top_m,top_i,top_b,top_t,top_a,top_u,top_ns,top_s0,top_d,top_f,nb_beq,nb_blt,nb_add,nidOf,slotIn,Nat.beq_refl,clash,Bool.or_self,List.any_nil,List.any_cons,AOp.isMaker]
      rw[←w_a]
      refine Wa_k (e48 F48 s48 (n+1899) h5 [] [] _ s.pv H5.p (by rw[List.length_map];have:=W.p;omega) np) (fun pv h6 lg6 k6 hp6=> ?_)
      have l40':nb h4 0<h6.length:=Nat.lt_of_lt_of_le l40 k6.len
      have K6:Keep ⟨h5,lg5++lg4,[]⟩ ⟨h6,lg6++(lg5++lg4),[]⟩:=k6.lg _ _
      have z6:bget h6 (nb h4 0)=none:=(k6.get _ l40).trans z4
      have i6:ins lg6 (nb h4 0)=false:=k6.insl l40
      have pc:=hp6.1.sc
      have cl:=hc5.1.cells
      have pl:=hp6.1.cells
      have o:=old_blk l40'
      have q0:=fun k=>nb_beq_ne (h:=h4) (k:=k) (bget_lt a0)
      have bl:Nat.blt (nb h4 0) (nb h6 0)=true:=by rw[Nat.blt_eq];exact Nat.lt_of_lt_of_le l40' nb_ge
      simp+contextual -implicitDefEqProofs (maxSteps:=1000000) (maxDischargeDepth:=20) only[go_sem,simprocAttr,c1,c2,c3,z4',cc,pc,cl,pl,i5,i6,o,q0,bl,ins_app,r_oF,r_oL,r_oM,Bool.cond_self,List.append_nil,r_vc,r_vp,mskO,Mem.more,bmore,nb_more,List.filter_nil,List.flatMap_nil,List.filter_cons,List.flatMap_cons,List.map_nil,List.map_cons,mask,unmask,AOp.reads,AOpnd.top,top_p,top_s,top_m,top_i,top_b,top_t,top_a,top_u,top_ns,top_s0,top_d,top_f,nb_beq,nb_blt,nb_add,nidOf,slotIn,Nat.beq_refl,clash,Bool.or_self,List.any_nil,List.any_cons,AOp.isMaker]
      have K46:Keep ⟨h4,lg4,[]⟩ ⟨h6,lg6++(lg5++lg4),[]⟩:=K5.trans K6
      have KK6:Keep ⟨h,lg,[]⟩ ⟨h6,lg6++(lg5++lg4),[]⟩:=kk.trans K46
      have c6:SlAt h6 16 cv (s.cf.map cfgC):=hc5.1.old K6.old
      have ov6:SlAt h6 1 v ((srt s).map iC):=ov4.sl.old K46.old
      have n0:nb h 0≠nb h4 0:=fun e=>by have:=K46.old.get a0;rw[e,z6] at this;cases this
      have n1:nb h 1≠nb h4 0:=fun e=>by have:=K46.old.get a1;rw[e,z6] at this;cases this
      have n2:nb h 2≠nb h4 0:=fun e=>by have:=K46.old.get a2;rw[e,z6] at this;cases this
      have hge:h.length≤nb h4 0:=Nat.le_trans kk.len nb_ge
      have I0:OI h lg s (nb h4 0) cv pv v .nilslice 0 ⟨bxt (bput h6 (nb h4 0) (some (.row true 3 [[cv,pv,.nilslice]]))) [],nb h4 0::nb h4 0::(lg6++(lg5++lg4)),[]⟩:=
        ⟨KK6.own hge l40' _ _ (LgG.ok (by repeat first |exact LgG.nil |refine LgG.cons (by first |exact nb_ge |exact Nat.le_trans (KK6.len) nb_ge |assumption) ?_)),(old_get l40' (bget_lt (K46.old.get a0)) n0 _ _).trans (K46.old.get a0),(old_get l40' (bget_lt (K46.old.get a1)) n1 _ _).trans (K46.old.get a1),(old_get l40' (bget_lt (K46.old.get a2)) n2 _ _).trans (K46.old.get a2),o.2.2.2.2.1 _ _,c6.own l40' (c6.nnone z6) _ _,hp6.1.own l40' (hp6.1.nnone z6) _ _,ov6.own l40' (ov6.nnone z6) _ _,.nil rfl rfl⟩
      have lv7:=I0.v.len
      have sl12:(srt s).length≤12:=by rw[(srt_perm s).length_eq];exact opI_le ok.2.2.1 h4'
      simp+contextual -implicitDefEqProofs (maxSteps:=1000000) (maxDischargeDepth:=20) only[go_sem,simprocAttr,lv7,List.length_map]
      refine WloopV (srt s).length [X58] (fun i=> [.int .i64 i]) (fun i m=> ∃ mv,OI h lg s (nb h4 0) cv pv v mv i m) (by omega) (by repeat first |apply Cl_b |apply Cl_q |apply Cl_r) ⟨rfl,_,I0⟩ (fun i m g hi hP=> ?_) (fun m g hP=> ?_)
      · obtain ⟨mv,R⟩:=hP
        obtain ⟨h8,lg8,d8⟩:=m
        obtain rfl:d8=[]:=R.k.dfrs
        have b0:bget h8 (nb h 0)=some (.row true 3 [scC s]):=R.b0
        have b1:bget h8 (nb h 1)=some (.row true 3 nil3):=R.b1
        have b2:bget h8 (nb h 2)=some (.row true 2 [[.int .i64 0,.int .i64 0]]):=R.b2
        have b8:bget h8 (nb h4 0)=some (.row true 3 [[cv,pv,mv]]):=R.b8
        have e:=R.v.el hi
        have r:=rnd hi (by omega)
        have mi:gt (srt s) i∈srt s:=by rw[gt_eq hi];exact List.getElem_mem _
        have xr:=srt_rng _ mi
        have H8:ScAt h8 s:=H.old R.k.old
        have e2:=H8.p.el (i:=(gt (srt s) i).toNat) (by omega)
        rw[Int.toNat_of_nonneg xr.1] at e2
        have tk:=take_opn hi
        have cpx:cmdC (opnC (cP s.pl (gt (srt s) i)))=[.int .i64 2,.int .i64 (gt s.pl (gt (srt s) i).toNat).f,.int .i64 (gt s.pl (gt (srt s) i).toNat).t,.int .i64 0,.int .i64 0,.int .i64 0,.int .i64 0,.int .u64 0,.int .i64 0,.int .i64 0,.int .i64 0,.int .i64 0,.int .i64 0,.int .i64 0,.str []]:=rfl
        have b0':=fun q=>(bxt_old q h8 _ (bget_lt b0)).trans b0
        have b8':=fun q=>(bxt_old q h8 _ (bget_lt b8)).trans b8
        have o:=old_blk (bget_lt b8)
        have q1:=fun k=>nb_beq_ne (k:=k) (bget_lt b0)
        have q2:=fun k=>nb_beq_ne (k:=k) (bget_lt b8)
        have q1':=fun k=>nb_beq_ne' (k:=k) (bget_lt b0)
        have q2':=fun k=>nb_beq_ne' (k:=k) (bget_lt b8)
        have q3:=beqn n0
        have q4:=beqn (Ne.symm n0)
        have ptp:=H8.p.top
        have cc8:=R.c.sc
        have pc8:=R.p.sc
        have mc8:=R.o.sl.sc
        unfold scC at b0'
        unfold iC at e
        unfold conC at e2
        refine Wc_bx ?_
        rcases hoo:R.o with ⟨hn,rfl⟩|⟨b,rfl,hk,hb⟩
        · have ap:=fun get nid h1=>app_nil 15 128 (.slice (nb h8 0) 0 1 (some 1)) (cmdC (opnC (cP s.pl (gt (srt s) i)))) get nid h1 (by rw[rm];omega)
          rw[cpx] at ap
          simp+contextual -implicitDefEqProofs (maxSteps:=1000000) (maxDischargeDepth:=20) only[go_sem,simprocAttr,e,e2,r,b0',b8',o,q1,q2,q1',q2',q3,q4,ptp,cc8,pc8,ap,r_oF,r_oL,r_oM,Bool.cond_self,r_vc,r_vp,mskO,Mem.more,bmore,nb_more,List.filter_nil,List.flatMap_nil,List.filter_cons,List.flatMap_cons,List.map_nil,List.map_cons,mask,unmask,AOp.reads,AOpnd.top,top_p,top_s,top_m,top_i,top_b,top_t,top_a,top_u,top_ns,top_s0,top_d,top_f,nb_beq,nb_blt,nb_add,nidOf,slotIn,Nat.beq_refl,clash,Bool.or_self,List.any_nil,List.any_cons,AOp.isMaker]
          have lb8:nb h4 0<h8.length:=bget_lt b8
          refine ⟨_,R.k.own hge lb8 _ _ (LgG.ok (by repeat first |exact LgG.nil |refine LgG.cons (by first |exact nb_ge |exact Nat.le_trans (R.k.len) nb_ge |assumption) ?_)),(old_get lb8 (bget_lt b0) n0 _ _).trans b0,(old_get lb8 (bget_lt b1) n1 _ _).trans b1,(old_get lb8 (bget_lt b2) n2 _ _).trans b2,o.2.2.2.2.1 _ _,R.c.own lb8 (R.c.nrefs b8 (by decide)) _ _,R.p.own lb8 (R.p.nrefs b8 (by decide)) _ _,R.v.own lb8 (R.v.nrefs b8 (by decide)) _ _,?_⟩
          rw[tk,hn,cpx,List.nil_append]
          exact .some (nb h8 1) rfl (Nat.le_trans R.k.len nb_ge) (o.2.1 _ _ _)
        · have ap:=fun get nid h1 h2=>app_own 15 128 (.slice (nb h8 0) 0 1 (some 1)) (cmdC (opnC (cP s.pl (gt (srt s) i)))) get nid b (((srt s).take i).map fun x=>cmdC (opnC (cP s.pl x))) h1 h2 (by rw[rm,List.length_map,List.length_take];omega)
          rw[cpx] at ap
          have lb:b<h8.length:=bget_lt hb
          have lb8:nb h4 0<h8.length:=bget_lt b8
          have nb8:nb h4 0≠b:=fun e=>by rw[e,hb] at b8;simp at b8
          have nb0:nb h 0≠b:=fun e=>by rw[e,hb] at b0;simp at b0
          have nb1:nb h 1≠b:=fun e=>by rw[e,hb] at b1;simp at b1
          have nb2:nb h 2≠b:=fun e=>by rw[e,hb] at b2;simp at b2
          have ob:=old_blk lb
          have o2:=old_blk2 lb lb8 nb8
          have hb':=fun q=>(bxt_old q h8 _ lb).trans hb
          have b88:bget h8 (nb h4 0)=_:=b8
          have q5:=fun k=>nb_beq_ne (k:=k) lb
          have q5':=fun k=>nb_beq_ne' (k:=k) lb
          have q6:=beqn nb8
          have q6':=beqn (Ne.symm nb8)
          have q7:=beqn nb0
          have q7':=beqn (Ne.symm nb0)
          rw[List.length_map,List.length_take,Nat.min_eq_left (by omega)] at ap mc8 b8' b88
          simp+contextual -implicitDefEqProofs (maxSteps:=1000000) (maxDischargeDepth:=20) only[go_sem,simprocAttr,e,e2,r,b0',b8',b88,hb',ob,o2,q1,q2,q1',q2',q3,q4,q5,q5',q6,q6',q7,q7',ptp,cc8,pc8,ap,r_oF,r_oL,r_oM,Bool.cond_self,r_vc,r_vp,mskO,Mem.more,bmore,nb_more,List.filter_nil,List.flatMap_nil,List.filter_cons,List.flatMap_cons,List.map_nil,List.map_cons,mask,unmask,AOp.reads,AOpnd.top,top_p,top_s,top_m,top_i,top_b,top_t,top_a,top_u,top_ns,top_s0,top_d,top_f,nb_beq,nb_blt,nb_add,nidOf,slotIn,Nat.beq_refl,clash,Bool.or_self,List.any_nil,List.any_cons,AOp.isMaker]
          have l0':nb h 0<h8.length:=bget_lt b0
          have l1'':nb h 1<h8.length:=bget_lt b1
          have l2'':nb h 2<h8.length:=bget_lt b2
          refine ⟨_,R.k.own2 hk lb hge lb8 _ _ _ (LgG.ok (by repeat first |exact LgG.nil |refine LgG.cons (by first |exact nb_ge |exact Nat.le_trans (R.k.len) nb_ge |assumption) ?_)),(old_get2 lb lb8 l0' nb0 n0 _ _ _).trans b0,(old_get2 lb lb8 l1'' nb1 n1 _ _ _).trans b1,(old_get2 lb lb8 l2'' nb2 n2 _ _ _).trans b2,o2.2.2.2.2.1 _ _ _,R.c.own2 lb lb8 (R.c.nrefs hb (by decide)) (R.c.nrefs b8 (by decide)) _ _ _,R.p.own2 lb lb8 (R.p.nrefs hb (by decide)) (R.p.nrefs b8 (by decide)) _ _ _,R.v.own2 lb lb8 (R.v.nrefs hb (by decide)) (R.v.nrefs b8 (by decide)) _ _ _,?_⟩
          rw[tk,cpx]
          exact .some (nb h8 1) (by rw[List.length_append,List.length_map,List.length_take,Nat.min_eq_left (by omega)];rfl) (Nat.le_trans R.k.len nb_ge) (o2.2.1 _ _ _ _)
      · obtain ⟨mv,R⟩:=hP
        obtain ⟨h8,lg8,d8⟩:=m
        obtain rfl:d8=[]:=R.k.dfrs
        have b0:bget h8 (nb h 0)=some (.row true 3 [scC s]):=R.b0
        have b1:bget h8 (nb h 1)=some (.row true 3 nil3):=R.b1
        have b2:bget h8 (nb h 2)=some (.row true 2 [[.int .i64 0,.int .i64 0]]):=R.b2
        have b8:bget h8 (nb h4 0)=some (.row true 3 [[cv,pv,mv]]):=R.b8
        have r:=rndl (srt s).length
        have H8:ScAt h8 s:=H.old R.k.old
        have b0':=fun q=>(bxt_old q h8 _ (bget_lt b0)).trans b0
        have b8':=fun q=>(bxt_old q h8 _ (bget_lt b8)).trans b8
        have lb8:nb h4 0<h8.length:=bget_lt b8
        have l0':nb h 0<h8.length:=bget_lt b0
        have l1'':nb h 1<h8.length:=bget_lt b1
        have l2'':nb h 2<h8.length:=bget_lt b2
        have o:=old_blk lb8
        have q1:=fun k=>nb_beq_ne (k:=k) l0'
        have q2:=fun k=>nb_beq_ne (k:=k) lb8
        have q1':=fun k=>nb_beq_ne' (k:=k) l0'
        have q2':=fun k=>nb_beq_ne' (k:=k) lb8
        have q3:=beqn n0
        have q4:=beqn (Ne.symm n0)
        have cc8:=R.c.sc
        have pc8:=R.p.sc
        have mc8:=R.o.sl.sc
        have elm:=H8.m.els
        have tm:=H.m.top
        have tm8:=H8.m.top
        have n12:nb h 1≠nb h 2:=by rw[ne_eq,nb_inj];omega
        have hpl:s.pl.length≤40:=W.p
        have hcm:s.cm.length≤400:=ok.1.2.2
        have ce:(cmdO s).map cmdC=((srt s).map fun x=>cmdC (opnC (cP s.pl x)))++ [[.int .i64 14,.int .i64 0,.int .i64 0,.int .i64 1000,.int .i64 0,.int .i64 0,.int .i64 0,.int .u64 0,.int .i64 0,.int .i64 0,.int .i64 0,.int .i64 0,.int .i64 0,.int .i64 0,.str []]]++s.cm.map cmdC:=by
          unfold cmdO
          rw[←srt_eq ok.2.2.1,List.map_append,List.map_append,List.map_map,List.map_map]
          rfl
        have cl:(cmdO s).length=(srt s).length+1+s.cm.length:=by
          have:=congrArg List.length ce
          simp only[List.length_map,List.length_append,List.length_cons,List.length_nil] at this
          omega
        refine Wc_bx ?_
        unfold scC at b0'
        have ho:=R.o
        rw[List.take_length] at ho
        rcases ho with ⟨hn,rfl⟩|⟨b,rfl,hk,hb⟩
        · have s0:srt s=[]:=List.map_eq_nil_iff.1 hn
          rw[s0,List.map_nil,List.nil_append] at ce
          rw[s0,List.length_nil,Nat.zero_add] at cl
          have ap:=fun get nid h1=>app_nil 15 128 (.slice (nb h8 0) 0 1 (some 1)) [.int .i64 14,.int .i64 0,.int .i64 0,.int .i64 1000,.int .i64 0,.int .i64 0,.int .i64 0,.int .u64 0,.int .i64 0,.int .i64 0,.int .i64 0,.int .i64 0,.int .i64 0,.int .i64 0,.str []] get nid h1 (by rw[rm];omega)
          have o1:=o.1
          by_cases zm:s.cm=[]
          · rw[zm] at elm
            have ap2:=fun q nid c0 m=>app_z (fun b=>bif bif Nat.beq c0 b then true else ins s.mv.top b then bget (bxt h8 q) b else none) nid 15 128 (.slice c0 0 m none) s.mv (.inr ⟨_,_,_,_,rfl⟩) ((elsG1 _ _ _ _).trans (elm q))
            simp+contextual -implicitDefEqProofs (maxSteps:=1000000) (maxDischargeDepth:=20) only[go_sem,simprocAttr,r,b0',b8',o1,q1,q2,q1',q2',q3,q4,tm,tm8,cc8,pc8,mc8,ap,ap2,r_oF,r_oL,r_oM,Bool.cond_self,r_vc,r_vp,mskO,Mem.more,bmore,nb_more,List.filter_nil,List.flatMap_nil,List.filter_cons,List.flatMap_cons,List.map_nil,List.map_cons,mask,unmask,AOp.reads,AOpnd.top,top_p,top_s,top_m,top_i,top_b,top_t,top_a,top_u,top_ns,top_s0,top_d,top_f,nb_beq,nb_blt,nb_add,nidOf,slotIn,Nat.beq_refl,clash,Bool.or_self,List.any_nil,List.any_cons,AOp.isMaker]
            rw[zm] at ce cl
            rw[List.length_nil] at cl
            generalize hh9:bput h8 (nb h4 0) (some (.row true 3 [[cv,pv,.slice (nb h8 1) 0 1 none]]))=h9
            have len9:h9.length=h8.length:=by rw[←hh9,bput_len_eq lb8]
            have z9:bget h9 (nb h4 0)=some (.row true 3 [[cv,pv,.slice (nb h8 1) 0 1 none]]):=by rw[←hh9];exact o.2.2.2.2.1 [] _
            have z9':=fun l=>(bxt_old l h9 _ (bget_lt z9)).trans z9
            have m1:nb h 1<h9.length:=by rw[len9];exact l1''
            have m2:nb h 2<h9.length:=by rw[len9];exact l2''
            have ob2:=old_blk2 m1 m2 (Ne.symm n12)
            have k9:Keep ⟨h,lg,d⟩ ⟨h9,lg8,d⟩:=by rw[←hh9];exact (R.k.sub (d:=d)).own hge lb8 _ [] (LgG.ok .nil)
            have y1:=(bget_lt b1)
            have t1:bget h9 (nb h 1)=some (.row true 3 nil3):=by rw[←hh9];exact (old_get lb8 l1'' n1 [] _).trans b1
            have t2:bget h9 (nb h 2)=some (.row true 2 [[.int .i64 0,.int .i64 0]]):=by rw[←hh9];exact (old_get lb8 l2'' n2 [] _).trans b2
            have t1':=fun l=>(bxt_old l h9 _ m1).trans t1
            have t2':=fun l=>(bxt_old l h9 _ m2).trans t2
            have c9:SlAt h9 16 cv (s.cf.map cfgC):=by rw[←hh9];exact R.c.own lb8 (R.c.nrefs b8 (by decide)) _ []
            have p9:SlAt h9 6 pv (s.pl.map conC):=by rw[←hh9];exact R.p.own lb8 (R.p.nrefs b8 (by decide)) _ []
            have om:=old_blk m1
            have om1:=om.1
            have nq: ¬ 400<(cmdO s).length:=by omega
            simp+contextual -implicitDefEqProofs (maxSteps:=1000000) (maxDischargeDepth:=20) only[go_sem,simprocAttr,z9',t1',t2',t2,om1,ob2,cc8,pc8]
            refine ⟨k9.own2 nb_ge m1 nb_ge m2 _ _ _ (LgG.ok (by repeat first |exact LgG.nil |refine LgG.cons (by first |exact nb_ge |exact Nat.le_trans (R.k.len) nb_ge |assumption) ?_)),rop_ok z nq ((c9.own2 m1 m2 (c9.nrefs t1 (by decide)) (c9.nrefs t2 (by decide)) _ _ _)) ((p9.own2 m1 m2 (p9.nrefs t1 (by decide)) (p9.nrefs t2 (by decide)) _ _ _)) ?_⟩
            rw[ce]
            exact .some (nb h8 1) 0 none true _ rfl (by rw[show nb h8 1=nb h9 1 from by rw[nb,nb,len9],ob2.2.1];rfl) rfl (fun _ h=>by cases h)
          · have ap2:=fun nid=>app_ownn (fun b=>bif bif Nat.beq (nb h8 1) b then true else ins s.mv.top b then bget (bxt h8 [some (.row true 15 [[.int .i64 14,.int .i64 0,.int .i64 0,.int .i64 1000,.int .i64 0,.int .i64 0,.int .i64 0,.int .u64 0,.int .i64 0,.int .i64 0,.int .i64 0,.int .i64 0,.int .i64 0,.int .i64 0,.str []]]),some (.row true 15 [[.int .i64 14,.int .i64 0,.int .i64 0,.int .i64 1000,.int .i64 0,.int .i64 0,.int .i64 0,.int .u64 0,.int .i64 0,.int .i64 0,.int .i64 0,.int .i64 0,.int .i64 0,.int .i64 0,.str []]])]) b else none) nid 15 128 (nb h8 1) 1 s.mv [[.int .i64 14,.int .i64 0,.int .i64 0,.int .i64 1000,.int .i64 0,.int .i64 0,.int .i64 0,.int .u64 0,.int .i64 0,.int .i64 0,.int .i64 0,.int .i64 0,.int .i64 0,.int .i64 0,.str []]] _ rfl ((elsG1 _ _ _ _).trans (elm _)) (fun e=>zm (List.map_eq_nil_iff.1 e)) ((getG1 _ _ _).trans nb_get) (by rw[rm,List.length_map];simp only[List.length_cons,List.length_nil];omega)
            rw[List.length_map] at ap2
            simp+contextual -implicitDefEqProofs (maxSteps:=1000000) (maxDischargeDepth:=20) only[go_sem,simprocAttr,r,b0',b8',o1,q1,q2,q1',q2',q3,q4,tm,tm8,cc8,pc8,mc8,ap,ap2,r_oF,r_oL,r_oM,Bool.cond_self,r_vc,r_vp,mskO,Mem.more,bmore,nb_more,List.filter_nil,List.flatMap_nil,List.filter_cons,List.flatMap_cons,List.map_nil,List.map_cons,mask,unmask,AOp.reads,AOpnd.top,top_p,top_s,top_m,top_i,top_b,top_t,top_a,top_u,top_ns,top_s0,top_d,top_f,nb_beq,nb_blt,nb_add,nidOf,slotIn,Nat.beq_refl,clash,Bool.or_self,List.any_nil,List.any_cons,AOp.isMaker]
            generalize hh9:bput h8 (nb h4 0) (some (.row true 3 [[cv,pv,.slice (nb h8 2) 0 (1+s.cm.length) none]]))=h9
            have len9:h9.length=h8.length:=by rw[←hh9,bput_len_eq lb8]
            have z9:bget h9 (nb h4 0)=some (.row true 3 [[cv,pv,.slice (nb h8 2) 0 (1+s.cm.length) none]]):=by rw[←hh9];exact o.2.2.2.2.1 [] _
            have z9':=fun l=>(bxt_old l h9 _ (bget_lt z9)).trans z9
            have m1:nb h 1<h9.length:=by rw[len9];exact l1''
            have m2:nb h 2<h9.length:=by rw[len9];exact l2''
            have ob2:=old_blk2 m1 m2 (Ne.symm n12)
            have k9:Keep ⟨h,lg,d⟩ ⟨h9,lg8,d⟩:=by rw[←hh9];exact (R.k.sub (d:=d)).own hge lb8 _ [] (LgG.ok .nil)
            have y1:=(bget_lt b1)
            have t1:bget h9 (nb h 1)=some (.row true 3 nil3):=by rw[←hh9];exact (old_get lb8 l1'' n1 [] _).trans b1
            have t2:bget h9 (nb h 2)=some (.row true 2 [[.int .i64 0,.int .i64 0]]):=by rw[←hh9];exact (old_get lb8 l2'' n2 [] _).trans b2
            have t1':=fun l=>(bxt_old l h9 _ m1).trans t1
            have t2':=fun l=>(bxt_old l h9 _ m2).trans t2
            have c9:SlAt h9 16 cv (s.cf.map cfgC):=by rw[←hh9];exact R.c.own lb8 (R.c.nrefs b8 (by decide)) _ []
            have p9:SlAt h9 6 pv (s.pl.map conC):=by rw[←hh9];exact R.p.own lb8 (R.p.nrefs b8 (by decide)) _ []
            have om:=old_blk m1
            have om1:=om.1
            by_cases nq:400<(cmdO s).length
            · have q400:((400:Int)<((1+s.cm.length:Nat):Int))=True:=eq_true (by omega)
              simp+contextual -implicitDefEqProofs (maxSteps:=1000000) (maxDischargeDepth:=20) only[go_sem,simprocAttr,z9',t1',t2',t2,om1,ob2,cc8,pc8,q400]
              exact ⟨k9.own2 nb_ge m1 nb_ge m2 _ _ _ (LgG.ok (by repeat first |exact LgG.nil |refine LgG.cons (by first |exact nb_ge |exact Nat.le_trans (R.k.len) nb_ge |assumption) ?_)),rop_full z nq⟩
            · have q400:((400:Int)<((1+s.cm.length:Nat):Int))=False:=eq_false (by omega)
              simp+contextual -implicitDefEqProofs (maxSteps:=1000000) (maxDischargeDepth:=20) only[go_sem,simprocAttr,z9',t1',t2',t2,om1,ob2,cc8,pc8,q400]
              refine ⟨k9.own2 nb_ge m1 nb_ge m2 _ _ _ (LgG.ok (by repeat first |exact LgG.nil |refine LgG.cons (by first |exact nb_ge |exact Nat.le_trans (R.k.len) nb_ge |assumption) ?_)),rop_ok z nq ((c9.own2 m1 m2 (c9.nrefs t1 (by decide)) (c9.nrefs t2 (by decide)) _ _ _)) ((p9.own2 m1 m2 (p9.nrefs t1 (by decide)) (p9.nrefs t2 (by decide)) _ _ _)) ?_⟩
              rw[ce]
              exact .some (nb h8 2) 0 none true _ (by rw[List.length_append,List.length_map];rfl) (by rw[show nb h8 2=nb h9 2 from by rw[nb,nb,len9],ob2.2.1];rfl) (by rw[List.drop_zero];exact List.take_length) (fun _ h=>by cases h)
        · have lb:b<h8.length:=bget_lt hb
          have nb8:nb h4 0≠b:=fun e=>by rw[e,hb] at b8;simp at b8
          have nb0:nb h 0≠b:=fun e=>by rw[e,hb] at b0;simp at b0
          have nb1:nb h 1≠b:=fun e=>by rw[e,hb] at b1;simp at b1
          have nb2:nb h 2≠b:=fun e=>by rw[e,hb] at b2;simp at b2
          have ob:=old_blk lb
          have o2:=old_blk2 lb lb8 nb8
          have hb':=fun q=>(bxt_old q h8 _ lb).trans hb
          have b88:bget h8 (nb h4 0)=_:=b8
          have q5:=fun k=>nb_beq_ne (k:=k) lb
          have q5':=fun k=>nb_beq_ne' (k:=k) lb
          have q6:=beqn nb8
          have q6':=beqn (Ne.symm nb8)
          have q7:=beqn nb0
          have q7':=beqn (Ne.symm nb0)
          have hbr: ∀ c∈s.mv.refs,c≠b:=fun c hc e=>by have:=H.m.refs c hc;omega
          have elm2:=fun x=>(H8.m.own lb hbr x []).els
          have w1:=ob.1
          have w2:=ob.2.1
          have w3:=ob.2.2.1
          have w4:=ob.2.2.2.1
          have w5:=o2.1
          have w6:=o2.2.2.2.2.2.2.2.2
          have w7:=fun l x=>(old_get lb l0' nb0 l x).trans b0
          unfold scC at w7
          have ap:=fun get nid h1 h2=>app_own 15 128 (.slice (nb h8 0) 0 1 (some 1)) [.int .i64 14,.int .i64 0,.int .i64 0,.int .i64 1000,.int .i64 0,.int .i64 0,.int .i64 0,.int .u64 0,.int .i64 0,.int .i64 0,.int .i64 0,.int .i64 0,.int .i64 0,.int .i64 0,.str []] get nid b ((srt s).map fun x=>cmdC (opnC (cP s.pl x))) h1 h2 (by rw[rm,List.length_map];omega)
          rw[List.length_map] at ap mc8 b8' b88
          by_cases zm:s.cm=[]
          · rw[zm] at elm2
            have ap2:=fun x q nid c0 m=>app_z (fun b'=>bif bif Nat.beq c0 b' then true else ins s.mv.top b' then bget (bxt (bput h8 b x) q) b' else none) nid 15 128 (.slice c0 0 m none) s.mv (.inr ⟨_,_,_,_,rfl⟩) ((elsG1 _ _ _ _).trans (elm2 x q))
            simp+contextual -implicitDefEqProofs (maxSteps:=1000000) (maxDischargeDepth:=20) only[go_sem,simprocAttr,r,b0',b8',b88,hb',w1,w2,w3,w4,w5,w6,w7,q1,q2,q1',q2',q3,q4,q5,q5',q6,q6',q7,q7',tm,tm8,cc8,pc8,mc8,ap,ap2,r_oF,r_oL,r_oM,Bool.cond_self,r_vc,r_vp,mskO,Mem.more,bmore,nb_more,List.filter_nil,List.flatMap_nil,List.filter_cons,List.flatMap_cons,List.map_nil,List.map_cons,mask,unmask,AOp.reads,AOpnd.top,top_p,top_s,top_m,top_i,top_b,top_t,top_a,top_u,top_ns,top_s0,top_d,top_f,nb_beq,nb_blt,nb_add,nidOf,slotIn,Nat.beq_refl,clash,Bool.or_self,List.any_nil,List.any_cons,AOp.isMaker]
            rw[zm] at ce cl
            rw[List.length_nil] at cl
            generalize hh9:bput (bput h8 b none) (nb h4 0) (some (.row true 3 [[cv,pv,.slice (nb h8 1) 0 ((srt s).length+1) none]]))=h9
            have lbb:(bput h8 b none).length=h8.length:=bput_len_eq lb
            have len9:h9.length=h8.length:=by rw[←hh9,bput_len_eq (by rw[lbb];exact lb8),lbb]
            have z9:bget h9 (nb h4 0)=some (.row true 3 [[cv,pv,.slice (nb h8 1) 0 ((srt s).length+1) none]]):=by rw[←hh9];exact o2.2.2.2.2.1 [] _ _
            have z9':=fun l=>(bxt_old l h9 _ (bget_lt z9)).trans z9
            have m1:nb h 1<h9.length:=by rw[len9];exact l1''
            have m2:nb h 2<h9.length:=by rw[len9];exact l2''
            have ob2:=old_blk2 m1 m2 (Ne.symm n12)
            have k9:Keep ⟨h,lg,d⟩ ⟨h9,lg8,d⟩:=by rw[←hh9];exact (R.k.sub (d:=d)).own2 hk lb hge lb8 _ _ [] (LgG.ok .nil)
            have t1:bget h9 (nb h 1)=some (.row true 3 nil3):=by rw[←hh9];exact (old_get2 lb lb8 l1'' nb1 n1 [] _ _).trans b1
            have t2:bget h9 (nb h 2)=some (.row true 2 [[.int .i64 0,.int .i64 0]]):=by rw[←hh9];exact (old_get2 lb lb8 l2'' nb2 n2 [] _ _).trans b2
            have t1':=fun l=>(bxt_old l h9 _ m1).trans t1
            have t2':=fun l=>(bxt_old l h9 _ m2).trans t2
            have c9:SlAt h9 16 cv (s.cf.map cfgC):=by rw[←hh9];exact R.c.own2 lb lb8 (R.c.nrefs hb (by decide)) (R.c.nrefs b8 (by decide)) _ _ []
            have p9:SlAt h9 6 pv (s.pl.map conC):=by rw[←hh9];exact R.p.own2 lb lb8 (R.p.nrefs hb (by decide)) (R.p.nrefs b8 (by decide)) _ _ []
            have om:=old_blk m1
            have om1:=om.1
            have kL:=LgG.ok (LgG.cons (n:=h.length) (lg:=lg8) hk .nil)
            have nq: ¬ 400<(cmdO s).length:=by omega
            have q400:((400:Int)<(((srt s).length+1:Nat):Int))=False:=eq_false (by omega)
            simp+contextual -implicitDefEqProofs (maxSteps:=1000000) (maxDischargeDepth:=20) only[go_sem,simprocAttr,z9',t1',t2',t2,om1,ob2,cc8,pc8,q400]
            refine ⟨k9.own2 nb_ge m1 nb_ge m2 _ _ _ (LgG.ok (by repeat first |exact LgG.nil |refine LgG.cons (by first |exact nb_ge |exact Nat.le_trans (R.k.len) nb_ge |assumption) ?_)),rop_ok z nq ((c9.own2 m1 m2 (c9.nrefs t1 (by decide)) (c9.nrefs t2 (by decide)) _ _ _)) ((p9.own2 m1 m2 (p9.nrefs t1 (by decide)) (p9.nrefs t2 (by decide)) _ _ _)) ?_⟩
            rw[ce]
            exact .some (nb h8 1) 0 none true _ (by simp) (by rw[show nb h8 1=nb h9 1 from by rw[nb,nb,len9],ob2.2.1];rfl) (by rw[List.drop_zero,List.map_nil,List.append_nil];exact List.take_length) (fun _ h=>by cases h)
          · have ap2:=fun nid=>app_ownn (fun b'=>bif bif Nat.beq (nb h8 1) b' then true else ins s.mv.top b' then bget (bxt (bput h8 b none) [some (.row true 15 [[.int .i64 14,.int .i64 0,.int .i64 0,.int .i64 1000,.int .i64 0,.int .i64 0,.int .i64 0,.int .u64 0,.int .i64 0,.int .i64 0,.int .i64 0,.int .i64 0,.int .i64 0,.int .i64 0,.str []]]),some (.row true 15 (((srt s).map fun x=>cmdC (opnC (cP s.pl x)))++ [[.int .i64 14,.int .i64 0,.int .i64 0,.int .i64 1000,.int .i64 0,.int .i64 0,.int .i64 0,.int .u64 0,.int .i64 0,.int .i64 0,.int .i64 0,.int .i64 0,.int .i64 0,.int .i64 0,.str []]]))]) b' else none) nid 15 128 (nb h8 1) ((srt s).length+1) s.mv (((srt s).map fun x=>cmdC (opnC (cP s.pl x)))++ [[.int .i64 14,.int .i64 0,.int .i64 0,.int .i64 1000,.int .i64 0,.int .i64 0,.int .i64 0,.int .u64 0,.int .i64 0,.int .i64 0,.int .i64 0,.int .i64 0,.int .i64 0,.int .i64 0,.str []]]) _ (by simp) ((elsG1 _ _ _ _).trans (elm2 _ _)) (fun e=>zm (List.map_eq_nil_iff.1 e)) ((getG1 _ _ _).trans (ob.2.1 _ _ _)) (by rw[rm,List.length_map,List.length_append,List.length_map];simp only[List.length_cons,List.length_nil];omega)
            rw[List.length_map] at ap2
            simp+contextual -implicitDefEqProofs (maxSteps:=1000000) (maxDischargeDepth:=20) only[go_sem,simprocAttr,r,b0',b8',b88,hb',w1,w2,w3,w4,w5,w6,w7,q1,q2,q1',q2',q3,q4,q5,q5',q6,q6',q7,q7',tm,tm8,cc8,pc8,mc8,ap,ap2,r_oF,r_oL,r_oM,Bool.cond_self,r_vc,r_vp,mskO,Mem.more,bmore,nb_more,List.filter_nil,List.flatMap_nil,List.filter_cons,List.flatMap_cons,List.map_nil,List.map_cons,mask,unmask,AOp.reads,AOpnd.top,top_p,top_s,top_m,top_i,top_b,top_t,top_a,top_u,top_ns,top_s0,top_d,top_f,nb_beq,nb_blt,nb_add,nidOf,slotIn,Nat.beq_refl,clash,Bool.or_self,List.any_nil,List.any_cons,AOp.isMaker]
            generalize hh9:bput (bput h8 b none) (nb h4 0) (some (.row true 3 [[cv,pv,.slice (nb h8 2) 0 ((srt s).length+1+s.cm.length) none]]))=h9
            have lbb:(bput h8 b none).length=h8.length:=bput_len_eq lb
            have len9:h9.length=h8.length:=by rw[←hh9,bput_len_eq (by rw[lbb];exact lb8),lbb]
            have z9:bget h9 (nb h4 0)=some (.row true 3 [[cv,pv,.slice (nb h8 2) 0 ((srt s).length+1+s.cm.length) none]]):=by rw[←hh9];exact o2.2.2.2.2.1 [] _ _
            have z9':=fun l=>(bxt_old l h9 _ (bget_lt z9)).trans z9
            have m1:nb h 1<h9.length:=by rw[len9];exact l1''
            have m2:nb h 2<h9.length:=by rw[len9];exact l2''
            have ob2:=old_blk2 m1 m2 (Ne.symm n12)
            have k9:Keep ⟨h,lg,d⟩ ⟨h9,lg8,d⟩:=by rw[←hh9];exact (R.k.sub (d:=d)).own2 hk lb hge lb8 _ _ [] (LgG.ok .nil)
            have t1:bget h9 (nb h 1)=some (.row true 3 nil3):=by rw[←hh9];exact (old_get2 lb lb8 l1'' nb1 n1 [] _ _).trans b1
            have t2:bget h9 (nb h 2)=some (.row true 2 [[.int .i64 0,.int .i64 0]]):=by rw[←hh9];exact (old_get2 lb lb8 l2'' nb2 n2 [] _ _).trans b2
            have t1':=fun l=>(bxt_old l h9 _ m1).trans t1
            have t2':=fun l=>(bxt_old l h9 _ m2).trans t2
            have c9:SlAt h9 16 cv (s.cf.map cfgC):=by rw[←hh9];exact R.c.own2 lb lb8 (R.c.nrefs hb (by decide)) (R.c.nrefs b8 (by decide)) _ _ []
            have p9:SlAt h9 6 pv (s.pl.map conC):=by rw[←hh9];exact R.p.own2 lb lb8 (R.p.nrefs hb (by decide)) (R.p.nrefs b8 (by decide)) _ _ []
            have om:=old_blk m1
            have om1:=om.1
            have kL:=LgG.ok (LgG.cons (n:=h.length) (lg:=lg8) hk .nil)
            have q400e:(400<(cmdO s).length)↔((400:Int)<(((srt s).length+1+s.cm.length:Nat):Int)):=by omega
            by_cases nq:400<(cmdO s).length
            · have q400:=eq_true (q400e.1 nq)
              simp+contextual -implicitDefEqProofs (maxSteps:=1000000) (maxDischargeDepth:=20) only[go_sem,simprocAttr,z9',t1',t2',t2,om1,ob2,cc8,pc8,q400]
              exact ⟨k9.own2 nb_ge m1 nb_ge m2 _ _ _ (LgG.ok (by repeat first |exact LgG.nil |refine LgG.cons (by first |exact nb_ge |exact Nat.le_trans (R.k.len) nb_ge |assumption) ?_)),rop_full z nq⟩
            · have q400:=eq_false (fun x=>nq (q400e.2 x))
              simp+contextual -implicitDefEqProofs (maxSteps:=1000000) (maxDischargeDepth:=20) only[go_sem,simprocAttr,z9',t1',t2',t2,om1,ob2,cc8,pc8,q400]
              refine ⟨k9.own2 nb_ge m1 nb_ge m2 _ _ _ (LgG.ok (by repeat first |exact LgG.nil |refine LgG.cons (by first |exact nb_ge |exact Nat.le_trans (R.k.len) nb_ge |assumption) ?_)),rop_ok z nq ((c9.own2 m1 m2 (c9.nrefs t1 (by decide)) (c9.nrefs t2 (by decide)) _ _ _)) ((p9.own2 m1 m2 (p9.nrefs t1 (by decide)) (p9.nrefs t2 (by decide)) _ _ _)) ?_⟩
              rw[ce]
              exact .some (nb h8 2) 0 none true _ (by simp;omega) (by rw[show nb h8 2=nb h9 2 from by rw[nb,nb,len9],ob2.2.1];rfl) (by rw[List.drop_zero];exact List.take_length) (fun _ h=>by cases h)
  · have re:=fun h=>rop_err (h:=h) z
    simp+contextual -implicitDefEqProofs (maxSteps:=1000000) (maxDischargeDepth:=20) only[go_sem,simprocAttr,hs,hF,AF13,scC,c1,c2,c3,g1,z,q_k,r_vc,r_vp,mskO,Mem.more,bmore,nb_more,List.filter_nil,List.flatMap_nil,List.filter_cons,List.flatMap_cons,List.map_nil,List.map_cons,mask,unmask,AOp.reads,AOpnd.top,top_p,top_s,top_m,top_i,top_b,top_t,top_a,top_u,top_ns,top_s0,top_d,top_f,nb_beq,nb_blt,nb_add,nidOf,slotIn,Nat.beq_refl,clash,Bool.or_self,List.any_nil,List.any_cons,AOp.isMaker]
    exact re _
end
section
variable {F:FuncId→Option AFunc} {meth:Meth} {sm:Summ}
theorem Keep.own3 {h h':Blks} {lg lg' lg2 d d':List Nat} {b c e:Nat} (k:Keep ⟨h,lg,d⟩ ⟨h',lg',d'⟩) (hb:h.length≤b) (hb2:b<h'.length) (hc:h.length≤c) (hc2:c<h'.length) (he:h.length≤e) (he2:e<h'.length) (x y z:Option ABlk) (l:List (Option ABlk)) (hl: ∃ q,lg2=q++lg'∧ ∀ y∈q,h.length≤y):Keep ⟨h,lg,d⟩ ⟨bxt (bput (bput (bput h' b x) c y) e z) l,lg2,d'⟩:=
  (k.own2 hb hb2 hc hc2 x y [] ⟨[],rfl,fun y hy=>by cases hy⟩).own (lg':=lg') he (by show e<(bput (bput h' b x) c y).length;rw[bput_len_eq (by rw[bput_len_eq hb2];exact hc2),bput_len_eq hb2];exact he2) z l hl
structure OJ (h:Blks) (lg:List Nat) (s:ScX) (v:AV) (L:List (Int × Int)) (m:Mem):Prop where
  k:Keep ⟨h,lg,[]⟩ m
  b0:bget m.blks (nb h 0)=some (.row true 3 [scC s])
  b1:bget m.blks (nb h 1)=some (.row true 3 [[.nilslice,.nilslice,.nilslice]])
  b2:bget m.blks (nb h 2)=some (.row true 2 [[.int .i64 0,.int .i64 0]])
  o:OutAt h.length m.blks 15 v (L.map fun x=>cmdC (opnC x))
theorem OJ.bx {h h3:Blks} {lg lg3 lg4:List Nat} {s:ScX} {v:AV} {L:List (Int × Int)} (R:OJ h lg s v L ⟨h3,lg3,[]⟩) (l:List (Option ABlk)) (hl:LogOK h3 lg3 lg4):OJ h lg s v L ⟨bxt h3 l,lg4,[]⟩:=
  ⟨R.k.trans (keep_bx hl),(bxt_old l h3 _ (bget_lt R.b0)).trans R.b0,(bxt_old l h3 _ (bget_lt R.b1)).trans R.b1,(bxt_old l h3 _ (bget_lt R.b2)).trans R.b2,R.o.bx l⟩
theorem inI_le (l:List ConD) (st:Nat→Bool) (a b:Int): ∀ i,(inI l st a b i).length≤i
  |0=>by simp[inI]
  | i+1=>by
    have:=inI_le l st a b i
    rw[inI,List.length_append]
    split <;>simp <;>omega
theorem inB_le (l:List ConD) (st:Nat→Bool) (a:Int): ∀ b,(inB l st a b).length≤b*l.length
  |0=>by simp[inB]
  | b+1=>by
    have:=inB_le l st a b
    have:=inI_le l st a ((b+1:Nat):Int) l.length
    rw[inB,List.length_append,Nat.succ_mul]
    omega
theorem inA_le (l:List ConD) (st:Nat→Bool): ∀ a,(inA l st a).length≤a*(16*l.length)
  |0=>by simp[inA]
  | a+1=>by
    have:=inA_le l st a
    have:=inB_le l st ((a+1:Nat):Int) 16
    rw[inA,List.length_append,Nat.succ_mul]
    omega
abbrev opC3 (a b:Int):List AV:=[.int .i64 2,.int .i64 a,.int .i64 b,.int .i64 0,.int .i64 0,.int .i64 0,.int .i64 0,.int .u64 0,.int .i64 0,.int .i64 0,.int .i64 0,.int .i64 0,.int .i64 0,.int .i64 0,.str []]
theorem e14 (hF : F 14=some AF14) (hs: ∀ vs m,sm 14 vs m=none) (n:Nat) (h:Blks) (lg d:List Nat) (h37:H37 sm) (h49:H49 sm) {s:ScX} (H:ScAt h s) (W:ScW s):Wa F meth sm (n+2000) (.fn 14) [.agg (scC s)] ⟨bxt h [],lg,d⟩ (Qk ⟨h,lg,d⟩ (ROp s)):=by
  have c1:=H.c.sc
  have c2:=H.p.sc
  have c3:=H.m.sc
  have hl:=W.ok
  have g1:=fun l lg d=>h37 s ⟨bxt h l,lg,d⟩ (H.bx l) hl.l hl.d
  have l1:=hl.l.c
  have l2:=hl.l.m
  have wp:=W.p
  unfold scC at g1
  have rm:roomMost=1000000000000:=rfl
  by_cases z:(scE s).1=0
  · have V := W.v z
    have ok:=scE_ok z
    simp+contextual -implicitDefEqProofs (maxSteps:=1000000) (maxDischargeDepth:=20) only[go_sem,simprocAttr,hs,hF,AF14,scC,c1,c2,c3,g1,z,r_vc,r_vp,mskO,Mem.more,bmore,nb_more,List.filter_nil,List.flatMap_nil,List.filter_cons,List.flatMap_cons,List.map_nil,List.map_cons,mask,unmask,AOp.reads,AOpnd.top,top_p,top_s,top_m,top_i,top_b,top_t,top_a,top_u,top_ns,top_s0,top_d,top_f,nb_beq,nb_blt,nb_add,nidOf,slotIn,Nat.beq_refl,clash,Bool.or_self,List.any_nil,List.any_cons,AOp.isMaker]
    refine WloopE (α:=AV) 16 [X6,X5] (fun i v=> [.int .i64 ((i+1:Nat):Int),v]) (fun i v m=>OJ h lg s v (inA s.pl (stO s) i) m) (by omega) (by repeat first |apply Cl_b |apply Cl_q |apply Cl_r) ⟨.nilslice,rfl,keep_bx (by repeat first |exact LogOK.nil |apply LogOK.cons),nb_get,nb_get,nb_get,.nil rfl rfl⟩ (fun a v m g ha hP=> ?_) (fun v m g hP=> ?_)
    · obtain ⟨h3, lg3,d3⟩:=m
      obtain rfl:d3=[]:=hP.k.dfrs
      have ra:(((a+1:Nat):Int)≤16)=True:=eq_true (by omega)
      have wa:IntKind.i64.wrap (((a+1:Nat):Int)+1)=((a+1+1:Nat):Int):=by rw[wrapI (by omega) (by omega)];omega
      have vc:=hP.o.sl.sc
      refine Wc_bx ?_
      simp+contextual -implicitDefEqProofs (maxSteps:=1000000) (maxDischargeDepth:=20) only[go_sem,simprocAttr,ra,vc]
      refine WloopE (α:=AV) 16 [X7,X5] (fun i v=> [.int .i64 ((i+1:Nat):Int),v]) (fun i v m=>OJ h lg s v (inA s.pl (stO s) a++inB s.pl (stO s) ((a+1:Nat):Int) i) m) (by omega) (by repeat first |apply Cl_b |apply Cl_q |apply Cl_r |apply Cl_e) ⟨v,rfl,by rw[inB,List.append_nil];exact hP⟩ (fun b v m g hb hP=> ?_) (fun v m g hP=> ?_)
      · obtain ⟨h5, lg5,d5⟩:=m
        obtain rfl:d5=[]:=hP.k.dfrs
        have rb:(((b+1:Nat):Int)≤16)=True:=eq_true (by omega)
        have wb:IntKind.i64.wrap (((b+1:Nat):Int)+1)=((b+1+1:Nat):Int):=by rw[wrapI (by omega) (by omega)];omega
        have vc:=hP.o.sl.sc
        refine Wc_bx ?_
        simp+contextual -implicitDefEqProofs (maxSteps:=1000000) (maxDischargeDepth:=20) only[go_sem,simprocAttr,rb,vc]
        refine WloopE (α:=AV) s.pl.length [X8,X5] (fun i v=> [.int .i64 i,v]) (fun i v m=>OJ h lg s v (inA s.pl (stO s) a++inB s.pl (stO s) ((a+1:Nat):Int) b++inI s.pl (stO s) ((a+1:Nat):Int) ((b+1:Nat):Int) i) m) (by omega) (by repeat first |apply Cl_b |apply Cl_q |apply Cl_r |apply Cl_e) ⟨v,rfl,by rw[inI,List.append_nil];exact hP⟩ (fun i v m g hi hP=> ?_) (fun v m g hP=> ?_)
        · obtain ⟨h7, lg7,d7⟩:=m
          obtain rfl:d7=[]:=hP.k.dfrs
          have z1:(inA s.pl (stO s) a).length≤15*(16*40):=Nat.le_trans (inA_le _ _ a) (Nat.mul_le_mul (by omega) (by omega))
          have z2:(inB s.pl (stO s) ((a+1:Nat):Int) b).length≤15*40:=Nat.le_trans (inB_le _ _ _ b) (Nat.mul_le_mul (by omega) (by omega))
          have z3:=inI_le s.pl (stO s) ((a+1:Nat):Int) ((b+1:Nat):Int) i
          have os:inI s.pl (stO s) ((a+1:Nat):Int) ((b+1:Nat):Int) (i+1)=inI s.pl (stO s) ((a+1:Nat):Int) ((b+1:Nat):Int) i++if stO s i=true∧(gt s.pl i).f=((a+1:Nat):Int)∧(gt s.pl i).t=((b+1:Nat):Int) then [(((a+1:Nat):Int),((b+1:Nat):Int))] else []:=rfl
          have zA:(inA s.pl (stO s) a++inB s.pl (stO s) ((a+1:Nat):Int) b).length≤10200:=by rw[List.length_append];omega
          generalize inA s.pl (stO s) a++inB s.pl (stO s) ((a+1:Nat):Int) b=LA at*
          generalize inI s.pl (stO s) ((a+1:Nat):Int) ((b+1:Nat):Int) i=LI at*
          generalize hLJ:inI s.pl (stO s) ((a+1:Nat):Int) ((b+1:Nat):Int) (i+1)=LJ at*
          generalize ((a+1:Nat):Int)=A at*
          generalize ((b+1:Nat):Int)=B at*
          have vc:=hP.o.sl.sc
          have b0:bget h7 (nb h 0)=some (.row true 3 [scC s]):=hP.b0
          have b1:bget h7 (nb h 1)=some (.row true 3 nil3):=hP.b1
          have b2:bget h7 (nb h 2)=some (.row true 2 [[.int .i64 0,.int .i64 0]]):=hP.b2
          have b0':=fun l=>(bxt_old l h7 _ (bget_lt b0)).trans b0
          have e:=(SlAt.keep (m:=⟨h,lg,[]⟩) (m':=⟨h7,lg7,[]⟩) H.p hP.k).el hi
          have lp:=(SlAt.keep (m:=⟨h,lg,[]⟩) (m':=⟨h7,lg7,[]⟩) H.p hP.k).len
          have r:=rnd hi (by omega)
          have H7:ScAt h7 s:=H.old hP.k.old
          have g2:=fun x l lg d=>h49 s x ⟨bxt h7 l,lg,d⟩ (H7.bx l) l1
          have fin: ¬ ((gt s.pl i).s=0∧(gt s.pl i).f=A∧(gt s.pl i).t=B∧hasN s.cf A=true∧hasN s.cf B=true)→ ∃ x,v=x∧OJ h lg s x (LA++LJ) ⟨bxt h7 [some (.row true 6 [conC (gt s.pl i)])],nb h7 0::nb h7 0::lg7,[]⟩:=fun q=>⟨v,rfl,by
            rw[os,if_neg (fun x=>q (by have y:=of_decide_eq_true x.1;rw[x.2.1,x.2.2] at y;exact ⟨y.1,x.2.1,x.2.2,y.2.1,y.2.2⟩)),List.append_nil]
            exact hP.bx _ (by repeat first |exact LogOK.nil |apply LogOK.cons)⟩
          unfold scC at b0' g2
          unfold conC at e fin
          refine Wc_bx ?_
          by_cases k1:(gt s.pl i).s=0
          · have k1':=eq_true k1
            by_cases k2:(gt s.pl i).f=A
            · have k2':=eq_true k2
              by_cases k3:(gt s.pl i).t=B
              · have k3':=eq_true k3
                by_cases k4:hasN s.cf A=true
                · have g4:=fun l lg d=>g2 A l lg d
                  rw[decide_eq_true k4] at g4
                  by_cases k5:hasN s.cf B=true
                  · have g5:=fun l lg d=>g2 B l lg d
                    rw[decide_eq_true k5] at g5
                    have ow:LJ=LI++ [(A,B)]:=by rw[os,if_pos ⟨decide_eq_true ⟨k1,by rw[k2];exact k4,by rw[k3];exact k5⟩,k2,k3⟩]
                    rcases hoo:hP.o with ⟨hn,rfl⟩|⟨q,rfl,hk,hq⟩
                    · have ap:=fun get nid h1=>app_nil 15 128 (.slice (nb h7 1) 0 1 (some 1)) (opC3 A B) get nid h1 (by rw[rm];omega)
                      simp+contextual -implicitDefEqProofs (maxSteps:=1000000) (maxDischargeDepth:=20) only[go_sem,simprocAttr,e,r,lp,List.length_map,b0',vc,k1',k2',k3',g4,g5,ap,e_n,e_e,e_r]
                      have l0:=bget_lt b0
                      refine ⟨_,rfl,hP.k.trans (keep_bx (by repeat first |exact LogOK.nil |apply LogOK.cons)),(bxt_old _ h7 _ (bget_lt b0)).trans b0,(bxt_old _ h7 _ (bget_lt b1)).trans b1,(bxt_old _ h7 _ (bget_lt b2)).trans b2,?_⟩
                      rw[ow,←List.append_assoc,List.map_append,hn]
                      exact .some (nb h7 2) rfl (Nat.le_trans hP.k.len nb_ge) nb_get
                    · have ob:=old_blk (bget_lt hq)
                      have hq':=fun l=>(bxt_old l h7 _ (bget_lt hq)).trans hq
                      have ap:=fun get nid h1 h2=>app_own 15 128 (.slice (nb h7 1) 0 1 (some 1)) (opC3 A B) get nid q ((LA++LI).map fun x=>cmdC (opnC x)) h1 h2 (by rw[rm,List.length_map,List.length_append];omega)
                      rw[List.length_map] at ap vc
                      rw[List.length_map]
                      simp+contextual -implicitDefEqProofs (maxSteps:=1000000) (maxDischargeDepth:=20) only[go_sem,simprocAttr,e,r,lp,List.length_map,b0',vc,k1',k2',k3',g4,g5,ap,hq',ob,e_n,e_e,e_r]
                      have n0:nb h 0≠q:=fun e=>by rw[e,hq] at b0;simp at b0
                      have n1:nb h 1≠q:=fun e=>by rw[e,hq] at b1;simp at b1
                      have n2:nb h 2≠q:=fun e=>by rw[e,hq] at b2;simp at b2
                      have lq:q<h7.length:=bget_lt hq
                      refine ⟨_,rfl,hP.k.own hk lq _ _ (LgG.ok (by repeat first |exact LgG.nil |refine LgG.cons (by first |exact nb_ge |exact Nat.le_trans (hP.k.len) nb_ge |assumption) ?_)),(old_get lq (bget_lt b0) n0 _ _).trans b0,(old_get lq (bget_lt b1) n1 _ _).trans b1,(old_get lq (bget_lt b2) n2 _ _).trans b2,?_⟩
                      rw[ow,←List.append_assoc,List.map_append]
                      exact .some (nb h7 2) (by simp;omega) (Nat.le_trans hP.k.len nb_ge) (by rw[(old_blk lq).2.1];simp only[List.map_append];rfl)
                  · have g4':=g4
                    have g5:=fun l lg d=>g2 B l lg d
                    rw[decide_eq_false k5] at g5
                    simp+contextual -implicitDefEqProofs (maxSteps:=1000000) (maxDischargeDepth:=20) only[go_sem,simprocAttr,e,r,lp,List.length_map,b0',vc,k1',k2',k3',g4,g5,e_n,e_e,e_r]
                    exact fin fun x=>k5 x.2.2.2.2
                · have g4:=fun l lg d=>g2 A l lg d
                  rw[decide_eq_false k4] at g4
                  simp+contextual -implicitDefEqProofs (maxSteps:=1000000) (maxDischargeDepth:=20) only[go_sem,simprocAttr,e,r,lp,List.length_map,b0',vc,k1',k2',k3',g4,e_n,e_e,e_r]
                  exact fin fun x=>k4 x.2.2.2.1
              · have k3':=eq_false k3
                simp+contextual -implicitDefEqProofs (maxSteps:=1000000) (maxDischargeDepth:=20) only[go_sem,simprocAttr,e,r,lp,List.length_map,b0',vc,k1',k2',k3',e_n,e_e,e_r]
                exact fin fun x=>k3 x.2.2.1
            · have k2':=eq_false k2
              simp+contextual -implicitDefEqProofs (maxSteps:=1000000) (maxDischargeDepth:=20) only[go_sem,simprocAttr,e,r,lp,List.length_map,b0',vc,k1',k2',e_n,e_e,e_r]
              exact fin fun x=>k2 x.2.1
          · have k1':=eq_false k1
            simp+contextual -implicitDefEqProofs (maxSteps:=1000000) (maxDischargeDepth:=20) only[go_sem,simprocAttr,e,r,lp,List.length_map,b0',vc,k1',e_n,e_e,e_r]
            exact fin fun x=>k1 x.1
        · obtain ⟨h7,lg7,d7⟩:=m
          obtain rfl:d7=[]:=hP.k.dfrs
          have b0:bget h7 (nb h 0)=some (.row true 3 [scC s]):=hP.b0
          have b0':=fun l=>(bxt_old l h7 _ (bget_lt b0)).trans b0
          have lp:=(SlAt.keep (m:=⟨h,lg,[]⟩) (m':=⟨h7,lg7,[]⟩) H.p hP.k).len
          have r:=rndl s.pl.length
          have vc:=hP.o.sl.sc
          unfold scC at b0'
          refine Wc_bx ?_
          simp+contextual -implicitDefEqProofs (maxSteps:=1000000) (maxDischargeDepth:=20) only[go_sem,simprocAttr,r,lp,List.length_map,b0',wb,e_n,e_e,e_r]
          exact ⟨v,rfl,by rw[inB,←List.append_assoc];exact hP⟩
      · obtain ⟨h5,lg5,d5⟩:=m
        obtain rfl:d5=[]:=hP.k.dfrs
        refine Wc_bx ?_
        simp+contextual -implicitDefEqProofs (maxSteps:=1000000) (maxDischargeDepth:=20) only[go_sem,simprocAttr,wa,e_n,e_e,e_r]
        exact ⟨v,rfl,by rw[inA];exact hP⟩
    · obtain ⟨h3,lg3,d3⟩:=m
      obtain rfl:d3=[]:=hP.k.dfrs
      have b0:bget h3 (nb h 0)=some (.row true 3 [scC s]):=hP.b0
      have b1:bget h3 (nb h 1)=some (.row true 3 nil3):=hP.b1
      have b2:bget h3 (nb h 2)=some (.row true 2 [[.int .i64 0,.int .i64 0]]):=hP.b2
      have b0':=fun l=>(bxt_old l h3 _ (bget_lt b0)).trans b0
      have b1':=fun l=>(bxt_old l h3 _ (bget_lt b1)).trans b1
      have b2':=fun l=>(bxt_old l h3 _ (bget_lt b2)).trans b2
      have l0:nb h 0<h3.length:=bget_lt b0
      have l1':nb h 1<h3.length:=bget_lt b1
      have l2':nb h 2<h3.length:=bget_lt b2
      have n12:nb h 1≠nb h 2:=by rw[ne_eq,nb_inj];omega
      have om1:=(old_blk l1').1
      have o12:=old_blk2 l1' l2' (Ne.symm n12)
      have q1:=fun k=>nb_beq_ne (k:=k) l0
      have q1':=fun k=>nb_beq_ne' (k:=k) l0
      have q2:=fun k=>nb_beq_ne (k:=k) l1'
      have q2':=fun k=>nb_beq_ne' (k:=k) l1'
      have q3:=fun k=>nb_beq_ne (k:=k) l2'
      have q3':=fun k=>nb_beq_ne' (k:=k) l2'
      have H3:ScAt h3 s:=H.old hP.k.old
      have elm:=H3.m.els
      have elc:=H3.c.els
      have elp:=H3.p.els
      have tm:=H.m.top
      have tc:=H.c.top
      have tp:=H.p.top
      have tm3:=H3.m.top
      have tc3:=H3.c.top
      have tp3:=H3.p.top
      have vc:=hP.o.sl.sc
      have hcm:s.cm.length≤400:=ok.1.2.2
      have hcf:s.cf.length≤16:=ok.1.1
      have zc:s.cf≠ []:=fun e=>by
        unfold scE at z
        rw[e] at z
        simp at z
      have zc':s.cf.map cfgC≠ []:=fun e=>zc (List.map_eq_nil_iff.1 e)
      have ce:(cmdO s).map cmdC=((inA s.pl (stO s) 16).map fun x=>cmdC (opnC x))++ [[.int .i64 14,.int .i64 0,.int .i64 0,.int .i64 1000,.int .i64 0,.int .i64 0,.int .i64 0,.int .u64 0,.int .i64 0,.int .i64 0,.int .i64 0,.int .i64 0,.int .i64 0,.int .i64 0,.str []]]++s.cm.map cmdC:=by
        unfold cmdO
        rw[List.map_append,List.map_append,List.map_map]
        rfl
      have cl:(cmdO s).length=(inA s.pl (stO s) 16).length+1+s.cm.length:=by
        have:=congrArg List.length ce
        simp only[List.length_map,List.length_append,List.length_cons,List.length_nil] at this
        omega
      have zA:(inA s.pl (stO s) 16).length≤16*(16*40):=Nat.le_trans (inA_le _ _ 16) (Nat.mul_le_mul (by omega) (by omega))
      generalize hIA:inA s.pl (stO s) 16=IA at*
      have K:Keep ⟨h,lg,d⟩ ⟨h3,lg3,d⟩:=hP.k.sub
      have r16:(((16+1:Nat):Int)≤16)=False:=eq_false (by omega)
      unfold scC at b0'
      refine Wc_bx ?_
      rcases hoo:hP.o with ⟨hn,rfl⟩|⟨b,rfl,hk,hb⟩
      · have A0:IA=[]:=List.map_eq_nil_iff.1 hn
        rw[A0,List.map_nil,List.nil_append] at ce
        rw[A0,List.length_nil,Nat.zero_add] at cl
        have ap:=fun get nid h1=>app_nil 15 128 (.slice (nb h3 0) 0 1 (some 1)) [.int .i64 14,.int .i64 0,.int .i64 0,.int .i64 1000,.int .i64 0,.int .i64 0,.int .i64 0,.int .u64 0,.int .i64 0,.int .i64 0,.int .i64 0,.int .i64 0,.int .i64 0,.int .i64 0,.str []] get nid h1 (by rw[rm];omega)
        have elmX:=elm
        have elcX:=elc
        have elpX:=elp
        by_cases zm:s.cm=[]
        · rw[zm] at elmX
          have ap2:=fun q nid c0 m=>app_z (bget (bxt h3 q)) nid 15 128 (.slice c0 0 m none) s.mv (.inr ⟨_,_,_,_,rfl⟩) (elmX q)
          rw[zm] at ce cl
          rw[List.map_nil,List.append_nil] at ce
          rw[List.length_nil] at cl
          have q4:(400<(cmdO s).length)↔((400:Int)<((1:Nat):Int)):=by omega
          by_cases nq:400<(cmdO s).length
          · exact absurd nq (by omega)
          · have q400:=eq_false (fun x=>nq (q4.2 x))
            have ap3:=fun q nid=>ap0_c (fun b=>bif ins s.cv.top b then bget (bxt h3 q) b else none) nid 16 128 s.cv _ ((els0 _ _ _).trans (elcX q)) zc' (by rw[List.length_map,rm];omega)
            rw[List.length_map] at ap3
            by_cases zp:s.pl=[]
            · rw[zp] at elpX
              have ap4:=fun q nid=>ap0_n (fun b=>bif ins s.pv.top b then bget (bxt h3 q) b else none) nid 6 48 s.pv ((els0 _ _ _).trans (elpX q))
              simp+contextual -implicitDefEqProofs (maxSteps:=1000000) (maxDischargeDepth:=20) only[go_sem,simprocAttr,r16,q400,b0',b1',b2',b2,vc,om1,o12,q1,q1',q2,q2',q3,q3',tm,tc,tp,tm3,tc3,tp3,c1,c2,c3,ap,ap2,e_n,e_e,e_r,ap3,ap4,r_oF,r_oL,r_oM,Bool.cond_self,List.append_nil,r_vc,r_vp,mskO,Mem.more,bmore,nb_more,List.filter_nil,List.flatMap_nil,List.filter_cons,List.flatMap_cons,List.map_nil,List.map_cons,mask,unmask,AOp.reads,AOpnd.top,top_p,top_s,top_m,top_i,top_b,top_t,top_a,top_u,top_ns,top_s0,top_d,top_f,nb_beq,nb_blt,nb_add,nidOf,slotIn,Nat.beq_refl,clash,Bool.or_self,List.any_nil,List.any_cons,AOp.isMaker]
              exact ⟨(K.own2 nb_ge l1' nb_ge l2' _ _ _ (LgG.ok (by repeat first |exact LgG.nil |refine LgG.cons (by first |exact nb_ge |exact Nat.le_trans (K.len) nb_ge |assumption) ?_))),rop_ok z nq (.some (nb h3 4) 0 none true (s.cf.map cfgC) (by rw[List.length_map]) (by rw[o12.2.1];rfl) (by rw[List.drop_zero,List.take_length]) (fun _ h=>by cases h)) (.none (by rw[zp];rfl) (.inr (.inl rfl))) (by rw[ce];exact .some (nb h3 1) 0 none true _ (by simp;try omega) (by rw[o12.2.1];rfl) (by rw[List.drop_zero];exact List.take_length) (fun _ h=>by cases h))⟩
            · have ap4:=fun q nid=>ap0_c (fun b=>bif ins s.pv.top b then bget (bxt h3 q) b else none) nid 6 48 s.pv _ ((els0 _ _ _).trans (elpX q)) (fun e=>zp (List.map_eq_nil_iff.1 e)) (by rw[List.length_map,rm];omega)
              rw[List.length_map] at ap4
              simp+contextual -implicitDefEqProofs (maxSteps:=1000000) (maxDischargeDepth:=20) only[go_sem,simprocAttr,r16,q400,b0',b1',b2',b2,vc,om1,o12,q1,q1',q2,q2',q3,q3',tm,tc,tp,tm3,tc3,tp3,c1,c2,c3,ap,ap2,e_n,e_e,e_r,ap3,ap4,r_oF,r_oL,r_oM,Bool.cond_self,List.append_nil,r_vc,r_vp,mskO,Mem.more,bmore,nb_more,List.filter_nil,List.flatMap_nil,List.filter_cons,List.flatMap_cons,List.map_nil,List.map_cons,mask,unmask,AOp.reads,AOpnd.top,top_p,top_s,top_m,top_i,top_b,top_t,top_a,top_u,top_ns,top_s0,top_d,top_f,nb_beq,nb_blt,nb_add,nidOf,slotIn,Nat.beq_refl,clash,Bool.or_self,List.any_nil,List.any_cons,AOp.isMaker]
              exact ⟨(K.own2 nb_ge l1' nb_ge l2' _ _ _ (LgG.ok (by repeat first |exact LgG.nil |refine LgG.cons (by first |exact nb_ge |exact Nat.le_trans (K.len) nb_ge |assumption) ?_))),rop_ok z nq (.some (nb h3 4) 0 none true (s.cf.map cfgC) (by rw[List.length_map]) (by rw[o12.2.1];rfl) (by rw[List.drop_zero,List.take_length]) (fun _ h=>by cases h)) (.some (nb h3 5) 0 none true (s.pl.map conC) (by rw[List.length_map]) (by rw[o12.2.1];rfl) (by rw[List.drop_zero,List.take_length]) (fun _ h=>by cases h)) (by rw[ce];exact .some (nb h3 1) 0 none true _ (by simp;try omega) (by rw[o12.2.1];rfl) (by rw[List.drop_zero];exact List.take_length) (fun _ h=>by cases h))⟩
        · have ap2:=fun nid=>app_ownn (bget (bxt h3 [some (.row true 15 [[.int .i64 14,.int .i64 0,.int .i64 0,.int .i64 1000,.int .i64 0,.int .i64 0,.int .i64 0,.int .u64 0,.int .i64 0,.int .i64 0,.int .i64 0,.int .i64 0,.int .i64 0,.int .i64 0,.str []]]),some (.row true 15 ([[.int .i64 14,.int .i64 0,.int .i64 0,.int .i64 1000,.int .i64 0,.int .i64 0,.int .i64 0,.int .u64 0,.int .i64 0,.int .i64 0,.int .i64 0,.int .i64 0,.int .i64 0,.int .i64 0,.str []]]))])) nid 15 128 (nb h3 1) (1) s.mv ([[.int .i64 14,.int .i64 0,.int .i64 0,.int .i64 1000,.int .i64 0,.int .i64 0,.int .i64 0,.int .u64 0,.int .i64 0,.int .i64 0,.int .i64 0,.int .i64 0,.int .i64 0,.int .i64 0,.str []]]) _ (by simp) (elmX _) (fun e=>zm (List.map_eq_nil_iff.1 e)) nb_get (by rw[rm,List.length_map];simp only[List.length_append,List.length_map,List.length_cons,List.length_nil];omega)
          rw[List.length_map] at ap2
          have q4:(400<(cmdO s).length)↔((400:Int)<((1+s.cm.length:Nat):Int)):=by omega
          by_cases nq:400<(cmdO s).length
          · have q400:=eq_true (q4.1 nq)
            simp+contextual -implicitDefEqProofs (maxSteps:=1000000) (maxDischargeDepth:=20) only[go_sem,simprocAttr,r16,q400,b0',b1',b2',b2,vc,om1,o12,q1,q1',q2,q2',q3,q3',tm,tc,tp,tm3,tc3,tp3,c1,c2,c3,ap,ap2,e_n,e_e,e_r]
            exact ⟨(K.own2 nb_ge l1' nb_ge l2' _ _ _ (LgG.ok (by repeat first |exact LgG.nil |refine LgG.cons (by first |exact nb_ge |exact Nat.le_trans (K.len) nb_ge |assumption) ?_))),rop_full z nq⟩
          · have q400:=eq_false (fun x=>nq (q4.2 x))
            have ap3:=fun q nid=>ap0_c (fun b=>bif ins s.cv.top b then bget (bxt h3 q) b else none) nid 16 128 s.cv _ ((els0 _ _ _).trans (elcX q)) zc' (by rw[List.length_map,rm];omega)
            rw[List.length_map] at ap3
            by_cases zp:s.pl=[]
            · rw[zp] at elpX
              have ap4:=fun q nid=>ap0_n (fun b=>bif ins s.pv.top b then bget (bxt h3 q) b else none) nid 6 48 s.pv ((els0 _ _ _).trans (elpX q))
              simp+contextual -implicitDefEqProofs (maxSteps:=1000000) (maxDischargeDepth:=20) only[go_sem,simprocAttr,r16,q400,b0',b1',b2',b2,vc,om1,o12,q1,q1',q2,q2',q3,q3',tm,tc,tp,tm3,tc3,tp3,c1,c2,c3,ap,ap2,e_n,e_e,e_r,ap3,ap4,r_oF,r_oL,r_oM,Bool.cond_self,List.append_nil,r_vc,r_vp,mskO,Mem.more,bmore,nb_more,List.filter_nil,List.flatMap_nil,List.filter_cons,List.flatMap_cons,List.map_nil,List.map_cons,mask,unmask,AOp.reads,AOpnd.top,top_p,top_s,top_m,top_i,top_b,top_t,top_a,top_u,top_ns,top_s0,top_d,top_f,nb_beq,nb_blt,nb_add,nidOf,slotIn,Nat.beq_refl,clash,Bool.or_self,List.any_nil,List.any_cons,AOp.isMaker]
              exact ⟨(K.own2 nb_ge l1' nb_ge l2' _ _ _ (LgG.ok (by repeat first |exact LgG.nil |refine LgG.cons (by first |exact nb_ge |exact Nat.le_trans (K.len) nb_ge |assumption) ?_))),rop_ok z nq (.some (nb h3 5) 0 none true (s.cf.map cfgC) (by rw[List.length_map]) (by rw[o12.2.1];rfl) (by rw[List.drop_zero,List.take_length]) (fun _ h=>by cases h)) (.none (by rw[zp];rfl) (.inr (.inl rfl))) (by rw[ce];exact .some (nb h3 2) 0 none true _ (by simp;try omega) (by rw[o12.2.1];rfl) (by rw[List.drop_zero];exact List.take_length) (fun _ h=>by cases h))⟩
            · have ap4:=fun q nid=>ap0_c (fun b=>bif ins s.pv.top b then bget (bxt h3 q) b else none) nid 6 48 s.pv _ ((els0 _ _ _).trans (elpX q)) (fun e=>zp (List.map_eq_nil_iff.1 e)) (by rw[List.length_map,rm];omega)
              rw[List.length_map] at ap4
              simp+contextual -implicitDefEqProofs (maxSteps:=1000000) (maxDischargeDepth:=20) only[go_sem,simprocAttr,r16,q400,b0',b1',b2',b2,vc,om1,o12,q1,q1',q2,q2',q3,q3',tm,tc,tp,tm3,tc3,tp3,c1,c2,c3,ap,ap2,e_n,e_e,e_r,ap3,ap4,r_oF,r_oL,r_oM,Bool.cond_self,List.append_nil,r_vc,r_vp,mskO,Mem.more,bmore,nb_more,List.filter_nil,List.flatMap_nil,List.filter_cons,List.flatMap_cons,List.map_nil,List.map_cons,mask,unmask,AOp.reads,AOpnd.top,top_p,top_s,top_m,top_i,top_b,top_t,top_a,top_u,top_ns,top_s0,top_d,top_f,nb_beq,nb_blt,nb_add,nidOf,slotIn,Nat.beq_refl,clash,Bool.or_self,List.any_nil,List.any_cons,AOp.isMaker]
              exact ⟨(K.own2 nb_ge l1' nb_ge l2' _ _ _ (LgG.ok (by repeat first |exact LgG.nil |refine LgG.cons (by first |exact nb_ge |exact Nat.le_trans (K.len) nb_ge |assumption) ?_))),rop_ok z nq (.some (nb h3 5) 0 none true (s.cf.map cfgC) (by rw[List.length_map]) (by rw[o12.2.1];rfl) (by rw[List.drop_zero,List.take_length]) (fun _ h=>by cases h)) (.some (nb h3 6) 0 none true (s.pl.map conC) (by rw[List.length_map]) (by rw[o12.2.1];rfl) (by rw[List.drop_zero,List.take_length]) (fun _ h=>by cases h)) (by rw[ce];exact .some (nb h3 2) 0 none true _ (by simp;try omega) (by rw[o12.2.1];rfl) (by rw[List.drop_zero];exact List.take_length) (fun _ h=>by cases h))⟩
      · have lb:b<h3.length:=bget_lt hb
        have nb0:nb h 0≠b:=fun e=>by rw[e,hb] at b0;simp at b0
        have nb1:nb h 1≠b:=fun e=>by rw[e,hb] at b1;simp at b1
        have nb2:nb h 2≠b:=fun e=>by rw[e,hb] at b2;simp at b2
        have ob:=old_blk lb
        have hb':=fun q=>(bxt_old q h3 _ lb).trans hb
        have w7:=fun l x=>(old_get lb l0 nb0 l x).trans b0
        have w8:=fun l x=>(old_get lb l1' nb1 l x).trans b1
        have w9:=fun l x y=>(old_get2 lb l1' l2' nb2 (Ne.symm n12) l x y).trans b2
        unfold scC at w7
        have lb1: ∀ x,(bput h3 b x).length=h3.length:=fun x=>bput_len_eq lb
        have lb2: ∀ x y,(bput (bput h3 b x) (nb h 1) y).length=h3.length:=fun x y=>by rw[bput_len_eq (by rw[lb1];exact l1'),lb1]
        have t1:=(old_blk2 lb l1' nb1).1
        have t2: ∀ l x y z,bput (bxt (bput (bput h3 b x) (nb h 1) y) l) (nb h 2) z=bxt (bput (bput (bput h3 b x) (nb h 1) y) (nb h 2) z) l:=fun l x y z=>bxt_bput l _ _ z (by rw[lb2];exact l2')
        have e2: ∀ l x y z,bget (bxt (bput (bput (bput h3 b x) (nb h 1) y) (nb h 2) z) l) (nb h 1)=y:=fun l x y z=>by
          rw[old_get (by rw[lb2];exact l2') (by rw[lb2];exact l1') n12,bget_set (by rw[lb1];exact l1'),if_pos rfl]
        have e3: ∀ l x y z,bget (bxt (bput (bput (bput h3 b x) (nb h 1) y) (nb h 2) z) l) (nb h 2)=z:=fun l x y z=>(old_blk (h:=bput (bput h3 b x) (nb h 1) y) (by rw[lb2];exact l2')).2.2.2.2.1 l z
        have lb3: ∀ x y z,(bput (bput (bput h3 b x) (nb h 1) y) (nb h 2) z).length=h3.length:=fun x y z=>by rw[bput_len_eq (by rw[lb2];exact l2'),lb2]
        have e4: ∀ l x y z k,bget (bxt (bput (bput (bput h3 b x) (nb h 1) y) (nb h 2) z) l) (nb h3 k)=bnth l k:=fun l x y z k=>by
          have:nb h3 k=nb (bput (bput (bput h3 b x) (nb h 1) y) (nb h 2) z) k:=by rw[nb,nb,lb3]
          rw[this,nb_get]
        have p1:=fun k=>nb_beq_ne (k:=k) lb
        have p1':=fun k=>nb_beq_ne' (k:=k) lb
        have p2:=beqn nb0
        have p2':=beqn (Ne.symm nb0)
        have p3:=beqn nb1
        have p3':=beqn (Ne.symm nb1)
        have p4:=beqn nb2
        have p4':=beqn (Ne.symm nb2)
        have hr: ∀ (x:AV),(∀ c∈x.refs,c<h.length)→ ∀ c∈x.refs,c≠b:=fun x hx c hc e=>by have:=hx c hc;omega
        have elmX: ∀ l,elemsOf (bget (bxt (bput h3 b none) l)) 15 s.mv=some _:=(H3.m.own lb (hr _ H.m.refs) none []).els
        have elcX: ∀ l,elemsOf (bget (bxt (bput h3 b none) l)) 16 s.cv=some _:=(H3.c.own lb (hr _ H.c.refs) none []).els
        have elpX: ∀ l,elemsOf (bget (bxt (bput h3 b none) l)) 6 s.pv=some _:=(H3.p.own lb (hr _ H.p.refs) none []).els
        have ap:=fun get nid h1 h2=>app_own 15 128 (.slice (nb h3 0) 0 1 (some 1)) [.int .i64 14,.int .i64 0,.int .i64 0,.int .i64 1000,.int .i64 0,.int .i64 0,.int .i64 0,.int .u64 0,.int .i64 0,.int .i64 0,.int .i64 0,.int .i64 0,.int .i64 0,.int .i64 0,.str []] get nid b ((IA).map fun x=>cmdC (opnC x)) h1 h2 (by rw[rm,List.length_map];omega)
        rw[List.length_map] at ap vc
        rw[List.length_map]
        by_cases zm:s.cm=[]
        · rw[zm] at elmX
          have ap2:=fun q nid c0 m=>app_z (bget (bxt (bput h3 b none) q)) nid 15 128 (.slice c0 0 m none) s.mv (.inr ⟨_,_,_,_,rfl⟩) (elmX q)
          rw[zm] at ce cl
          rw[List.map_nil,List.append_nil] at ce
          rw[List.length_nil] at cl
          have q4:(400<(cmdO s).length)↔((400:Int)<(((IA).length+1:Nat):Int)):=by omega
          by_cases nq:400<(cmdO s).length
          · have q400:=eq_true (q4.1 nq)
            simp+contextual -implicitDefEqProofs (maxSteps:=1000000) (maxDischargeDepth:=20) only[go_sem,simprocAttr,r16,q400,b0',b1',b2',b2,vc,om1,o12,q1,q1',q2,q2',q3,q3',tm,tc,tp,tm3,tc3,tp3,c1,c2,c3,hb',ob,w7,w8,w9,t1,t2,e2,e3,p1,p1',p2,p2',p3,p3',p4,p4',ap,ap2,e_n,e_e,e_r]
            exact ⟨(K.own3 hk lb nb_ge l1' nb_ge l2' _ _ _ _ (LgG.ok (by repeat first |exact LgG.nil |refine LgG.cons (by first |exact nb_ge |exact Nat.le_trans (K.len) nb_ge |assumption) ?_))),rop_full z nq⟩
          · have q400:=eq_false (fun x=>nq (q4.2 x))
            have ap3:=fun q nid=>ap0_c (fun b'=>bif ins s.cv.top b' then bget (bxt (bput h3 b none) q) b' else none) nid 16 128 s.cv _ ((els0 _ _ _).trans (elcX q)) zc' (by rw[List.length_map,rm];omega)
            rw[List.length_map] at ap3
            by_cases zp:s.pl=[]
            · rw[zp] at elpX
              have ap4:=fun q nid=>ap0_n (fun b'=>bif ins s.pv.top b' then bget (bxt (bput h3 b none) q) b' else none) nid 6 48 s.pv ((els0 _ _ _).trans (elpX q))
              simp+contextual -implicitDefEqProofs (maxSteps:=1000000) (maxDischargeDepth:=20) only[go_sem,simprocAttr,r16,q400,b0',b1',b2',b2,vc,om1,o12,q1,q1',q2,q2',q3,q3',tm,tc,tp,tm3,tc3,tp3,c1,c2,c3,hb',ob,w7,w8,w9,t1,t2,e2,e3,p1,p1',p2,p2',p3,p3',p4,p4',ap,ap2,e_n,e_e,e_r,ap3,ap4,r_oF,r_oL,r_oM,Bool.cond_self,List.append_nil,r_vc,r_vp,mskO,Mem.more,bmore,nb_more,List.filter_nil,List.flatMap_nil,List.filter_cons,List.flatMap_cons,List.map_nil,List.map_cons,mask,unmask,AOp.reads,AOpnd.top,top_p,top_s,top_m,top_i,top_b,top_t,top_a,top_u,top_ns,top_s0,top_d,top_f,nb_beq,nb_blt,nb_add,nidOf,slotIn,Nat.beq_refl,clash,Bool.or_self,List.any_nil,List.any_cons,AOp.isMaker]
              exact ⟨(K.own3 hk lb nb_ge l1' nb_ge l2' _ _ _ _ (LgG.ok (by repeat first |exact LgG.nil |refine LgG.cons (by first |exact nb_ge |exact Nat.le_trans (K.len) nb_ge |assumption) ?_))),rop_ok z nq (.some (nb h3 4) 0 none true (s.cf.map cfgC) (by rw[List.length_map]) (by rw[e4];rfl) (by rw[List.drop_zero,List.take_length]) (fun _ h=>by cases h)) (.none (by rw[zp];rfl) (.inr (.inl rfl))) (by rw[ce];exact .some (nb h3 1) 0 none true _ (by simp;try omega) (by rw[e4];rfl) (by rw[List.drop_zero];exact List.take_length) (fun _ h=>by cases h))⟩
            · have ap4:=fun q nid=>ap0_c (fun b'=>bif ins s.pv.top b' then bget (bxt (bput h3 b none) q) b' else none) nid 6 48 s.pv _ ((els0 _ _ _).trans (elpX q)) (fun e=>zp (List.map_eq_nil_iff.1 e)) (by rw[List.length_map,rm];omega)
              rw[List.length_map] at ap4
              simp+contextual -implicitDefEqProofs (maxSteps:=1000000) (maxDischargeDepth:=20) only[go_sem,simprocAttr,r16,q400,b0',b1',b2',b2,vc,om1,o12,q1,q1',q2,q2',q3,q3',tm,tc,tp,tm3,tc3,tp3,c1,c2,c3,hb',ob,w7,w8,w9,t1,t2,e2,e3,p1,p1',p2,p2',p3,p3',p4,p4',ap,ap2,e_n,e_e,e_r,ap3,ap4,r_oF,r_oL,r_oM,Bool.cond_self,List.append_nil,r_vc,r_vp,mskO,Mem.more,bmore,nb_more,List.filter_nil,List.flatMap_nil,List.filter_cons,List.flatMap_cons,List.map_nil,List.map_cons,mask,unmask,AOp.reads,AOpnd.top,top_p,top_s,top_m,top_i,top_b,top_t,top_a,top_u,top_ns,top_s0,top_d,top_f,nb_beq,nb_blt,nb_add,nidOf,slotIn,Nat.beq_refl,clash,Bool.or_self,List.any_nil,List.any_cons,AOp.isMaker]
              exact ⟨(K.own3 hk lb nb_ge l1' nb_ge l2' _ _ _ _ (LgG.ok (by repeat first |exact LgG.nil |refine LgG.cons (by first |exact nb_ge |exact Nat.le_trans (K.len) nb_ge |assumption) ?_))),rop_ok z nq (.some (nb h3 4) 0 none true (s.cf.map cfgC) (by rw[List.length_map]) (by rw[e4];rfl) (by rw[List.drop_zero,List.take_length]) (fun _ h=>by cases h)) (.some (nb h3 5) 0 none true (s.pl.map conC) (by rw[List.length_map]) (by rw[e4];rfl) (by rw[List.drop_zero,List.take_length]) (fun _ h=>by cases h)) (by rw[ce];exact .some (nb h3 1) 0 none true _ (by simp;try omega) (by rw[e4];rfl) (by rw[List.drop_zero];exact List.take_length) (fun _ h=>by cases h))⟩
        · have ap2:=fun nid=>app_ownn (bget (bxt (bput h3 b none) [some (.row true 15 [[.int .i64 14,.int .i64 0,.int .i64 0,.int .i64 1000,.int .i64 0,.int .i64 0,.int .i64 0,.int .u64 0,.int .i64 0,.int .i64 0,.int .i64 0,.int .i64 0,.int .i64 0,.int .i64 0,.str []]]),some (.row true 15 (((IA).map fun x=>cmdC (opnC x))++ [[.int .i64 14,.int .i64 0,.int .i64 0,.int .i64 1000,.int .i64 0,.int .i64 0,.int .i64 0,.int .u64 0,.int .i64 0,.int .i64 0,.int .i64 0,.int .i64 0,.int .i64 0,.int .i64 0,.str []]]))])) nid 15 128 (nb h3 1) ((IA).length+1) s.mv (((IA).map fun x=>cmdC (opnC x))++ [[.int .i64 14,.int .i64 0,.int .i64 0,.int .i64 1000,.int .i64 0,.int .i64 0,.int .i64 0,.int .u64 0,.int .i64 0,.int .i64 0,.int .i64 0,.int .i64 0,.int .i64 0,.int .i64 0,.str []]]) _ (by simp) (elmX _) (fun e=>zm (List.map_eq_nil_iff.1 e)) (ob.2.1 _ _ _) (by rw[rm,List.length_map];simp only[List.length_append,List.length_map,List.length_cons,List.length_nil];omega)
          rw[List.length_map] at ap2
          have q4:(400<(cmdO s).length)↔((400:Int)<(((IA).length+1+s.cm.length:Nat):Int)):=by omega
          by_cases nq:400<(cmdO s).length
          · have q400:=eq_true (q4.1 nq)
            simp+contextual -implicitDefEqProofs (maxSteps:=1000000) (maxDischargeDepth:=20) only[go_sem,simprocAttr,r16,q400,b0',b1',b2',b2,vc,om1,o12,q1,q1',q2,q2',q3,q3',tm,tc,tp,tm3,tc3,tp3,c1,c2,c3,hb',ob,w7,w8,w9,t1,t2,e2,e3,p1,p1',p2,p2',p3,p3',p4,p4',ap,ap2,e_n,e_e,e_r]
            exact ⟨(K.own3 hk lb nb_ge l1' nb_ge l2' _ _ _ _ (LgG.ok (by repeat first |exact LgG.nil |refine LgG.cons (by first |exact nb_ge |exact Nat.le_trans (K.len) nb_ge |assumption) ?_))),rop_full z nq⟩
          · have q400:=eq_false (fun x=>nq (q4.2 x))
            have ap3:=fun q nid=>ap0_c (fun b'=>bif ins s.cv.top b' then bget (bxt (bput h3 b none) q) b' else none) nid 16 128 s.cv _ ((els0 _ _ _).trans (elcX q)) zc' (by rw[List.length_map,rm];omega)
            rw[List.length_map] at ap3
            by_cases zp:s.pl=[]
            · rw[zp] at elpX
              have ap4:=fun q nid=>ap0_n (fun b'=>bif ins s.pv.top b' then bget (bxt (bput h3 b none) q) b' else none) nid 6 48 s.pv ((els0 _ _ _).trans (elpX q))
              simp+contextual -implicitDefEqProofs (maxSteps:=1000000) (maxDischargeDepth:=20) only[go_sem,simprocAttr,r16,q400,b0',b1',b2',b2,vc,om1,o12,q1,q1',q2,q2',q3,q3',tm,tc,tp,tm3,tc3,tp3,c1,c2,c3,hb',ob,w7,w8,w9,t1,t2,e2,e3,p1,p1',p2,p2',p3,p3',p4,p4',ap,ap2,e_n,e_e,e_r,ap3,ap4,r_oF,r_oL,r_oM,Bool.cond_self,List.append_nil,r_vc,r_vp,mskO,Mem.more,bmore,nb_more,List.filter_nil,List.flatMap_nil,List.filter_cons,List.flatMap_cons,List.map_nil,List.map_cons,mask,unmask,AOp.reads,AOpnd.top,top_p,top_s,top_m,top_i,top_b,top_t,top_a,top_u,top_ns,top_s0,top_d,top_f,nb_beq,nb_blt,nb_add,nidOf,slotIn,Nat.beq_refl,clash,Bool.or_self,List.any_nil,List.any_cons,AOp.isMaker]
              exact ⟨(K.own3 hk lb nb_ge l1' nb_ge l2' _ _ _ _ (LgG.ok (by repeat first |exact LgG.nil |refine LgG.cons (by first |exact nb_ge |exact Nat.le_trans (K.len) nb_ge |assumption) ?_))),rop_ok z nq (.some (nb h3 5) 0 none true (s.cf.map cfgC) (by rw[List.length_map]) (by rw[e4];rfl) (by rw[List.drop_zero,List.take_length]) (fun _ h=>by cases h)) (.none (by rw[zp];rfl) (.inr (.inl rfl))) (by rw[ce];exact .some (nb h3 2) 0 none true _ (by simp;try omega) (by rw[e4];rfl) (by rw[List.drop_zero];exact List.take_length) (fun _ h=>by cases h))⟩
            · have ap4:=fun q nid=>ap0_c (fun b'=>bif ins s.pv.top b' then bget (bxt (bput h3 b none) q) b' else none) nid 6 48 s.pv _ ((els0 _ _ _).trans (elpX q)) (fun e=>zp (List.map_eq_nil_iff.1 e)) (by rw[List.length_map,rm];omega)
              rw[List.length_map] at ap4
              simp+contextual -implicitDefEqProofs (maxSteps:=1000000) (maxDischargeDepth:=20) only[go_sem,simprocAttr,r16,q400,b0',b1',b2',b2,vc,om1,o12,q1,q1',q2,q2',q3,q3',tm,tc,tp,tm3,tc3,tp3,c1,c2,c3,hb',ob,w7,w8,w9,t1,t2,e2,e3,p1,p1',p2,p2',p3,p3',p4,p4',ap,ap2,e_n,e_e,e_r,ap3,ap4,r_oF,r_oL,r_oM,Bool.cond_self,List.append_nil,r_vc,r_vp,mskO,Mem.more,bmore,nb_more,List.filter_nil,List.flatMap_nil,List.filter_cons,List.flatMap_cons,List.map_nil,List.map_cons,mask,unmask,AOp.reads,AOpnd.top,top_p,top_s,top_m,top_i,top_b,top_t,top_a,top_u,top_ns,top_s0,top_d,top_f,nb_beq,nb_blt,nb_add,nidOf,slotIn,Nat.beq_refl,clash,Bool.or_self,List.any_nil,List.any_cons,AOp.isMaker]
              exact ⟨(K.own3 hk lb nb_ge l1' nb_ge l2' _ _ _ _ (LgG.ok (by repeat first |exact LgG.nil |refine LgG.cons (by first |exact nb_ge |exact Nat.le_trans (K.len) nb_ge |assumption) ?_))),rop_ok z nq (.some (nb h3 5) 0 none true (s.cf.map cfgC) (by rw[List.length_map]) (by rw[e4];rfl) (by rw[List.drop_zero,List.take_length]) (fun _ h=>by cases h)) (.some (nb h3 6) 0 none true (s.pl.map conC) (by rw[List.length_map]) (by rw[e4];rfl) (by rw[List.drop_zero,List.take_length]) (fun _ h=>by cases h)) (by rw[ce];exact .some (nb h3 2) 0 none true _ (by simp;try omega) (by rw[e4];rfl) (by rw[List.drop_zero];exact List.take_length) (fun _ h=>by cases h))⟩
  · have re:=fun h=>rop_err (h:=h) z
    simp+contextual -implicitDefEqProofs (maxSteps:=1000000) (maxDischargeDepth:=20) only[go_sem,simprocAttr,hs,hF,AF14,scC,c1,c2,c3,g1,z,q_k,r_vc,r_vp,mskO,Mem.more,bmore,nb_more,List.filter_nil,List.flatMap_nil,List.filter_cons,List.flatMap_cons,List.map_nil,List.map_cons,mask,unmask,AOp.reads,AOpnd.top,top_p,top_s,top_m,top_i,top_b,top_t,top_a,top_u,top_ns,top_s0,top_d,top_f,nb_beq,nb_blt,nb_add,nidOf,slotIn,Nat.beq_refl,clash,Bool.or_self,List.any_nil,List.any_cons,AOp.isMaker]
    exact re _
end
section
variable {F:FuncId→Option AFunc} {meth:Meth} {sm:Summ}
def H50 (sm:Summ):Prop:= ∀ (l:List ConD) (v w:AV) (m:Mem),SlAt m.blks 6 v (l.map conC)→SlAt m.blks 6 w (l.map conC)→l.length≤1000→sm 50 [v,w] m=some (.bool true,m)
theorem e50 (hF:F 50=some AF50) (hs: ∀ vs m,sm 50 vs m=none) (n:Nat) (h:Blks) (lg d:List Nat) {l:List ConD} {v w:AV} (hv:SlAt h 6 v (l.map conC)) (hw:SlAt h 6 w (l.map conC)) (hl:l.length≤1000):Ev F meth sm (n+2000) 50 [v,w] ⟨h,lg,d⟩ (.bool true):=by
  refine Ev.ofW ?_
  have lv:=hv.len
  have lw:=hw.len
  simp+contextual -implicitDefEqProofs (maxSteps:=1000000) (maxDischargeDepth:=20) only[go_sem,simprocAttr,hs,hF,AF50,lv,lw,List.length_map]
  refine WloopK l.length [X5] (fun i=> [.int .i64 i]) (fun _=>True) (by omega) (by repeat first |apply Cl_b |apply Cl_q |apply Cl_r) ⟨rfl,trivial⟩ (fun i h' lg' g hi hP hK=> ?_) (fun h' lg' g hP hK=> ?_)
  · have a:=hK.all (lg:=lg) (d:=d) (by repeat first |exact LogOK.nil |apply LogOK.cons)
    have e:=(hK.sl hv).el hi
    have e2:=(hK.sl hw).el hi
    have r:=rnd hi (by omega)
    unfold conC at e e2
    simp+contextual -implicitDefEqProofs (maxSteps:=1000000) (maxDischargeDepth:=20) only[go_sem,simprocAttr,a,e,e2,r,lv,List.length_map]
  · have a:=hK.all (lg:=lg) (d:=d) (by repeat first |exact LogOK.nil |apply LogOK.cons)
    have r:=rndl l.length
    simp+contextual -implicitDefEqProofs (maxSteps:=1000000) (maxDischargeDepth:=20) only[go_sem,simprocAttr,a,r,lv,List.length_map]
def H15 (sm:Summ):Prop:= ∀ (s t:ScX) (m:Mem),ScAt m.blks s→ScAt m.blks t→t.cf=s.cf→t.pl=s.pl→t.cm=s.cm→ScL s→sm 15 [.agg (scC s),.agg (scC t)] m=some (.bool true,m)
theorem e15 (hF:F 15=some AF15) (hs: ∀ vs m,sm 15 vs m=none) (n:Nat) (h:Blks) (lg d:List Nat) (h50:H50 sm) {s t:ScX} (H:ScAt h s) (H2:ScAt h t) (ec:t.cf=s.cf) (ep:t.pl=s.pl) (em:t.cm=s.cm) (hl:ScL s):Ev F meth sm (n+2000) 15 [.agg (scC s),.agg (scC t)] ⟨h,lg,d⟩ (.bool true):=by
  refine Ev.ofW ?_
  have c1:=H.c.sc
  have c2:=H.p.sc
  have c3:=H.m.sc
  have d1:=H2.c.sc
  have d2:=H2.p.sc
  have d3:=H2.m.sc
  have tc:=H2.c
  have tp:=H2.p
  have tm:=H2.m
  rw[ec] at tc
  rw[ep] at tp
  rw[em] at tm
  have lc:=H.c.len
  have lm:=H.m.len
  have lc2:=tc.len
  have lm2:=tm.len
  have l1:=hl.c
  have l2:=hl.m
  have g1:=fun l lg d=>h50 s.pl s.pv t.pv ⟨bxt h l,lg,d⟩ (H.p.bx l) (tp.bx l) hl.p
  simp+contextual -implicitDefEqProofs (maxSteps:=1000000) (maxDischargeDepth:=20) only[go_sem,simprocAttr,hs,hF,AF15,scC,c1,c2,c3,d1,d2,d3,lc,lc2,lm,lm2,List.length_map,g1]
  refine WloopK s.cf.length [X5] (fun i=> [.int .i64 i]) (fun _=>True) (by omega) (by repeat first |apply Cl_b |apply Cl_q |apply Cl_r) ⟨rfl,trivial⟩ (fun i h' lg' g hi hP hK=> ?_) (fun h' lg' g hP hK=> ?_)
  · have a:=hK.all (lg:=lg) (d:=d) (by repeat first |exact LogOK.nil |apply LogOK.cons)
    have e:=(hK.sl H.c).el hi
    have e2:=(hK.sl tc).el hi
    have r:=rnd hi (by omega)
    unfold cfgC at e e2
    simp+contextual -implicitDefEqProofs (maxSteps:=1000000) (maxDischargeDepth:=20) only[go_sem,simprocAttr,a,e,e2,r,lc,List.length_map]
  · have a:=hK.all (lg:=lg) (d:=d) (by repeat first |exact LogOK.nil |apply LogOK.cons)
    have r:=rndl s.cf.length
    simp+contextual -implicitDefEqProofs (maxSteps:=1000000) (maxDischargeDepth:=20) only[go_sem,simprocAttr,a,r,lc,List.length_map]
    refine WloopK s.cm.length [X6] (fun i=> [.int .i64 i]) (fun _=>True) (by omega) (by repeat first |apply Cl_b |apply Cl_q |apply Cl_r) ⟨rfl,trivial⟩ (fun i h2 lg2 g2 hi hP2 hK2=> ?_) (fun h2 lg2 g2 hP2 hK2=> ?_)
    · have kk:=hK.trans hK2
      have a:=Keep.all (lg:=lg) (d:=d) kk (by repeat first |exact LogOK.nil |apply LogOK.cons)
      have a2:=hK2.all (lg:=lg') (d:=d) (by repeat first |exact LogOK.nil |apply LogOK.cons)
      have e:=(kk.sl H.m).el hi
      have e2:=(kk.sl tm).el hi
      have r:=rnd hi (by omega)
      unfold cmdC at e e2
      simp+contextual -implicitDefEqProofs (maxSteps:=1000000) (maxDischargeDepth:=20) only[go_sem,simprocAttr,a,a2,e,e2,r,lm,List.length_map]
    · have kk:=hK.trans hK2
      have a:=Keep.all (lg:=lg) (d:=d) kk (by repeat first |exact LogOK.nil |apply LogOK.cons)
      have a2:=hK2.all (lg:=lg') (d:=d) (by repeat first |exact LogOK.nil |apply LogOK.cons)
      have r:=rndl s.cm.length
      simp+contextual -implicitDefEqProofs (maxSteps:=1000000) (maxDischargeDepth:=20) only[go_sem,simprocAttr,a,a2,r,lm,List.length_map]
def fewP (s:ScX):Prop:=(s.cf.length≤4∧s.pl.length≤20∧ ¬ (40<s.cm.length∧s.cm.length≤390)∧s.cm.length≤410)∧ ∀ c∈s.cm,c.b.data.length≤300
instance (s:ScX):Decidable (fewP s):=by unfold fewP;infer_instance
def H4 (sm:Summ):Prop:= ∀ (s:ScX) (m:Mem),ScAt m.blks s→sm 4 [.agg (scC s)] m=some (.bool (decide (fewP s)),m)
theorem e4 (hF:F 4=some AF4) (hs: ∀ vs m,sm 4 vs m=none) (n:Nat) (h:Blks) (lg d:List Nat) {s:ScX} (H:ScAt h s):Ev F meth sm (n+2000) 4 [.agg (scC s)] ⟨h,lg,d⟩ (.bool (decide (fewP s))):=by
  refine Ev.ofW ?_
  have c1:=H.c.sc
  have c2:=H.p.sc
  have c3:=H.m.sc
  have lc:=H.c.len
  have lp:=H.p.len
  have lm:=H.m.len
  by_cases q:s.cf.length≤4∧s.pl.length≤20∧ ¬ (40<s.cm.length∧s.cm.length≤390)∧s.cm.length≤410
  · have q1:((4:Int)<(s.cf.length:Int))=False:=eq_false (by omega)
    have q2:((20:Int)<(s.pl.length:Int))=False:=eq_false (by omega)
    have q4:((410:Int)<(s.cm.length:Int))=False:=eq_false (by omega)
    have fin:(40:Int)<(s.cm.length:Int)→ ¬ (s.cm.length:Int)≤390:=fun a b=>q.2.2.1 ⟨by omega,by omega⟩
    have key: ∀ (P:Prop),P→P:=fun _ x=>x
    by_cases q3:40<s.cm.length
    · have q3':((40:Int)<(s.cm.length:Int))=True:=eq_true (by omega)
      have q5':((s.cm.length:Int)≤390)=False:=eq_false (by omega)
      simp+contextual -implicitDefEqProofs (maxSteps:=1000000) (maxDischargeDepth:=20) only[go_sem,simprocAttr,hs,hF,AF4,scC,c1,c2,c3,lc,lp,lm,List.length_map,q1,q2,q4,q3',q5']
      refine WloopK s.cm.length [X3] (fun i=> [.int .i64 i]) (fun i=> ∀ j,j<i→(gt s.cm j).b.data.length≤300) (by omega) (by repeat first |apply Cl_b |apply Cl_q |apply Cl_r) ⟨rfl,fun j hj=>absurd hj (by omega)⟩ (fun i h' lg' g hi hP hK=> ?_) (fun h' lg' g hP hK=> ?_)
      · have a:=hK.all (lg:=lg) (d:=d) (by repeat first |exact LogOK.nil |apply LogOK.cons)
        have e:=(hK.sl H.m).el hi
        have r:=rnd hi (by omega)
        have mi:gt s.cm i∈s.cm:=by rw[gt_eq hi];exact List.getElem_mem _
        unfold cmdC at e
        by_cases z:(gt s.cm i).b.data.length≤300
        · have z':((300:Int)<((gt s.cm i).b.data.length:Int))=False:=eq_false (by omega)
          simp+contextual -implicitDefEqProofs (maxSteps:=1000000) (maxDischargeDepth:=20) only[go_sem,simprocAttr,a,e,r,lm,List.length_map,z']
          intro j hj
          rcases Nat.lt_or_ge j i with c |c
          · exact hP j c
          · rw[show j=i by omega];exact z
        · have z':((300:Int)<((gt s.cm i).b.data.length:Int))=True:=eq_true (by omega)
          rw[show decide (fewP s)=false from decide_eq_false fun x=>z (x.2 _ mi)]
          simp+contextual -implicitDefEqProofs (maxSteps:=1000000) (maxDischargeDepth:=20) only[go_sem,simprocAttr,a,e,r,lm,List.length_map,z']
      · have a:=hK.all (lg:=lg) (d:=d) (by repeat first |exact LogOK.nil |apply LogOK.cons)
        have r:=rndl s.cm.length
        rw[show decide (fewP s)=true from decide_eq_true ⟨q,fun x hx=>by
          obtain ⟨i,hi,rfl⟩:=List.getElem_of_mem hx
          have:=hP i hi
          rw[gt_eq hi] at this
          exact this⟩]
        simp+contextual -implicitDefEqProofs (maxSteps:=1000000) (maxDischargeDepth:=20) only[go_sem,simprocAttr,a,r,lm,List.length_map]
    · have q3':((40:Int)<(s.cm.length:Int))=False:=eq_false (by omega)
      simp+contextual -implicitDefEqProofs (maxSteps:=1000000) (maxDischargeDepth:=20) only[go_sem,simprocAttr,hs,hF,AF4,scC,c1,c2,c3,lc,lp,lm,List.length_map,q1,q2,q4,q3']
      refine WloopK s.cm.length [X3] (fun i=> [.int .i64 i]) (fun i=> ∀ j,j<i→(gt s.cm j).b.data.length≤300) (by omega) (by repeat first |apply Cl_b |apply Cl_q |apply Cl_r) ⟨rfl,fun j hj=>absurd hj (by omega)⟩ (fun i h' lg' g hi hP hK=> ?_) (fun h' lg' g hP hK=> ?_)
      · have a:=hK.all (lg:=lg) (d:=d) (by repeat first |exact LogOK.nil |apply LogOK.cons)
        have e:=(hK.sl H.m).el hi
        have r:=rnd hi (by omega)
        have mi:gt s.cm i∈s.cm:=by rw[gt_eq hi];exact List.getElem_mem _
        unfold cmdC at e
        by_cases z:(gt s.cm i).b.data.length≤300
        · have z':((300:Int)<((gt s.cm i).b.data.length:Int))=False:=eq_false (by omega)
          simp+contextual -implicitDefEqProofs (maxSteps:=1000000) (maxDischargeDepth:=20) only[go_sem,simprocAttr,a,e,r,lm,List.length_map,z']
          intro j hj
          rcases Nat.lt_or_ge j i with c |c
          · exact hP j c
          · rw[show j=i by omega];exact z
        · have z':((300:Int)<((gt s.cm i).b.data.length:Int))=True:=eq_true (by omega)
          rw[show decide (fewP s)=false from decide_eq_false fun x=>z (x.2 _ mi)]
          simp+contextual -implicitDefEqProofs (maxSteps:=1000000) (maxDischargeDepth:=20) only[go_sem,simprocAttr,a,e,r,lm,List.length_map,z']
      · have a:=hK.all (lg:=lg) (d:=d) (by repeat first |exact LogOK.nil |apply LogOK.cons)
        have r:=rndl s.cm.length
        rw[show decide (fewP s)=true from decide_eq_true ⟨q,fun x hx=>by
          obtain ⟨i,hi,rfl⟩:=List.getElem_of_mem hx
          have:=hP i hi
          rw[gt_eq hi] at this
          exact this⟩]
        simp+contextual -implicitDefEqProofs (maxSteps:=1000000) (maxDischargeDepth:=20) only[go_sem,simprocAttr,a,r,lm,List.length_map]
  · have e:decide (fewP s)=false:=decide_eq_false fun x=>q x.1
    rw[e]
    simp+contextual -implicitDefEqProofs (maxSteps:=1000000) (maxDischargeDepth:=20) only[go_sem,simprocAttr,hs,hF,AF4,scC,c1,c2,c3,lc,lp,lm,List.length_map]
    intro a b
    exact ⟨fun x y w=>absurd (by omega) q,fun x w=>absurd (by omega) q⟩
end
section
variable {F:FuncId→Option AFunc} {meth:Meth} {sm:Summ}
theorem ScW.of {s:ScX} (N:ScN s) (f:fewP s):ScW s where
  ok:=⟨⟨by have:=f.1;omega,by have:=f.1;omega,by have:=f.1;omega⟩,fun c hc=>⟨(N.c c hc).2.1.1,(N.c c hc).2.2.1⟩,fun c hc=>⟨by have:=f.2 c hc;omega,(N.m c hc).2⟩⟩
  p:=by have:=f.1;omega
  ids:=fun c hc=>(N.m c hc).1
  q:=N.c
theorem OwnAt.outL {h:Blks} {s t:ScX} (o:OwnAt h s t):outL t=outL s:=by
  obtain ⟨cf,cv,pl,pv,cm,mv⟩:=t
  obtain ⟨rfl,rfl,rfl,_,_,_,_⟩:=o
  rfl
theorem OwnAt.outB {h:Blks} {s t:ScX} (o:OwnAt h s t):outB t (boundS t)=outB s (boundS s):=by
  obtain ⟨cf,cv,pl,pv,cm,mv⟩:=t
  obtain ⟨rfl,rfl,rfl,_,_,_,_⟩:=o
  rfl
theorem OwnAt.outR {h:Blks} {s t:ScX} (o:OwnAt h s t):Go.Abs.outB t (reachS t)=Go.Abs.outB s (reachS s):=by
  obtain ⟨cf,cv,pl,pv,cm,mv⟩:=t
  obtain ⟨rfl,rfl,rfl,_,_,_,_⟩:=o
  rfl
theorem OwnAt.outO {h:Blks} {s t:ScX} (o:OwnAt h s t):outO t=outO s:=by
  obtain ⟨cf,cv,pl,pv,cm,mv⟩:=t
  obtain ⟨rfl,rfl,rfl,_,_,_,_⟩:=o
  rfl
theorem OwnAt.w {h:Blks} {s t:ScX} (o:OwnAt h s t) (W:ScW s):ScW t:=by
  obtain ⟨cf,cv,pl,pv,cm,mv⟩:=t
  obtain ⟨rfl,rfl,rfl,_,_,_,_⟩:=o
  exact ⟨⟨⟨W.ok.l.c,W.ok.l.p,W.ok.l.m⟩,W.ok.c,W.ok.d⟩,W.p,W.ids,W.q⟩
theorem outL_form (s:ScX): ∃ b e1 e2,outL s= .tuple [.bool b,.agg [.int .i64 e1,.int .i64 e2]]:=⟨_,_,_,rfl⟩
theorem outB_form (s:ScX) (x:Int): ∃ b e1 e2,outB s x= .tuple [.int .i64 b,.agg [.int .i64 e1,.int .i64 e2]]:=⟨_,_,_,rfl⟩
theorem ScAt.own1 {h h':Blks} {s:ScX} {b:Nat} (H:ScAt h' s) (hb:b<h'.length) (hge:h.length≤b) (rc: ∀ c∈s.cv.refs,c<h.length) (rp: ∀ c∈s.pv.refs,c<h.length) (rm: ∀ c∈s.mv.refs,c<h.length) (x:Option ABlk) (l:List (Option ABlk)):ScAt (bxt (bput h' b x) l) s:=
  ⟨H.c.own hb (fun c hc e=>by have:=rc c hc;omega) x l,H.p.own hb (fun c hc e=>by have:=rp c hc;omega) x l,H.m.own hb (fun c hc e=>by have:=rm c hc;omega) x l⟩
def H5 (sm:Summ):Prop:= ∀ (m:Mem),bget m.blks 0=some (.row false 1 headsR)→bget m.blks 1=some (.row false 8 usesR)→sm 5 [] m=some (.bool true,m)
abbrev Hno (sm:Summ) (k:FuncId):Prop:= ∀ vs m,sm k vs m=none
theorem e3 (hF:F 3=some AF3) (hs: ∀ vs m,sm 3 vs m=none) (n:Nat) (h:Blks) (lg d:List Nat) (h4:H4 sm) (h5:H5 sm) (h6:H6 sm) (h8:H8 sm) (h9:H9 sm) (h10:H10 sm) (h11:H11 sm) (h12:H12 sm) (h15:H15 sm) (s7:Hno sm 7) (F7:F 7=some AF7) (s36:Hno sm 36) (F36:F 36=some AF36) (s13:Hno sm 13) (F13:F 13=some AF13) (s14:Hno sm 14) (F14:F 14=some AF14)
    (h18:H18 sm) (h23:H23 sm) (h37:H37 sm) (h49:H49 sm) (h44:H44 sm) (h69:H69 sm) (s43:Hno sm 43) (F43:F 43=some AF43) (s98:Hno sm 98) (F98:F 98=some AF98) (s68:Hno sm 68) (F68:F 68=some AF68) (s47:Hno sm 47) (F47:F 47=some AF47) (s48:Hno sm 48) (F48:F 48=some AF48)
    {s:ScX} (hg:bget h 0=some (.row false 1 headsR)) (hu:bget h 1=some (.row false 8 usesR)) (H:ScAt h s) (N:ScN s):Ev F meth sm (n+3000) 3 [.agg (scC s)] ⟨h,lg,d⟩ (.bool true):=by
  refine Ev.ofW ?_
  have c1:=H.c.sc
  have c2:=H.p.sc
  have c3:=H.m.sc
  have g4:=fun l lg d=>h4 s ⟨bxt h l,lg,d⟩ (H.bx l)
  have g5:=fun l lg d=>h5 ⟨bxt h l,lg,d⟩ ((bxt_old l h 0 (bget_lt hg)).trans hg) ((bxt_old l h 1 (bget_lt hu)).trans hu)
  unfold scC at g4
  by_cases f:fewP s
  · have W:=ScW.of N f
    rw[decide_eq_true f] at g4
    simp+contextual -implicitDefEqProofs (maxSteps:=1000000) (maxDischargeDepth:=20) only[go_sem,simprocAttr,hs,hF,AF3,scC,c1,c2,c3,g4]
    rw[←w_a]
    have e7':=fun (h0:Blks) (lg0:List Nat) (HA:ScAt h0 s)=>e7 (meth:=meth) F7 s7 (n+2499) h0 lg0 [] s36 F36 HA W.ok.l
    unfold scC at e7'
    refine Wa_k (e7' (bxt h [some (.row true 3 [[s.cv,s.pv,s.mv]])]) _ (H.bx _)) (fun w h2 lg2 k2 hw=> ?_)
    obtain ⟨t2,rfl,ot2⟩:=hw
    have O2:Old h h2:=⟨by have:=k2.len;simp only[bxt_len] at this;omega,fun b hb=>(k2.get b (by rw[bxt_len];omega)).trans (bxt_old _ h b hb)⟩
    have K2:Keep ⟨h,lg,d⟩ ⟨h2,lg2,d⟩:=(k_bx h lg (nb h 0::lg) d _ (by repeat first |exact LogOK.nil |apply LogOK.cons)).trans k2.sub
    have a0:bget h2 (nb h 0)=some (.row true 3 [[s.cv,s.pv,s.mv]]):=(k2.get _ (by rw[bxt_len,nb];simp)).trans nb_get
    have a0':=fun q=>(bxt_old q h2 _ (bget_lt a0)).trans a0
    have H2:ScAt h2 s:=H.old O2
    have g6:=fun l lg d=>h6 t2 false false ⟨bxt h2 l,lg,d⟩ ((O2.bx l).get hg) ((O2.bx l).get hu) (ot2.a.bx l) (ot2.w W)
    have g8:=fun l lg d=>h8 s ⟨bxt h2 l,lg,d⟩ (H2.bx l) W
    rw[ot2.outL] at g6
    obtain ⟨lb,le1,le2,hL⟩:=outL_form s
    rw[hL] at g6 g8
    unfold scC at g6 g8
    have tc:=ot2.a.c.sc
    have tp:=ot2.a.p.sc
    have tm:=ot2.a.m.sc
    show Kc _ _ _ _ _ _ _ _ _ ⟨bxt h2 [],lg2,[]⟩
    simp+contextual -implicitDefEqProofs (maxSteps:=1000000) (maxDischargeDepth:=20) only[go_sem,simprocAttr,c1,c2,c3,tc,tp,tm,a0',g6,g8,scC]
    rw[←w_a]
    refine Wa_k (e7' (bxt h2 [some (.row true 2 [[.int .i64 le1,.int .i64 le2]]),some (.row true 2 [[.int .i64 le1,.int .i64 le2]])]) _ (H2.bx _)) (fun w h3 lg3 k3 hw=> ?_)
    obtain ⟨t3,rfl,ot3⟩:=hw
    have P3:Old h2 h3:=⟨by have:=k3.len;simp only[bxt_len] at this;omega,fun b hb=>(k3.get b (by rw[bxt_len];omega)).trans (bxt_old _ h2 b hb)⟩
    have O3:Old h h3:=⟨Nat.le_trans O2.1 P3.1,fun b hb=>(P3.2 b (Nat.lt_of_lt_of_le hb O2.1)).trans (O2.2 b hb)⟩
    have K3:Keep ⟨h,lg,d⟩ ⟨h3,lg3,d⟩:=K2.trans ((k_bx h2 lg2 (nb h2 1::nb h2 1::nb h2 0::nb h2 0::lg2) d _ (by repeat first |exact LogOK.nil |apply LogOK.cons)).trans k3.sub)
    have u0:bget h3 (nb h 0)=some (.row true 3 [[s.cv,s.pv,s.mv]]):=P3.get a0
    have u4:bget h3 (nb h2 0)=some (.row true 2 [[.int .i64 le1,.int .i64 le2]]):=(k3.get _ (by rw[bxt_len,nb];simp)).trans nb_get
    have u6:bget h3 (nb h2 1)=some (.row true 2 [[.int .i64 le1,.int .i64 le2]]):=(k3.get _ (by rw[bxt_len,nb];simp)).trans nb_get
    have H3:ScAt h3 s:=H.old O3
    have g9:=fun l lg d=>h9 t3 false ⟨bxt h3 l,lg,d⟩ ((O3.bx l).get hu) (ot3.a.bx l) (ot3.w W).ok
    have g10:=fun l lg d=>h10 s ⟨bxt h3 l,lg,d⟩ (H3.bx l) W.ok
    rw[ot3.outB] at g9
    obtain ⟨bb,be1,be2,hB⟩:=outB_form s (boundS s)
    rw[hB] at g9 g10
    unfold scC at g9 g10
    have n46:nb h2 0≠nb h2 1:=by rw[ne_eq,nb_inj];omega
    have n40:nb h2 0≠nb h 0:=fun e=>by rw[e,u0] at u4;simp at u4
    have n60:nb h2 1≠nb h 0:=fun e=>by rw[e,u0] at u6;simp at u6
    have o3:=old_blk (bget_lt u4)
    have o3':=old_blk2 (bget_lt u4) (bget_lt u6) (Ne.symm n46)
    have w30:=fun l x=>(old_get (bget_lt u4) (bget_lt u0) (Ne.symm n40) l x).trans u0
    have w31:=fun l x y=>(old_get2 (bget_lt u4) (bget_lt u6) (bget_lt u0) (Ne.symm n40) (Ne.symm n60) l x y).trans u0
    have g10':=fun x l lg d=>h10 s ⟨bxt (bput h3 (nb h2 0) x) l,lg,d⟩ (ScAt.own1 H3 (bget_lt u4) (Nat.le_trans O2.1 nb_ge) (fun c hc=>H.c.refs c hc) (fun c hc=>H.p.refs c hc) (fun c hc=>H.m.refs c hc) x l) W.ok
    rw[hB] at g10'
    unfold scC at g10'
    have u0':=fun q=>(bxt_old q h3 _ (bget_lt u0)).trans u0
    have u4':=fun q=>(bxt_old q h3 _ (bget_lt u4)).trans u4
    have u6':=fun q=>(bxt_old q h3 _ (bget_lt u6)).trans u6
    have tc:=ot3.a.c.sc
    have tp:=ot3.a.p.sc
    have tm:=ot3.a.m.sc
    show Kc _ _ _ _ _ _ _ _ _ ⟨bxt h3 [],lg3,[]⟩
    simp+contextual -implicitDefEqProofs (maxSteps:=1000000) (maxDischargeDepth:=20) only[go_sem,simprocAttr,c1,c2,c3,tc,tp,tm,u0',u4',u6',u6,u0,w30,w31,o3,o3',g9,g10,g10',scC]
    rw[←w_a]
    generalize hqm4:bput (bput h3 (nb h2 0) (some (.row true 2 [[.int .i64 be1,.int .i64 be2]]))) (nb h2 1) (some (.row true 2 [[.int .i64 be1,.int .i64 be2]]))=m4
    have lnm4:m4.length=h3.length:=by rw[←hqm4,bput_len_eq (by rw[bput_len_eq (bget_lt u4)];exact bget_lt u6),bput_len_eq (bget_lt u4)]
    have Km4:Keep ⟨h,lg,d⟩ ⟨m4,nb h2 1::nb h2 0::lg3,d⟩:=by rw[←hqm4];exact Keep.own2 K3 (Nat.le_trans O2.1 nb_ge) (bget_lt u4) (Nat.le_trans O2.1 nb_ge) (bget_lt u6) _ _ [] (LgG.ok (.cons (Nat.le_trans O2.1 nb_ge) (.cons (Nat.le_trans O2.1 nb_ge) .nil)))
    have v0m4:bget m4 (nb h 0)=some (.row true 3 [[s.cv,s.pv,s.mv]]):=by rw[←hqm4];exact (old_get2 (bget_lt u4) (bget_lt u6) (bget_lt u0) (Ne.symm n40) (Ne.symm n60) [] _ _).trans u0
    have v4m4:bget m4 (nb h2 0)=(some (.row true 2 [[.int .i64 be1,.int .i64 be2]])):=by rw[←hqm4];exact (old_blk2 (bget_lt u4) (bget_lt u6) (Ne.symm n46)).2.2.2.2.2.1 [] _ _
    have v6m4:bget m4 (nb h2 1)=(some (.row true 2 [[.int .i64 be1,.int .i64 be2]])):=by rw[←hqm4];exact (old_blk2 (bget_lt u4) (bget_lt u6) (Ne.symm n46)).2.2.2.2.1 [] _ _
    have Om4:Old h m4:=Km4.old
    have Hm4:ScAt m4 s:=H.old Om4
    refine Wa_k (e7' m4 _ Hm4) (fun w m5 lg5 k5 hw=> ?_)
    obtain ⟨t5,rfl,ot5⟩:=hw
    have Pm5:Old m4 m5:=k5.old
    have Km5:Keep ⟨h,lg,d⟩ ⟨m5,lg5,d⟩:=Km4.trans k5.sub
    have Om5:Old h m5:=Km5.old
    have Hm5:ScAt m5 s:=H.old Om5
    have v0m5:=Pm5.get v0m4
    have v4m5:=Pm5.get v4m4
    have v6m5:=Pm5.get v6m4
    have v0m5':=fun q=>(bxt_old q m5 _ (bget_lt v0m5)).trans v0m5
    have v4m5':=fun q=>(bxt_old q m5 _ (bget_lt v4m5)).trans v4m5
    have v6m5':=fun q=>(bxt_old q m5 _ (bget_lt v6m5)).trans v6m5
    have tc:=ot5.a.c.sc
    have tp:=ot5.a.p.sc
    have tm:=ot5.a.m.sc
    show Kc _ _ _ _ _ _ _ _ _ ⟨bxt m5 [],lg5,[]⟩
    have g11:=fun l lg d=>h11 t5 false ⟨bxt m5 l,lg,d⟩ ((Om5.bx l).get hu) (ot5.a.bx l) (ot5.w W).ok
    rw[ot5.outR] at g11
    obtain ⟨cb,ce1,ce2,hC⟩:=outB_form s (reachS s)
    have g12:=fun x l lg d=>h12 s ⟨bxt (bput m5 (nb h2 0) x) l,lg,d⟩ (ScAt.own1 Hm5 (bget_lt v4m5) (Nat.le_trans O2.1 nb_ge) (fun c hc=>H.c.refs c hc) (fun c hc=>H.p.refs c hc) (fun c hc=>H.m.refs c hc) x l) W.ok
    rw[hC] at g11 g12
    unfold scC at g11 g12
    have o5:=old_blk (bget_lt v4m5)
    have o5':=old_blk2 (bget_lt v4m5) (bget_lt v6m5) (Ne.symm n46)
    have w50:=fun l x=>(old_get (bget_lt v4m5) (bget_lt v0m5) (Ne.symm n40) l x).trans v0m5
    have w51:=fun l x y=>(old_get2 (bget_lt v4m5) (bget_lt v6m5) (bget_lt v0m5) (Ne.symm n40) (Ne.symm n60) l x y).trans v0m5
    simp+contextual -implicitDefEqProofs (maxSteps:=1000000) (maxDischargeDepth:=20) only[go_sem,simprocAttr,c1,c2,c3,tc,tp,tm,v0m5',v4m5',v6m5',v6m5,v0m5,w50,w51,o5,o5',g11,g12,scC]
    rw[←w_a]
    generalize hqm6:bput (bput m5 (nb h2 0) (some (.row true 2 [[.int .i64 ce1,.int .i64 ce2]]))) (nb h2 1) (some (.row true 2 [[.int .i64 ce1,.int .i64 ce2]]))=m6
    have lnm6:m6.length=m5.length:=by rw[←hqm6,bput_len_eq (by rw[bput_len_eq (bget_lt v4m5)];exact bget_lt v6m5),bput_len_eq (bget_lt v4m5)]
    have Km6:Keep ⟨h,lg,d⟩ ⟨m6,nb h2 1::nb h2 0::lg5,d⟩:=by rw[←hqm6];exact Keep.own2 Km5 (Nat.le_trans O2.1 nb_ge) (bget_lt v4m5) (Nat.le_trans O2.1 nb_ge) (bget_lt v6m5) _ _ [] (LgG.ok (.cons (Nat.le_trans O2.1 nb_ge) (.cons (Nat.le_trans O2.1 nb_ge) .nil)))
    have v0m6:bget m6 (nb h 0)=some (.row true 3 [[s.cv,s.pv,s.mv]]):=by rw[←hqm6];exact (old_get2 (bget_lt v4m5) (bget_lt v6m5) (bget_lt v0m5) (Ne.symm n40) (Ne.symm n60) [] _ _).trans v0m5
    have v4m6:bget m6 (nb h2 0)=(some (.row true 2 [[.int .i64 ce1,.int .i64 ce2]])):=by rw[←hqm6];exact (old_blk2 (bget_lt v4m5) (bget_lt v6m5) (Ne.symm n46)).2.2.2.2.2.1 [] _ _
    have v6m6:bget m6 (nb h2 1)=(some (.row true 2 [[.int .i64 ce1,.int .i64 ce2]])):=by rw[←hqm6];exact (old_blk2 (bget_lt v4m5) (bget_lt v6m5) (Ne.symm n46)).2.2.2.2.1 [] _ _
    have Om6:Old h m6:=Km6.old
    have Hm6:ScAt m6 s:=H.old Om6
    refine Wa_k (e7' m6 _ Hm6) (fun w m7 lg7 k7 hw=> ?_)
    obtain ⟨t7,rfl,ot7⟩:=hw
    have Pm7:Old m6 m7:=k7.old
    have Km7:Keep ⟨h,lg,d⟩ ⟨m7,lg7,d⟩:=Km6.trans k7.sub
    have Om7:Old h m7:=Km7.old
    have Hm7:ScAt m7 s:=H.old Om7
    have v0m7:=Pm7.get v0m6
    have v4m7:=Pm7.get v4m6
    have v6m7:=Pm7.get v6m6
    have v0m7':=fun q=>(bxt_old q m7 _ (bget_lt v0m7)).trans v0m7
    have v4m7':=fun q=>(bxt_old q m7 _ (bget_lt v4m7)).trans v4m7
    have v6m7':=fun q=>(bxt_old q m7 _ (bget_lt v6m7)).trans v6m7
    have tc:=ot7.a.c.sc
    have tp:=ot7.a.p.sc
    have tm:=ot7.a.m.sc
    show Kc _ _ _ _ _ _ _ _ _ ⟨bxt m7 [],lg7,[]⟩
    simp+contextual -implicitDefEqProofs (maxSteps:=1000000) (maxDischargeDepth:=20) only[go_sem,simprocAttr,c1,c2,c3,tc,tp,tm,v0m7',v4m7',v6m7',scC]
    rw[←w_a]
    have e13':=e13 (meth:=meth) F13 s13 (n+999) m7 lg7 [] h18 h23 h44 h69 s43 F43 s98 F98 s68 F68 s47 F47 s48 F48 (s:=t7) (o1:=false) (Om7.get hu) ot7.a (ot7.w W) (by rw[ot7.c];have:=f.1;omega) ot7.nc ot7.np
    unfold scC at e13'
    refine Wa_k e13' (fun w m8 lg8 k8 hw=> ?_)
    obtain ⟨cv,pv,mv,rfl,r1,r2,r3⟩:=hw
    rw[ot7.outO] at r1 r2 r3 ⊢
    have Km8:Keep ⟨h,lg,d⟩ ⟨m8,lg8,d⟩:=Km7.trans k8.sub
    have Om8:Old h m8:=Km8.old
    have Hm8:ScAt m8 s:=H.old Om8
    have v0m8:=k8.old.get v0m7
    have v4m8:=k8.old.get v4m7
    have v6m8:=k8.old.get v6m7
    have v0m8':=fun q=>(bxt_old q m8 _ (bget_lt v0m8)).trans v0m8
    have rc1:=r1.sc
    have rc2:=r2.sc
    have rc3:=r3.sc
    generalize hO1:(outO s).1=L1 at*
    generalize hO2:(outO s).2.1=L2 at*
    generalize hO3:(outO s).2.2.1=L3 at*
    generalize hO4:(outO s).2.2.2.1=E1 at*
    generalize hO5:(outO s).2.2.2.2=E2 at*
    show Kc _ _ _ _ _ _ _ _ _ ⟨bxt m8 [],lg8,[]⟩
    simp+contextual -implicitDefEqProofs (maxSteps:=1000000) (maxDischargeDepth:=20) only[go_sem,simprocAttr,c1,c2,c3,rc1,rc2,rc3,v0m8',scC]
    rw[←w_a]
    have e14':=fun (h0:Blks) (lg0:List Nat) (HA:ScAt h0 s)=>e14 (meth:=meth) F14 s14 (n+999) h0 lg0 [] h37 h49 HA W
    unfold scC at e14'
    refine Wa_k (e14' (bxt m8 [some (.row true 3 [[cv,pv,mv]]),some (.row true 2 [[.int .i64 E1,.int .i64 E2]])]) _ (Hm8.bx _)) (fun w m9 lg9 k9 hw=> ?_)
    obtain ⟨cv',pv',mv',rfl,q1,q2,q3⟩:=hw
    rw[hO1] at q1
    rw[hO2] at q2
    rw[hO3] at q3
    rw[hO4,hO5]
    have P9:Old m8 m9:=⟨by have:=k9.len;simp only[bxt_len] at this;omega,fun b hb=>(k9.get b (by rw[bxt_len];omega)).trans (bxt_old _ m8 b hb)⟩
    have Km9:Keep ⟨h,lg,d⟩ ⟨m9,lg9,d⟩:=Km8.trans ((k_bx m8 lg8 (nb m8 1::nb m8 0::nb m8 1::nb m8 0::lg8) d _ (by repeat first |exact LogOK.nil |apply LogOK.cons)).trans k9.sub)
    have v0m9:=P9.get v0m8
    have v4m9:=P9.get v4m8
    have v6m9:=P9.get v6m8
    have x9:bget m9 (nb m8 0)=some (.row true 3 [[cv,pv,mv]]):=(k9.get _ (by rw[bxt_len,nb];simp)).trans nb_get
    have x10:bget m9 (nb m8 1)=some (.row true 2 [[.int .i64 E1,.int .i64 E2]]):=(k9.get _ (by rw[bxt_len,nb];simp)).trans nb_get
    have v4m9':=fun q=>(bxt_old q m9 _ (bget_lt v4m9)).trans v4m9
    have v6m9':=fun q=>(bxt_old q m9 _ (bget_lt v6m9)).trans v6m9
    have x9':=fun q=>(bxt_old q m9 _ (bget_lt x9)).trans x9
    have x10':=fun q=>(bxt_old q m9 _ (bget_lt x10)).trans x10
    have qc1:=q1.sc
    have qc2:=q2.sc
    have qc3:=q3.sc
    have l1':L1.length≤1000:=by rw[←hO1];unfold outO;split;simp;split;simp;exact W.ok.l.c
    have l2':L2.length≤1000:=by rw[←hO2];unfold outO;split;simp;split;simp;exact W.ok.l.p
    have l3':L3.length≤1000:=by
      rw[←hO3];unfold outO;split;simp;split;simp
      rename_i q
      show (cmdO s).length≤1000
      omega
    have g15:=fun l lg d=>h15 ⟨L1,cv,L2,pv,L3,mv⟩ ⟨L1,cv',L2,pv',L3,mv'⟩ ⟨bxt m9 l,lg,d⟩ ⟨(r1.old P9).bx l,(r2.old P9).bx l,(r3.old P9).bx l⟩ ⟨q1.bx l,q2.bx l,q3.bx l⟩ rfl rfl rfl ⟨l1',l2',l3'⟩
    unfold scC at g15
    have g5:=fun l lg d=>h5 ⟨bxt m9 l,lg,d⟩ ((Km9.old.bx l).get hg) ((Km9.old.bx l).get hu)
    show Kc _ _ _ _ _ _ _ _ _ ⟨bxt m9 [],lg9,[]⟩
    simp+contextual -implicitDefEqProofs (maxSteps:=1000000) (maxDischargeDepth:=20) only[go_sem,simprocAttr,c1,c2,c3,rc1,rc2,rc3,qc1,qc2,qc3,v4m9',v6m9',x9',x10',g15,g5,scC]
    exact Km9.trans (k_bx m9 lg9 _ d _ (by repeat first |exact LogOK.nil |apply LogOK.cons))
  · rw[decide_eq_false f] at g4
    simp+contextual -implicitDefEqProofs (maxSteps:=1000000) (maxDischargeDepth:=20) only[go_sem,simprocAttr,hs,hF,AF3,scC,c1,c2,c3,g4,g5]
end
end Go.Abs
end
