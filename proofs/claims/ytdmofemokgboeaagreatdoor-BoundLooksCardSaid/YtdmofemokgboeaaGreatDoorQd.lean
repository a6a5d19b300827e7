/- Functions of the program on symbolic values: part d.
   Conditions: none. -/
import Derived.Test.YtdmofemokgboeaaGreatDoorQc
set_option linter.unusedSimpArgs false
set_option linter.unusedVariables false
set_option maxRecDepth 100000
set_option maxHeartbeats 16000000
noncomputable section
namespace Go.Abs
section
variable {F:FuncId→Option AFunc} {meth:Meth} {sm:Summ}
theorem asl_take (get:Nat→Option ABlk) (b n k:Nat) (c:Option Nat) (own:Bool) (rows:List (List AV)) (hg:get b=some (.row own 2 rows)) (hk:k≤n) (hc:n≤c.getD n):aslice get 2 (.slice b 0 n c) none (some (.int .i64 k)) none=some (.slice b 0 k c):=by
  have e2:c.map (· - 0)=c:=by cases c <;>rfl
  simp only[aslice,hg,bound?,ne_eq,not_true_eq_false,if_false,Int.natCast_nonneg,if_true,Int.toNat_natCast,Option.isSome_none,Bool.false_eq_true,Nat.add_zero]
  rw[if_pos ⟨Nat.zero_le _,by omega,Nat.le_refl _⟩,e2]
  rfl
def RPop (m0:Mem) (q b:Nat) (L:List (Int × Int)):AV→Mem→Prop:=fun v m=> ∃ c' L' rows',v= .iface 116 (.agg [.int .i64 (gt L 0).1,.int .i64 (gt L 0).2])∧Chgd (fun x=>x=q∨x=b) m0 m∧QAt m.blks q b c' L' rows'∧(gt L 0::L').Perm L∧Heap kQ L'.length L'
theorem QAt.cap {h:Blks} {q b:Nat} {c:Option Nat} {L:List (Int × Int)} {rows:List (List AV)} (H:QAt h q b c L rows):L.length≤c.getD L.length:=by
  rcases H.hc with rfl |rfl
  · simp
  · simpa using H.hl
theorem take_last {L:List (Int × Int)} (h0:1≤L.length):(gt L (L.length - 1)::L.take (L.length - 1)).Perm L:=by
  have h:=List.take_append_getElem (l:=L) (i:=L.length - 1) (by omega)
  rw[←gt_eq (by omega),show L.length - 1+1=L.length by omega,List.take_length] at h
  refine (List.perm_append_comm (l₁:=[gt L (L.length - 1)]) (l₂:=L.take (L.length - 1))).trans ?_
  rw[h]
theorem e87 (hF:F 87=some AF87) (hs: ∀ vs m,sm 87 vs m=none) (n:Nat) (h:Blks) (lg d:List Nat) (hm:Mth meth) (s86: ∀ vs m,sm 86 vs m=none) (F86:F 86=some AF86) (s175: ∀ vs m,sm 175 vs m=none) (F175:F 175=some AF175) (s178: ∀ vs m,sm 178 vs m=none) (F178:F 178=some AF178)
    (s118: ∀ vs m,sm 118 vs m=none) (F118:F 118=some AF118) (s176: ∀ vs m,sm 176 vs m=none) (F176:F 176=some AF176)
    {q b:Nat} {c:Option Nat} {L:List (Int × Int)} {rows:List (List AV)} (H:QAt h q b c L rows) (h0:1≤L.length) (hn:L.length≤900) (hp:Heap kQ L.length L):
    Wa F meth sm (n+1500) (.fn 87) [.iface 114 (.ptr q 0 0)] ⟨bxt h [],lg,d⟩ (RPop ⟨h,lg,d⟩ q b L):=by
  have qs:=H.sl
  have o:=old_blk (bget_lt H.hb)
  have hl1:L.length - 1<L.length:=by omega
  have w1:IntKind.i64.wrap ((L.length:Int) - 1)=((L.length - 1:Nat):Int):=by rw[wrapI (by omega) (by omega)];omega
  have m1:=fun l vs=>inv_l hm.a (bget (bxt h l)) q true _ vs (qs.1 l)
  have m2:=fun l vs=>inv_l hm.c (bget (bxt h l)) q true _ vs (qs.1 l)
  have g0:=H.rg (show 0<L.length by omega)
  have g1:=H.rg hl1
  have st:=H.rs (show 0<L.length by omega) hl1
  have Q1:=H.sw (show 0<L.length by omega) hl1 []
  simp+contextual -implicitDefEqProofs (maxSteps:=1000000) (maxDischargeDepth:=20) only[go_sem,simprocAttr,hs,hF,AF87,w1,o_ldg,↓inv_0,m1,m2,s86,F86,AF86,s178,F178,AF178,qs,o,↓g0,↓g1,↓st,r_vc,r_vp,mskO,Mem.more,bmore,nb_more,List.filter_nil,List.flatMap_nil,List.filter_cons,List.flatMap_cons,List.map_nil,List.map_cons,mask,unmask,AOp.reads,AOpnd.top,top_p,top_s,top_m,top_i,top_b,top_t,top_a,top_u,top_ns,top_s0,top_d,top_f,nb_beq,nb_blt,nb_add,nidOf,slotIn,Nat.beq_refl,clash,Bool.or_self,List.any_nil,List.any_cons,AOp.isMaker]
  rw[←w_a]
  have Q1:QAt (bput h b (some (.row true 2 ((rows.set 0 [AV.int IntKind.i64 (gt L (L.length - 1)).fst,AV.int IntKind.i64 (gt L (L.length - 1)).snd]).set (L.length - 1) [AV.int IntKind.i64 (gt L 0).fst,AV.int IntKind.i64 (gt L 0).snd])))) q b c (sw L 0 (L.length - 1)) _:=Q1
  have ls:(sw L 0 (L.length - 1)).length=L.length:=sw_len _ _ _
  refine Wa_mono _ _ _ _ _ _ (fun v m' R=> ?_) (e118 F118 s118 (n+499) _ _ _ hm s175 F175 s178 F178 (e:=L.length - 1) Q1 (by omega) (by omega) (by have:=dn_pop hp h0;exact this))
  obtain ⟨L2,rows2,k2,Q2,p2,h2,l2⟩:=R
  obtain ⟨h3,lg3,d3⟩:=m'
  obtain rfl:d3=[]:=k2.dfrs
  simp only at Q2
  have qs:=Q2.sl
  have len2:L2.length=L.length:=p2.length_eq.trans ls
  have hb3:=bget_lt Q2.hb
  have hq3:=bget_lt Q2.hq
  have o:=old_blk hb3
  have oq:=old_blk hq3
  have m3:=fun l vs=>inv_p hm.e (bget (bxt h3 l)) (.ptr q 0 0) vs
  have g1:=Q2.rg (show L.length - 1<L2.length by omega)
  rw[len2] at qs g1
  have cp:=Q2.cap
  rw[len2] at cp
  have tk:=fun get (hg:get b=some (.row true 2 rows2))=>asl_take get b L.length (L.length - 1) c true rows2 hg (by omega) cp
  have w3:IntKind.i64.wrap ((L.length:Int) - 1)=((L.length - 1:Nat):Int):=w1
  have m3': ∀ l vs,ainv (bget (bxt h3 l)) meth (.iface 114 (.ptr q 0 0)) "Pop" vs=_:=m3
  show Kc _ _ _ _ _ _ _ _ _ ⟨bxt h3 [],lg3,[]⟩
  have nb1:=fun k=>nb_beq_ne (k:=k) hb3
  have nb2:=fun k=>nb_beq_ne (k:=k) hq3
  simp+contextual -implicitDefEqProofs (maxSteps:=1000000) (maxDischargeDepth:=20) only[go_sem,simprocAttr,w3,o_ldg,↓inv_0,m3,s176,F176,AF176,qs,o,oq,↓g1,tk,nb1,nb2,r_vc,r_vp,mskO,Mem.more,bmore,nb_more,List.filter_nil,List.flatMap_nil,List.filter_cons,List.flatMap_cons,List.map_nil,List.map_cons,mask,unmask,AOp.reads,AOpnd.top,top_p,top_s,top_m,top_i,top_b,top_t,top_a,top_u,top_ns,top_s0,top_d,top_f,nb_beq,nb_blt,nb_add,nidOf,slotIn,Nat.beq_refl,clash,Bool.or_self,List.any_nil,List.any_cons,AOp.isMaker]
  have e0:gt L2 (L.length - 1)=gt L 0:=by rw[l2 _ (Nat.le_refl _),gt_sw (by omega) hl1,if_pos rfl]
  have hqb:=H.ne
  have tl:=take_last (L:=L2) (by omega)
  rw[len2,e0] at tl
  refine ⟨c,L2.take (L.length - 1),rows2,by rw[e0],?_,⟨?_,?_,?_,?_,Q2.hc⟩,tl.trans (p2.trans (sw_perm (by omega) hl1)),fun x x1 x2=> ?_⟩
  · refine Chgd.trans (P:=fun x=>x=q∨x=b) (b:=⟨h3,lg3,d⟩) ?_ (chgd_put (P:=fun x=>x=q∨x=b) hq3 (.inl rfl) _ _ (.cons (.inl (.inl rfl)) (.cons (.inr nb_ge) (.cons (.inr nb_ge) .nil)))) (fun x hx=> .inl hx)
    exact Chgd.trans (chgd_put (P:=fun x=>x=q∨x=b) (l:=[]) (lg2:=b::b::lg) (bget_lt H.hb) (.inr rfl) _ (.cons (.inl (.inr rfl)) (.cons (.inl (.inr rfl)) .nil))) k2.sub (fun x hx=> .inl (.inr hx))
  · rw[oq.2.2.2.2.1,List.length_take,len2,Nat.min_eq_left (by omega)]
  · rw[old_get hq3 hb3 (Ne.symm hqb)];exact Q2.hb
  · rw[List.length_take,len2,Nat.min_eq_left (by omega),List.map_take,←Q2.hr,List.take_take,len2,Nat.min_eq_left (by omega)]
  · rw[List.length_take];have:=Q2.hl;omega
  · rw[List.length_take,len2,Nat.min_eq_left (by omega)] at x2
    have g: ∀ y,y<L.length - 1→gt (L2.take (L.length - 1)) y=gt L2 y:=fun y hy=>by
      rw[gt_eq (show y<(L2.take (L.length - 1)).length by rw[List.length_take];omega),gt_eq (show y<L2.length by omega),List.getElem_take]
    rw[g _ (by omega),g _ x2]
    exact h2 x x1 x2
end
section
variable {F:FuncId→Option AFunc} {meth:Meth} {sm:Summ}
theorem app_a (get:Nat→Option ABlk) (nid b n:Nat) (c:Option Nat) (x:AV) (xs:List AV) (rows:List (List AV)) (hx:elemsOf get 2 x=some [xs]) (hg:get b=some (.row true 2 rows)) (hn:n<rows.length) (hc:c=none∨c=some rows.length) (hm:n≤1000):
    aappend get nid 2 16 (.slice b 0 n c) x=some (.slice b 0 (n+1) c,[⟨b,some (.row true 2 (rows.take n++ [xs]++rows.drop (n+1))),refsLL [xs]⟩]):=by
  simp only[aappend,hx,hg,List.length_cons,List.length_nil,Nat.zero_add]
  rw[if_neg (by unfold roomMost;omega)]
  rcases hc with rfl |rfl
  · have h4:decide (n+1≤rows.length)=true:=by simp;omega
    simp only[h4,if_true]
    rw[if_pos ⟨trivial,by omega⟩]
  · have h4:decide (n+1≤rows.length)=true:=by simp;omega
    simp only[h4,if_true]
    rw[if_pos ⟨trivial,by omega⟩]
theorem app_b (get:Nat→Option ABlk) (nid b n:Nat) (x:AV) (xs:List AV) (rows:List (List AV)) (hx:elemsOf get 2 x=some [xs]) (hg:get b=some (.row true 2 rows)) (hn:n=rows.length) (hm:n≤1000):
    aappend get nid 2 16 (.slice b 0 n (some n)) x=some (.slice nid 0 (n+1) none,[⟨nid,some (.row true 2 (rows++ [xs])),refsLL (rows++ [xs])⟩]):=by
  subst hn
  simp only[aappend,hx,hg,List.length_cons,List.length_nil,Nat.zero_add]
  rw[if_neg (by unfold roomMost;omega)]
  have h4:decide (rows.length+1≤rows.length)=false:=by simp
  simp only[h4,Bool.false_eq_true,if_false,List.drop_zero,List.take_length]
theorem app_c (get:Nat→Option ABlk) (nid b n:Nat) (x:AV) (xs:List AV) (rows:List (List AV)) (hx:elemsOf get 2 x=some [xs]) (hg:get b=some (.row true 2 rows)) (hn:n=rows.length) (hm:n≤1000):
    aappend get nid 2 16 (.slice b 0 n none) x=some (.slice nid 0 (n+1) none,[⟨b,none,[]⟩,⟨nid,some (.row true 2 (rows++ [xs])),refsLL (rows++ [xs])⟩]):=by
  subst hn
  simp only[aappend,hx,hg,List.length_cons,List.length_nil,Nat.zero_add]
  rw[if_neg (by unfold roomMost;omega)]
  have h4:decide (rows.length+1≤rows.length)=false:=by simp
  simp only[h4,Bool.false_eq_true,if_false,if_true,List.drop_zero,List.take_length]
def RPush (m0:Mem) (q b:Nat) (L:List (Int × Int)) (x:Int × Int):AV→Mem→Prop:=fun _ m=> ∃ b' c' L' rows',(b'=b∨m0.blks.length≤b')∧Chgd (fun x=>x=q∨x=b) m0 m∧QAt m.blks q b' c' L' rows'∧L'.Perm (x::L)∧Heap kQ L'.length L'
theorem e89 (hF:F 89=some AF89) (hs: ∀ vs m,sm 89 vs m=none) (n:Nat) (h:Blks) (lg d:List Nat) (hm:Mth meth) (s86: ∀ vs m,sm 86 vs m=none) (F86:F 86=some AF86) (s175: ∀ vs m,sm 175 vs m=none) (F175:F 175=some AF175) (s178: ∀ vs m,sm 178 vs m=none) (F178:F 178=some AF178)
    (s120: ∀ vs m,sm 120 vs m=none) (F120:F 120=some AF120) (s177: ∀ vs m,sm 177 vs m=none) (F177:F 177=some AF177)
    {q b:Nat} {c:Option Nat} {L:List (Int × Int)} {rows:List (List AV)} {x y:Int} (H:QAt h q b c L rows) (hn:L.length≤800) (hp:Heap kQ L.length L):
    Wa F meth sm (n+1500) (.fn 89) [.iface 114 (.ptr q 0 0),.iface 116 (.agg [.int .i64 x,.int .i64 y])] ⟨bxt h [],lg,d⟩ (RPush ⟨h,lg,d⟩ q b L (x,y)):=by
  have qs:=H.sl
  have lL:(L++ [(x,y)]).length=L.length+1:=by simp
  have hb:=bget_lt H.hb
  have hq:=bget_lt H.hq
  have nqb:=H.ne
  have qh:=H.hq
  have bh:=H.hb
  have o:=old_blk hb
  have oq:=old_blk hq
  have o2:=old_blk2 hb hq nqb
  have nb1:=fun k=>nb_beq_ne (k:=k) hb
  have nb2:=fun k=>nb_beq_ne (k:=k) hq
  have nb3:=fun k=>nb_beq_ne' (k:=k) hb
  have nb4:=fun k=>nb_beq_ne' (k:=k) hq
  have bq:Nat.beq b q=false:=by
    cases e:Nat.beq b q with
    |false=>rfl
    |true=>exact absurd (Nat.eq_of_beq_eq_true e).symm nqb
  have qb:Nat.beq q b=false:=by
    cases e:Nat.beq q b with
    |false=>rfl
    |true=>exact absurd (Nat.eq_of_beq_eq_true e) nqb
  have w1:IntKind.i64.wrap (((L.length+1:Nat):Int) - 1)=(L.length:Int):=by rw[wrapI (by omega) (by omega)];omega
  have m1:=fun get=>inv_p hm.d get (.ptr q 0 0)
  by_cases c1:L.length<rows.length
  · have ap:=fun get nid h1 h2=>app_a get nid b L.length c (.slice (nb h 0) 0 1 (some 1)) [.int .i64 x,.int .i64 y] rows h1 h2 c1 H.hc (by omega)
    have m2:=fun get vs (hg:get q=some (.row true 1 [[.slice b 0 (L.length+1) c]]))=>inv_l hm.a get q true _ vs hg
    simp+contextual -implicitDefEqProofs (maxSteps:=1000000) (maxDischargeDepth:=20) only[go_sem,simprocAttr,hs,hF,AF89,w1,o_ldg,↓inv_0,m1,m2,s86,F86,AF86,s177,F177,AF177,qs,qh,bh,o,oq,o2,ap,nb1,nb2,nb3,nb4,bq,qb,r_vc,r_vp,mskO,Mem.more,bmore,nb_more,List.filter_nil,List.flatMap_nil,List.filter_cons,List.flatMap_cons,List.map_nil,List.map_cons,mask,unmask,AOp.reads,AOpnd.top,top_p,top_s,top_m,top_i,top_b,top_t,top_a,top_u,top_ns,top_s0,top_d,top_f,nb_beq,nb_blt,nb_add,nidOf,slotIn,Nat.beq_refl,clash,Bool.or_self,List.any_nil,List.any_cons,AOp.isMaker]
    have Qn:QAt (bxt (bput (bput h b (some (.row true 2 (List.take L.length rows++ [[.int .i64 x,.int .i64 y]]++List.drop (L.length+1) rows)))) q (some (.row true 1 [[.slice b 0 (L.length+1) c]]))) [some (.row true 2 [[.int .i64 x,.int .i64 y]])]) q b c (L++ [(x,y)]) _:=⟨by rw[o2.2.2.2.2.1,lL],o2.2.2.2.2.2.1 _ _ _,by rw[lL,List.append_assoc,List.take_append,List.length_take,Nat.min_eq_left (by omega),show L.length+1 - L.length=1 by omega,List.take_of_length_le (by rw[List.length_take];omega),H.hr,List.map_append];rfl,by rw[lL];simp;omega,by rcases H.hc with e |e;exact .inl e;exact .inr (by rw[e];congr 1;simp;omega)⟩
    have ck:Chgd (fun x=>x=q∨x=b) ⟨h,lg,[]⟩ ⟨bxt (bput (bput h b (some (.row true 2 (List.take L.length rows++ [[.int .i64 x,.int .i64 y]]++List.drop (L.length+1) rows)))) q (some (.row true 1 [[.slice b 0 (L.length+1) c]]))) [some (.row true 2 [[.int .i64 x,.int .i64 y]])],q::b::nb h 0::lg,[]⟩:=Chgd.trans (chgd_put (P:=fun x=>x=q∨x=b) (l:=[]) (lg2:=b::nb h 0::lg) hb (.inr rfl) _ (.cons (.inl (.inr rfl)) (.cons (.inr nb_ge) .nil))) (chgd_put (P:=fun x=>x=q∨x=b) (by rw[show bxt (bput h b (some (.row true 2 (List.take L.length rows++ [[.int .i64 x,.int .i64 y]]++List.drop (L.length+1) rows)))) []=bput h b (some (.row true 2 (List.take L.length rows++ [[.int .i64 x,.int .i64 y]]++List.drop (L.length+1) rows))) from rfl,bput_len_eq hb];exact hq) (.inl rfl) _ _ (.cons (.inl (.inl rfl)) .nil)) (fun x hx=> .inl hx)
    rw[←w_a]
    refine Wa_mono _ _ _ _ _ _ (fun v m' R=> ?_) (e120 F120 s120 (n+499) (bxt (bput (bput h b (some (.row true 2 (List.take L.length rows++ [[.int .i64 x,.int .i64 y]]++List.drop (L.length+1) rows)))) q (some (.row true 1 [[.slice b 0 (L.length+1) c]]))) [some (.row true 2 [[.int .i64 x,.int .i64 y]])]) _ _ hm s175 F175 s178 F178 (j:=L.length) Qn (by rw[lL];omega) (by rw[lL];omega) (up_push hp (x,y)))
    obtain ⟨L2,rows2,k2,Q2,p2,h2⟩:=R
    obtain ⟨h3,lg3,d3⟩:=m'
    obtain rfl:d3=[]:=k2.dfrs
    show Kc _ _ _ _ _ _ _ _ _ ⟨bxt h3 [],lg3,[]⟩
    simp+contextual -implicitDefEqProofs (maxSteps:=1000000) (maxDischargeDepth:=20) only[go_sem,simprocAttr]
    exact ⟨b,c,L2,rows2,(.inl rfl),(ck.sub (d2:=d)).trans k2.sub (fun x e=> .inl (.inr e)),Q2,p2.trans (List.perm_append_comm (l₁:=L) (l₂:=[(x,y)])),h2⟩
  · have ln:L.length=rows.length:=by have:=H.hl;omega
    rcases H.hc with rfl |rfl
    · have ap:=fun get nid h1 h2=>app_c get nid b L.length (.slice (nb h 0) 0 1 (some 1)) [.int .i64 x,.int .i64 y] rows h1 h2 ln (by omega)
      have m2:=fun get vs (hg:get q=some (.row true 1 [[.slice (nb h 1) 0 (L.length+1) none]]))=>inv_l hm.a get q true _ vs hg
      simp+contextual -implicitDefEqProofs (maxSteps:=1000000) (maxDischargeDepth:=20) only[go_sem,simprocAttr,hs,hF,AF89,w1,o_ldg,↓inv_0,m1,m2,s86,F86,AF86,s177,F177,AF177,qs,qh,bh,o,oq,o2,ap,nb1,nb2,nb3,nb4,bq,qb,r_vc,r_vp,mskO,Mem.more,bmore,nb_more,List.filter_nil,List.flatMap_nil,List.filter_cons,List.flatMap_cons,List.map_nil,List.map_cons,mask,unmask,AOp.reads,AOpnd.top,top_p,top_s,top_m,top_i,top_b,top_t,top_a,top_u,top_ns,top_s0,top_d,top_f,nb_beq,nb_blt,nb_add,nidOf,slotIn,Nat.beq_refl,clash,Bool.or_self,List.any_nil,List.any_cons,AOp.isMaker]
      have Qn:QAt (bxt (bput (bput h b none) q (some (.row true 1 [[.slice (nb h 1) 0 (L.length+1) none]]))) [some (.row true 2 [[.int .i64 x,.int .i64 y]]),some (.row true 2 (rows++ [[.int .i64 x,.int .i64 y]]))]) q (nb h 1) none (L++ [(x,y)]) _:=⟨by rw[o2.2.2.2.2.1,lL],by rw[o2.2.1];rfl,by rw[lL,List.take_of_length_le (by simp;omega),List.map_append,←H.hr,List.take_of_length_le (by omega)];rfl,by rw[lL];simp;omega,.inl rfl⟩
      have ck:Chgd (fun x=>x=q∨x=b) ⟨h,lg,[]⟩ ⟨bxt (bput (bput h b none) q (some (.row true 1 [[.slice (nb h 1) 0 (L.length+1) none]]))) [some (.row true 2 [[.int .i64 x,.int .i64 y]]),some (.row true 2 (rows++ [[.int .i64 x,.int .i64 y]]))],q::nb h 1::b::nb h 0::lg,[]⟩:=Chgd.trans (chgd_put (P:=fun x=>x=q∨x=b) (l:=[]) (lg2:=nb h 1::b::nb h 0::lg) hb (.inr rfl) _ (.cons (.inr nb_ge) (.cons (.inl (.inr rfl)) (.cons (.inr nb_ge) .nil)))) (chgd_put (P:=fun x=>x=q∨x=b) (by rw[show bxt (bput h b none) []=bput h b none from rfl,bput_len_eq hb];exact hq) (.inl rfl) _ _ (.cons (.inl (.inl rfl)) .nil)) (fun x hx=> .inl hx)
      rw[←w_a]
      refine Wa_mono _ _ _ _ _ _ (fun v m' R=> ?_) (e120 F120 s120 (n+499) (bxt (bput (bput h b none) q (some (.row true 1 [[.slice (nb h 1) 0 (L.length+1) none]]))) [some (.row true 2 [[.int .i64 x,.int .i64 y]]),some (.row true 2 (rows++ [[.int .i64 x,.int .i64 y]]))]) _ _ hm s175 F175 s178 F178 (j:=L.length) Qn (by rw[lL];omega) (by rw[lL];omega) (up_push hp (x,y)))
      obtain ⟨L2,rows2,k2,Q2,p2,h2⟩:=R
      obtain ⟨h3,lg3,d3⟩:=m'
      obtain rfl:d3=[]:=k2.dfrs
      show Kc _ _ _ _ _ _ _ _ _ ⟨bxt h3 [],lg3,[]⟩
      simp+contextual -implicitDefEqProofs (maxSteps:=1000000) (maxDischargeDepth:=20) only[go_sem,simprocAttr]
      exact ⟨(nb h 1),none,L2,rows2,(.inr nb_ge),(ck.sub (d2:=d)).trans k2.sub (fun x e=> .inr (by subst e;exact nb_ge)),Q2,p2.trans (List.perm_append_comm (l₁:=L) (l₂:=[(x,y)])),h2⟩
    · have ec:some rows.length=some L.length:=by rw[ln]
      rw[ec] at qs qh H
      have ap:=fun get nid h1 h2=>app_b get nid b L.length (.slice (nb h 0) 0 1 (some 1)) [.int .i64 x,.int .i64 y] rows h1 h2 ln (by omega)
      have m2:=fun get vs (hg:get q=some (.row true 1 [[.slice (nb h 1) 0 (L.length+1) none]]))=>inv_l hm.a get q true _ vs hg
      simp+contextual -implicitDefEqProofs (maxSteps:=1000000) (maxDischargeDepth:=20) only[go_sem,simprocAttr,hs,hF,AF89,w1,o_ldg,↓inv_0,m1,m2,s86,F86,AF86,s177,F177,AF177,qs,qh,bh,o,oq,o2,ap,nb1,nb2,nb3,nb4,bq,qb,r_vc,r_vp,mskO,Mem.more,bmore,nb_more,List.filter_nil,List.flatMap_nil,List.filter_cons,List.flatMap_cons,List.map_nil,List.map_cons,mask,unmask,AOp.reads,AOpnd.top,top_p,top_s,top_m,top_i,top_b,top_t,top_a,top_u,top_ns,top_s0,top_d,top_f,nb_beq,nb_blt,nb_add,nidOf,slotIn,Nat.beq_refl,clash,Bool.or_self,List.any_nil,List.any_cons,AOp.isMaker]
      have Qn:QAt (bxt (bput h q (some (.row true 1 [[.slice (nb h 1) 0 (L.length+1) none]]))) [some (.row true 2 [[.int .i64 x,.int .i64 y]]),some (.row true 2 (rows++ [[.int .i64 x,.int .i64 y]]))]) q (nb h 1) none (L++ [(x,y)]) _:=⟨by rw[oq.2.2.2.2.1,lL],by rw[oq.2.1];rfl,by rw[lL,List.take_of_length_le (by simp;omega),List.map_append,←H.hr,List.take_of_length_le (by omega)];rfl,by rw[lL];simp;omega,.inl rfl⟩
      have ck:Chgd (fun x=>x=q∨x=b) ⟨h,lg,[]⟩ ⟨bxt (bput h q (some (.row true 1 [[.slice (nb h 1) 0 (L.length+1) none]]))) [some (.row true 2 [[.int .i64 x,.int .i64 y]]),some (.row true 2 (rows++ [[.int .i64 x,.int .i64 y]]))],q::nb h 1::nb h 0::lg,[]⟩:=chgd_put (P:=fun x=>x=q∨x=b) hq (.inl rfl) _ _ (.cons (.inl (.inl rfl)) (.cons (.inr nb_ge) (.cons (.inr nb_ge) .nil)))
      rw[←w_a]
      refine Wa_mono _ _ _ _ _ _ (fun v m' R=> ?_) (e120 F120 s120 (n+499) (bxt (bput h q (some (.row true 1 [[.slice (nb h 1) 0 (L.length+1) none]]))) [some (.row true 2 [[.int .i64 x,.int .i64 y]]),some (.row true 2 (rows++ [[.int .i64 x,.int .i64 y]]))]) _ _ hm s175 F175 s178 F178 (j:=L.length) Qn (by rw[lL];omega) (by rw[lL];omega) (up_push hp (x,y)))
      obtain ⟨L2,rows2,k2,Q2,p2,h2⟩:=R
      obtain ⟨h3,lg3,d3⟩:=m'
      obtain rfl:d3=[]:=k2.dfrs
      show Kc _ _ _ _ _ _ _ _ _ ⟨bxt h3 [],lg3,[]⟩
      simp+contextual -implicitDefEqProofs (maxSteps:=1000000) (maxDischargeDepth:=20) only[go_sem,simprocAttr]
      exact ⟨(nb h 1),none,L2,rows2,(.inr nb_ge),(ck.sub (d2:=d)).trans k2.sub (fun x e=> .inr (by subst e;exact nb_ge)),Q2,p2.trans (List.perm_append_comm (l₁:=L) (l₂:=[(x,y)])),h2⟩
end
section
variable {F:FuncId→Option AFunc} {meth:Meth} {sm:Summ}
def iC (x:Int):List AV:=[.int .i64 x]
def iV (x:Int):AV:= .int .i64 x
theorem flat_i: ∀ out:List Int,(out.map iC).flatten=out.map iV
  | []=>rfl
  |x::l=>by rw[List.map_cons,List.flatten_cons,flat_i l];rfl
theorem chunk_i: ∀ out:List Int,chunk 1 out.length (out.map iV)=out.map iC
  | []=>rfl
  | x::l=>by
    show ((iV x::l.map iV).take 1)::chunk 1 l.length ((iV x::l.map iV).drop 1)=_
    rw[List.drop_one,List.tail_cons,chunk_i l]
    rfl
theorem all_i: ∀ out:List Int,(out.map iV).all AV.scalar=true
  | []=>rfl
  |x::l=>by rw[List.map_cons,List.all_cons,all_i l];rfl
theorem row17 {out:List Int} (hl:out.length=17):rowGet 1 (out.map iC) 0 0 17=some (out.map iV)∧(∀ es:List (List AV),es.length=17→rowSet 1 es 0 0 (out.map iV)=some (out.map iC)):=by
  refine ⟨?_,fun es he=> ?_⟩
  · simp only[rowGet,Nat.ble,cond_false,rowGet0,List.length_map]
    rw[if_neg (by omega),if_pos ⟨trivial,trivial,by omega⟩,List.drop_zero,show (17 / 1)=out.length by omega,←List.length_map (f:=iC),List.take_length,flat_i]
  · simp only[rowSet,Nat.ble,cond_false,rowSet0,List.length_map]
    rw[if_neg (by omega),if_pos ⟨trivial,by omega,by omega⟩]
    rw[show out.length / 1=out.length by omega,chunk_i,List.drop_eq_nil_of_le (by omega),List.take_zero,List.append_nil,List.nil_append]
theorem QAt.oth {h:Blks} {q b x:Nat} {c:Option Nat} {L:List (Int × Int)} {rows:List (List AV)} (H:QAt h q b c L rows) (hx:x<h.length) (n1:q≠x) (n2:b≠x) (y:Option ABlk) (l:List (Option ABlk)):QAt (bxt (bput h x y) l) q b c L rows:=
  ⟨by rw[old_get hx (bget_lt H.hq) n1];exact H.hq,by rw[old_get hx (bget_lt H.hb) n2];exact H.hb,H.hr,H.hl,H.hc⟩
theorem QAt.bx {h:Blks} {q b:Nat} {c:Option Nat} {L:List (Int × Int)} {rows:List (List AV)} (H:QAt h q b c L rows) (l:List (Option ABlk)):QAt (bxt h l) q b c L rows:=⟨H.sl.1 l,H.sl.2 l,H.hr,H.hl,H.hc⟩
theorem QAt.n1 {h:Blks} {q b x:Nat} {c:Option Nat} {L:List (Int × Int)} {rows es:List (List AV)} (H:QAt h q b c L rows) (hx:bget h x=some (.row true 1 es)):b≠x:=fun e=>by
  have h2:=H.hb
  rw[e,hx] at h2
  simp at h2
theorem rga {out:List Int} {u:Int} (h0:0≤u) (h1:u≤16) (hl:out.length=17):(0≤u)=True∧(u.toNat<17)=True∧rowGet 1 (out.map iC) u.toNat 0 1=some [.int .i64 (gt out u.toNat)]∧(∀ t,rowSet 1 (out.map iC) u.toNat 0 [.int .i64 t]=some ((out.set u.toNat t).map iC)):=by
  have hu:u.toNat<out.length:=by omega
  have e:(out.map iC)[u.toNat]? =some (iC (gt out u.toNat)):=by rw[List.getElem?_map,List.getElem?_eq_getElem hu,←gt_eq hu];rfl
  refine ⟨by simpa using h0,by simp;omega,?_,fun t=> ?_⟩
  · simp only[rowGet,Nat.ble,cond_false,rowGet0,e];rfl
  · simp only[rowSet,Nat.ble,cond_false,rowSet0,e,List.length_cons,List.length_nil,List.map_set];rfl
def fillR (i:Nat):List Int:=List.replicate i (-1)++List.replicate (17 - i) 0
theorem fillR_set: ∀ i,i<17→(fillR i).set i (-1)=fillR (i+1):=by decide
theorem fillR_len: ∀ i,i<18→(fillR i).length=17:=by decide
def zR:List (List AV):=(List.replicate 17 (0:Int)).map iC
structure RI (h:Blks) (lg:List Nat) (l:List ConD) (z a:Int) (s:Nat) (m:Mem) (b:Nat) (c:Option Nat) (L:List (Int × Int)) (rows:List (List AV)) (out:List Int) (cur:Int) (S:List Int) (u k:Nat):Prop where
  kp:Keep ⟨h,lg,[]⟩ m
  qa:QAt m.blks (nb h 3) b c L rows
  bh:h.length≤b
  ob:bget m.blks (nb h 1)=some (.row true 1 (out.map iC))
  rb:bget m.blks (nb h 0)=some (.row true 1 zR)
  dj:Dij l z a s out L u k
  mo:Mon out L cur S
  hp:Heap kQ L.length L
theorem Dij.perm {l:List ConD} {z a:Int} {s u k:Nat} {out:List Int} {Q Q':List (Int × Int)} (D:Dij l z a s out Q u k) (h:Q'.Perm Q):Dij l z a s out Q' u k:=
  ⟨D.len,D.z0,fun x hx=>D.q x (h.mem_iff.1 hx),fun n hn h0=>by
    rcases D.c n hn h0 with ⟨x,hx,e⟩|c
    · exact .inl ⟨x,h.mem_iff.2 hx,e⟩
    · exact .inr c,D.w,D.b,D.g⟩
theorem RI.grow {h h4:Blks} {lg lg4 lg5:List Nat} {l:List ConD} {z a:Int} {s b u k:Nat} {c:Option Nat} {L:List (Int × Int)} {rows:List (List AV)} {out:List Int} {cur:Int} {S:List Int} (R:RI h lg l z a s ⟨h4,lg4,[]⟩ b c L rows out cur S u k) (ll:List (Option ABlk)) (hl:LogOK h4 lg4 lg5):RI h lg l z a s ⟨bxt h4 ll,lg5,[]⟩ b c L rows out cur S u k:=
  ⟨R.kp.trans (keep_bx hl),R.qa.bx ll,R.bh,(bxt_old ll h4 _ (bget_lt R.ob)).trans R.ob,(bxt_old ll h4 _ (bget_lt R.rb)).trans R.rb,R.dj,R.mo,R.hp⟩
theorem RI.skip {h h4:Blks} {lg lg4 lg5:List Nat} {l:List ConD} {z a:Int} {s b u k:Nat} {c:Option Nat} {L:List (Int × Int)} {rows:List (List AV)} {out:List Int} {cur:Int} {S:List Int} (R:RI h lg l z a s ⟨h4,lg4,[]⟩ b c L rows out cur S u k) (ll:List (Option ABlk)) (hl:LogOK h4 lg4 lg5)
    (hs:(gt l k).f.toNat=u→ ∀ t,hopO (gt l k) z (gt out u)=some t→0≤gt out (gt l k).t.toNat∧gt out (gt l k).t.toNat≤t):RI h lg l z a s ⟨bxt h4 ll,lg5,[]⟩ b c L rows out cur S u (k+1):=
  have R':=R.grow ll hl
  ⟨R'.kp,R'.qa,R'.bh,R'.ob,R'.rb,R'.dj.skip hs,R'.mo,R'.hp⟩
theorem dij_0 {l:List ConD} {z a:Int} {s:Nat} (hs:1≤s∧s≤16) (ha:0≤a∧a≤1099511627776):Dij l z a s ((fillR 17).set s a) [((s:Int),a)] 17 0:=by
  have hl:(fillR 17).length=17:=rfl
  have gn: ∀ n,n<17→gt (fillR 17) n= -1:=by decide
  have g: ∀ n,n<17→gt ((fillR 17).set s a) n=if n=s then a else -1:=fun n hn=>by
    rw[gt_set (by omega),gn n hn]
  refine ⟨by rw[List.length_set];rfl,by rw[g s (by omega),if_pos rfl],fun x hx=> ?_,fun n hn h0=> ?_,fun n hn h0=> ?_,fun n hn=> ?_,fun n hn h0=> ?_⟩
  · rw[List.mem_singleton] at hx
    subst hx
    simp only[Int.toNat_natCast]
    rw[g s (by omega),if_pos rfl]
    unfold hopT
    omega
  · rw[g n hn] at h0
    split at h0
    · rename_i e
      exact .inl ⟨_,List.mem_singleton.2 rfl,by simp only[Int.toNat_natCast];exact e.symm,by rw[g n hn,if_pos e]⟩
    · omega
  · rw[g n hn] at h0
    split at h0
    · rename_i e;exact .inl e
    · omega
  · rw[g n hn]
    unfold hopT
    split <;>omega
  · rw[g n hn] at h0 ⊢
    split at h0
    · rename_i e;rw[if_pos e];omega
    · omega
theorem mon_0 {out:List Int} {a s:Int}:Mon out [(s,a)] a []:=⟨fun x hx=>by rw[List.mem_singleton] at hx;subst hx;exact Int.le_refl _,by simp,by simp,fun u hu=>by cases hu⟩
def RRe (l:List ConD) (z a:Int) (s:Nat):AV→Blks→Prop:=fun v _=> ∃ out:List Int,out.length=17∧(∀ n,n<17→ -1≤gt out n)∧Closed l z a s (gt out)∧v= .agg (out.map iV)
theorem e60 (hF : F 60=some AF60) (hs: ∀ vs m,sm 60 vs m=none) (n:Nat) (h:Blks) (lg d:List Nat) (hm:Mth meth) (s86: ∀ vs m,sm 86 vs m=none) (F86:F 86=some AF86) (s87: ∀ vs m,sm 87 vs m=none) (F87:F 87=some AF87) (s89: ∀ vs m,sm 89 vs m=none) (F89:F 89=some AF89) (s118: ∀ vs m,sm 118 vs m=none) (F118:F 118=some AF118) (s120: ∀ vs m,sm 120 vs m=none) (F120:F 120=some AF120)
    (s175: ∀ vs m,sm 175 vs m=none) (F175:F 175=some AF175) (s176: ∀ vs m,sm 176 vs m=none) (F176:F 176=some AF176) (s177: ∀ vs m,sm 177 vs m=none) (F177:F 177=some AF177) (s178: ∀ vs m,sm 178 vs m=none) (F178:F 178=some AF178) (h88:H88 sm)
    {l:List ConD} {v:AV} {s:Nat} {a z:Int} (hv:SlAt h 6 v (l.map conC)) (hw:l.length≤40) (hc: ∀ c∈l,conOK c) (hs0:1≤s∧s≤16) (ha:0≤a∧a≤1099511627776) (hz:1≤z∧z≤1200):
    Wa F meth sm (n+2000) (.fn 60) [v,.int .i64 s,.int .i64 a,.int .i64 z] ⟨bxt h [],lg,d⟩ (Qk ⟨h,lg,d⟩ (RRe l z a s)):=by
  have lv:=hv.len
  have vc:=hv.sc
  simp+contextual -implicitDefEqProofs (maxSteps:=1000000) (maxDischargeDepth:=20) only[go_sem,simprocAttr,hs,hF,AF60]
  refine WloopV 17 [X17] (fun i=> [.int .i64 i]) (fun i m'=> ∃ lg',m'=⟨bxt h [some (.row true 1 zR),some (.row true 1 ((fillR i).map iC))],lg',[]⟩∧LogOK h lg lg') (by omega) (by repeat first |apply Cl_b |apply Cl_q |apply Cl_r) ⟨rfl,_,rfl,by repeat first |exact LogOK.nil |apply LogOK.cons⟩ (fun i m' g hi hP=> ?_) (fun m' g hP=> ?_)
  · obtain ⟨lg',rfl,hl⟩:=hP
    have r:=rnd hi (by omega)
    have ra:=rga (out:=fillR i) (u:=(i:Int)) (by omega) (by omega) (fillR_len i (by omega))
    rw[Int.toNat_natCast] at ra
    have fs:=fillR_set i hi
    have i17:(i<17)=True:=by simp;omega
    have i17':((i:Int)<17)=True:=by simp;omega
    simp+contextual -implicitDefEqProofs (maxSteps:=1000000) (maxDischargeDepth:=20) only[go_sem,simprocAttr,p_idxA,i17,i17',r,↓ra,fs]
    exact ⟨_,rfl,.cons hl⟩
  · obtain ⟨lg', rfl, hl⟩:=hP
    have ra:=rga (out:=fillR 17) (u:=(s:Int)) (by omega) (by omega) (fillR_len 17 (by omega))
    rw[Int.toNat_natCast] at ra
    have s17:(s<17)=True:=by simp;omega
    simp+contextual -implicitDefEqProofs (maxSteps:=1000000) (maxDischargeDepth:=20) only[go_sem,simprocAttr,p_idxA,s17,↓ra]
    have N16: ∀ S:List Int,S.length≤16→S.length*l.length≤16*l.length:=fun S h=>Nat.mul_le_mul_right _ h
    refine WloopV (1+16*l.length) [] (fun i=> []) (fun i m'=> ∃ b c L rows out cur S,RI h lg l z a s m' b c L rows out cur S 17 0∧i+L.length≤1+S.length*l.length) (by omega) (by repeat first |apply Cl_b |apply Cl_q |apply Cl_r) ⟨rfl,nb h 2,some 1,[((s:Int),a)],_,_,a,[],⟨keep_bx (by repeat first |exact hl |apply LogOK.cons),⟨nb_get,nb_get,rfl,by simp,.inr rfl⟩,nb_ge,nb_get,nb_get,dij_0 hs0 ha,mon_0,fun x x1 x2=>by simp at x2;omega⟩,by simp⟩ (fun i m g hi hP=> ?_) (fun m g hP=> ?_)
    · obtain ⟨b, c, L,rows,out,cur,S,R,hcnt⟩:=hP
      obtain ⟨h3,lg3,d3⟩:=m
      obtain rfl:d3=[]:=R.kp.dfrs
      have qs:=R.qa.sl
      have Sle:=R.mo.le
      have LLe:=N16 S Sle
      refine Wc_bx ?_
      rcases Nat.eq_zero_or_pos L.length with z0 |z0
      · rw[z0] at qs
        have L0:L=[]:=List.eq_nil_of_length_eq_zero z0
        subst L0
        have b1:=fun q=>(bxt_old q h3 _ (bget_lt R.ob)).trans R.ob
        have b0:=fun q=>(bxt_old q h3 _ (bget_lt R.rb)).trans R.rb
        have o:=old_blk (bget_lt R.rb)
        have r17:=row17 R.dj.len
        have r17':=r17.2 zR rfl
        have al:=all_i out
        have ol:=R.dj.len
        simp+contextual -implicitDefEqProofs (maxSteps:=1000000) (maxDischargeDepth:=20) only[go_sem,simprocAttr,o_ldg,qs,s86,F86,AF86,b1,b0,↓r17.1,r17.1,↓r17',r17',al,ol,o]
        exact ⟨Keep.sub (Keep.own (lg2:=nb h 0::lg3) R.kp nb_ge (bget_lt R.rb) _ [] (LgG.ok (.cons nb_ge .nil))),out,R.dj.len,fun n hn=>(R.dj.b n hn).1,R.dj.closed hc,rfl⟩
      · have z1 : (0 < (L.length:Int))=True:=by simp;omega
        simp+contextual -implicitDefEqProofs (maxSteps:=1000000) (maxDischargeDepth:=20) only[go_sem,simprocAttr,o_ldg,qs,s86,F86,AF86,z1]
        rw[←w_a]
        refine Wa_mono _ _ _ _ _ _ (fun v' m' R2=> ?_) (e87 F87 s87 (n+499) h3 _ _ hm s86 F86 s175 F175 s178 F178 s118 F118 s176 F176 R.qa z0 (by omega) R.hp)
        obtain ⟨c2,L2,rows2,rfl,k2,Q2,p2,hp2⟩:=R2
        obtain ⟨h4,lg4,d4⟩:=m'
        obtain rfl:d4=[]:=k2.dfrs
        simp only at Q2
        have hx:gt L 0∈L:=by rw[gt_eq z0];exact List.getElem_mem _
        have hmem: ∀ y,y∈L↔y=gt L 0∨y∈L2:=fun y=>by rw[←p2.mem_iff,List.mem_cons]
        have hmin: ∀ y∈L2,(gt L 0).2≤y.2:=fun y hy=>by
          obtain ⟨k,hk,rfl⟩:=List.getElem_of_mem ((hmem y).2 (.inr hy))
          rw[←gt_eq hk]
          exact heap_min R.hp k hk
        have q1:=R.qa.n1 R.ob
        have q0:=R.qa.n1 R.rb
        have e31:nb h 1≠nb h 3:=by rw[ne_eq,nb_inj];omega
        have e30:nb h 0≠nb h 3:=by rw[ne_eq,nb_inj];omega
        have kp4:Keep ⟨h,lg,[]⟩ ⟨h4,lg4,[]⟩:=R.kp.chg k2 fun x hx=>by rcases hx with rfl |rfl;exact nb_ge;exact R.bh
        have ob4:bget h4 (nb h 1)=some (.row true 1 (out.map iC)):=(k2.get _ (bget_lt R.ob) (fun e=>by rcases e with e |e;exact e31 e;exact q1 e.symm)).trans R.ob
        have rb4:bget h4 (nb h 0)=some (.row true 1 zR):=(k2.get _ (bget_lt R.rb) (fun e=>by rcases e with e |e;exact e30 e;exact q0 e.symm)).trans R.rb
        have dq:=R.dj.q _ hx
        have moP:=R.mo.perm p2
        have dp:=R.dj.pop hmem hx rfl
        have ll:=p2.length_eq
        rw[List.length_cons] at ll
        have ra:=rga (out:=out) (u:=(gt L 0).1) (by omega) (by omega) R.dj.len
        have b1:=fun q=>(bxt_old q h4 _ (bget_lt ob4)).trans ob4
        generalize gt L 0=x at*
        obtain ⟨x1,x2⟩:=x
        simp only at*
        show Kc _ _ _ _ _ _ _ _ _ ⟨bxt h4 [],lg4,[]⟩
        by_cases cl:gt out x1.toNat<x2
        · simp+contextual -implicitDefEqProofs (maxSteps:=1000000) (maxDischargeDepth:=20) only[go_sem,simprocAttr,b1,ra,↓ra,cl,p_idxA,o_ldg]
          exact ⟨b,c2,L2,rows2,out,x2,S,RI.grow ⟨kp4,Q2,R.bh,ob4,rb4,dp.1 cl,moP.late hmin,hp2⟩ _ (by repeat first |exact LogOK.nil |apply LogOK.cons),by omega⟩
        · have sm1 : (S.length+1)*l.length=S.length*l.length+l.length:=Nat.succ_mul _ _
          obtain ⟨ex,dj4⟩:=dp.2 cl
          have mo4:=moP.take hmin dq.1 dq.2.1 ex
          have R4:RI h lg l z a s ⟨h4,lg4,[]⟩ b c2 L2 rows2 out x2 (x1::S) x1.toNat 0:=⟨kp4,Q2,R.bh,ob4,rb4,dj4,mo4,hp2⟩
          have lv4:=(SlAt.keep (m:=⟨h,lg,[]⟩) (m':=⟨h4,lg4,[]⟩) hv kp4).len
          simp+contextual -implicitDefEqProofs (maxSteps:=1000000) (maxDischargeDepth:=20) only[go_sem,simprocAttr,b1,ra,↓ra,cl,p_idxA,o_ldg,lv4,List.length_map]
          have bl:b<h4.length:=bget_lt Q2.hb
          refine WloopV l.length [X49] (fun k=> [.int .i64 k]) (fun k m'=> ∃ b c L' rows' out',RI h lg l z a s m' b c L' rows' out' x2 (x1::S) x1.toNat k∧bget m'.blks (nb h4 0)=some (.row true 2 [[.int .i64 x1,.int .i64 x2]])∧b≠nb h4 0∧i+1+L'.length≤1+S.length*l.length+k∧gt out' x1.toNat=x2) (by omega) (by repeat first |apply Cl_b |apply Cl_q |apply Cl_r |apply Cl_v) ⟨rfl,b,c2,L2,rows2,out,R4.grow _ (by repeat first |exact LogOK.nil |apply LogOK.cons),nb_get,by rw[nb];omega,by omega,ex⟩ (fun k m g hk hP=> ?_) (fun m g hP=> ?_)
          · obtain ⟨b5, c5,L5,rows5,out5,R5,sb5,nb5,cnt5,ex5⟩:=hP
            obtain ⟨h5,lg5,d5⟩:=m
            obtain rfl:d5=[]:=R5.kp.dfrs
            have e:=(SlAt.keep (m:=⟨h,lg,[]⟩) (m':=⟨h5,lg5,[]⟩) hv R5.kp).el hk
            have r:=rnd hk (by omega)
            have b1:=fun q=>(bxt_old q h5 _ (bget_lt R5.ob)).trans R5.ob
            have s1:=fun q=>(bxt_old q h5 _ (bget_lt sb5)).trans sb5
            have hck:=hc (gt l k) (by rw[gt_eq hk];exact List.getElem_mem _)
            have g1:=fun m=>h88 (gt l k) z x2 m hck hz (by omega)
            have rt:=rga (out:=out5) (u:=(gt l k).t) (by have:=hck.2.1;omega) (by have:=hck.2.1;omega) R5.dj.len
            unfold conC at e g1
            refine Wc_bx ?_
            by_cases cf:(gt l k).f=x1
            · have cft:=eq_true cf
              cases eh:hopO (gt l k) z x2 with
              | none=>
                rw[eh] at g1
                simp+contextual -implicitDefEqProofs (maxSteps:=1000000) (maxDischargeDepth:=20) only[go_sem,simprocAttr,e,r,b1,s1,g1,cft,rt,↓rt,p_idxA,o_ldg,lv4,List.length_map,Option.isSome_none]
                exact ⟨b5,c5,L5,rows5,out5,R5.skip _ (by repeat first |exact LogOK.nil |apply LogOK.cons) (fun _ t h=>by rw[ex5,eh] at h;cases h),nb5,by omega,ex5⟩
              | some t=>
                rw[hopV,eh] at g1
                have o5:=old_blk (bget_lt R5.ob)
                have bt:=R5.dj.b (gt l k).t.toNat (by have:=hck.2.1;omega)
                by_cases q1:gt out5 (gt l k).t.toNat= -1
                · have q1':=eq_true q1
                  simp+contextual -implicitDefEqProofs (maxSteps:=1000000) (maxDischargeDepth:=20) only[go_sem,simprocAttr,e,r,b1,s1,g1,cft,rt,↓rt,o5,p_idxA,o_ldg,lv4,List.length_map,Option.isSome_some,Option.getD_some,q1']
                  rw[←w_a]
                  have QN:QAt (bxt (bput h5 (nb h 1) (some (.row true 1 (List.map iC (out5.set (gt l k).t.toNat t))))) [some (.row true 6 [[.int .i64 (gt l k).f,.int .i64 (gt l k).t,.int .i64 (gt l k).s,.int .i64 (gt l k).e,.int .i64 (gt l k).r,.int .i64 (gt l k).d]])]) (nb h 3) b5 c5 L5 rows5:=R5.qa.oth (bget_lt R5.ob) (Ne.symm e31) (R5.qa.n1 R5.ob) _ _
                  refine Wa_mono _ _ _ _ _ _ (fun v' m' R6=> ?_) (e89 F89 s89 (n+499) (bxt (bput h5 (nb h 1) (some (.row true 1 (List.map iC (out5.set (gt l k).t.toNat t))))) [some (.row true 6 [[.int .i64 (gt l k).f,.int .i64 (gt l k).t,.int .i64 (gt l k).s,.int .i64 (gt l k).e,.int .i64 (gt l k).r,.int .i64 (gt l k).d]])]) _ _ hm s86 F86 s175 F175 s178 F178 s120 F120 s177 F177 QN (by have:=N16 S (by have:=mo4.le;simp only[List.length_cons] at this;omega);omega) R5.hp)
                  obtain ⟨b6,c6,L6,rows6,hb6,k6,Q6,p6,hp6⟩:=R6
                  obtain ⟨h6,lg6,d6⟩:=m'
                  obtain rfl:d6=[]:=k6.dfrs
                  simp only at Q6
                  show Kc _ _ _ _ _ _ _ _ _ ⟨bxt h6 [],lg6,[]⟩
                  simp+contextual -implicitDefEqProofs (maxSteps:=1000000) (maxDischargeDepth:=20) only[go_sem,simprocAttr,r]
                  have lo1:nb h 1<h5.length:=bget_lt R5.ob
                  have lo0:nb h 0<h5.length:=bget_lt R5.rb
                  have lob:b5<h5.length:=bget_lt R5.qa.hb
                  have los:nb h4 0<h5.length:=bget_lt sb5
                  have hl5:h.length≤h5.length:=R5.kp.len
                  have l43:nb h 3<h4.length:=bget_lt Q2.hq
                  have l41:nb h 1<h4.length:=bget_lt ob4
                  have lN:h5.length≤(bxt (bput h5 (nb h 1) (some (.row true 1 (List.map iC (out5.set (gt l k).t.toNat t))))) [some (.row true 6 [[.int .i64 (gt l k).f,.int .i64 (gt l k).t,.int .i64 (gt l k).s,.int .i64 (gt l k).e,.int .i64 (gt l k).r,.int .i64 (gt l k).d]])]).length:=by rw[bxt_len,bput_len_eq lo1];omega
                  have n4:nb h4 0=h4.length:=rfl
                  have ll6:=p6.length_eq
                  rw[List.length_cons] at ll6
                  have hd:gt out5 (gt l k).t.toNat<0∨t<gt out5 (gt l k).t.toNat:=by omega
                  have kpN:Keep ⟨h,lg,[]⟩ ⟨bxt (bput h5 (nb h 1) (some (.row true 1 (List.map iC (out5.set (gt l k).t.toNat t))))) [some (.row true 6 [[.int .i64 (gt l k).f,.int .i64 (gt l k).t,.int .i64 (gt l k).s,.int .i64 (gt l k).e,.int .i64 (gt l k).r,.int .i64 (gt l k).d]])],nb h 1::nb h5 0::nb h5 0::lg5,[]⟩:=Keep.own R5.kp nb_ge lo1 _ _ (LgG.ok (.cons nb_ge (.cons (Nat.le_trans hl5 nb_ge) (.cons (Nat.le_trans hl5 nb_ge) .nil))))
                  refine ⟨b6,c6,L6,rows6,out5.set (gt l k).t.toNat t,⟨kpN.chg k6 (fun x hx=>by rcases hx with rfl |rfl;exact nb_ge;exact R5.bh),Q6,by rcases hb6 with e |e;rw[e];exact R5.bh;exact Nat.le_trans hl5 (Nat.le_trans lN e),?_,?_,(R5.dj.put hc hz.1 hk (by rw[cf]) (by omega) ha.1 (by rw[ex5];exact eh) hd).perm p6,(R5.mo.put hck.2.1 R5.dj.len (fun x hx=>by have:=R5.dj.q x hx;omega) (hop_gt hck hz.1 eh) hd).perm p6,hp6⟩,?_,?_,by omega,?_⟩
                  · exact (k6.get _ (Nat.lt_of_lt_of_le lo1 lN) (fun e=>by rcases e with e |e;exact e31 e;exact R5.qa.n1 R5.ob e.symm)).trans ((old_blk lo1).2.2.2.2.1 _ _)
                  · exact (k6.get _ (Nat.lt_of_lt_of_le lo0 lN) (fun e=>by rcases e with e |e;exact e30 e;exact R5.qa.n1 R5.rb e.symm)).trans ((old_get lo1 lo0 (by rw[ne_eq,nb_inj];omega) _ _).trans R5.rb)
                  · exact (k6.get _ (Nat.lt_of_lt_of_le los lN) (fun e=>by rcases e with e |e;omega;exact nb5 e.symm)).trans ((old_get lo1 los (by omega) _ _).trans sb5)
                  · rcases hb6 with e |e
                    · rw[e];exact nb5
                    · intro q
                      have e':=Nat.le_trans lN e
                      omega
                  · rw[gt_set (by have:=R5.dj.len;have:=hck.2.1;omega),if_neg (by have:=hck.2.2.1;have:=hck.1;have:=hck.2.1;omega)];exact ex5
                · have q1':=eq_false q1
                  by_cases q2:t<gt out5 (gt l k).t.toNat
                  · have q2':=eq_true q2
                    simp+contextual -implicitDefEqProofs (maxSteps:=1000000) (maxDischargeDepth:=20) only[go_sem,simprocAttr,e,r,b1,s1,g1,cft,rt,↓rt,o5,p_idxA,o_ldg,lv4,List.length_map,Option.isSome_some,Option.getD_some,q1',q2']
                    rw[←w_a]
                    have QN:QAt (bxt (bput h5 (nb h 1) (some (.row true 1 (List.map iC (out5.set (gt l k).t.toNat t))))) [some (.row true 6 [[.int .i64 (gt l k).f,.int .i64 (gt l k).t,.int .i64 (gt l k).s,.int .i64 (gt l k).e,.int .i64 (gt l k).r,.int .i64 (gt l k).d]])]) (nb h 3) b5 c5 L5 rows5:=R5.qa.oth (bget_lt R5.ob) (Ne.symm e31) (R5.qa.n1 R5.ob) _ _
                    refine Wa_mono _ _ _ _ _ _ (fun v' m' R6=> ?_) (e89 F89 s89 (n+499) (bxt (bput h5 (nb h 1) (some (.row true 1 (List.map iC (out5.set (gt l k).t.toNat t))))) [some (.row true 6 [[.int .i64 (gt l k).f,.int .i64 (gt l k).t,.int .i64 (gt l k).s,.int .i64 (gt l k).e,.int .i64 (gt l k).r,.int .i64 (gt l k).d]])]) _ _ hm s86 F86 s175 F175 s178 F178 s120 F120 s177 F177 QN (by have:=N16 S (by have:=mo4.le;simp only[List.length_cons] at this;omega);omega) R5.hp)
                    obtain ⟨b6,c6,L6,rows6,hb6,k6,Q6,p6,hp6⟩:=R6
                    obtain ⟨h6,lg6,d6⟩:=m'
                    obtain rfl:d6=[]:=k6.dfrs
                    simp only at Q6
                    show Kc _ _ _ _ _ _ _ _ _ ⟨bxt h6 [],lg6,[]⟩
                    simp+contextual -implicitDefEqProofs (maxSteps:=1000000) (maxDischargeDepth:=20) only[go_sem,simprocAttr,r]
                    have lo1:nb h 1<h5.length:=bget_lt R5.ob
                    have lo0:nb h 0<h5.length:=bget_lt R5.rb
                    have lob:b5<h5.length:=bget_lt R5.qa.hb
                    have los:nb h4 0<h5.length:=bget_lt sb5
                    have hl5:h.length≤h5.length:=R5.kp.len
                    have l43:nb h 3<h4.length:=bget_lt Q2.hq
                    have l41:nb h 1<h4.length:=bget_lt ob4
                    have lN:h5.length≤(bxt (bput h5 (nb h 1) (some (.row true 1 (List.map iC (out5.set (gt l k).t.toNat t))))) [some (.row true 6 [[.int .i64 (gt l k).f,.int .i64 (gt l k).t,.int .i64 (gt l k).s,.int .i64 (gt l k).e,.int .i64 (gt l k).r,.int .i64 (gt l k).d]])]).length:=by rw[bxt_len,bput_len_eq lo1];omega
                    have n4:nb h4 0=h4.length:=rfl
                    have ll6:=p6.length_eq
                    rw[List.length_cons] at ll6
                    have hd:gt out5 (gt l k).t.toNat<0∨t<gt out5 (gt l k).t.toNat:=by omega
                    have kpN:Keep ⟨h,lg,[]⟩ ⟨bxt (bput h5 (nb h 1) (some (.row true 1 (List.map iC (out5.set (gt l k).t.toNat t))))) [some (.row true 6 [[.int .i64 (gt l k).f,.int .i64 (gt l k).t,.int .i64 (gt l k).s,.int .i64 (gt l k).e,.int .i64 (gt l k).r,.int .i64 (gt l k).d]])],nb h 1::nb h5 0::nb h5 0::lg5,[]⟩:=Keep.own R5.kp nb_ge lo1 _ _ (LgG.ok (.cons nb_ge (.cons (Nat.le_trans hl5 nb_ge) (.cons (Nat.le_trans hl5 nb_ge) .nil))))
                    refine ⟨b6,c6,L6,rows6,out5.set (gt l k).t.toNat t,⟨kpN.chg k6 (fun x hx=>by rcases hx with rfl |rfl;exact nb_ge;exact R5.bh),Q6,by rcases hb6 with e |e;rw[e];exact R5.bh;exact Nat.le_trans hl5 (Nat.le_trans lN e),?_,?_,(R5.dj.put hc hz.1 hk (by rw[cf]) (by omega) ha.1 (by rw[ex5];exact eh) hd).perm p6,(R5.mo.put hck.2.1 R5.dj.len (fun x hx=>by have:=R5.dj.q x hx;omega) (hop_gt hck hz.1 eh) hd).perm p6,hp6⟩,?_,?_,by omega,?_⟩
                    · exact (k6.get _ (Nat.lt_of_lt_of_le lo1 lN) (fun e=>by rcases e with e |e;exact e31 e;exact R5.qa.n1 R5.ob e.symm)).trans ((old_blk lo1).2.2.2.2.1 _ _)
                    · exact (k6.get _ (Nat.lt_of_lt_of_le lo0 lN) (fun e=>by rcases e with e |e;exact e30 e;exact R5.qa.n1 R5.rb e.symm)).trans ((old_get lo1 lo0 (by rw[ne_eq,nb_inj];omega) _ _).trans R5.rb)
                    · exact (k6.get _ (Nat.lt_of_lt_of_le los lN) (fun e=>by rcases e with e |e;omega;exact nb5 e.symm)).trans ((old_get lo1 los (by omega) _ _).trans sb5)
                    · rcases hb6 with e |e
                      · rw[e];exact nb5
                      · intro q
                        have e':=Nat.le_trans lN e
                        omega
                    · rw[gt_set (by have:=R5.dj.len;have:=hck.2.1;omega),if_neg (by have:=hck.2.2.1;have:=hck.1;have:=hck.2.1;omega)];exact ex5
                  · have q2':=eq_false q2
                    simp+contextual -implicitDefEqProofs (maxSteps:=1000000) (maxDischargeDepth:=20) only[go_sem,simprocAttr,e,r,b1,s1,g1,cft,rt,↓rt,o5,p_idxA,o_ldg,lv4,List.length_map,Option.isSome_some,Option.getD_some,q1',q2']
                    exact ⟨b5,c5,L5,rows5,out5,R5.skip _ (by repeat first |exact LogOK.nil |apply LogOK.cons) (fun _ t' h=>by rw[ex5,eh] at h;cases h;omega),nb5,by omega,ex5⟩
            · simp+contextual -implicitDefEqProofs (maxSteps:=1000000) (maxDischargeDepth:=20) only[go_sem,simprocAttr,e,r,b1,s1,g1,cf,rt,↓rt,p_idxA,o_ldg,lv4,List.length_map]
              exact ⟨b5,c5,L5,rows5,out5,R5.skip _ (by repeat first |exact LogOK.nil |apply LogOK.cons) (fun e=>absurd (by have:=hck.1;omega) cf),nb5,by omega,ex5⟩
          · obtain ⟨b5,c5,L5,rows5,out5,R5,sb5,nb5,cnt5,ex5⟩:=hP
            obtain ⟨h5,lg5,d5⟩:=m
            obtain rfl:d5=[]:=R5.kp.dfrs
            have r:=rndl l.length
            refine Wc_bx ?_
            simp+contextual -implicitDefEqProofs (maxSteps:=1000000) (maxDischargeDepth:=20) only[go_sem,simprocAttr,r]
            exact ⟨b5,c5,L5,rows5,out5,x2,x1::S,⟨R5.kp,R5.qa,R5.bh,R5.ob,R5.rb,R5.dj.done,R5.mo,R5.hp⟩,by rw[List.length_cons];omega⟩
    · obtain ⟨b,c,L,rows,out,cur,S,R,hcnt⟩:=hP
      obtain ⟨h3,lg3,d3⟩:=m
      obtain rfl:d3=[]:=R.kp.dfrs
      have qs:=R.qa.sl
      have Sle:=R.mo.le
      have LLe:=N16 S Sle
      refine Wc_bx ?_
      have z0:L.length=0:=by omega
      rw[z0] at qs
      have L0:L=[]:=List.eq_nil_of_length_eq_zero z0
      subst L0
      have b1:=fun q=>(bxt_old q h3 _ (bget_lt R.ob)).trans R.ob
      have b0:=fun q=>(bxt_old q h3 _ (bget_lt R.rb)).trans R.rb
      have o:=old_blk (bget_lt R.rb)
      have r17:=row17 R.dj.len
      have r17':=r17.2 zR rfl
      have al:=all_i out
      have ol:=R.dj.len
      simp+contextual -implicitDefEqProofs (maxSteps:=1000000) (maxDischargeDepth:=20) only[go_sem,simprocAttr,o_ldg,qs,s86,F86,AF86,b1,b0,↓r17.1,r17.1,↓r17',r17',al,ol,o]
      exact ⟨Keep.sub (Keep.own (lg2:=nb h 0::lg3) R.kp nb_ge (bget_lt R.rb) _ [] (LgG.ok (.cons nb_ge .nil))),out,R.dj.len,fun n hn=>(R.dj.b n hn).1,R.dj.closed hc,rfl⟩
end
section
variable {F:FuncId→Option AFunc} {meth:Meth} {sm:Summ}
theorem relax_ge {c:ConD} (hc:conOK c) {z:Int} (hz:1≤z) {now next:List Int} (hn: ∀ n,n<17→ -1≤gt next n) (hl:next.length=17): ∀ n,n<17→ -1≤gt (relaxC z now next c) n:=fun n h17=>by
  unfold relaxC
  split
  · exact hn n h17
  · split
    · exact hn n h17
    · rename_i t e
      split
      · rw[gt_set (by have:=hc.2.1;omega)]
        split
        · have:=hop_le hc hz e;omega
        · exact hn n h17
      · exact hn n h17
theorem round_ge {l:List ConD} (hv: ∀ c∈l,conOK c) {z:Int} (hz:1≤z) {now:List Int} (hn: ∀ n,n<17→ -1≤gt now n) (hl:now.length=17): ∀ i,i≤l.length→ ∀ n,n<17→ -1≤gt (roundC l z now i) n
  |0,_=>hn
  |i+1,hi=>relax_ge (hv _ (by rw[gt_eq (show i<l.length by omega)];exact List.getElem_mem _)) hz (round_ge hv hz hn hl i (by omega)) (by rw[round_len,hl])
theorem rounds_ge1 {l:List ConD} (hv: ∀ c∈l,conOK c) {z a:Int} (hz:1≤z) (ha:0≤a) {s:Nat} (hs:s<17): ∀ h n,n<17→ -1≤gt (roundsC l z a s h) n
  | 0,n,hn=>by
    have:=(rounds_ok hv hz hs ha).z0 n hn
    rw[this]
    split <;>omega
  |h+1,n,hn=>round_ge hv hz (rounds_ge1 hv hz ha hs h) (rounds_len l z a s h) l.length (Nat.le_refl _) n hn
theorem list_ext {a b:List Int} (h1:a.length=17) (h2:b.length=17) (h: ∀ n,n<17→gt a n=gt b n):a=b:=
  List.ext_getElem (by omega) fun n p q=>by
    have:=h n (by omega)
    rw[gt_eq p,gt_eq q] at this
    exact this
theorem closed_eq {l:List ConD} (hv: ∀ c∈l,conOK c) {z a:Int} (hz:1≤z) (ha:0≤a) {s:Nat} (hs:s<17) {out:List Int} (hl:out.length=17) (hb: ∀ n,n<17→ -1≤gt out n) (G:Closed l z a s (gt out)):out=roundsC l z a s 16:=by
  refine list_ext hl (rounds_len l z a s 16) fun n hn=> ?_
  have H:=rounds_ok hv hz hs ha
  have R:=reach_iff hv hz hs H G ha hn
  have b1:=hb n hn
  have b2:=rounds_ge1 hv hz ha hs 16 n hn
  by_cases q:0≤gt out n
  · have a1:=rounds_le hv H G ha 16 n hn (R.1 q)
    have a2:=rounds_ge hv hz hs H G ha (gt out n).toNat n hn q (Nat.le_refl _)
    have a3:=rounds_mono H hn a2.1 16 (rk_le hn q)
    omega
  · have:=fun p=>q (R.2 p)
    omega
def H60 (sm:Summ):Prop:= ∀ (l:List ConD) (v:AV) (s:Nat) (a z:Int) (m:Mem),SlAt m.blks 6 v (l.map conC)→l.length≤40→(∀ c∈l,conOK c)→(1≤s∧s≤16)→(0≤a∧a≤1099511627776)→(1≤z∧z≤1200)→sm 60 [v,.int .i64 s,.int .i64 a,.int .i64 z] m=some (.agg ((roundsC l z a s 16).map iV),m)
theorem e60' (hF:F 60=some AF60) (hs: ∀ vs m,sm 60 vs m=none) (n:Nat) (h:Blks) (lg d:List Nat) (hm:Mth meth) (s86: ∀ vs m,sm 86 vs m=none) (F86:F 86=some AF86) (s87: ∀ vs m,sm 87 vs m=none) (F87:F 87=some AF87) (s89: ∀ vs m,sm 89 vs m=none) (F89:F 89=some AF89) (s118: ∀ vs m,sm 118 vs m=none) (F118:F 118=some AF118) (s120: ∀ vs m,sm 120 vs m=none) (F120:F 120=some AF120)
    (s175: ∀ vs m,sm 175 vs m=none) (F175:F 175=some AF175) (s176: ∀ vs m,sm 176 vs m=none) (F176:F 176=some AF176) (s177: ∀ vs m,sm 177 vs m=none) (F177:F 177=some AF177) (s178: ∀ vs m,sm 178 vs m=none) (F178:F 178=some AF178) (h88:H88 sm)
    {l:List ConD} {v:AV} {s:Nat} {a z:Int} (hv:SlAt h 6 v (l.map conC)) (hw:l.length≤40) (hc: ∀ c∈l,conOK c) (hs0:1≤s∧s≤16) (ha:0≤a∧a≤1099511627776) (hz:1≤z∧z≤1200):
    Ev F meth sm (n+2000) 60 [v,.int .i64 s,.int .i64 a,.int .i64 z] ⟨h,lg,d⟩ (.agg ((roundsC l z a s 16).map iV)):=by
  have e:=e60 hF hs n h lg d hm s86 F86 s87 F87 s89 F89 s118 F118 s120 F120 s175 F175 s176 F176 s177 F177 s178 F178 h88 hv hw hc hs0 ha hz
  obtain ⟨x,m',q,k,out,o1,o2,o3,rfl⟩:=Wa_true _ _ _ _ _ e
  rw[←closed_eq hc hz.1 ha.1 (by omega) o1 o2 o3]
  exact ⟨m',q,k⟩
def H84 (sm:Summ):Prop:= ∀ (x:Int) (m:Mem),sm 84 [.int .i64 x] m=some (.bool (decide (1≤x∧x≤16)),m)
theorem e84 (hF:F 84=some AF84) (hs: ∀ vs m,sm 84 vs m=none) (n:Nat) (h:Blks) (lg d:List Nat) {x:Int}:Ev F meth sm (n+2000) 84 [.int .i64 x] ⟨h,lg,d⟩ (.bool (decide (1≤x∧x≤16))):=by
  refine Ev.ofW ?_
  simp+contextual -implicitDefEqProofs (maxSteps:=1000000) (maxDischargeDepth:=20) only[go_sem,simprocAttr,hs,hF,AF84]
def H131 (sm:Summ):Prop:= ∀ (x:Int) (m:Mem),sm 131 [.int .i64 x] m=some (.bool (decide (1≤x∧x≤16)),m)
theorem e131 (hF:F 131=some AF131) (hs: ∀ vs m,sm 131 vs m=none) (n:Nat) (h:Blks) (lg d:List Nat) {x:Int}:Ev F meth sm (n+2000) 131 [.int .i64 x] ⟨h,lg,d⟩ (.bool (decide (1≤x∧x≤16))):=by
  refine Ev.ofW ?_
  simp+contextual -implicitDefEqProofs (maxSteps:=1000000) (maxDischargeDepth:=20) only[go_sem,simprocAttr,hs,hF,AF131]
def H83 (sm:Summ):Prop:= ∀ (x:Int) (m:Mem),sm 83 [.int .i64 x] m=some (.bool (decide (¬ (1≤x∧x≤16))),m)
theorem e83 (hF:F 83=some AF83) (hs: ∀ vs m,sm 83 vs m=none) (n:Nat) (h:Blks) (lg d:List Nat) (h84:H84 sm) {x:Int}:Ev F meth sm (n+2000) 83 [.int .i64 x] ⟨h,lg,d⟩ (.bool (decide (¬ (1≤x∧x≤16)))):=by
  refine Ev.ofW ?_
  have g:=fun m=>h84 x m
  simp+contextual -implicitDefEqProofs (maxSteps:=1000000) (maxDischargeDepth:=20) only[go_sem,simprocAttr,hs,hF,AF83,g,ndec]
def H117 (sm:Summ):Prop:= ∀ (l:List Int) (v:AV) (m:Mem),SlAt m.blks 1 v (l.map iC)→l.length≤10→(∀ x∈l,1≤x∧x≤16)→sm 117 [v,.func 83 [] []] m=some (.int .i64 (-1),m)
theorem e117 (hF:F 117=some AF117) (hs: ∀ vs m,sm 117 vs m=none) (n:Nat) (h:Blks) (lg d:List Nat) (h83:H83 sm) {l:List Int} {v:AV} (hv:SlAt h 1 v (l.map iC)) (hw:l.length≤10) (ho: ∀ x∈l,1≤x∧x≤16):Ev F meth sm (n+2000) 117 [v,.func 83 [] []] ⟨h,lg,d⟩ (.int .i64 (-1)):=by
  refine Ev.ofW ?_
  have lv:=hv.len
  simp+contextual -implicitDefEqProofs (maxSteps:=1000000) (maxDischargeDepth:=20) only[go_sem,simprocAttr,hs,hF,AF117,lv,List.length_map]
  refine WloopK l.length [X8] (fun i=> [.int .i64 i]) (fun _=>True) (by omega) (by repeat first |apply Cl_b |apply Cl_q |apply Cl_r) ⟨rfl,trivial⟩ (fun i h' lg' g hi hP hK=> ?_) (fun h' lg' g hP hK=> ?_)
  · have a:=hK.all (lg:=lg) (d:=d) (by repeat first |exact LogOK.nil |apply LogOK.cons)
    have e:=(hK.sl hv).el hi
    have r:=rnd hi (by omega)
    have ok:=ho (gt l i) (by rw[gt_eq hi];exact List.getElem_mem _)
    have g1:=fun m=>h83 (gt l i) m
    rw[decide_eq_false (fun q=>q ok)] at g1
    unfold iC at e
    simp+contextual -implicitDefEqProofs (maxSteps:=1000000) (maxDischargeDepth:=20) only[go_sem,simprocAttr,a,e,r,g1]
  · have a:=hK.all (lg:=lg) (d:=d) (by repeat first |exact LogOK.nil |apply LogOK.cons)
    have r:=rndl l.length
    simp+contextual -implicitDefEqProofs (maxSteps:=1000000) (maxDischargeDepth:=20) only[go_sem,simprocAttr,a,r]
def H85 (sm:Summ):Prop:= ∀ (l:List Int) (v:AV) (m:Mem),SlAt m.blks 1 v (l.map iC)→l.length≤10→(∀ x∈l,1≤x∧x≤16)→sm 85 [v,.func 83 [] []] m=some (.bool false,m)
theorem e85 (hF:F 85=some AF85) (hs: ∀ vs m,sm 85 vs m=none) (n:Nat) (h:Blks) (lg d:List Nat) (h117:H117 sm) {l:List Int} {v:AV} (hv:SlAt h 1 v (l.map iC)) (hw:l.length≤10) (ho: ∀ x∈l,1≤x∧x≤16):Ev F meth sm (n+2000) 85 [v,.func 83 [] []] ⟨h,lg,d⟩ (.bool false):=by
  refine Ev.ofW ?_
  have g1:=fun l' lg d=>h117 l v ⟨bxt h l',lg,d⟩ (hv.bx l') hw ho
  simp+contextual -implicitDefEqProofs (maxSteps:=1000000) (maxDischargeDepth:=20) only[go_sem,simprocAttr,hs,hF,AF85,g1]
def H59 (sm:Summ):Prop:= ∀ (l:List ConD) (v:AV) (z:Int) (ns:List Int) (w:AV) (m:Mem),SlAt m.blks 6 v (l.map conC)→l.length≤1000000→(planE l).1=0→(1≤z∧z≤1200)→SlAt m.blks 1 w (ns.map iC)→ns.length≤10→(∀ x∈ns,1≤x∧x≤16)→sm 59 [v,.int .i64 0,.int .i64 z,w] m=some (.int .i64 0,m)
theorem e59 (hF:F 59=some AF59) (hs: ∀ vs m,sm 59 vs m=none) (n:Nat) (h:Blks) (lg d:List Nat) (h53:H53 sm) (h85:H85 sm) {l:List ConD} {v:AV} {z:Int} {ns:List Int} {w:AV} (hv:SlAt h 6 v (l.map conC)) (hw:l.length≤1000000) (hp:(planE l).1=0) (hz:1≤z∧z≤1200) (hn:SlAt h 1 w (ns.map iC)) (hl:ns.length≤10) (ho: ∀ x∈ns,1≤x∧x≤16):
    Ev F meth sm (n+2000) 59 [v,.int .i64 0,.int .i64 z,w] ⟨h,lg,d⟩ (.int .i64 0):=by
  refine Ev.ofW ?_
  have g1:=fun l' lg d=>h53 l v ⟨bxt h l',lg,d⟩ (hv.bx l') hw
  rw[hp] at g1
  have g2:=fun l' lg d=>h85 ns w ⟨bxt h l',lg,d⟩ (hn.bx l') hl ho
  have z1:(z<1)=False:=by simp;omega
  have z2:(1200<z)=False:=by simp;omega
  simp+contextual -implicitDefEqProofs (maxSteps:=1000000) (maxDischargeDepth:=20) only[go_sem,simprocAttr,hs,hF,AF59,g1,g2,z1,z2]
def isR (l:List ConD) (z:Int) (s t:Nat):Prop:=0≤gt (roundsC l z 0 s 16) t
instance (l:List ConD) (z:Int) (s t:Nat):Decidable (isR l z s t):=by unfold isR;infer_instance
theorem isR_ne {l:List ConD} (hv: ∀ c∈l,conOK c) {z:Int} (hz:1≤z) {s t:Nat} (hs:s<17) (ht:t<17):decide (¬ gt (roundsC l z 0 s 16) t= -1)=decide (isR l z s t):=by
  have:=rounds_ge1 hv hz (Int.le_refl 0) hs 16 t ht
  refine decide_eq_decide.2 ?_
  unfold isR
  omega
theorem agg17 {out:List Int} (hl:out.length=17) {t:Nat} (ht:t<17):((out.map iV).drop (t*1)).take 1=[.int .i64 (gt out t)]:=by
  rw[Nat.mul_one,←List.map_drop,←List.map_take,List.drop_eq_getElem_cons (by omega),List.take_succ_cons,List.take_zero,gt_eq (by omega)]
  rfl
def H24 (sm:Summ):Prop:= ∀ (l:List ConD) (v:AV) (s t:Nat) (z:Int) (m:Mem),SlAt m.blks 6 v (l.map conC)→l.length≤40→(planE l).1=0→(∀ c∈l,conOK c)→(1≤s∧s≤16)→(1≤t∧t≤16)→(1≤z∧z≤1200)→sm 24 [v,.int .i64 s,.int .i64 t,.int .i64 0,.int .i64 z] m=some (.tuple [.bool (decide (isR l z s t)),.int .i64 0],m)
theorem e24 (hF:F 24=some AF24) (hs: ∀ vs m,sm 24 vs m=none) (n:Nat) (h:Blks) (lg d:List Nat) (h59:H59 sm) (h60:H60 sm) {l:List ConD} {v:AV} {s t:Nat} {z:Int} (hv:SlAt h 6 v (l.map conC)) (hw:l.length≤40) (hp:(planE l).1=0) (hc: ∀ c∈l,conOK c) (hs0:1≤s∧s≤16) (ht0:1≤t∧t≤16) (hz:1≤z∧z≤1200):
    Ev F meth sm (n+2000) 24 [v,.int .i64 s,.int .i64 t,.int .i64 0,.int .i64 z] ⟨h,lg,d⟩ (.tuple [.bool (decide (isR l z s t)),.int .i64 0]):=by
  refine Ev.ofW ?_
  have g1:=fun l' lg d (q:bnth l' 0=some (.row true 1 [[.int .i64 s],[.int .i64 t]]))=>h59 l v z [(s:Int),(t:Int)] (.slice (nb h 0) 0 2 (some 2)) ⟨bxt h l',lg,d⟩ (hv.bx l') (by omega) hp hz (.some (nb h 0) 0 (some 2) true _ rfl (by rw[nb_get,q]) rfl (fun _ h=>by cases h;simp)) (by simp) (fun x hx=>by simp only[List.mem_cons,List.not_mem_nil,or_false] at hx;omega)
  have g2:=fun l' lg d=>h60 l v s 0 z ⟨bxt h l',lg,d⟩ (hv.bx l') hw hc hs0 (by omega) hz
  have rl:=rounds_len l z 0 s 16
  have a17:=agg17 rl (show t<17 by omega)
  have t17:(t<17)=True:=by simp;omega
  have t17':(t*1+1≤17)=True:=by simp;omega
  have t17'':(t+1≤17)=True:=by simp;omega
  rw[Nat.mul_one] at a17
  simp+contextual -implicitDefEqProofs (maxSteps:=1000000) (maxDischargeDepth:=20) only[go_sem,simprocAttr,hs,hF,AF24,g1,g2,rl,a17,t17,t17',t17'',Nat.mul_one,List.length_map]
  exact isR_ne hc hz.1 (by omega) (by omega)
end
section
variable {F:FuncId→Option AFunc} {meth:Meth} {sm:Summ}
def H155 (sm:Summ):Prop:= ∀ (x:Int) (m:Mem),sm 155 [.int .i64 x] m=some (.bool (decide (0≤x∧x≤1099511627776)),m)
theorem e155 (hF:F 155=some AF155) (hs: ∀ vs m,sm 155 vs m=none) (n:Nat) (h:Blks) (lg d:List Nat) {x:Int}:Ev F meth sm (n+2000) 155 [.int .i64 x] ⟨h,lg,d⟩ (.bool (decide (0≤x∧x≤1099511627776))):=by
  refine Ev.ofW ?_
  simp+contextual -implicitDefEqProofs (maxSteps:=1000000) (maxDischargeDepth:=20) only[go_sem,simprocAttr,hs,hF,AF155]
def H152 (sm:Summ):Prop:= ∀ (c:ConD) (z x:Int) (m:Mem),conOK c→(1≤z∧z≤1200)→(0≤x∧x≤hopT)→sm 152 [.agg (conC c),.int .i64 0,.int .i64 x,.int .i64 z] m=some (.tuple [.int .i64 (bookF c z x),.int .i64 (bookA c z x),.int .i64 (bookE c z x)],m)
theorem e152 (hF:F 152=some AF152) (hs: ∀ vs m,sm 152 vs m=none) (n:Nat) (h:Blks) (lg d:List Nat) (h91:H91 sm) (h155:H155 sm) (h156:H156 sm) (h157:H157 sm) {c:ConD} {z x:Int} (hc:conOK c) (hz:1≤z∧z≤1200) (hx:0≤x∧x≤hopT):
    Ev F meth sm (n+2000) 152 [.agg (conC c),.int .i64 0,.int .i64 x,.int .i64 z] ⟨h,lg,d⟩ (.tuple [.int .i64 (bookF c z x),.int .i64 (bookA c z x),.int .i64 (bookE c z x)]):=by
  refine Ev.ofW ?_
  have v:=vol_ok hc
  have p:=pos_ok hc x
  have g1:=fun m=>h91 c m
  rw[(conE_iff c).2 hc] at g1
  have g2:=fun m=>h155 x m
  have g3:=fun m=>h156 c m hc
  have g5:=fun m=>h157 c x m hc hx
  have z1:(z<1)=False:=by simp;omega
  have z2:(1099511627776<z)=False:=by simp;omega
  have mx:(if 0<posC c x then posC c x else 0)=posC c x:=by omega
  have w1:IntKind.i64.wrap (posC c x+z)=posC c x+z:=wrapI (by omega) (by omega)
  have w0:IntKind.i64.wrap (volC c - posC c x)=volC c - posC c x:=wrapI (by omega) (by omega)
  have vn:(volC c<0)=False:=by simp;omega
  unfold conC at g1 g3 g5
  by_cases q:1099511627776<x
  · rw[decide_eq_false (by omega)] at g2
    have e:bookE c z x=2:=by unfold bookE;rw[if_pos q]
    have e2:bookF c z x=0:=by unfold bookF;rw[e];rfl
    have e3:bookA c z x=0:=by unfold bookA;rw[e];rfl
    rw[e,e2,e3]
    simp+contextual -implicitDefEqProofs (maxSteps:=1000000) (maxDischargeDepth:=20) only[go_sem,simprocAttr,hs,hF,AF152,conC,g1,g2,g3,g5,z1,z2,vn,r_vc,r_vp,mskO,Mem.more,bmore,nb_more,List.filter_nil,List.flatMap_nil,List.filter_cons,List.flatMap_cons,List.map_nil,List.map_cons,mask,unmask,AOp.reads,AOpnd.top,top_p,top_s,top_m,top_i,top_b,top_t,top_a,top_u,top_ns,top_s0,top_d,top_f,nb_beq,nb_blt,nb_add,nidOf,slotIn,Nat.beq_refl,clash,Bool.or_self,List.any_nil,List.any_cons,AOp.isMaker]
  · rw[decide_eq_true (by omega)] at g2
    by_cases q2:volC c<posC c x+z
    · have e:bookE c z x=16:=by unfold bookE;rw[if_neg q,if_pos q2]
      have e2:bookF c z x=0:=by unfold bookF;rw[e];rfl
      have e3:bookA c z x=0:=by unfold bookA;rw[e];rfl
      have q3:(volC c - posC c x<z)=True:=by simp;omega
      rw[e,e2,e3]
      simp+contextual -implicitDefEqProofs (maxSteps:=1000000) (maxDischargeDepth:=20) only[go_sem,simprocAttr,hs,hF,AF152,conC,g1,g2,g3,g5,z1,z2,mx,w0,q3,vn,r_vc,r_vp,mskO,Mem.more,bmore,nb_more,List.filter_nil,List.flatMap_nil,List.filter_cons,List.flatMap_cons,List.map_nil,List.map_cons,mask,unmask,AOp.reads,AOpnd.top,top_p,top_s,top_m,top_i,top_b,top_t,top_a,top_u,top_ns,top_s0,top_d,top_f,nb_beq,nb_blt,nb_add,nidOf,slotIn,Nat.beq_refl,clash,Bool.or_self,List.any_nil,List.any_cons,AOp.isMaker]
    · have e:bookE c z x=0:=by unfold bookE;rw[if_neg q,if_neg q2]
      have e2:bookF c z x=thrC c (posC c x+z):=by unfold bookF;rw[if_pos e]
      have e3:bookA c z x=posC c x+z:=by unfold bookA;rw[if_pos e]
      have q3:(volC c - posC c x<z)=False:=by simp;omega
      have hc':=hc.2.2.2
      have t:=thr_ok hc (p:=posC c x+z) (by omega) (by omega)
      have w2:IntKind.i64.wrap (posC c x+z+c.r)=posC c x+z+c.r:=wrapI (by omega) (by omega)
      have w3:IntKind.i64.wrap (posC c x+z+c.r - 1)=posC c x+z+c.r - 1:=wrapI (by omega) (by omega)
      have w4:IntKind.i64.wrap (Int.tdiv (posC c x+z+c.r - 1) c.r)=(posC c x+z+c.r - 1) / c.r:=by
        rw[Int.tdiv_eq_ediv_of_nonneg (by omega)]
        exact wrapI (by omega) (by omega)
      have w5:IntKind.i64.wrap (c.s+(posC c x+z+c.r - 1) / c.r)=thrC c (posC c x+z):=wrapI (by omega) (by omega)
      have r0:(c.r=0)=False:=by simp;omega
      rw[e,e2,e3]
      simp+contextual -implicitDefEqProofs (maxSteps:=1000000) (maxDischargeDepth:=20) only[go_sem,simprocAttr,hs,hF,AF152,conC,g1,g2,g3,g5,z1,z2,mx,w0,w1,w2,w3,w4,w5,r0,q3,vn,r_vc,r_vp,mskO,Mem.more,bmore,nb_more,List.filter_nil,List.flatMap_nil,List.filter_cons,List.flatMap_cons,List.map_nil,List.map_cons,mask,unmask,AOp.reads,AOpnd.top,top_p,top_s,top_m,top_i,top_b,top_t,top_a,top_u,top_ns,top_s0,top_d,top_f,nb_beq,nb_blt,nb_add,nidOf,slotIn,Nat.beq_refl,clash,Bool.or_self,List.any_nil,List.any_cons,AOp.isMaker]
def H144 (sm:Summ):Prop:= ∀ (c:ConD) (z x:Int) (m:Mem),conOK c→(1≤z∧z≤1200)→(0≤x∧x≤hopT)→sm 144 [.agg (conC c),.int .i64 x,.int .i64 z] m=some (.tuple [.int .i64 (bookF c z x),.int .i64 (bookE c z x)],m)
theorem e144 (hF:F 144=some AF144) (hs: ∀ vs m,sm 144 vs m=none) (n:Nat) (h:Blks) (lg d:List Nat) (h152:H152 sm) {c:ConD} {z x:Int} (hc:conOK c) (hz:1≤z∧z≤1200) (hx:0≤x∧x≤hopT):
    Ev F meth sm (n+2000) 144 [.agg (conC c),.int .i64 x,.int .i64 z] ⟨h,lg,d⟩ (.tuple [.int .i64 (bookF c z x),.int .i64 (bookE c z x)]):=by
  refine Ev.ofW ?_
  have g:=fun m=>h152 c z x m hc hz hx
  unfold conC at g
  simp+contextual -implicitDefEqProofs (maxSteps:=1000000) (maxDischargeDepth:=20) only[go_sem,simprocAttr,hs,hF,AF144,conC,g]
def overV (c:ConD) (z x:Int):Int:=(hopO c z x).getD c.d
def H132 (sm:Summ):Prop:= ∀ (c:ConD) (z x:Int) (m:Mem),conOK c→(1≤z∧z≤1200)→(0≤x∧x≤hopT)→sm 132 [.agg (conC c),.int .i64 x,.int .i64 z] m=some (.tuple [.int .i64 (overV c z x),.bool (hopO c z x).isSome],m)
theorem e132 (hF:F 132=some AF132) (hs: ∀ vs m,sm 132 vs m=none) (n:Nat) (h:Blks) (lg d:List Nat) (h144:H144 sm) {c:ConD} {z x:Int} (hc:conOK c) (hz:1≤z∧z≤1200) (hx:0≤x∧x≤hopT):
    Ev F meth sm (n+2000) 132 [.agg (conC c),.int .i64 x,.int .i64 z] ⟨h,lg,d⟩ (.tuple [.int .i64 (overV c z x),.bool (hopO c z x).isSome]):=by
  refine Ev.ofW ?_
  have g:=fun m=>h144 c z x m hc hz hx
  unfold conC at g
  have b:=bookF_ok (x:=x) hc hz.1
  have hc':=hc.2.2.2
  have w1:IntKind.i64.wrap (bookF c z x+c.d)=bookF c z x+c.d:=wrapI (by omega) (by omega)
  have s:=book_some (c:=c) (z:=z) (x:=x)
  have hb:=hop_book (c:=c) (z:=z) hx.1
  simp+contextual -implicitDefEqProofs (maxSteps:=1000000) (maxDischargeDepth:=20) only[go_sem,simprocAttr,hs,hF,AF132,conC,g,w1,r_vc,r_vp,mskO,Mem.more,bmore,nb_more,List.filter_nil,List.flatMap_nil,List.filter_cons,List.flatMap_cons,List.map_nil,List.map_cons,mask,unmask,AOp.reads,AOpnd.top,top_p,top_s,top_m,top_i,top_b,top_t,top_a,top_u,top_ns,top_s0,top_d,top_f,nb_beq,nb_blt,nb_add,nidOf,slotIn,Nat.beq_refl,clash,Bool.or_self,List.any_nil,List.any_cons,AOp.isMaker]
  rw[overV,hb,s.2]
  cases e:bookO c z x with
  |none=>rw[e] at s;simpa using s.1
  |some t=>rw[e] at s;simpa using s.1
end
section
variable {F:FuncId→Option AFunc} {meth:Meth} {sm:Summ}
theorem relax_le1 {c:ConD} (hc:conOK c) {z:Int} (hz:1≤z) {now next:List Int} (hn: ∀ n,n<17→gt next n≤hopT) (hl:next.length=17): ∀ n,n<17→gt (relaxC z now next c) n≤hopT:=fun n h17=>by
  unfold relaxC
  split
  · exact hn n h17
  · split
    · exact hn n h17
    · rename_i t e
      split
      · rw[gt_set (by have:=hc.2.1;omega)]
        split
        · have:=hop_le hc hz e;omega
        · exact hn n h17
      · exact hn n h17
theorem round_le1 {l:List ConD} (hv: ∀ c∈l,conOK c) {z:Int} (hz:1≤z) {now:List Int} (hn: ∀ n,n<17→gt now n≤hopT) (hl:now.length=17): ∀ i,i≤l.length→ ∀ n,n<17→gt (roundC l z now i) n≤hopT
  |0,_=>hn
  |i+1,hi=>relax_le1 (hv _ (by rw[gt_eq (show i<l.length by omega)];exact List.getElem_mem _)) hz (round_le1 hv hz hn hl i (by omega)) (by rw[round_len,hl])
theorem rounds_le1 {l:List ConD} (hv: ∀ c∈l,conOK c) {z a:Int} (hz:1≤z) (ha:0≤a) (ha2:a≤hopT) {s:Nat} (hs:s<17): ∀ h n,n<17→gt (roundsC l z a s h) n≤hopT
  | 0,n,hn=>by
    have:=(rounds_ok hv hz hs ha).z0 n hn
    rw[this]
    unfold hopT at*
    split <;>omega
  |h+1,n,hn=>round_le1 hv hz (rounds_le1 hv hz ha ha2 hs h) (rounds_len l z a s h) l.length (Nat.le_refl _) n hn
theorem app_17 (get:Nat→Option ABlk) (nid b:Nat) (c:Option Nat) (own:Bool) (R:List Int) (hl:R.length=17) (hg:get b=some (.row own 1 (R.map iC))):aappend get nid 1 8 .slice0 (.slice b 0 17 c)=some (.slice nid 0 17 none,[⟨nid,some (.row true 1 (R.map iC)),refsLL (R.map iC)⟩]):=by
  have e:elemsOf get 1 (.slice b 0 17 c)=some (R.map iC):=by
    simp[elemsOf,hg,hl,winGet,List.take_of_length_le]
  cases hR:R.map iC with
  |nil=>rw[hR] at e;have:=congrArg List.length hR;simp[hl] at this
  | cons x xs=>
    rw[hR] at e
    have h17:(x::xs).length=17:=by rw[←hR,List.length_map,hl]
    simp only[aappend,e,h17]
    rw[if_pos (by unfold roomMost;omega)]
def RRs (l:List ConD) (z a:Int) (s:Nat):AV→Blks→Prop:=fun v h=>SlAt h 1 v ((roundsC l z a s 16).map iC)
theorem e97 (hF :F 97=some AF97) (hs: ∀ vs m,sm 97 vs m=none) (n:Nat) (h:Blks) (lg d:List Nat) (h132:H132 sm) {l:List ConD} {v:AV} {s:Nat} {a z:Int} (hv:SlAt h 6 v (l.map conC)) (hw:l.length≤1000) (hc: ∀ c∈l,conOK c) (hs0:1≤s∧s≤16) (ha:0≤a∧a≤1099511627776) (hz:1≤z∧z≤1200):
    Wa F meth sm (n+1500) (.fn 97) [v,.int .i64 s,.int .i64 a,.int .i64 z,.int .i64 16] ⟨bxt h [],lg,d⟩ (Qk ⟨h,lg,d⟩ (RRs l z a s)):=by
  have lv:=hv.len
  have vc:=hv.sc
  simp+contextual -implicitDefEqProofs (maxSteps:=1000000) (maxDischargeDepth:=20) only[go_sem,simprocAttr,hs,hF,AF97]
  refine WloopV 17 [X12] (fun i=> [.int .i64 i]) (fun i m'=> ∃ lg',m'=⟨bxt h [some (.row true 1 ((fillR i).map iC))],lg',[]⟩∧LogOK h lg lg') (by omega) (by repeat first |apply Cl_b |apply Cl_q |apply Cl_r) ⟨rfl,_,rfl,by repeat first |exact LogOK.nil |apply LogOK.cons⟩ (fun i m' g hi hP=> ?_) (fun m' g hP=> ?_)
  · obtain ⟨lg',rfl,hl⟩:=hP
    have r:=rnd hi (by omega)
    have ra:=rga (out:=fillR i) (u:=(i:Int)) (by omega) (by omega) (fillR_len i (by omega))
    rw[Int.toNat_natCast] at ra
    have fs:=fillR_set i hi
    have i17:(i<17)=True:=by simp;omega
    have i17':((i:Int)<17)=True:=by simp;omega
    simp+contextual -implicitDefEqProofs (maxSteps:=1000000) (maxDischargeDepth:=20) only[go_sem,simprocAttr,i17,i17',r,↓ra,fs]
    exact ⟨_,rfl,.cons hl⟩
  · obtain ⟨lg',rfl,hl⟩:=hP
    have ra:=rga (out:=fillR 17) (u:=(s:Int)) (by omega) (by omega) (fillR_len 17 (by omega))
    rw[Int.toNat_natCast] at ra
    have s17:(s<17)=True:=by simp;omega
    simp+contextual -implicitDefEqProofs (maxSteps:=1000000) (maxDischargeDepth:=20) only[go_sem,simprocAttr,s17,↓ra]
    refine WloopE (α:=Nat × Option Nat) 16 [X13,X11] (fun i x=> [.int .i64 i,.slice x.1 0 17 x.2]) (fun i x m=>Keep ⟨h,lg,[]⟩ m∧bget m.blks x.1=some (.row true 1 ((roundsC l z a s i).map iC))∧h.length≤x.1∧(x.2=none∨x.2=some 17)) (by omega) (by repeat first |apply Cl_b |apply Cl_q |apply Cl_r) ⟨(nb h 0,some 17),rfl,keep_bx (by repeat first |exact hl |apply LogOK.cons),nb_get,nb_ge,.inr rfl⟩ (fun i x m g hi hP=> ?_) (fun x m g hP=> ?_)
    · obtain ⟨b,c⟩:=x
      obtain ⟨h3,lg3,d3⟩:=m
      obtain ⟨kp,hb,bge,hcap⟩:=hP
      obtain rfl:d3=[]:=kp.dfrs
      simp only at hb bge hcap
      have r:=rnd hi (by omega)
      have i16:((i:Int)<16)=True:=by simp;omega
      have rl:=rounds_len l z a s i
      have ge1:=rounds_ge1 (l:=l) hc hz.1 ha.1 (show s<17 by omega) i
      have le1:=rounds_le1 (l:=l) hc hz.1 ha.1 (by unfold hopT;omega) (show s<17 by omega) i
      have rn:roundsC l z a s (i+1)=roundC l z (roundsC l z a s i) l.length:=rfl
      generalize hR:roundsC l z a s i=R at*
      have hb':=fun q=>(bxt_old q h3 _ (bget_lt hb)).trans hb
      have ap:=fun q nid=>app_17 (bget (bxt h3 q)) nid b c true R rl (hb' q)
      refine Wc_bx ?_
      simp+contextual -implicitDefEqProofs (maxSteps:=1000000) (maxDischargeDepth:=20) only[go_sem,simprocAttr,r,i16,hb',ap]
      refine WloopV l.length [X15] (fun k=> [.int .i64 k]) (fun k m=>Keep ⟨h3,lg3,[]⟩ m∧bget m.blks (nb h3 0)=some (.row true 1 ((roundC l z R k).map iC))) (by omega) (by repeat first |apply Cl_b |apply Cl_q |apply Cl_r |apply Cl_e) ⟨rfl,keep_bx (by repeat first |exact LogOK.nil |apply LogOK.cons),nb_get⟩ (fun k m g hk hP=> ?_) (fun m g hP=> ?_)
      · obtain ⟨h5,lg5,d5⟩:=m
        obtain ⟨kp5,n5⟩:=hP
        obtain rfl:d5=[]:=kp5.dfrs
        simp only at n5
        have kpv:Keep ⟨h,lg,[]⟩ ⟨h5,lg5,[]⟩:=kp.trans kp5
        have ln:nb h3 0<h5.length:=bget_lt n5
        have b5:bget h5 b=some (.row true 1 (R.map iC)):=(kp5.get b (bget_lt hb)).trans hb
        have b5':=fun q=>(bxt_old q h5 _ (bget_lt b5)).trans b5
        have n5':=fun q=>(bxt_old q h5 _ ln).trans n5
        have e:=(SlAt.keep (m:=⟨h,lg,[]⟩) (m':=⟨h5,lg5,[]⟩) hv kpv).el hk
        have lv5:=(SlAt.keep (m:=⟨h,lg,[]⟩) (m':=⟨h5,lg5,[]⟩) hv kpv).len
        have r5:=rnd hk (by omega)
        have hck:=hc (gt l k) (by rw[gt_eq hk];exact List.getElem_mem _)
        have rlk:(roundC l z R k).length=17:=by rw[round_len,rl]
        have hf:=hck.1
        have ht:=hck.2.1
        have rf:=rga (out:=R) (u:=(gt l k).f) (by omega) (by omega) rl
        have rt:=rga (out:=roundC l z R k) (u:=(gt l k).t) (by omega) (by omega) rlk
        have o5:=old_blk ln
        have rk:roundC l z R (k+1)=relaxC z R (roundC l z R k) (gt l k):=rfl
        have xb:=le1 (gt l k).f.toNat (by omega)
        generalize hx:gt R (gt l k).f.toNat=x at*
        refine Wc_bx ?_
        by_cases cn:x<0
        · have cn':=eq_true cn
          unfold conC at e
          simp+contextual -implicitDefEqProofs (maxSteps:=1000000) (maxDischargeDepth:=20) only[go_sem,simprocAttr,e,r5,lv5,b5',n5',rf,↓rf,rt,↓rt,cn',o_ldg,List.length_map]
          exact ⟨kp5.trans (keep_bx (by repeat first |exact LogOK.nil |apply LogOK.cons)),by rw[rk,relaxC,hx,if_pos cn]⟩
        · have cn':=eq_false cn
          have g1:=fun m=>h132 (gt l k) z x m hck hz (by omega)
          unfold conC at e g1
          cases eh:hopO (gt l k) z x with
          | none=>
            rw[eh] at g1
            simp+contextual -implicitDefEqProofs (maxSteps:=1000000) (maxDischargeDepth:=20) only[go_sem,simprocAttr,e,r5,lv5,b5',n5',rf,↓rf,rt,↓rt,cn',g1,o_ldg,List.length_map,Option.isSome_none]
            exact ⟨kp5.trans (keep_bx (by repeat first |exact LogOK.nil |apply LogOK.cons)),by rw[rk,relaxC,hx,if_neg cn,eh]⟩
          | some t=>
            rw[overV,eh] at g1
            by_cases q1:gt (roundC l z R k) (gt l k).t.toNat<0
            · have q1':=eq_true q1
              simp+contextual -implicitDefEqProofs (maxSteps:=1000000) (maxDischargeDepth:=20) only[go_sem,simprocAttr,e,r5,lv5,b5',n5',rf,↓rf,rt,↓rt,cn',g1,q1',o5,o_ldg,List.length_map,Option.isSome_some,Option.getD_some]
              exact ⟨kp5.own nb_ge ln _ _ (LgG.ok (.cons nb_ge (.cons (Nat.le_trans kp5.len nb_ge) (.cons (Nat.le_trans kp5.len nb_ge) .nil)))),by rw[rk,relaxC,hx,if_neg cn,eh];simp only;rw[if_pos (.inl q1)]⟩
            · have q1':=eq_false q1
              by_cases q2:t<gt (roundC l z R k) (gt l k).t.toNat
              · have q2':=eq_true q2
                simp+contextual -implicitDefEqProofs (maxSteps:=1000000) (maxDischargeDepth:=20) only[go_sem,simprocAttr,e,r5,lv5,b5',n5',rf,↓rf,rt,↓rt,cn',g1,q1',q2',o5,o_ldg,List.length_map,Option.isSome_some,Option.getD_some]
                exact ⟨kp5.own nb_ge ln _ _ (LgG.ok (.cons nb_ge (.cons (Nat.le_trans kp5.len nb_ge) (.cons (Nat.le_trans kp5.len nb_ge) .nil)))),by rw[rk,relaxC,hx,if_neg cn,eh];simp only;rw[if_pos (.inr q2)]⟩
              · have q2':=eq_false q2
                simp+contextual -implicitDefEqProofs (maxSteps:=1000000) (maxDischargeDepth:=20) only[go_sem,simprocAttr,e,r5,lv5,b5',n5',rf,↓rf,rt,↓rt,cn',g1,q1',q2',o5,o_ldg,List.length_map,Option.isSome_some,Option.getD_some]
                exact ⟨kp5.trans (keep_bx (by repeat first |exact LogOK.nil |apply LogOK.cons)),by rw[rk,relaxC,hx,if_neg cn,eh];simp only;rw[if_neg (by omega)]⟩
      · obtain ⟨h5,lg5,d5⟩:=m
        obtain ⟨kp5,n5⟩:=hP
        obtain rfl:d5=[]:=kp5.dfrs
        simp only at n5
        have kpv:Keep ⟨h,lg,[]⟩ ⟨h5,lg5,[]⟩:=kp.trans kp5
        have lv5:=(SlAt.keep (m:=⟨h,lg,[]⟩) (m':=⟨h5,lg5,[]⟩) hv kpv).len
        have r5:=rndl l.length
        refine Wc_bx ?_
        simp+contextual -implicitDefEqProofs (maxSteps:=1000000) (maxDischargeDepth:=20) only[go_sem,simprocAttr,r5,r,lv5,List.length_map,e_n,e_e,e_r]
        exact ⟨(nb h3 0,none),rfl,kpv,by rw[rn];exact n5,Nat.le_trans kp.len nb_ge,.inl rfl⟩
    · obtain ⟨b,c⟩:=x
      obtain ⟨h3,lg3,d3⟩:=m
      obtain ⟨kp,hb,bge,hcap⟩:=hP
      obtain rfl:d3=[]:=kp.dfrs
      simp only at hb bge hcap
      refine Wc_bx ?_
      simp+contextual -implicitDefEqProofs (maxSteps:=1000000) (maxDischargeDepth:=20) only[go_sem,simprocAttr]
      exact ⟨kp.sub,.some b 0 c true _ (by rw[List.length_map,rounds_len]) hb (by rw[List.drop_zero,List.take_length]) (fun k hk=>by rw[List.length_map,rounds_len];rcases hcap with e |e;rw[e] at hk;cases hk;rw[e] at hk;cases hk;exact Nat.le_refl _)⟩
end
section
variable {F:FuncId→Option AFunc} {meth:Meth} {sm:Summ}
def H130 (sm:Summ):Prop:= ∀ (l:List ConD) (v:AV) (z:Int) (m:Mem),SlAt m.blks 6 v (l.map conC)→l.length≤1000000→(planE l).1=0→(1≤z∧z≤1200)→sm 130 [v,.int .i64 0,.int .i64 z] m=some (.int .i64 0,m)
theorem e130 (hF:F 130=some AF130) (hs: ∀ vs m,sm 130 vs m=none) (n:Nat) (h:Blks) (lg d:List Nat) (h63:H63 sm) {l:List ConD} {v:AV} {z:Int} (hv:SlAt h 6 v (l.map conC)) (hw:l.length≤1000000) (hp:(planE l).1=0) (hz:1≤z∧z≤1200):Ev F meth sm (n+2000) 130 [v,.int .i64 0,.int .i64 z] ⟨h,lg,d⟩ (.int .i64 0):=by
  refine Ev.ofW ?_
  have g1:=fun l' lg d=>h63 l v ⟨bxt h l',lg,d⟩ (hv.bx l') hw
  rw[hp] at g1
  have z1:(z<1)=False:=by simp;omega
  have z2:(1200<z)=False:=by simp;omega
  simp+contextual -implicitDefEqProofs (maxSteps:=1000000) (maxDischargeDepth:=20) only[go_sem,simprocAttr,hs,hF,AF130,g1,z1,z2]
def H96 (sm:Summ):Prop:= ∀ (l:List ConD) (v:AV) (s t:Nat) (z:Int) (m:Mem),SlAt m.blks 6 v (l.map conC)→l.length≤1000000→(planE l).1=0→(1≤s∧s≤16)→(1≤t∧t≤16)→(1≤z∧z≤1200)→sm 96 [v,.int .i64 s,.int .i64 t,.int .i64 0,.int .i64 z] m=some (.int .i64 0,m)
theorem e96 (hF:F 96=some AF96) (hs: ∀ vs m,sm 96 vs m=none) (n:Nat) (h:Blks) (lg d:List Nat) (h130:H130 sm) (h131:H131 sm) {l:List ConD} {v:AV} {s t:Nat} {z:Int} (hv:SlAt h 6 v (l.map conC)) (hw:l.length≤1000000) (hp:(planE l).1=0) (hs0:1≤s∧s≤16) (ht0:1≤t∧t≤16) (hz:1≤z∧z≤1200):Ev F meth sm (n+2000) 96 [v,.int .i64 s,.int .i64 t,.int .i64 0,.int .i64 z] ⟨h,lg,d⟩ (.int .i64 0):=by
  refine Ev.ofW ?_
  have g1:=fun l' lg d=>h130 l v z ⟨bxt h l',lg,d⟩ (hv.bx l') hw hp hz
  have g2:=fun m=>h131 (s:Int) m
  have g3:=fun m=>h131 (t:Int) m
  rw[decide_eq_true (by omega)] at g2 g3
  simp+contextual -implicitDefEqProofs (maxSteps:=1000000) (maxDischargeDepth:=20) only[go_sem,simprocAttr,hs,hF,AF96,g1,g2,g3]
def H66 (sm:Summ):Prop:= ∀ (l:List ConD) (v:AV) (s t:Nat) (z:Int) (m:Mem),SlAt m.blks 6 v (l.map conC)→l.length≤40→(planE l).1=0→(∀ c∈l,conOK c)→(1≤s∧s≤16)→(1≤t∧t≤16)→(1≤z∧z≤1200)→sm 66 [v,.int .i64 s,.int .i64 t,.int .i64 0,.int .i64 z] m=some (.tuple [.bool (decide (isR l z s t)),.int .i64 0],m)
theorem e66 (hF:F 66=some AF66) (hs: ∀ vs m,sm 66 vs m=none) (n:Nat) (h:Blks) (lg d:List Nat) (h96:H96 sm) (s97: ∀ vs m,sm 97 vs m=none) (F97:F 97=some AF97) (h132:H132 sm) {l:List ConD} {v:AV} {s t:Nat} {z:Int} (hv:SlAt h 6 v (l.map conC)) (hw:l.length≤40) (hp:(planE l).1=0) (hc: ∀ c∈l,conOK c) (hs0:1≤s∧s≤16) (ht0:1≤t∧t≤16) (hz:1≤z∧z≤1200):
    Ev F meth sm (n+2000) 66 [v,.int .i64 s,.int .i64 t,.int .i64 0,.int .i64 z] ⟨h,lg,d⟩ (.tuple [.bool (decide (isR l z s t)),.int .i64 0]):=by
  refine Ev.ofW ?_
  have g1:=fun l' lg d=>h96 l v s t z ⟨bxt h l',lg,d⟩ (hv.bx l') (by omega) hp hs0 ht0 hz
  simp+contextual -implicitDefEqProofs (maxSteps:=1000000) (maxDischargeDepth:=20) only[go_sem,simprocAttr,hs,hF,AF66,g1]
  rw[←w_a]
  refine Wa_k (e97 F97 s97 (n+499) _ _ _ h132 hv (by omega) hc hs0 (by omega) hz) (fun w h2 lg2 k2 hw=> ?_)
  have rl:=rounds_len l z 0 s 16
  have e:=SlAt.el (i:=t) hw (by rw[rl];omega)
  unfold iC at e
  show Kc _ _ _ _ _ _ _ _ _ ⟨bxt h2 [],lg2,[]⟩
  simp+contextual -implicitDefEqProofs (maxSteps:=1000000) (maxDischargeDepth:=20) only[go_sem,simprocAttr,e]
  exact ⟨rfl,k2.sub⟩
end
end Go.Abs
end
