/- Functions of the program on symbolic values: part f.
   Conditions: none. -/
import Derived.Test.YtdmofemokgboeaaGreatDoorQe
set_option linter.unusedSimpArgs false
set_option linter.unusedVariables false
set_option maxRecDepth 100000
set_option maxHeartbeats 16000000
noncomputable section
namespace Go.Abs
section
variable {F:FuncId→Option AFunc} {meth:Meth} {sm:Summ}
theorem r_oF (full:Bool) (rd msk:List Nat) (h:Blks) (nid:Nat) (T:Tr) (k:Nat) (x:AOpnd):Ro full rd msk h nid T (.fieldA k x)=afa k (aev T x):=by cases full <;>rfl
theorem r_oL (full:Bool) (rd msk:List Nat) (h:Blks) (nid:Nat) (T:Tr) (a:Bool) (n:Nat) (x:AOpnd):Ro full rd msk h nid T (.load a n x)=cond full (ald (bget h) a n (aev T x)) (ald (fun b=>cond (ins rd b && !ins msk b) (bget h b) none) a n (aev T x)):=by cases full <;>rfl
theorem r_oM (full:Bool) (rd msk:List Nat) (h:Blks) (nid:Nat) (T:Tr) (x:AOpnd):Ro full rd msk h nid T (.mv x)=some (aev T x,[]):=by cases full <;>rfl
theorem ins_app: ∀ (a b:List Nat) (k:Nat),ins (a++b) k=(ins a k ||ins b k)
  | [],b,k=>by simp[ins]
  | x::a,b,k=>by
    rw[List.cons_append,ins,ins]
    cases h:Nat.beq x k with
    |true=>simp
    |false=>simp only[cond_false];exact ins_app a b k
theorem Keep.insl {h h2:Blks} {lg2 d d2:List Nat} (k:Keep ⟨h,[],d⟩ ⟨h2,lg2,d2⟩) {b:Nat} (hb:b<h.length):ins lg2 b=false:=by
  cases hq:ins lg2 b with
  |false=>rfl
  | true=>
    obtain ⟨q,h1,h2⟩:=k.log
    simp only[List.append_nil] at h1 h2
    subst h1
    have:=h2 _ ((ins_iff _ _).1 hq)
    omega
theorem Keep.lg {a b:Blks} {l x y:List Nat} (k:Keep ⟨a,[],x⟩ ⟨b,l,y⟩) (L d:List Nat):Keep ⟨a,L,d⟩ ⟨b,l++L,d⟩ where
  len:=k.len
  get:=k.get
  dfrs:=rfl
  log:=by
    obtain ⟨q,h1,h2⟩:=k.log
    simp only[List.append_nil] at h1
    subst h1
    exact ⟨l,rfl,h2⟩
def NoOsl (v:AV):Prop:= ∀ n,v≠ .osl n
theorem SlAt.els {h:Blks} {e:Nat} {v:AV} {es:List (List AV)} (H:SlAt h e v es) (l:List (Option ABlk)):elemsOf (bget (bxt h l)) e v=Option.some es:=by
  rcases H with ⟨rfl,rfl |rfl |rfl⟩|⟨b,i,c,own,rows,rfl,hb,hw,hk⟩
  · rfl
  · rfl
  · rfl
  · cases es with
    |nil=>rfl
    | cons y ys=>
      rw[List.length_cons,els_s,bxt_old l h b (bget_lt hb),hb]
      simp only[winGet]
      have hlen:i+(ys.length+1)≤rows.length:=by
        have:=congrArg List.length hw
        simp only[List.length_take,List.length_drop,List.length_cons] at this
        omega
      rw[List.length_cons] at hw
      simp[hw,hlen]
theorem SlAt.chgd {P:Nat→Prop} {m m':Mem} {e:Nat} {v:AV} {es:List (List AV)} (H:SlAt m.blks e v es) (k:Chgd P m m') (hn: ∀ c∈v.refs,¬ P c):SlAt m'.blks e v es:=by
  rcases H with ⟨h1,h2⟩|⟨b,i,c,own,rows,hv,hb,hw,hc⟩
  · exact .none h1 h2
  · exact .some b i c own rows hv ((k.get b (bget_lt hb) (hn b (by rw[hv];simp[AV.refs]))).trans hb) hw hc
def cmpFT (a b:ConD):Int:=orI [cmpI a.f b.f,cmpI a.t b.t]
theorem cmpFT_neg {a b:ConD} (ha:1≤a.t∧a.t≤16) (hb:1≤b.t∧b.t≤16):cmpFT a b<0↔kp (a.f,a.t)<kp (b.f,b.t):=by
  unfold cmpFT orI orI orI cmpI kp
  simp only
  repeat' split
  all_goals omega
def H44 (sm:Summ):Prop:= ∀ (s:ScX) (i j bs:Nat) (own:Bool) (m:Mem),ScAt m.blks s→s.pl.length≤1000→i<s.pl.length→j<s.pl.length→bget m.blks bs=some (.row own 3 [scC s])→sm 44 [.int .i64 i,.int .i64 j,.ptr bs 0 0] m=some (.int .i64 (cmpFT (gt s.pl i) (gt s.pl j)),m)
theorem e44 (hF:F 44=some AF44) (hs: ∀ vs m,sm 44 vs m=none) (n:Nat) (h:Blks) (lg d:List Nat) (h46:H46 sm) (h45:H45 sm) {s:ScX} {i j bs:Nat} {own:Bool} (H:ScAt h s) (hw:s.pl.length≤1000) (hi:i<s.pl.length) (hj:j<s.pl.length) (hbs:bget h bs=some (.row own 3 [scC s])):
    Ev F meth sm (n+2000) 44 [.int .i64 i,.int .i64 j,.ptr bs 0 0] ⟨h,lg,d⟩ (.int .i64 (cmpFT (gt s.pl i) (gt s.pl j))):=by
  refine Ev.ofW ?_
  have hbs':=fun l=>(bxt_old l h bs (bget_lt hbs)).trans hbs
  have ei:=H.p.el hi
  have ej:=H.p.el hj
  have g1:=fun x y=>h46 x y
  have g2:=fun l lg d (q:bnth l 0=some (.row true 1 [[.int .i64 (cmpI (gt s.pl i).f (gt s.pl j).f)],[.int .i64 (cmpI (gt s.pl i).t (gt s.pl j).t)]]))=>h45 [cmpI (gt s.pl i).f (gt s.pl j).f,cmpI (gt s.pl i).t (gt s.pl j).t] (.slice (nb h 0) 0 2 (some 2)) ⟨bxt h l,lg,d⟩ (.some (nb h 0) 0 (some 2) true _ rfl (by rw[nb_get,q]) rfl (fun _ h=>by cases h;simp)) (by simp)
  have tp:=H.p.top
  have nb1:=fun k=>nb_beq_ne (k:=k) (bget_lt hbs)
  unfold scC at hbs'
  unfold conC at ei ej
  simp+contextual -implicitDefEqProofs (maxSteps:=1000000) (maxDischargeDepth:=20) only[go_sem,simprocAttr,hs,hF,AF44,hbs',o_ldg,ei,ej,g1,g2,tp,nb1,r_oF,r_oL,r_oM,r_vc,r_vp,mskO,Mem.more,bmore,nb_more,List.filter_nil,List.flatMap_nil,List.filter_cons,List.flatMap_cons,List.map_nil,List.map_cons,mask,unmask,AOp.reads,AOpnd.top,top_p,top_s,top_m,top_i,top_b,top_t,top_a,top_u,top_ns,top_s0,top_d,top_f,nb_beq,nb_blt,nb_add,nidOf,slotIn,Nat.beq_refl,clash,Bool.or_self,List.any_nil,List.any_cons,AOp.isMaker]
  rfl
end
section
variable {F:FuncId→Option AFunc} {meth:Meth} {sm:Summ}
theorem rgI {out:List Int} {k:Nat} (hk:k<out.length):rowGet 1 (out.map iC) k 0 1=some [.int .i64 (gt out k)]∧(∀ x,rowSet 1 (out.map iC) k 0 [.int .i64 x]=some ((out.set k x).map iC))∧decide (k<out.length)=true:=by
  have e:(out.map iC)[k]? =some (iC (gt out k)):=by rw[List.getElem?_map,List.getElem?_eq_getElem hk,←gt_eq hk];rfl
  refine ⟨?_,fun x=> ?_,by simpa using hk⟩
  · simp only[rowGet,Nat.ble,cond_false,rowGet0,e];rfl
  · simp only[rowSet,Nat.ble,cond_false,rowSet0,e,List.length_cons,List.length_nil,List.map_set];rfl
def kS (s:ScX):Int→Int:=fun i=>kp (cP s.pl i)
def RSo (m0:Mem) (b:Nat) (R:List Int):AV→Mem→Prop:=fun _ m=>Chgd (· =b) m0 m∧bget m.blks b=some (.row true 1 (R.map iC))
theorem e98 (hF:F 98=some AF98) (hs: ∀ vs m,sm 98 vs m=none) (n:Nat) (h:Blks) (lg d:List Nat) (h44:H44 sm) {s:ScX} {bs b:Nat} {own:Bool} {L:List Int} (H:ScAt h s) (hw:s.pl.length≤1000) (hb:bget h b=some (.row true 1 (L.map iC))) (hbs:bget h bs=some (.row own 3 [scC s])) (hL: ∀ x∈L,0≤x∧x<s.pl.length) (hn:L.length≤900) (ht: ∀ c∈s.pl,1≤c.t∧c.t≤16):
    Wa F meth sm (n+1000) (.fn 98) [.slice b 0 L.length none,.int .i64 0,.int .i64 L.length,.func 44 [] [.ptr bs 0 0]] ⟨bxt h [],lg,d⟩ (RSo ⟨h,lg,d⟩ b (isort (kS s) (L.length - 1) L)):=by
  have nbs:bs≠b:=fun e=>by rw[e,hb] at hbs;simp at hbs
  have np:=H.p.nrefs hb (by decide)
  have nc:=H.c.nrefs hb (by decide)
  have nm:=H.m.nrefs hb (by decide)
  have wn:IntKind.i64.wrap (0+1)=1:=wrapI (by omega) (by omega)
  simp+contextual -implicitDefEqProofs (maxSteps:=1000000) (maxDischargeDepth:=20) only[go_sem,simprocAttr,hs,hF,AF98]
  refine WloopV (L.length - 1) [X8] (fun r=> [.int .i64 ((r+1:Nat):Int)]) (fun r m=>Chgd (· =b) ⟨h,lg,[]⟩ m∧bget m.blks b=some (.row true 1 ((isort (kS s) r L).map iC))) (by omega) (by repeat first |apply Cl_b |apply Cl_q |apply Cl_r) ⟨rfl,Chgd.refl _ _,hb⟩ (fun r m g hr hP=> ?_) (fun m g hP=> ?_)
  · obtain ⟨h3,lg3,d3⟩:=m
    obtain ⟨k,b3⟩:=hP
    obtain rfl:d3=[]:=k.dfrs
    simp only at b3
    have i1:(((r+1:Nat):Int)<(L.length:Int))=True:=by simp;omega
    have w2:IntKind.i64.wrap (((r+1:Nat):Int)+1)=((r+1+1:Nat):Int):=by rw[wrapI (by omega) (by omega)];omega
    have pm:(isort (kS s) r L).Perm L:=isort_perm r L (by omega)
    have st:isort (kS s) (r+1) L=sink (kS s) (r+1) (isort (kS s) r L):=rfl
    generalize isort (kS s) r L=c0 at*
    generalize htg:isort (kS s) (r+1) L=tg at*
    refine Wc_bx ?_
    simp+contextual -implicitDefEqProofs (maxSteps:=1000000) (maxDischargeDepth:=20) only[go_sem,simprocAttr,i1]
    refine WloopV (r+1) [X9] (fun q=> [.int .i64 ((r+1 - q:Nat):Int)]) (fun q m=>Chgd (· =b) ⟨h,lg,[]⟩ m∧ ∃ cur:List Int,cur.Perm L∧bget m.blks b=some (.row true 1 (cur.map iC))∧tg=sink (kS s) (r+1 - q) cur) (by omega) (by repeat first |apply Cl_b |apply Cl_q |apply Cl_r |apply Cl_v) ⟨rfl,k,c0,pm,b3,st⟩ (fun q m g hq hP=> ?_) (fun m g hP=> ?_)
    · obtain ⟨h5,lg5,d5⟩:=m
      obtain ⟨k5,cur,pc,b5,tgc⟩:=hP
      obtain rfl:d5=[]:=k5.dfrs
      simp only at b5
      obtain ⟨j,hj⟩: ∃ j,r+1 - q=j+1:=⟨r - q,by omega⟩
      have hj2:r+1 - (q+1)=j:=by omega
      rw[hj] at tgc ⊢
      rw[hj2]
      have lc:=pc.length_eq
      have hj0:j+1<cur.length:=by omega
      have H5:ScAt h5 s:=⟨SlAt.chgd (m:=⟨h,lg,[]⟩) (m':=⟨h5,lg5,[]⟩) H.c k5 nc,SlAt.chgd (m:=⟨h,lg,[]⟩) (m':=⟨h5,lg5,[]⟩) H.p k5 np,SlAt.chgd (m:=⟨h,lg,[]⟩) (m':=⟨h5,lg5,[]⟩) H.m k5 nm⟩
      have bs5:bget h5 bs=some (.row own 3 [scC s]):=(k5.get bs (bget_lt hbs) nbs).trans hbs
      have g0:((0:Int)<((j+1:Nat):Int))=True:=eq_true (by omega)
      have w3:IntKind.i64.wrap (((j+1:Nat):Int) - 1)=((j:Nat):Int):=by rw[wrapI (by omega) (by omega)];omega
      have r1:=rgI hj0
      have r2:=rgI (show j<cur.length by omega)
      have r3:=rgI (out:=cur.set (j+1) (gt cur j)) (show j<(cur.set (j+1) (gt cur j)).length by rw[List.length_set];omega)
      have b5':=fun l=>(bxt_old l h5 _ (bget_lt b5)).trans b5
      have o:=old_blk (bget_lt b5)
      have nb1:=fun k=>nb_beq_ne (k:=k) (bget_lt b5)
      have v1:=hL (gt cur (j+1)) (pc.mem_iff.1 (by rw[gt_eq hj0];exact List.getElem_mem _))
      have v2:=hL (gt cur j) (pc.mem_iff.1 (by rw[gt_eq (show j<cur.length by omega)];exact List.getElem_mem _))
      have g44:=fun l lg d=>h44 s (gt cur (j+1)).toNat (gt cur j).toNat bs own ⟨bxt h5 l,lg,d⟩ (H5.bx l) hw (by omega) (by omega) ((bxt_old l h5 bs (bget_lt bs5)).trans bs5)
      rw[Int.toNat_of_nonneg v1.1,Int.toNat_of_nonneg v2.1] at g44
      have sg:cmpFT (gt s.pl (gt cur (j+1)).toNat) (gt s.pl (gt cur j).toNat)<0↔kS s (gt cur (j+1))<kS s (gt cur j):=cmpFT_neg (ht _ (by rw[gt_eq (show (gt cur (j+1)).toNat<s.pl.length by omega)];exact List.getElem_mem _)) (ht _ (by rw[gt_eq (show (gt cur j).toNat<s.pl.length by omega)];exact List.getElem_mem _))
      rw[lc] at r1 r2
      refine Wc_bx ?_
      rw[sink] at tgc
      by_cases cs:kS s (gt cur (j+1))<kS s (gt cur j)
      · have cs':=eq_true (sg.2 cs)
        rw[if_pos cs] at tgc
        simp+contextual -implicitDefEqProofs (maxSteps:=1000000) (maxDischargeDepth:=20) only[go_sem,simprocAttr,g0,w3,b5',↓r1,↓r2,↓r3,r1,r2,g44,cs',o,o_ldg,nb1,r_vc,r_vp,mskO,Mem.more,bmore,nb_more,List.filter_nil,List.flatMap_nil,List.filter_cons,List.flatMap_cons,List.map_nil,List.map_cons,mask,unmask,AOp.reads,AOpnd.top,top_p,top_s,top_m,top_i,top_b,top_t,top_a,top_u,top_ns,top_s0,top_d,top_f,nb_beq,nb_blt,nb_add,nidOf,slotIn,Nat.beq_refl,clash,Bool.or_self,List.any_nil,List.any_cons,AOp.isMaker]
        exact ⟨k5.trans (chgd_put (P:=(· =b)) (bget_lt b5) rfl _ _ (.cons (.inl rfl) (.cons (.inl rfl) .nil))) (fun x e=> .inl e),swp cur (j+1),(swp_perm hj0).trans pc,rfl,tgc⟩
      · have cs':=eq_false (fun x=>cs (sg.1 x))
        rw[if_neg cs] at tgc
        simp+contextual -implicitDefEqProofs (maxSteps:=1000000) (maxDischargeDepth:=20) only[go_sem,simprocAttr,g0,w3,b5',↓r1,↓r2,r1,r2,g44,cs',o,o_ldg,nb1,w2,r_vc,r_vp,mskO,Mem.more,bmore,nb_more,List.filter_nil,List.flatMap_nil,List.filter_cons,List.flatMap_cons,List.map_nil,List.map_cons,mask,unmask,AOp.reads,AOpnd.top,top_p,top_s,top_m,top_i,top_b,top_t,top_a,top_u,top_ns,top_s0,top_d,top_f,nb_beq,nb_blt,nb_add,nidOf,slotIn,Nat.beq_refl,clash,Bool.or_self,List.any_nil,List.any_cons,AOp.isMaker]
        exact ⟨k5,by rw[tgc]⟩
    · obtain ⟨h5,lg5,d5⟩:=m
      obtain ⟨k5,cur,pc,b5,tgc⟩:=hP
      obtain rfl:d5=[]:=k5.dfrs
      simp only at b5
      rw[Nat.sub_self] at tgc ⊢
      refine Wc_bx ?_
      simp+contextual -implicitDefEqProofs (maxSteps:=1000000) (maxDischargeDepth:=20) only[go_sem,simprocAttr,w2]
      rw[sink] at tgc
      exact ⟨k5,by rw[tgc];exact b5⟩
  · obtain ⟨h3,lg3,d3⟩:=m
    obtain ⟨k,b3⟩:=hP
    obtain rfl:d3=[]:=k.dfrs
    simp only at b3
    have i1:(((L.length - 1+1:Nat):Int)<(L.length:Int))=False:=by simp;omega
    refine Wc_bx ?_
    simp+contextual -implicitDefEqProofs (maxSteps:=1000000) (maxDischargeDepth:=20) only[go_sem,simprocAttr,i1]
    exact ⟨k.sub,b3⟩
end
section
variable {F:FuncId→Option AFunc} {meth:Meth} {sm:Summ}
def blN (x:Int):Int:=if x=0 then 0 else if x<2 then 1 else if x<4 then 2 else if x<8 then 3 else 4
def H107 (sm:Summ):Prop:= ∀ (x:Int) (m:Mem),(0≤x∧x≤12)→sm 107 [.int .u64 x] m=some (.int .i64 (blN x),m)
theorem e107 (hF:F 107=some AF107) (hs: ∀ vs m,sm 107 vs m=none) (n:Nat) (h:Blks) (lg d:List Nat) {x:Int} (hx:0≤x∧x≤12):Ev F meth sm (n+2000) 107 [.int .u64 x] ⟨h,lg,d⟩ (.int .i64 (blN x)):=by
  refine Ev.ofW ?_
  rcases (by omega:x=0∨x=1∨x=2∨x=3∨x=4∨x=5∨x=6∨x=7∨x=8∨x=9∨x=10∨x=11∨x=12) with rfl |rfl |rfl |rfl |rfl |rfl |rfl |rfl |rfl |rfl |rfl |rfl |rfl
  all_goals
    have w8: ∀ k:Int,0≤k→k≤255→IntKind.u8.wrap k=k:=fun k a b=>by
      simp only[IntKind.wrap,IntKind.bits,IntKind.signed]
      simp
      omega
    have v0:=w8 0 (by omega) (by omega)
    have v1:=w8 1 (by omega) (by omega)
    have v2:=w8 2 (by omega) (by omega)
    have v3:=w8 3 (by omega) (by omega)
    have v4:=w8 4 (by omega) (by omega)
    have v5:=w8 5 (by omega) (by omega)
    have v6:=w8 6 (by omega) (by omega)
    have v7:=w8 7 (by omega) (by omega)
    have v8:=w8 8 (by omega) (by omega)
    have v9:=w8 9 (by omega) (by omega)
    have v10:=w8 10 (by omega) (by omega)
    have v11:=w8 11 (by omega) (by omega)
    have v12:=w8 12 (by omega) (by omega)
    simp+contextual -implicitDefEqProofs (maxSteps:=1000000) (maxDischargeDepth:=20) only[go_sem,simprocAttr,hs,hF,AF107,v0,v1,v2,v3,v4,v5,v6,v7,v8,v9,v10,v11,v12,List.getElem?_cons_zero,List.getElem?_cons_succ,UInt8.reduceToNat,Int.cast_ofNat_Int,blN]
end
section
variable {F:FuncId→Option AFunc} {meth:Meth} {sm:Summ}
def H69 (sm:Summ):Prop:= ∀ (x:Int) (m:Mem),(0≤x∧x≤12)→sm 69 [.int .u64 x] m=some (.int .i64 (blN x),m)
theorem e69 (hF:F 69=some AF69) (hs: ∀ vs m,sm 69 vs m=none) (n:Nat) (h:Blks) (lg d:List Nat) (h107:H107 sm) {x:Int} (hx:0≤x∧x≤12):Ev F meth sm (n+2000) 69 [.int .u64 x] ⟨h,lg,d⟩ (.int .i64 (blN x)):=by
  refine Ev.ofW ?_
  have g:=fun m=>h107 x m hx
  simp+contextual -implicitDefEqProofs (maxSteps:=1000000) (maxDischargeDepth:=20) only[go_sem,simprocAttr,hs,hF,AF69,g]
theorem e98n (hF:F 98=some AF98) (hs: ∀ vs m,sm 98 vs m=none) (n:Nat) (h:Blks) (lg d:List Nat) {w:AV}:Wa F meth sm (n+1000) (.fn 98) [.nilslice,.int .i64 0,.int .i64 0,w] ⟨bxt h [],lg,d⟩ (fun _ m=>Keep ⟨h,lg,d⟩ m):=by
  have wn:IntKind.i64.wrap (0+1)=1:=wrapI (by omega) (by omega)
  simp+contextual -implicitDefEqProofs (maxSteps:=1000000) (maxDischargeDepth:=20) only[go_sem,simprocAttr,hs,hF,AF98]
  refine WloopV 0 [X8] (fun r=> [.int .i64 1]) (fun r m=>Keep ⟨h,lg,[]⟩ m) (by omega) (by repeat first |apply Cl_b |apply Cl_q |apply Cl_r) ⟨rfl,Keep.refl _⟩ (fun r m g hr hP=>absurd hr (by omega)) (fun m g hP=> ?_)
  obtain ⟨h3,lg3,d3⟩:=m
  obtain rfl:d3=[]:=hP.dfrs
  refine Wc_bx ?_
  simp+contextual -implicitDefEqProofs (maxSteps:=1000000) (maxDischargeDepth:=20) only[go_sem,simprocAttr]
  exact hP.sub
theorem e68 (hF:F 68=some AF68) (hs: ∀ vs m,sm 68 vs m=none) (n:Nat) (h:Blks) (lg d:List Nat) (s98: ∀ vs m,sm 98 vs m=none) (F98:F 98=some AF98) (h44:H44 sm) {s:ScX} {bs b:Nat} {own:Bool} {L:List Int} {x:Int} (H:ScAt h s) (hw:s.pl.length≤1000) (hb:bget h b=some (.row true 1 (L.map iC))) (hbs:bget h bs=some (.row own 3 [scC s])) (hL: ∀ x∈L,0≤x∧x<s.pl.length) (hn:L.length≤12) (ht: ∀ c∈s.pl,1≤c.t∧c.t≤16):
    Wa F meth sm (n+1200) (.fn 68) [.slice b 0 L.length none,.int .i64 0,.int .i64 L.length,.int .i64 x,.func 44 [] [.ptr bs 0 0]] ⟨bxt h [],lg,d⟩ (RSo ⟨h,lg,d⟩ b (isort (kS s) (L.length - 1) L)):=by
  have w1:IntKind.i64.wrap ((L.length:Int) - 0)=(L.length:Int):=wrapI (by omega) (by omega)
  have w1':IntKind.i64.wrap (L.length:Int)=(L.length:Int):=wrapI (by omega) (by omega)
  have l12:((L.length:Int)≤12)=True:=by simp;omega
  simp+contextual -implicitDefEqProofs (maxSteps:=1000000) (maxDischargeDepth:=20) only[go_sem,simprocAttr,hs,hF,AF68]
  refine Wunroll 0 (by omega) ?_
  simp+contextual -implicitDefEqProofs (maxSteps:=1000000) (maxDischargeDepth:=20) only[go_sem,simprocAttr,w1,w1',Int.sub_zero,l12]
  rw[←w_a]
  refine Wa_mono _ _ _ _ _ _ (fun v m' R=> ?_) (e98 F98 s98 (n+199) h lg [] h44 H hw hb hbs hL (by omega) ht)
  obtain ⟨k2,b2⟩:=R
  obtain ⟨h2,lg2,d2⟩:=m'
  obtain rfl:d2=[]:=k2.dfrs
  simp only at b2
  show Kc _ _ _ _ _ _ _ _ _ ⟨bxt h2 [],lg2,[]⟩
  simp+contextual -implicitDefEqProofs (maxSteps:=1000000) (maxDischargeDepth:=20) only[go_sem,simprocAttr]
  exact ⟨k2.sub,b2⟩
theorem e68n (hF:F 68=some AF68) (hs: ∀ vs m,sm 68 vs m=none) (n:Nat) (h:Blks) (lg d:List Nat) (s98: ∀ vs m,sm 98 vs m=none) (F98:F 98=some AF98) {x:Int} {w:AV}:Wa F meth sm (n+1200) (.fn 68) [.nilslice,.int .i64 0,.int .i64 0,.int .i64 x,w] ⟨bxt h [],lg,d⟩ (fun _ m=>Keep ⟨h,lg,d⟩ m):=by
  simp+contextual -implicitDefEqProofs (maxSteps:=1000000) (maxDischargeDepth:=20) only[go_sem,simprocAttr,hs,hF,AF68]
  refine Wunroll 0 (by omega) ?_
  simp+contextual -implicitDefEqProofs (maxSteps:=1000000) (maxDischargeDepth:=20) only[go_sem,simprocAttr,wn_0]
  rw[←w_a]
  refine Wa_mono _ _ _ _ _ _ (fun v m' R=> ?_) (e98n F98 s98 (n+199) h lg [])
  obtain ⟨h2,lg2,d2⟩:=m'
  obtain rfl:d2=[]:=R.dfrs
  show Kc _ _ _ _ _ _ _ _ _ ⟨bxt h2 [],lg2,[]⟩
  simp+contextual -implicitDefEqProofs (maxSteps:=1000000) (maxDischargeDepth:=20) only[go_sem,simprocAttr]
  exact R.sub
def PS (k:Nat) (h:Blks) (L:List Int):Nat→Prop:=fun b=>k≤b∧bget h b=some (.row true 1 (L.map iC))
def RSv (m0:Mem) (k:Nat) (L:List Int) (v:AV) (R:List Int):AV→Mem→Prop:=fun _ m=>Chgd (PS k m0.blks L) m0 m∧OutAt k m.blks 1 v (R.map iC)
theorem e43 (hF:F 43=some AF43) (hs: ∀ vs m,sm 43 vs m=none) (n:Nat) (h:Blks) (lg d:List Nat) (s98: ∀ vs m,sm 98 vs m=none) (F98:F 98=some AF98) (s68: ∀ vs m,sm 68 vs m=none) (F68:F 68=some AF68) (h69:H69 sm) (h44:H44 sm) {s:ScX} {bs k:Nat} {own:Bool} {L:List Int} {v:AV} (H:ScAt h s) (hw:s.pl.length≤1000) (hv:OutAt k h 1 v (L.map iC)) (hbs:bget h bs=some (.row own 3 [scC s])) (hL: ∀ x∈L,0≤x∧x<s.pl.length) (hn:L.length≤12) (ht: ∀ c∈s.pl,1≤c.t∧c.t≤16):
    Wa F meth sm (n+1500) (.fn 43) [v,.func 44 [] [.ptr bs 0 0]] ⟨bxt h [],lg,d⟩ (RSv ⟨h,lg,d⟩ k L v (isort (kS s) (L.length - 1) L)):=by
  have lv:=hv.sl.len
  rw[List.length_map] at lv
  have u1:IntKind.u64.wrap (L.length:Int)=(L.length:Int):=wrapU (by omega) (by omega)
  have g69:=fun m=>h69 (L.length:Int) m (by omega)
  rcases hv with ⟨hn0,rfl⟩|⟨b,rfl,hk,hb⟩
  · have L0:L=[]:=List.map_eq_nil_iff.1 hn0
    subst L0
    have g690:=fun m=>h69 0 m (by omega)
    simp+contextual -implicitDefEqProofs (maxSteps:=1000000) (maxDischargeDepth:=20) only[go_sem,simprocAttr,hs,hF,AF43,wrapU,g690]
    rw[←w_a]
    refine Wa_mono _ _ _ _ _ _ (fun v m' R=> ?_) (e68n F68 s68 (n+299) h lg [] s98 F98)
    obtain ⟨h2,lg2,d2⟩:=m'
    obtain rfl:d2=[]:=R.dfrs
    show Kc _ _ _ _ _ _ _ _ _ ⟨bxt h2 [],lg2,[]⟩
    simp+contextual -implicitDefEqProofs (maxSteps:=1000000) (maxDischargeDepth:=20) only[go_sem,simprocAttr]
    exact ⟨R.sub.chgd,.nil rfl rfl⟩
  · rw[List.length_map] at lv ⊢
    simp+contextual -implicitDefEqProofs (maxSteps:=1000000) (maxDischargeDepth:=20) only[go_sem,simprocAttr,hs,hF,AF43,u1,g69]
    rw[←w_a]
    refine Wa_mono _ _ _ _ _ _ (fun v m' R=> ?_) (e68 F68 s68 (n+299) h lg [] s98 F98 h44 H hw hb hbs hL hn ht)
    obtain ⟨k2,b2⟩:=R
    obtain ⟨h2,lg2,d2⟩:=m'
    obtain rfl:d2=[]:=k2.dfrs
    simp only at b2
    show Kc _ _ _ _ _ _ _ _ _ ⟨bxt h2 [],lg2,[]⟩
    simp+contextual -implicitDefEqProofs (maxSteps:=1000000) (maxDischargeDepth:=20) only[go_sem,simprocAttr]
    refine ⟨Chgd.trans (P:=PS k h L) (Chgd.refl _ _) k2.sub (fun x hx=> .inl ⟨by rw[hx];exact hk,by rw[hx];exact hb⟩),.some b (by rw[List.length_map,isort_len]) hk b2⟩
end
section
variable {F:FuncId→Option AFunc} {meth:Meth} {sm:Summ}
theorem ap0_n (get:Nat→Option ABlk) (nid e bt:Nat) (x:AV) (h1:elemsOf get e x=some []):aappend get nid e bt .slice0 x=some (.slice0,[]):=by
  simp only[aappend,h1]
theorem ap0_c (get:Nat→Option ABlk) (nid e bt:Nat) (x:AV) (es:List (List AV)) (h1:elemsOf get e x=some es) (h2:es≠ []) (h3:es.length*bt≤roomMost):aappend get nid e bt .slice0 x=some (.slice nid 0 es.length none,[⟨nid,some (.row true e es),refsLL es⟩]):=by
  cases es with
  |nil=>exact absurd rfl h2
  | cons y ys=>
    simp only[aappend,h1]
    rw[if_pos h3]
theorem els0 (M:Blks) (e:Nat) (x:AV):elemsOf (fun b=>bif ins x.top b then bget M b else none) e x=elemsOf (bget M) e x:=elems_same fun b hb=>by rw[(ins_iff _ _).2 hb];rfl
theorem osl_s0:NoOsl .slice0:=fun n h=>by cases h
theorem osl_ns:NoOsl .nilslice:=fun n h=>by cases h
theorem osl_s (b i n:Nat) (c:Option Nat):NoOsl (.slice b i n c):=fun k h=>by cases h
def RCp (e:Nat) (es:List (List AV)):AV→Blks→Prop:=fun w h=>SlAt h e w es∧NoOsl w
theorem rcp_new {h:Blks} {e:Nat} {es:List (List AV)} {b n:Nat} (hb:bget h b=some (.row true e es)) (hn:n=es.length):RCp e es (.slice b 0 n none) h:=⟨.some b 0 none true es (by rw[hn]) hb (by rw[List.drop_zero,List.take_length]) (fun _ h=>by cases h),osl_s _ _ _ _⟩
theorem rcp_s0 {h:Blks} {e:Nat}:RCp e [] .slice0 h:=⟨.none rfl (.inr (.inl rfl)),osl_s0⟩
def WCp (F:FuncId→Option AFunc) (meth:Meth) (sm:Summ) (k:FuncId) (e:Nat):Prop:= ∀ (n:Nat) (h:Blks) (lg d:List Nat) (es:List (List AV)) (v:AV),SlAt h e v es→es.length≤10000→NoOsl v→Wa F meth sm (n+100) (.fn k) [v] ⟨bxt h [],lg,d⟩ (Qk ⟨h,lg,d⟩ (RCp e es))
theorem e36 (hF:F 36=some AF36) (hs: ∀ vs m,sm 36 vs m=none) (n:Nat) (h:Blks) (lg d:List Nat) {es:List (List AV)} {v:AV} (hv:SlAt h 6 v es) (hw:es.length≤10000):Wa F meth sm (n+100) (.fn 36) [v] ⟨bxt h [],lg,d⟩ (Qk ⟨h,lg,d⟩ (RCp 6 es)):=by
  have el:=hv.els
  have vc:=hv.sc
  by_cases c:es=[]
  · subst c
    have ap:=fun q nid=>ap0_n (bget (bxt h q)) nid 6 48 v (el q)
    simp+contextual -implicitDefEqProofs (maxSteps:=1000000) (maxDischargeDepth:=20) only[go_sem,simprocAttr,hs,hF,AF36,vc,ap]
    exact ⟨Keep.refl _,rcp_s0⟩
  · have ap:=fun q nid=>ap0_c (bget (bxt h q)) nid 6 48 v es (el q) c (by unfold roomMost;omega)
    simp+contextual -implicitDefEqProofs (maxSteps:=1000000) (maxDischargeDepth:=20) only[go_sem,simprocAttr,hs,hF,AF36,vc,ap]
    exact ⟨keep_bx (by repeat first |exact LogOK.nil |apply LogOK.cons),rcp_new nb_get rfl⟩
theorem e47 (hF:F 47=some AF47) (hs: ∀ vs m,sm 47 vs m=none):WCp F meth sm 47 16:=fun n h lg d es v hv hw hn=>by
  have el:=hv.els
  have vc:=hv.sc
  rcases hv with ⟨rfl,rfl |rfl |rfl⟩|⟨b,i,c,own,rows,rfl,hb,hw',hk⟩
  · simp+contextual -implicitDefEqProofs (maxSteps:=1000000) (maxDischargeDepth:=20) only[go_sem,simprocAttr,hs,hF,AF47]
    exact ⟨Keep.refl _,.none rfl (.inl rfl),osl_ns⟩
  · have ap:=fun q nid=>ap0_n (bget (bxt h q)) nid 16 128 .slice0 (el q)
    simp+contextual -implicitDefEqProofs (maxSteps:=1000000) (maxDischargeDepth:=20) only[go_sem,simprocAttr,hs,hF,AF47,ap]
    exact ⟨Keep.refl _,rcp_s0⟩
  · exact absurd rfl (hn 0)
  · by_cases z:es=[]
    · subst z
      have ap:=fun q nid=>ap0_n (bget (bxt h q)) nid 16 128 (.slice b i 0 c) (el q)
      simp+contextual -implicitDefEqProofs (maxSteps:=1000000) (maxDischargeDepth:=20) only[go_sem,simprocAttr,hs,hF,AF47,ap]
      exact ⟨Keep.refl _,rcp_s0⟩
    · have ap:=fun q nid=>ap0_c (bget (bxt h q)) nid 16 128 (.slice b i es.length c) es (el q) z (by unfold roomMost;omega)
      simp+contextual -implicitDefEqProofs (maxSteps:=1000000) (maxDischargeDepth:=20) only[go_sem,simprocAttr,hs,hF,AF47,ap]
      exact ⟨keep_bx (by repeat first |exact LogOK.nil |apply LogOK.cons),rcp_new nb_get rfl⟩
theorem e48 (hF:F 48=some AF48) (hs: ∀ vs m,sm 48 vs m=none):WCp F meth sm 48 6:=fun n h lg d es v hv hw hn=>by
  have el:=hv.els
  have vc:=hv.sc
  rcases hv with ⟨rfl,rfl |rfl |rfl⟩|⟨b,i,c,own,rows,rfl,hb,hw',hk⟩
  · simp+contextual -implicitDefEqProofs (maxSteps:=1000000) (maxDischargeDepth:=20) only[go_sem,simprocAttr,hs,hF,AF48]
    exact ⟨Keep.refl _,.none rfl (.inl rfl),osl_ns⟩
  · have ap:=fun q nid=>ap0_n (bget (bxt h q)) nid 6 48 .slice0 (el q)
    simp+contextual -implicitDefEqProofs (maxSteps:=1000000) (maxDischargeDepth:=20) only[go_sem,simprocAttr,hs,hF,AF48,ap]
    exact ⟨Keep.refl _,rcp_s0⟩
  · exact absurd rfl (hn 0)
  · by_cases z:es=[]
    · subst z
      have ap:=fun q nid=>ap0_n (bget (bxt h q)) nid 6 48 (.slice b i 0 c) (el q)
      simp+contextual -implicitDefEqProofs (maxSteps:=1000000) (maxDischargeDepth:=20) only[go_sem,simprocAttr,hs,hF,AF48,ap]
      exact ⟨Keep.refl _,rcp_s0⟩
    · have ap:=fun q nid=>ap0_c (bget (bxt h q)) nid 6 48 (.slice b i es.length c) es (el q) z (by unfold roomMost;omega)
      simp+contextual -implicitDefEqProofs (maxSteps:=1000000) (maxDischargeDepth:=20) only[go_sem,simprocAttr,hs,hF,AF48,ap]
      exact ⟨keep_bx (by repeat first |exact LogOK.nil |apply LogOK.cons),rcp_new nb_get rfl⟩
end
section
variable {F:FuncId→Option AFunc} {meth:Meth} {sm:Summ}
structure OwnAt (h:Blks) (s t:ScX):Prop where
  c:t.cf=s.cf
  p:t.pl=s.pl
  m:t.cm=s.cm
  a:ScAt h t
  nc:NoOsl t.cv
  np:NoOsl t.pv
  nm:NoOsl t.mv
def ROw (s:ScX):AV→Blks→Prop:=fun w h=> ∃ t:ScX,w= .agg (scC t)∧OwnAt h s t
theorem e7 (hF:F 7=some AF7) (hs: ∀ vs m,sm 7 vs m=none) (n:Nat) (h:Blks) (lg d:List Nat) (s36: ∀ vs m,sm 36 vs m=none) (F36:F 36=some AF36) {s:ScX} (H:ScAt h s) (hl:ScL s):Wa F meth sm (n+500) (.fn 7) [.agg (scC s)] ⟨bxt h [],lg,d⟩ (Qk ⟨h,lg,d⟩ (ROw s)):=by
  have c1:=H.c.sc
  have c2:=H.p.sc
  have c3:=H.m.sc
  have l1:=hl.c
  have l2:=hl.m
  have l3:=hl.p
  have elc:=H.c.els
  have tc:=H.c.top
  have tp:=H.p.top
  have tm:=H.m.top
  have rm:roomMost=1000000000000:=rfl
  by_cases zc:s.cf=[]
  · rw[zc] at elc
    have ap:=fun q nid=>ap0_n (fun b=>bif ins s.cv.top b then bget (bxt h q) b else none) nid 16 128 s.cv ((els0 _ _ _).trans (elc q))
    simp+contextual -implicitDefEqProofs (maxSteps:=1000000) (maxDischargeDepth:=20) only[go_sem,simprocAttr,hs,hF,AF7,scC,c1,c2,c3,ap,tc,tp,tm,r_oF,r_oL,r_oM,r_vc,r_vp,mskO,Mem.more,bmore,nb_more,List.filter_nil,List.flatMap_nil,List.filter_cons,List.flatMap_cons,List.map_nil,List.map_cons,mask,unmask,AOp.reads,AOpnd.top,top_p,top_s,top_m,top_i,top_b,top_t,top_a,top_u,top_ns,top_s0,top_d,top_f,nb_beq,nb_blt,nb_add,nidOf,slotIn,Nat.beq_refl,clash,Bool.or_self,List.any_nil,List.any_cons,AOp.isMaker]
    rw[←w_a]
    refine Wa_k (e36 F36 s36 (n+399) (bxt h [some (.row true 3 [[s.cv,s.pv,s.mv]]),some (.row true 3 [[.nilslice,.nilslice,.nilslice]]),none,none]) [] [] (H.p.bx _) (by rw[List.length_map];omega)) (fun w h2 lg2 k2 hw=> ?_)
    have kk:Keep ⟨h,lg,d⟩ ⟨h2,lg2++(nb h 1::nb h 0::lg),d⟩:=Keep.trans (b:=⟨bxt h [some (.row true 3 [[s.cv,s.pv,s.mv]]),some (.row true 3 [[.nilslice,.nilslice,.nilslice]]),none,none],(nb h 1::nb h 0::lg),d⟩) (keep_bx (by repeat first |exact LogOK.nil |apply LogOK.cons)) (k2.lg _ _)
    have z0:bget h2 (nb h 0)=some (.row true 3 [[s.cv,s.pv,s.mv]]):=(k2.get _ (by simp only[bxt_len,nb,List.length_cons,List.length_nil];omega)).trans nb_get
    have z1:bget h2 (nb h 1)=some (.row true 3 [[.nilslice,.nilslice,.nilslice]]):=(k2.get _ (by simp only[bxt_len,nb,List.length_cons,List.length_nil];omega)).trans nb_get
    have l0:nb h 0<h2.length:=bget_lt z0
    have l1:nb h 1<h2.length:=bget_lt z1
    have b0:=fun q=>(bxt_old q h2 _ l0).trans z0
    have b1:=fun q=>(bxt_old q h2 _ l1).trans z1
    have i0:ins lg2 (nb h 0)=false:=k2.insl (by simp only[bxt_len,nb,List.length_cons,List.length_nil];omega)
    have i1:ins lg2 (nb h 1)=false:=k2.insl (by simp only[bxt_len,nb,List.length_cons,List.length_nil];omega)
    have Hm:SlAt h2 15 s.mv (s.cm.map cmdC):=SlAt.old H.m kk.old
    have Hp:SlAt h2 6 w (s.pl.map conC):=hw.1
    have cw:=Hp.sc
    have elm:=Hm.els
    have o:=old_blk l1
    have cw2:=Hp.cells
    have bl3:Nat.blt (nb h 3) (nb h2 0)=true:=by rw[Nat.blt_eq];have:=k2.len;simp only[bxt_len,List.length_cons,List.length_nil] at this;rw[nb,nb];omega
    have np:=Hp.nrefs z1 (by decide)
    by_cases zm:s.cm=[]
    · rw[zm] at elm
      have ap2:=fun q nid=>ap0_n (fun b=>bif ins s.mv.top b then bget (bxt h2 q) b else none) nid 15 128 s.mv ((els0 _ _ _).trans (elm q))
      simp+contextual -implicitDefEqProofs (maxSteps:=1000000) (maxDischargeDepth:=20) only[go_sem,simprocAttr,c1,c2,c3,cw,cw2,bl3,b0,b1,i0,i1,ins_app,ap2,tm,o,r_oF,r_oL,r_oM,Bool.cond_self,List.append_nil,r_vc,r_vp,mskO,Mem.more,bmore,nb_more,List.filter_nil,List.flatMap_nil,List.filter_cons,List.flatMap_cons,List.map_nil,List.map_cons,mask,unmask,AOp.reads,AOpnd.top,top_p,top_s,top_m,top_i,top_b,top_t,top_a,top_u,top_ns,top_s0,top_d,top_f,nb_beq,nb_blt,nb_add,nidOf,slotIn,Nat.beq_refl,clash,Bool.or_self,List.any_nil,List.any_cons,AOp.isMaker]
      exact ⟨kk.own nb_ge l1 _ _ (LgG.ok (by repeat first |exact LgG.nil |refine LgG.cons (by first |exact nb_ge |exact Nat.le_trans (kk.len) nb_ge |assumption) ?_)),⟨s.cf,.slice0,s.pl,w,s.cm,.slice0⟩,rfl,⟨rfl,rfl,rfl,⟨(.none (by rw[zc];rfl) (.inr (.inl rfl))),Hp.own l1 np _ _,(.none (by rw[zm];rfl) (.inr (.inl rfl)))⟩,osl_s0,hw.2,osl_s0⟩⟩
    · have ap2:=fun q nid=>ap0_c (fun b=>bif ins s.mv.top b then bget (bxt h2 q) b else none) nid 15 128 s.mv _ ((els0 _ _ _).trans (elm q)) (fun e=>zm (List.map_eq_nil_iff.1 e)) (by rw[List.length_map,rm];omega)
      simp+contextual -implicitDefEqProofs (maxSteps:=1000000) (maxDischargeDepth:=20) only[go_sem,simprocAttr,c1,c2,c3,cw,cw2,bl3,b0,b1,i0,i1,ins_app,ap2,tm,o,r_oF,r_oL,r_oM,Bool.cond_self,List.append_nil,r_vc,r_vp,mskO,Mem.more,bmore,nb_more,List.filter_nil,List.flatMap_nil,List.filter_cons,List.flatMap_cons,List.map_nil,List.map_cons,mask,unmask,AOp.reads,AOpnd.top,top_p,top_s,top_m,top_i,top_b,top_t,top_a,top_u,top_ns,top_s0,top_d,top_f,nb_beq,nb_blt,nb_add,nidOf,slotIn,Nat.beq_refl,clash,Bool.or_self,List.any_nil,List.any_cons,AOp.isMaker]
      exact ⟨kk.own nb_ge l1 _ _ (LgG.ok (by repeat first |exact LgG.nil |refine LgG.cons (by first |exact nb_ge |exact Nat.le_trans (kk.len) nb_ge |assumption) ?_)),⟨s.cf,.slice0,s.pl,w,s.cm,.slice (nb h2 0) 0 s.cm.length none⟩,rfl,⟨rfl,rfl,rfl,⟨(.none (by rw[zc];rfl) (.inr (.inl rfl))),Hp.own l1 np _ _,(.some (nb h2 0) 0 none true (s.cm.map cmdC) (by rw[List.length_map]) (o.2.1 _ _ _) (by rw[List.drop_zero,List.take_length]) (fun _ h=>by cases h))⟩,osl_s0,hw.2,osl_s _ _ _ _⟩⟩
  · have ap:=fun q nid=>ap0_c (fun b=>bif ins s.cv.top b then bget (bxt h q) b else none) nid 16 128 s.cv _ ((els0 _ _ _).trans (elc q)) (fun e=>zc (List.map_eq_nil_iff.1 e)) (by rw[List.length_map,rm];omega)
    simp+contextual -implicitDefEqProofs (maxSteps:=1000000) (maxDischargeDepth:=20) only[go_sem,simprocAttr,hs,hF,AF7,scC,c1,c2,c3,ap,tc,tp,tm,r_oF,r_oL,r_oM,r_vc,r_vp,mskO,Mem.more,bmore,nb_more,List.filter_nil,List.flatMap_nil,List.filter_cons,List.flatMap_cons,List.map_nil,List.map_cons,mask,unmask,AOp.reads,AOpnd.top,top_p,top_s,top_m,top_i,top_b,top_t,top_a,top_u,top_ns,top_s0,top_d,top_f,nb_beq,nb_blt,nb_add,nidOf,slotIn,Nat.beq_refl,clash,Bool.or_self,List.any_nil,List.any_cons,AOp.isMaker]
    rw[←w_a]
    refine Wa_k (e36 F36 s36 (n+399) (bxt h [some (.row true 3 [[s.cv,s.pv,s.mv]]),some (.row true 3 [[.nilslice,.nilslice,.nilslice]]),none,none,some (.row true 16 (s.cf.map cfgC))]) [] [] (H.p.bx _) (by rw[List.length_map];omega)) (fun w h2 lg2 k2 hw=> ?_)
    have kk:Keep ⟨h,lg,d⟩ ⟨h2,lg2++(nb h 4::nb h 1::nb h 0::lg),d⟩:=Keep.trans (b:=⟨bxt h [some (.row true 3 [[s.cv,s.pv,s.mv]]),some (.row true 3 [[.nilslice,.nilslice,.nilslice]]),none,none,some (.row true 16 (s.cf.map cfgC))],(nb h 4::nb h 1::nb h 0::lg),d⟩) (keep_bx (by repeat first |exact LogOK.nil |apply LogOK.cons)) (k2.lg _ _)
    have z0:bget h2 (nb h 0)=some (.row true 3 [[s.cv,s.pv,s.mv]]):=(k2.get _ (by simp only[bxt_len,nb,List.length_cons,List.length_nil];omega)).trans nb_get
    have z1:bget h2 (nb h 1)=some (.row true 3 [[.nilslice,.nilslice,.nilslice]]):=(k2.get _ (by simp only[bxt_len,nb,List.length_cons,List.length_nil];omega)).trans nb_get
    have z4:bget h2 (nb h 4)=some (.row true 16 (s.cf.map cfgC)):=(k2.get _ (by simp only[bxt_len,nb,List.length_cons,List.length_nil];omega)).trans nb_get
    have l0:nb h 0<h2.length:=bget_lt z0
    have l1:nb h 1<h2.length:=bget_lt z1
    have b0:=fun q=>(bxt_old q h2 _ l0).trans z0
    have b1:=fun q=>(bxt_old q h2 _ l1).trans z1
    have i0:ins lg2 (nb h 0)=false:=k2.insl (by simp only[bxt_len,nb,List.length_cons,List.length_nil];omega)
    have i1:ins lg2 (nb h 1)=false:=k2.insl (by simp only[bxt_len,nb,List.length_cons,List.length_nil];omega)
    have Hm:SlAt h2 15 s.mv (s.cm.map cmdC):=SlAt.old H.m kk.old
    have Hp:SlAt h2 6 w (s.pl.map conC):=hw.1
    have cw:=Hp.sc
    have elm:=Hm.els
    have o:=old_blk l1
    have cw2:=Hp.cells
    have bl3:Nat.blt (nb h 3) (nb h2 0)=true:=by rw[Nat.blt_eq];have:=k2.len;simp only[bxt_len,List.length_cons,List.length_nil] at this;rw[nb,nb];omega
    have np:=Hp.nrefs z1 (by decide)
    by_cases zm:s.cm=[]
    · rw[zm] at elm
      have ap2:=fun q nid=>ap0_n (fun b=>bif ins s.mv.top b then bget (bxt h2 q) b else none) nid 15 128 s.mv ((els0 _ _ _).trans (elm q))
      simp+contextual -implicitDefEqProofs (maxSteps:=1000000) (maxDischargeDepth:=20) only[go_sem,simprocAttr,c1,c2,c3,cw,cw2,bl3,b0,b1,i0,i1,ins_app,ap2,tm,o,r_oF,r_oL,r_oM,Bool.cond_self,List.append_nil,r_vc,r_vp,mskO,Mem.more,bmore,nb_more,List.filter_nil,List.flatMap_nil,List.filter_cons,List.flatMap_cons,List.map_nil,List.map_cons,mask,unmask,AOp.reads,AOpnd.top,top_p,top_s,top_m,top_i,top_b,top_t,top_a,top_u,top_ns,top_s0,top_d,top_f,nb_beq,nb_blt,nb_add,nidOf,slotIn,Nat.beq_refl,clash,Bool.or_self,List.any_nil,List.any_cons,AOp.isMaker]
      exact ⟨kk.own nb_ge l1 _ _ (LgG.ok (by repeat first |exact LgG.nil |refine LgG.cons (by first |exact nb_ge |exact Nat.le_trans (kk.len) nb_ge |assumption) ?_)),⟨s.cf,.slice (nb h 4) 0 s.cf.length none,s.pl,w,s.cm,.slice0⟩,rfl,⟨rfl,rfl,rfl,⟨(.some (nb h 4) 0 none true (s.cf.map cfgC) (by rw[List.length_map]) ((old_get l1 (bget_lt z4) (by rw[ne_eq,nb_inj];omega) _ _).trans z4) (by rw[List.drop_zero,List.take_length]) (fun _ h=>by cases h)),Hp.own l1 np _ _,(.none (by rw[zm];rfl) (.inr (.inl rfl)))⟩,osl_s _ _ _ _,hw.2,osl_s0⟩⟩
    · have ap2:=fun q nid=>ap0_c (fun b=>bif ins s.mv.top b then bget (bxt h2 q) b else none) nid 15 128 s.mv _ ((els0 _ _ _).trans (elm q)) (fun e=>zm (List.map_eq_nil_iff.1 e)) (by rw[List.length_map,rm];omega)
      simp+contextual -implicitDefEqProofs (maxSteps:=1000000) (maxDischargeDepth:=20) only[go_sem,simprocAttr,c1,c2,c3,cw,cw2,bl3,b0,b1,i0,i1,ins_app,ap2,tm,o,r_oF,r_oL,r_oM,Bool.cond_self,List.append_nil,r_vc,r_vp,mskO,Mem.more,bmore,nb_more,List.filter_nil,List.flatMap_nil,List.filter_cons,List.flatMap_cons,List.map_nil,List.map_cons,mask,unmask,AOp.reads,AOpnd.top,top_p,top_s,top_m,top_i,top_b,top_t,top_a,top_u,top_ns,top_s0,top_d,top_f,nb_beq,nb_blt,nb_add,nidOf,slotIn,Nat.beq_refl,clash,Bool.or_self,List.any_nil,List.any_cons,AOp.isMaker]
      exact ⟨kk.own nb_ge l1 _ _ (LgG.ok (by repeat first |exact LgG.nil |refine LgG.cons (by first |exact nb_ge |exact Nat.le_trans (kk.len) nb_ge |assumption) ?_)),⟨s.cf,.slice (nb h 4) 0 s.cf.length none,s.pl,w,s.cm,.slice (nb h2 0) 0 s.cm.length none⟩,rfl,⟨rfl,rfl,rfl,⟨(.some (nb h 4) 0 none true (s.cf.map cfgC) (by rw[List.length_map]) ((old_get l1 (bget_lt z4) (by rw[ne_eq,nb_inj];omega) _ _).trans z4) (by rw[List.drop_zero,List.take_length]) (fun _ h=>by cases h)),Hp.own l1 np _ _,(.some (nb h2 0) 0 none true (s.cm.map cmdC) (by rw[List.length_map]) (o.2.1 _ _ _) (by rw[List.drop_zero,List.take_length]) (fun _ h=>by cases h))⟩,osl_s _ _ _ _,hw.2,osl_s _ _ _ _⟩⟩
end
section
variable {F:FuncId→Option AFunc} {meth:Meth} {sm:Summ}
def stO (s:ScX):Nat→Bool:=fun i=>decide ((gt s.pl i).s=0∧hasN s.cf (gt s.pl i).f=true∧hasN s.cf (gt s.pl i).t=true)
def opnC (x:Int × Int):CmdD:=⟨2,x.1,x.2,0,0,0,bun0⟩
def drnC:CmdD:=⟨14,0,0,1000,0,0,bun0⟩
def cmdO (s:ScX):List CmdD:=(inA s.pl (stO s) 16).map opnC++ [drnC]++s.cm
def outO (s:ScX):List CfgD × List ConD × List CmdD × Int × Int:=if (scE s).1≠0 then ([],[],[],scE s) else if 400<(cmdO s).length then ([],[],[],5,0) else (s.cf,s.pl,cmdO s,0,0)
def ROp (s:ScX):AV→Blks→Prop:=fun w h=> ∃ cv pv mv,w= .tuple [.agg [cv,pv,mv],.agg [.int .i64 (outO s).2.2.2.1,.int .i64 (outO s).2.2.2.2]]∧SlAt h 16 cv ((outO s).1.map cfgC)∧SlAt h 6 pv ((outO s).2.1.map conC)∧SlAt h 15 mv ((outO s).2.2.1.map cmdC)
theorem rop_err {s:ScX} {h:Blks} (z:(scE s).1≠0):ROp s (.tuple [.agg [.nilslice,.nilslice,.nilslice],.agg [.int .i64 (scE s).1,.int .i64 (scE s).2]]) h:=by
  unfold ROp outO
  rw[if_pos z]
  exact ⟨_,_,_,rfl,.none rfl (.inl rfl),.none rfl (.inl rfl),.none rfl (.inl rfl)⟩
theorem rop_full {s:ScX} {h:Blks} (z:(scE s).1=0) (q:400<(cmdO s).length):ROp s (.tuple [.agg [.nilslice,.nilslice,.nilslice],.agg [.int .i64 5,.int .i64 0]]) h:=by
  unfold ROp outO
  rw[if_neg (by omega),if_pos q]
  exact ⟨_,_,_,rfl,.none rfl (.inl rfl),.none rfl (.inl rfl),.none rfl (.inl rfl)⟩
theorem rop_ok {s:ScX} {h:Blks} {cv pv mv:AV} (z:(scE s).1=0) (q: ¬ 400<(cmdO s).length) (h1:SlAt h 16 cv (s.cf.map cfgC)) (h2:SlAt h 6 pv (s.pl.map conC)) (h3:SlAt h 15 mv ((cmdO s).map cmdC)):ROp s (.tuple [.agg [cv,pv,mv],.agg [.int .i64 0,.int .i64 0]]) h:=by
  unfold ROp outO
  rw[if_neg (by omega),if_neg q]
  exact ⟨_,_,_,rfl,h1,h2,h3⟩
def srt (s:ScX):List Int:=isort (kS s) ((opI (stO s) s.pl.length).length - 1) (opI (stO s) s.pl.length)
theorem srt_perm (s:ScX):(srt s).Perm (opI (stO s) s.pl.length):=by
  unfold srt
  rcases Nat.eq_zero_or_pos (opI (stO s) s.pl.length).length with q |q
  · rw[List.eq_nil_of_length_eq_zero q]
    exact .refl _
  · exact isort_perm _ _ (by omega)
theorem srt_asc (s:ScX):Asc (kS s) (srt s).length (srt s):=by
  unfold srt
  rcases Nat.eq_zero_or_pos (opI (stO s) s.pl.length).length with q |q
  · rw[List.eq_nil_of_length_eq_zero q]
    intro a b h1 h2
    exact absurd h2 (by simp[isort])
  · have h:=isort_asc (K:=kS s) ((opI (stO s) s.pl.length).length - 1) (opI (stO s) s.pl.length) (by omega)
    rw[isort_len]
    rw[show (opI (stO s) s.pl.length).length - 1+1=(opI (stO s) s.pl.length).length by omega] at h
    exact h
theorem stO_one {s:ScX} (hb: ∀ i,i<s.pl.length→conBad s.pl i=0):One0 s.pl (stO s):=one0 hb fun i _ h=>(of_decide_eq_true h).1
theorem srt_eq {s:ScX} (hb: ∀ i,i<s.pl.length→conBad s.pl i=0):(srt s).map (cP s.pl)=inA s.pl (stO s) 16:=open_eq hb (stO_one hb) (srt_perm s) (srt_asc s)
theorem hasN_mem {l:List CfgD} {x:Int} (h:hasN l x=true):x∈l.map (·.node):=by
  unfold hasN at h
  rw[List.any_eq_true] at h
  obtain ⟨c,hc,e⟩:=h
  exact List.mem_map.2 ⟨c,hc,of_decide_eq_true e⟩
theorem opI_le {s:ScX} (hb: ∀ i,i<s.pl.length→conBad s.pl i=0) (h4:s.cf.length≤4):(opI (stO s) s.pl.length).length≤12:=open_le hb (stO_one hb) (N:=s.cf.map (·.node)) (by rw[List.length_map];exact h4) fun i hi h=>by
  have:=of_decide_eq_true h
  exact ⟨hasN_mem this.2.1,hasN_mem this.2.2⟩
theorem srt_rng {s:ScX}: ∀ x∈srt s,0≤x∧x<s.pl.length:=fun x hx=>by
  have:=opI_mem.1 ((srt_perm s).mem_iff.1 hx)
  omega
theorem opI_rng {s:ScX}: ∀ x∈opI (stO s) s.pl.length,0≤x∧x<s.pl.length:=fun x hx=>by
  have:=opI_mem.1 hx
  omega
theorem opI_len (st:Nat→Bool): ∀ i,(opI st i).length≤i
  |0=>by simp[opI]
  | i+1=>by
    have:=opI_len st i
    rw[opI,List.length_append]
    split <;>simp <;>omega
end
end Go.Abs
end
