/- Functions of the program on symbolic values: part h.
   Conditions: none. -/
import Derived.Test.YtjpnemidlgcmmaaGreatDoorPg
set_option linter.unusedSimpArgs false
set_option linter.unusedVariables false
set_option maxRecDepth 100000
set_option maxHeartbeats 16000000
noncomputable section
namespace Go.Abs
section
variable {F:FuncId→Option AFunc} {meth:Meth} {sm:Summ}
theorem SlAt.els {h:Blks} {e:Nat} {v:AV} {es:List (List AV)} (H:SlAt h e v es) (ho:NoOsl v) (l:List (Option ABlk)):elemsOf (bget (bxt h l)) e v=Option.some es:=by
  rcases H with ⟨rfl,rfl |rfl |rfl⟩|⟨b,i,c,own,rows,rfl,hb,hw,hk⟩
  · rfl
  · rfl
  · exact absurd rfl (ho 0)
  · cases es with
    |nil=>rfl
    | cons y ys=>
      rw[List.length_cons,els_s,bxt_old l h b (bget_lt hb),hb]
      simp only[winGet]
      have hlen:i+(ys.length+1)≤rows.length:=by
        have:=congrArg List.length hw
        simp only[List.length_take,List.length_drop,List.length_cons] at this
        omega
      rw[List.length_cons] at hw
      simp[hw,hlen]
theorem app_z (get:Nat→Option ABlk) (nid e b:Nat) (s x:AV) (hs:s= .nilslice∨ ∃ b i m c,s= .slice b i m c) (hx:elemsOf get e x=Option.some []):aappend get nid e b s x=Option.some (s,[]):=by
  rcases hs with rfl |⟨b,i,m,c,rfl⟩ <;>simp only[aappend,hx]
theorem app_room (get:Nat→Option ABlk) (nid e bt b:Nat) (x z:AV) (es xs:List (List AV)) (r:Nat) (zz:List AV) (h1:elemsOf get e x=Option.some xs) (h2:xs≠ []) (h3:get b=Option.some (.row true e (es++List.replicate r zz))) (h4:xs.length≤r) (h5:(es.length+xs.length)*bt≤1000000000000):
    aappend get nid e bt (.slice b 0 es.length none) x=Option.some (.slice b 0 (es.length+xs.length) none,[⟨b,Option.some (.row true e (es++xs++List.replicate (r - xs.length) zz)),refsLL xs⟩]):=by
  cases xs with
  |nil=>exact absurd rfl h2
  | cons y ys=>
    simp only[aappend,h1,h3,roomMost]
    rw[if_neg (by simp;omega)]
    have q:decide (0+es.length+(y::ys).length≤(es++List.replicate r zz).length)=true:=by apply decide_eq_true;simp only[List.length_append,List.length_replicate];omega
    rw[if_pos q,if_pos ⟨trivial,of_decide_eq_true q⟩]
    have e1:List.take (0+es.length) (es++List.replicate r zz)=es:=by rw[Nat.zero_add,List.take_left'];rfl
    have e2:List.drop (0+es.length+(y::ys).length) (es++List.replicate r zz)=List.replicate (r - (y::ys).length) zz:=by
      rw[Nat.zero_add,List.drop_append,List.drop_of_length_le (by omega),List.nil_append,List.drop_replicate]
      congr 1;omega
    rw[e1,e2]
end
section
variable {F:FuncId→Option AFunc} {meth:Meth} {sm:Summ}
def catV (l:List (AV × List VioD)):List VioD:=l.flatMap (·.2)
def c1C (x:AV × List VioD):List AV:=[x.1]
theorem catV_take {l:List (AV × List VioD)} {i:Nat} (hi:i<l.length):catV (l.take (i+1))=catV (l.take i)++(gt l i).2:=by
  rw[catV,catV,List.take_add_one,List.getElem?_eq_getElem hi,Option.toList_some,List.flatMap_append,gt_eq hi]
  simp
theorem catV_le {l:List (AV × List VioD)} (i:Nat):(catV (l.take i)).length≤(catV l).length:=by
  conv=>rhs;rw[←List.take_append_drop i l]
  rw[catV,catV,List.flatMap_append,List.length_append]
  omega
def vioZ:List AV:=[.int .i64 0,.int .i64 0,.int .i64 0,.int .i64 0,.int .u64 0,.int .i64 0]
theorem e72 (hF:F 72=some AF72) (hs: ∀ vs m,sm 72 vs m=none) (n:Nat) (h:Blks) (lg d:List Nat) (s114: ∀ vs m,sm 114 vs m=none) (F114:F 114=some AF114) {l:List (AV × List VioD)} {v:AV} (hv:SlAt h 1 v (l.map c1C)) (hl:l.length≤100) (hw:(catV l).length≤1000000) (hx: ∀ x∈l,SlAt h 6 x.1 (x.2.map vioC)∧NoOsl x.1):Wa F meth sm (n+2000) (.fn 72) [v] ⟨bxt h [],lg,d⟩ (Qk ⟨h,lg,d⟩ fun w h'=>SlAt h' 6 w ((catV l).map vioC)∧NoOsl w):=by
  have lv:=hv.len
  simp+contextual -implicitDefEqProofs (maxSteps:=1000000) (maxDischargeDepth:=20) only[go_sem,simprocAttr,hs,hF,AF72,lv,List.length_map,q_k]
  refine WloopK l.length [X11,X3] (fun i=> [.int .i64 i,.int .i64 (catV (l.take i)).length]) (fun _=>True) (by omega) (by repeat first |apply Cl_b |apply Cl_q |apply Cl_r) ⟨rfl,trivial⟩ (fun i h' lg' g hi hP hK=> ?_) (fun h' lg' g hP hK=> ?_)
  · have a:=hK.all (lg:=lg) (d:=d) (by repeat first |exact LogOK.nil |apply LogOK.cons)
    have e:=(hK.sl hv).el hi
    have r:=rnd hi (by omega)
    have lx:=(hx _ (gt_mem hi)).1.len
    have sx:=(hx _ (gt_mem hi)).1.sc
    have ct:=catV_take hi
    have cl:=catV_le (l:=l) (i+1)
    have ww:IntKind.i64.wrap (((catV (l.take i)).length:Int)+((gt l i).2.length:Int))=((catV (l.take (i+1))).length:Int):=by
      have q:(catV (l.take (i+1))).length=(catV (l.take i)).length+(gt l i).2.length:=by rw[ct,List.length_append]
      rw[wrapI (by omega) (by omega)];omega
    have nn:(((catV (l.take (i+1))).length:Int)<0)=False:=eq_false (by omega)
    unfold c1C at e
    simp+contextual -implicitDefEqProofs (maxSteps:=1000000) (maxDischargeDepth:=20) only[go_sem,simprocAttr,a,e,r,lx,sx,List.length_map,ww,nn]
  · have a:=hK.all (lg:=lg) (d:=d) (by repeat first |exact LogOK.nil |apply LogOK.cons)
    have r:=rndl l.length
    rw[List.take_length]
    by_cases hz:(catV l).length=0
    · rw[hz]
      simp+contextual -implicitDefEqProofs (maxSteps:=1000000) (maxDischargeDepth:=20) only[go_sem,simprocAttr,a,r,lv,List.length_map,s114,F114,AF114,cst0,Int.sub_zero]
      have em: ∀ x∈l,x.2=[]:=fun x hx=>by
        have q:catV l=[]:=List.length_eq_zero_iff.1 hz
        rw[catV,List.flatMap_eq_nil_iff] at q
        exact q x hx
      refine WloopK l.length [X27,X6] (fun i=> [.int .i64 i,.nilslice]) (fun _=>True) (by omega) (by repeat first |apply Cl_b |apply Cl_q |apply Cl_r) ⟨rfl,trivial⟩ (fun i h2 lg2 g2 hi hP2 hK2=> ?_) (fun h2 lg2 g2 hP2 hK2=> ?_)
      · have kk:=hK.trans hK2
        have a2:=hK2.all (lg:=lg') (d:=d) (by repeat first |exact LogOK.nil |apply LogOK.cons)
        have a:=Keep.all (lg:=lg) (d:=d) kk (by repeat first |exact LogOK.nil |apply LogOK.cons)
        have e:=(kk.sl hv).el hi
        have r:=rnd hi (by omega)
        have hy:=hx _ (gt_mem hi)
        have sx:=hy.1.sc
        have el:=fun q=>(kk.sl hy.1).els hy.2 q
        rw[em _ (gt_mem hi),List.map_nil] at el
        have ap:=fun q nid=>app_z (bget (bxt h2 q)) nid 6 48 .nilslice (gt l i).1 (.inl rfl) (el q)
        unfold c1C at e
        simp+contextual -implicitDefEqProofs (maxSteps:=1000000) (maxDischargeDepth:=20) only[go_sem,simprocAttr,a,a2,e,r,sx,ap]
      · have kk:=hK.trans hK2
        have a2:=hK2.all (lg:=lg') (d:=d) (by repeat first |exact LogOK.nil |apply LogOK.cons)
        have a:=Keep.all (lg:=lg) (d:=d) kk (by repeat first |exact LogOK.nil |apply LogOK.cons)
        have r:=rndl l.length
        simp+contextual -implicitDefEqProofs (maxSteps:=1000000) (maxDischargeDepth:=20) only[go_sem,simprocAttr,a,a2,r,q_k]
        have q:catV l=[]:=List.length_eq_zero_iff.1 hz
        rw[q]
        exact ⟨.none rfl (.inl rfl),fun n h=>by cases h⟩
    · have c1:(((catV l).length:Int)<0)=False:=eq_false (by omega)
      have c2:(0<((catV l).length:Int))=True:=by simp;omega
      have c3:IntKind.i64.wrap ((catV l).length:Int)=((catV l).length:Int):=wrapI (by omega) (by omega)
      have c4:((catV l).length*48≤1000000000000)=True:=by simp;omega
      simp+contextual -implicitDefEqProofs (maxSteps:=1000000) (maxDischargeDepth:=20) only[go_sem,simprocAttr,a,r,lv,List.length_map,s114,F114,AF114,c1,c2,c3,c4,wn_0,Int.sub_zero,Option.getD_none,Nat.zero_le,Nat.le_refl]
      have k0:Keep ⟨h,lg,[]⟩ ⟨h',lg',[]⟩:=hK
      have rep:List.replicate (catV l).length [AV.int .i64 0,.int .i64 0,.int .i64 0,.int .i64 0,.int .u64 0,.int .i64 0]=((catV (l.take 0)).map vioC)++List.replicate ((catV l).length - (catV (l.take 0)).length) vioZ:=rfl
      refine WloopV l.length [X27,X6] (fun i=> [.int .i64 i,.slice (nb h' 0) 0 (catV (l.take i)).length none]) (fun i m'=>Keep ⟨h,lg,[]⟩ m'∧bget m'.blks (nb h' 0)=some (.row true 6 (((catV (l.take i)).map vioC)++List.replicate ((catV l).length - (catV (l.take i)).length) vioZ))) (by omega) (by repeat first |apply Cl_b |apply Cl_q |apply Cl_r) ⟨rfl,k0.trans (keep_bx (by repeat first |exact LogOK.nil |apply LogOK.cons)),by rw[←rep];exact nb_get⟩ (fun i m' g hi hP=> ?_) (fun m' g hP=> ?_)
      · obtain ⟨h2,lg2,d2⟩:=m'
        obtain ⟨kk,b1⟩:=hP
        obtain rfl:d2=[]:=kk.dfrs
        simp only at b1
        have hv2:SlAt h2 1 v (l.map c1C):=SlAt.keep (m:=⟨h,lg,[]⟩) (m':=⟨h2,lg2,[]⟩) hv kk
        have e:=hv2.el hi
        have r:=rnd hi (by omega)
        have hy:=hx _ (gt_mem hi)
        have sx:=hy.1.sc
        have hy2:SlAt h2 6 (gt l i).1 ((gt l i).2.map vioC):=SlAt.keep (m:=⟨h,lg,[]⟩) (m':=⟨h2,lg2,[]⟩) hy.1 kk
        have el:=fun q=>hy2.els hy.2 q
        have ct:=catV_take hi
        have cl:=catV_le (l:=l) (i+1)
        have o:=old_blk (bget_lt b1)
        have hge:h.length≤nb h' 0:=Nat.le_trans k0.len nb_ge
        unfold c1C at e
        refine Wc_bx ?_
        by_cases hn:(gt l i).2=[]
        · rw[hn,List.append_nil] at ct
          rw[hn,List.map_nil] at el
          have ap:=fun q nid=>app_z (bget (bxt h2 q)) nid 6 48 (.slice (nb h' 0) 0 (catV (l.take i)).length none) (gt l i).1 (.inr ⟨_,_,_,_,rfl⟩) (el q)
          simp+contextual -implicitDefEqProofs (maxSteps:=1000000) (maxDischargeDepth:=20) only[go_sem,simprocAttr,e,r,sx,ap,ct]
          exact ⟨kk,b1⟩
        · have ap:=fun q nid=>app_room (bget (bxt h2 q)) nid 6 48 (nb h' 0) (gt l i).1 .undef ((catV (l.take i)).map vioC) ((gt l i).2.map vioC) ((catV l).length - (catV (l.take i)).length) vioZ (el q) (by simpa using hn) ((bxt_old q h2 _ (bget_lt b1)).trans b1) (by rw[List.length_map];rw[ct,List.length_append] at cl;omega) (by rw[List.length_map,List.length_map];rw[ct,List.length_append] at cl;omega)
          rw[List.length_map,List.length_map] at ap
          simp+contextual -implicitDefEqProofs (maxSteps:=1000000) (maxDischargeDepth:=20) only[go_sem,simprocAttr,e,r,sx,ap,o]
          have q1:(catV (l.take (i+1))).length=(catV (l.take i)).length+(gt l i).2.length:=by rw[ct,List.length_append]
          refine ⟨by rw[q1],kk.own hge (bget_lt b1) _ _ (LgG.ok (by repeat first |exact LgG.nil |refine LgG.cons (by first |exact nb_ge |exact Nat.le_trans (kk.len) nb_ge |assumption) ?_)),?_⟩
          rw[q1,ct,List.map_append,Nat.sub_sub]
      · obtain ⟨h2,lg2,d2⟩:=m'
        obtain ⟨kk,b1⟩:=hP
        obtain rfl:d2=[]:=kk.dfrs
        simp only at b1
        have r:=rndl l.length
        rw[List.take_length] at b1 ⊢
        rw[Nat.sub_self,List.replicate_zero,List.append_nil] at b1
        refine Wc_bx ?_
        simp+contextual -implicitDefEqProofs (maxSteps:=1000000) (maxDischargeDepth:=20) only[go_sem,simprocAttr,r,q_k]
        exact ⟨kk.sub (d:=d),.some (nb h' 0) 0 none true _ (by rw[List.length_map]) b1 (by rw[List.drop_zero,List.take_length]) (fun _ h=>by cases h),fun n h=>by cases h⟩
end
section
variable {F:FuncId→Option AFunc} {meth:Meth} {sm:Summ}
def W29 (F:FuncId→Option AFunc) (meth:Meth) (sm:Summ):Prop:= ∀ (n:Nat) (h:Blks) (lg d:List Nat) (s:SnapX),SnapAt h s→
  Wa F meth sm (n+2000) (.fn 29) [.agg (snapC s)] ⟨bxt h [],lg,d⟩ (Qk ⟨h,lg,d⟩ fun w h'=>if snapE s.d=0 then ∃ b,w= .tuple [.agg (snapC s++ [.map b]),.int .i64 0]∧bget h' b=some (.map (vEnt s.nv s.vs s.vs.length)) else w= .tuple [.agg [.int .i64 0,.nilslice,.nilslice,.nilmap],.int .i64 (snapE s.d)])
def ResV (e:Int) (V:List VioD) (w:AV) (h:Blks):Prop:= ∃ v,w= .tuple [v,.int .i64 e]∧SlAt h 6 v ((if e=0 then V else []).map vioC)∧NoOsl v
theorem ResV.err {e:Int} {V:List VioD} {h:Blks} (he: ¬ e=0):ResV e V (.tuple [.nilslice,.int .i64 e]) h:=⟨.nilslice,rfl,by rw[if_neg he];exact .none rfl (.inl rfl),fun n h=>by cases h⟩
theorem ResV.ok {V:List VioD} {v:AV} {h:Blks} (H:SlAt h 6 v (V.map vioC)) (ho:NoOsl v):ResV 0 V (.tuple [v,.int .i64 0]) h:=⟨v,rfl,by rw[if_pos rfl];exact H,ho⟩
def W30 (F:FuncId→Option AFunc) (meth:Meth) (sm:Summ):Prop:= ∀ (n:Nat) (h:Blks) (lg d:List Nat) (own:Bool) (s:SnapX) (wv:AV),bget h 0=some (.row own 1 headsR)→SnapAt h s→SnapN s→SnapO s→wv.scalar=true→
  Wa F meth sm (n+3000) (.fn 30) [.agg (snapC s++ [wv])] ⟨bxt h [],lg,d⟩ (Qk ⟨h,lg,d⟩ fun w h'=>OutAt h.length h' 6 w ((spacesV s.d.nodes).map vioC))
def W32 (F:FuncId→Option AFunc) (meth:Meth) (sm:Summ):Prop:= ∀ (n:Nat) (h:Blks) (lg d:List Nat) (s:SnapX) (b:Nat),SnapAt h s→snapE s.d=0→bget h b=some (.map (vEnt s.nv s.vs s.vs.length))→SnapN s→SnapO s→
  Wa F meth sm (n+3000) (.fn 32) [.agg (snapC s++ [.map b])] ⟨bxt h [],lg,d⟩ (Qk ⟨h,lg,d⟩ fun w h'=>OutAt h.length h' 6 w ((credsV s.d.nodes s.d.nodes.length).map vioC))
def W41 (F:FuncId→Option AFunc) (meth:Meth) (sm:Summ):Prop:= ∀ (n:Nat) (h:Blks) (lg d:List Nat) (s:SnapX) (b:Nat) (l:List BunD) (v:AV),SnapAt h s→snapE s.d=0→bget h b=some (.map (vEnt s.nv s.vs s.vs.length))→SlAt h 9 v (l.map bunC)→listE l=0→(∀ x∈l,x.data.length≤1000000∧I x.total)→
  Wa F meth sm (n+3000) (.fn 41) [.agg (snapC s++ [.map b]),v] ⟨bxt h [],lg,d⟩ (Qk ⟨h,lg,d⟩ fun w h'=>OutAt h.length h' 6 w ((custV s.d l).map vioC))
theorem e9 (hF:F 9=some AF9) (hs: ∀ vs m,sm 9 vs m=none) (n:Nat) (h:Blks) (lg d:List Nat) (g29:W29 F meth sm) (g30:W30 F meth sm) {s:SnapX} {own:Bool} (hg:bget h 0=some (.row own 1 headsR)) (H:SnapAt h s) (hN:SnapN s) (hO:SnapO s):Wa F meth sm (n+4000) (.fn 9) [.agg (snapC s)] ⟨bxt h [],lg,d⟩ (Qk ⟨h,lg,d⟩ (ResV (snapE s.d) (spacesV s.d.nodes))):=by
  have c1:=H.v.sc
  have c2:=H.l.sc
  simp+contextual -implicitDefEqProofs (maxSteps:=1000000) (maxDischargeDepth:=20) only[go_sem,simprocAttr,hs,hF,AF9,snapC,c1,c2,q_k]
  rw[←w_a]
  refine Wa_k (g29 (n+1999) (bxt h [some (.row true 3 [[.int .i64 s.now,s.nv,s.lv]])]) _ _ s (H.bx _)) (fun w h2 lg2 k2 hw2=> ?_)
  by_cases hz:snapE s.d=0
  · rw[if_pos hz] at hw2
    obtain ⟨b,rfl,hb⟩:=hw2
    simp+contextual -implicitDefEqProofs (maxSteps:=1000000) (maxDischargeDepth:=20) only[go_sem,simprocAttr,snapC,c1,c2]
    rw[←w_a]
    have kk:Keep ⟨h,lg,d⟩ ⟨h2,lg2,d⟩:=(keep_bx (by repeat first |exact LogOK.nil |apply LogOK.cons)).trans k2.sub
    have hs2:SnapAt h2 s:=SnapAt.keep (m:=⟨h,lg,d⟩) (m':=⟨h2,lg2,d⟩) H kk
    have hg2:bget h2 0=some (.row own 1 headsR):=(kk.get 0 (bget_lt hg)).trans hg
    refine Wa_k (g30 (n+999) (bxt h2 [some (.row true 4 [[.int .i64 s.now,s.nv,s.lv,.map b]])]) _ _ own s (.map b) ((bxt_old _ h2 _ (bget_lt hg2)).trans hg2) (hs2.bx _) hN hO rfl) (fun w h3 lg3 k3 hw3=> ?_)
    simp+contextual -implicitDefEqProofs (maxSteps:=1000000) (maxDischargeDepth:=20) only[go_sem,simprocAttr]
    rw[hz]
    exact ⟨(kk.trans (keep_bx (by repeat first |exact LogOK.nil |apply LogOK.cons))).trans k3.sub,ResV.ok hw3.sl hw3.noosl⟩
  · rw[if_neg hz] at hw2
    subst hw2
    simp+contextual -implicitDefEqProofs (maxSteps:=1000000) (maxDischargeDepth:=20) only[go_sem,simprocAttr,hz]
    exact ⟨((keep_bx (by repeat first |exact LogOK.nil |apply LogOK.cons)).trans k2.sub).trans (keep_bx (by repeat first |exact LogOK.nil |apply LogOK.cons)),ResV.err hz⟩
theorem e11 (hF:F 11=some AF11) (hs: ∀ vs m,sm 11 vs m=none) (n:Nat) (h:Blks) (lg d:List Nat) (g29:W29 F meth sm) (g32:W32 F meth sm) {s:SnapX} (H:SnapAt h s) (hN:SnapN s) (hO:SnapO s):Wa F meth sm (n+4000) (.fn 11) [.agg (snapC s)] ⟨bxt h [],lg,d⟩ (Qk ⟨h,lg,d⟩ (ResV (snapE s.d) (credsV s.d.nodes s.d.nodes.length))):=by
  have c1:=H.v.sc
  have c2:=H.l.sc
  simp+contextual -implicitDefEqProofs (maxSteps:=1000000) (maxDischargeDepth:=20) only[go_sem,simprocAttr,hs,hF,AF11,snapC,c1,c2,q_k]
  rw[←w_a]
  refine Wa_k (g29 (n+1999) (bxt h [some (.row true 3 [[.int .i64 s.now,s.nv,s.lv]])]) _ _ s (H.bx _)) (fun w h2 lg2 k2 hw2=> ?_)
  by_cases hz:snapE s.d=0
  · rw[if_pos hz] at hw2
    obtain ⟨b,rfl,hb⟩:=hw2
    simp+contextual -implicitDefEqProofs (maxSteps:=1000000) (maxDischargeDepth:=20) only[go_sem,simprocAttr,snapC,c1,c2]
    rw[←w_a]
    have kk:Keep ⟨h,lg,d⟩ ⟨h2,lg2,d⟩:=(keep_bx (by repeat first |exact LogOK.nil |apply LogOK.cons)).trans k2.sub
    have hs2:SnapAt h2 s:=SnapAt.keep (m:=⟨h,lg,d⟩) (m':=⟨h2,lg2,d⟩) H kk
    refine Wa_k (g32 (n+999) (bxt h2 [some (.row true 4 [[.int .i64 s.now,s.nv,s.lv,.map b]])]) _ _ s b (hs2.bx _) hz ((bxt_old _ h2 _ (bget_lt hb)).trans hb) hN hO) (fun w h3 lg3 k3 hw3=> ?_)
    simp+contextual -implicitDefEqProofs (maxSteps:=1000000) (maxDischargeDepth:=20) only[go_sem,simprocAttr]
    rw[hz]
    exact ⟨(kk.trans (keep_bx (by repeat first |exact LogOK.nil |apply LogOK.cons))).trans k3.sub,ResV.ok hw3.sl hw3.noosl⟩
  · rw[if_neg hz] at hw2
    subst hw2
    simp+contextual -implicitDefEqProofs (maxSteps:=1000000) (maxDischargeDepth:=20) only[go_sem,simprocAttr,hz]
    exact ⟨((keep_bx (by repeat first |exact LogOK.nil |apply LogOK.cons)).trans k2.sub).trans (keep_bx (by repeat first |exact LogOK.nil |apply LogOK.cons)),ResV.err hz⟩
def custE (D:SnapD) (l:List BunD):Int:=if snapE D=0 then listE l else snapE D
theorem e16 (hF:F 16=some AF16) (hs: ∀ vs m,sm 16 vs m=none) (n:Nat) (h:Blks) (lg d:List Nat) (g29:W29 F meth sm) (h40:H40 sm) (g41:W41 F meth sm) {s:SnapX} {l:List BunD} {v:AV} (H:SnapAt h s) (hv:SlAt h 9 v (l.map bunC)) (hl:l.length≤10000) (hd: ∀ x∈l,x.data.length≤1000000∧I x.total):Wa F meth sm (n+4000) (.fn 16) [.agg (snapC s),v] ⟨bxt h [],lg,d⟩ (Qk ⟨h,lg,d⟩ (ResV (custE s.d l) (custV s.d l))):=by
  have c1:=H.v.sc
  have c2:=H.l.sc
  simp+contextual -implicitDefEqProofs (maxSteps:=1000000) (maxDischargeDepth:=20) only[go_sem,simprocAttr,hs,hF,AF16,snapC,c1,c2,q_k]
  rw[←w_a]
  refine Wa_k (g29 (n+1999) (bxt h [some (.row true 3 [[.int .i64 s.now,s.nv,s.lv]])]) _ _ s (H.bx _)) (fun w h2 lg2 k2 hw2=> ?_)
  have kk:Keep ⟨h,lg,d⟩ ⟨h2,lg2,d⟩:=(keep_bx (by repeat first |exact LogOK.nil |apply LogOK.cons)).trans k2.sub
  by_cases hz:snapE s.d=0
  · rw[if_pos hz] at hw2
    obtain ⟨b,rfl,hb⟩:=hw2
    have hs2:SnapAt h2 s:=SnapAt.keep (m:=⟨h,lg,d⟩) (m':=⟨h2,lg2,d⟩) H kk
    have hv2:SlAt h2 9 v (l.map bunC):=SlAt.keep (m:=⟨h,lg,d⟩) (m':=⟨h2,lg2,d⟩) hv kk
    have g1:=fun q lg d=>h40 l v ⟨bxt h2 q,lg,d⟩ (hv2.bx q) hl hd
    have ec:custE s.d l=listE l:=by rw[custE,if_pos hz]
    rw[ec]
    by_cases hy:listE l=0
    · rw[hy] at g1
      simp+contextual -implicitDefEqProofs (maxSteps:=1000000) (maxDischargeDepth:=20) only[go_sem,simprocAttr,snapC,c1,c2,g1]
      rw[←w_a]
      refine Wa_k (g41 (n+999) (bxt h2 [some (.row true 4 [[.int .i64 s.now,s.nv,s.lv,.map b]])]) _ _ s b l v (hs2.bx _) hz ((bxt_old _ h2 _ (bget_lt hb)).trans hb) (hv2.bx _) hy hd) (fun w h3 lg3 k3 hw3=> ?_)
      simp+contextual -implicitDefEqProofs (maxSteps:=1000000) (maxDischargeDepth:=20) only[go_sem,simprocAttr]
      rw[hy]
      exact ⟨(kk.trans (keep_bx (by repeat first |exact LogOK.nil |apply LogOK.cons))).trans k3.sub,ResV.ok hw3.sl hw3.noosl⟩
    · simp+contextual -implicitDefEqProofs (maxSteps:=1000000) (maxDischargeDepth:=20) only[go_sem,simprocAttr,snapC,c1,c2,g1,hy]
      exact ⟨kk.trans (keep_bx (by repeat first |exact LogOK.nil |apply LogOK.cons)),ResV.err hy⟩
  · rw[if_neg hz] at hw2
    subst hw2
    have ec:custE s.d l=snapE s.d:=by rw[custE,if_neg hz]
    rw[ec]
    simp+contextual -implicitDefEqProofs (maxSteps:=1000000) (maxDischargeDepth:=20) only[go_sem,simprocAttr,hz]
    exact ⟨kk.trans (keep_bx (by repeat first |exact LogOK.nil |apply LogOK.cons)),ResV.err hz⟩
end
section
variable {F:FuncId→Option AFunc} {meth:Meth} {sm:Summ}
def W72 (F:FuncId→Option AFunc) (meth:Meth) (sm:Summ):Prop:= ∀ (n:Nat) (h:Blks) (lg d:List Nat) (l:List (AV × List VioD)) (v:AV),SlAt h 1 v (l.map c1C)→l.length≤100→(catV l).length≤1000000→(∀ x∈l,SlAt h 6 x.1 (x.2.map vioC)∧NoOsl x.1)→
  Wa F meth sm (n+2000) (.fn 72) [v] ⟨bxt h [],lg,d⟩ (Qk ⟨h,lg,d⟩ fun w h'=>SlAt h' 6 w ((catV l).map vioC)∧NoOsl w)
theorem e44 (hF:F 44=some AF44) (hs: ∀ vs m,sm 44 vs m=none) (n:Nat) (h:Blks) (lg d:List Nat) (g72:W72 F meth sm) {l:List (AV × List VioD)} {v:AV} (hv:SlAt h 1 v (l.map c1C)) (hl:l.length≤100) (hw:(catV l).length≤1000000) (hx: ∀ x∈l,SlAt h 6 x.1 (x.2.map vioC)∧NoOsl x.1):Wa F meth sm (n+2500) (.fn 44) [v] ⟨bxt h [],lg,d⟩ (Qk ⟨h,lg,d⟩ fun w h'=>SlAt h' 6 w ((catV l).map vioC)∧NoOsl w):=by
  simp+contextual -implicitDefEqProofs (maxSteps:=1000000) (maxDischargeDepth:=20) only[go_sem,simprocAttr,hs,hF,AF44,q_k]
  rw[←w_a]
  refine Wa_k (g72 (n+499) h _ _ l v hv hl hw hx) (fun w h2 lg2 k2 hw2=> ?_)
  simp+contextual -implicitDefEqProofs (maxSteps:=1000000) (maxDischargeDepth:=20) only[go_sem,simprocAttr,q_k]
  exact ⟨k2.sub,hw2⟩
def W44 (F:FuncId→Option AFunc) (meth:Meth) (sm:Summ):Prop:= ∀ (n:Nat) (h:Blks) (lg d:List Nat) (l:List (AV × List VioD)) (v:AV),SlAt h 1 v (l.map c1C)→l.length≤100→(catV l).length≤1000000→(∀ x∈l,SlAt h 6 x.1 (x.2.map vioC)∧NoOsl x.1)→
  Wa F meth sm (n+2500) (.fn 44) [v] ⟨bxt h [],lg,d⟩ (Qk ⟨h,lg,d⟩ fun w h'=>SlAt h' 6 w ((catV l).map vioC)∧NoOsl w)
theorem r_oM (full:Bool) (rd msk:List Nat) (h:Blks) (nid:Nat) (T:Tr) (x:AOpnd):Ro full rd msk h nid T (.mv x)=some (aev T x,[]):=by cases full <;>rfl
theorem spacesV_len (l:List ViewD):(spacesV l).length≤l.length:=List.length_filterMap_le _ _
theorem custV_len {D:SnapD} {l:List BunD} (h: ∀ v∈D.nodes,v.st.held.length≤1000):(custV D l).length≤l.length+D.nodes.length*1000:=by
  have h1:=lostV_len D.now D.nodes l
  have h2:=strV_len (l:=l) h
  rw[custV,List.length_append];omega
theorem snap_held {h:Blks} {s:SnapX} (H:SnapAt h s): ∀ v∈s.d.nodes,v.st.held.length≤1000:=fun v hv=>by
  obtain ⟨y,hy,rfl⟩:=List.mem_map.1 hv
  exact (H.va y hy).s.w1
theorem ins_app: ∀ (a b:List Nat) (k:Nat),ins (a++b) k=(ins a k ||ins b k)
  | [],b,k=>by simp[ins]
  | x::a,b,k=>by
    rw[List.cons_append,ins,ins]
    cases h:Nat.beq x k with
    |true=>simp
    |false=>simp only[cond_false];exact ins_app a b k
theorem SlAt.nnone {h:Blks} {e:Nat} {v:AV} {es:List (List AV)} {b:Nat} (H:SlAt h e v es) (hb:bget h b=Option.none): ∀ c∈v.refs,c≠b:=by
  rcases H with ⟨_,rfl |rfl |rfl⟩|⟨c,i,k,own,rows,rfl,hc,hw,hk⟩
  · intro c hc;cases hc
  · intro c hc;cases hc
  · intro c hc;cases hc
  · intro x hx
    simp only[AV.refs,List.mem_singleton] at hx
    subst hx
    intro hq
    rw[hq,hb] at hc
    cases hc
theorem Keep.insl {h h2:Blks} {lg2 d d2:List Nat} (k:Keep ⟨h,[],d⟩ ⟨h2,lg2,d2⟩) {b:Nat} (hb:b<h.length):ins lg2 b=false:=by
  cases hq:ins lg2 b with
  |false=>rfl
  | true=>
    obtain ⟨q,h1,h2⟩:=k.log
    simp only[List.append_nil] at h1 h2
    subst h1
    have:=h2 _ ((ins_iff _ _).1 hq)
    omega
theorem e18 (hF:F 18=some AF18) (hs: ∀ vs m,sm 18 vs m=none) (n:Nat) (h:Blks) (lg d:List Nat) (g29:W29 F meth sm) (h40:H40 sm) (g30:W30 F meth sm) (g32:W32 F meth sm) (g41:W41 F meth sm) (g44:W44 F meth sm) {own:Bool} {s:SnapX} {l:List BunD} {v:AV} (hg:bget h 0=some (.row own 1 headsR)) (H:SnapAt h s) (hN:SnapN s) (hO:SnapO s) (hv:SlAt h 9 v (l.map bunC)) (hl:l.length≤10000) (hd: ∀ x∈l,x.data.length≤1000000∧I x.total):Wa F meth sm (n+4000) (.fn 18) [.agg (snapC s),v] ⟨bxt h [],lg,d⟩ (Qk ⟨h,lg,d⟩ (ResV (custE s.d l) (spacesV s.d.nodes++credsV s.d.nodes s.d.nodes.length++custV s.d l))):=by
  have c1:=H.v.sc
  have c2:=H.l.sc
  simp+contextual -implicitDefEqProofs (maxSteps:=1000000) (maxDischargeDepth:=20) only[go_sem,simprocAttr,hs,hF,AF18,snapC,c1,c2,q_k]
  rw[←w_a]
  refine Wa_k (g29 (n+1999) (bxt h [some (.row true 3 [[.int .i64 s.now,s.nv,s.lv]])]) _ _ s (H.bx _)) (fun w h2 lg2 k2 hw2=> ?_)
  have kk:Keep ⟨h,lg,d⟩ ⟨h2,lg2,d⟩:=(keep_bx (by repeat first |exact LogOK.nil |apply LogOK.cons)).trans k2.sub
  by_cases hz:snapE s.d=0
  · rw[if_pos hz] at hw2
    obtain ⟨b,rfl,hb⟩:=hw2
    have hs2:SnapAt h2 s:=SnapAt.keep (m:=⟨h,lg,d⟩) (m':=⟨h2,lg2,d⟩) H kk
    have hv2:SlAt h2 9 v (l.map bunC):=SlAt.keep (m:=⟨h,lg,d⟩) (m':=⟨h2,lg2,d⟩) hv kk
    have hg2:bget h2 0=some (.row own 1 headsR):=(kk.get 0 (bget_lt hg)).trans hg
    have g1:=fun q lg d=>h40 l v ⟨bxt h2 q,lg,d⟩ (hv2.bx q) hl hd
    have ec:custE s.d l=listE l:=by rw[custE,if_pos hz]
    rw[ec]
    by_cases hy:listE l=0
    · rw[hy] at g1
      simp+contextual -implicitDefEqProofs (maxSteps:=1000000) (maxDischargeDepth:=20) only[go_sem,simprocAttr,snapC,c1,c2,g1,r_vc,r_vp,mskO,Mem.more,bmore,nb_more,List.filter_nil,List.flatMap_nil,List.filter_cons,List.flatMap_cons,List.map_nil,List.map_cons,mask,unmask,AOp.reads,AOpnd.top,top_p,top_s,top_m,top_i,top_b,top_t,top_a,top_u,top_ns,top_s0,top_d,top_f,nb_beq,nb_blt,nb_add,nidOf,slotIn,Nat.beq_refl,clash,Bool.or_self,List.any_nil,List.any_cons,AOp.isMaker]
      rw[←w_a]
      refine Wa_k (g30 (n+999) (bxt h2 [some (.row true 4 [[.int .i64 s.now,s.nv,s.lv,.map b]]),none]) _ _ own s (.map b) ((bxt_old _ h2 _ (bget_lt hg2)).trans hg2) (hs2.bx _) hN hO rfl) (fun w3 h3 lg3 k3 hw3=> ?_)
      have z3:bget h3 (nb h2 0)=some (.row true 4 [[.int .i64 s.now,s.nv,s.lv,.map b]]):=(k3.get _ (by rw[bxt_len];simp[nb])).trans nb_get
      have y3:bget h3 (nb h2 1)=none:=(k3.get _ (by rw[bxt_len];simp[nb])).trans nb_get
      have b3: ∀ q,bget (bxt h3 q) (nb h2 0)=_:=fun q=>(bxt_old q h3 _ (bget_lt z3)).trans z3
      have i3:ins lg3 (nb h2 0)=false:=k3.ins0 (by simp)
      have m3:Keep ⟨h2,[],[]⟩ ⟨h3,lg3++ [nb h2 0],[]⟩:=(keep_bx (l:=[some (.row true 4 [[.int .i64 s.now,s.nv,s.lv,.map b]]),none]) (by repeat first |exact LogOK.nil |apply LogOK.cons)).trans (k3.lg _ _)
      have hs3:SnapAt h3 s:=SnapAt.keep (m:=⟨h2,[],[]⟩) (m':=⟨h3,lg3++ [nb h2 0],[]⟩) hs2 m3
      have hb3:bget h3 b=_:=(m3.get b (bget_lt hb)).trans hb
      simp+contextual -implicitDefEqProofs (maxSteps:=1000000) (maxDischargeDepth:=20) only[go_sem,simprocAttr,snapC,c1,c2,b3,i3,r_oF,r_oL,r_oM,Bool.cond_self,r_vc,r_vp,mskO,Mem.more,bmore,nb_more,List.filter_nil,List.flatMap_nil,List.filter_cons,List.flatMap_cons,List.map_nil,List.map_cons,mask,unmask,AOp.reads,AOpnd.top,top_p,top_s,top_m,top_i,top_b,top_t,top_a,top_u,top_ns,top_s0,top_d,top_f,nb_beq,nb_blt,nb_add,nidOf,slotIn,Nat.beq_refl,clash,Bool.or_self,List.any_nil,List.any_cons,AOp.isMaker]
      rw[←w_a]
      refine Wa_k (g32 (n+999) h3 [] [] s b hs3 hz hb3 hN hO) (fun w4 h4 lg4 k4 hw4=> ?_)
      have z4:bget h4 (nb h2 0)=some (.row true 4 [[.int .i64 s.now,s.nv,s.lv,.map b]]):=(k4.get _ (bget_lt z3)).trans z3
      have l3:nb h2 1<h3.length:=by have:=k3.len;rw[bxt_len] at this;simp only[List.length_cons,List.length_nil] at this;simp only[nb];omega
      have y4:bget h4 (nb h2 1)=none:=(k4.get _ l3).trans y3
      have b4: ∀ q,bget (bxt h4 q) (nb h2 0)=_:=fun q=>(bxt_old q h4 _ (bget_lt z4)).trans z4
      have i4:ins lg4 (nb h2 0)=false:=Keep.insl k4 (bget_lt z3)
      have hs4:SnapAt h4 s:=SnapAt.keep (m:=⟨h3,[],[]⟩) (m':=⟨h4,lg4,[]⟩) hs3 k4
      have hb4:bget h4 b=_:=(k4.get b (bget_lt hb3)).trans hb3
      have hv4:SlAt h4 9 v (l.map bunC):=SlAt.keep (m:=⟨h3,[],[]⟩) (m':=⟨h4,lg4,[]⟩) (SlAt.keep (m:=⟨h2,[],[]⟩) (m':=⟨h3,lg3++ [nb h2 0],[]⟩) hv2 m3) k4
      simp+contextual -implicitDefEqProofs (maxSteps:=1000000) (maxDischargeDepth:=20) only[go_sem,simprocAttr,snapC,c1,c2,b4,i3,i4,ins_app,r_oF,r_oL,r_oM,Bool.cond_self,r_vc,r_vp,mskO,Mem.more,bmore,nb_more,List.filter_nil,List.flatMap_nil,List.filter_cons,List.flatMap_cons,List.map_nil,List.map_cons,mask,unmask,AOp.reads,AOpnd.top,top_p,top_s,top_m,top_i,top_b,top_t,top_a,top_u,top_ns,top_s0,top_d,top_f,nb_beq,nb_blt,nb_add,nidOf,slotIn,Nat.beq_refl,clash,Bool.or_self,List.any_nil,List.any_cons,AOp.isMaker]
      rw[←w_a]
      refine Wa_k (g41 (n+999) h4 [] [] s b l v hs4 hz hb4 hv4 hy hd) (fun w5 h5 lg5 k5 hw5=> ?_)
      have l4:nb h2 1<h4.length:=Nat.lt_of_lt_of_le l3 k4.len
      have y5:bget h5 (nb h2 1)=none:=(k5.get _ l4).trans y4
      have l5:nb h2 1<h5.length:=Nat.lt_of_lt_of_le l4 k5.len
      have s5:SlAt h5 6 w5 ((custV s.d l).map vioC):=hw5.sl
      have s4:SlAt h5 6 w4 ((credsV s.d.nodes s.d.nodes.length).map vioC):=SlAt.keep (m:=⟨h4,[],[]⟩) (m':=⟨h5,lg5,[]⟩) hw4.sl k5
      have s3:SlAt h5 6 w3 ((spacesV s.d.nodes).map vioC):=SlAt.keep (m:=⟨h4,[],[]⟩) (m':=⟨h5,lg5,[]⟩) (SlAt.keep (m:=⟨h3,[],[]⟩) (m':=⟨h4,lg4,[]⟩) hw3.sl k4) k5
      have f3:=s3.sc
      have f4:=s4.sc
      have f5:=s5.sc
      have o:=old_blk l5
      have q4:Nat.blt (nb h2 1) (nb h5 0)=true:=by rw[Nat.blt_eq];simp only[nb] at l5 ⊢;omega
      have t3:=s3.cells
      have t4:=s4.cells
      have t5:=s5.cells
      simp+contextual -implicitDefEqProofs (maxSteps:=1000000) (maxDischargeDepth:=20) only[go_sem,simprocAttr,f3,f4,f5,t3,t4,t5,o,q4,r_vc,r_vp,mskO,Mem.more,bmore,nb_more,List.filter_nil,List.flatMap_nil,List.filter_cons,List.flatMap_cons,List.map_nil,List.map_cons,mask,unmask,AOp.reads,AOpnd.top,top_p,top_s,top_m,top_i,top_b,top_t,top_a,top_u,top_ns,top_s0,top_d,top_f,nb_beq,nb_blt,nb_add,nidOf,slotIn,Nat.beq_refl,clash,Bool.or_self,List.any_nil,List.any_cons,AOp.isMaker]
      rw[←w_a]
      have own5: ∀ {v:AV} {es:List (List AV)},SlAt h5 6 v es→SlAt (bput h5 (nb h2 1) (some (.row true 1 [[w3],[w4],[w5]]))) 6 v es:=fun hv=>hv.own l5 (hv.nnone y5) _ []
      have cv:catV [(w3,spacesV s.d.nodes),(w4,credsV s.d.nodes s.d.nodes.length),(w5,custV s.d l)]=spacesV s.d.nodes++credsV s.d.nodes s.d.nodes.length++custV s.d l:=by simp[catV]
      have n16:=(snap_nodes hz).1
      have lok:=(list_ok hy).1
      refine Wa_k (g44 (n+1499) (bput h5 (nb h2 1) (some (.row true 1 [[w3],[w4],[w5]]))) [] [] [(w3,spacesV s.d.nodes),(w4,credsV s.d.nodes s.d.nodes.length),(w5,custV s.d l)] (.slice (nb h2 1) 0 3 (some 3)) (.some (nb h2 1) 0 (some 3) true _ rfl (by rw[bget_set l5,if_pos rfl]) rfl (fun _ h=>by cases h;exact Nat.le_refl 3)) (by simp) ?_ ?_) (fun w6 h6 lg6 k6 hw6=> ?_)
      · rw[cv]
        have h1:=spacesV_len s.d.nodes
        have h2:=credsV_len s.d.nodes s.d.nodes.length
        have h3:=custV_len (l:=l) (snap_held H)
        have h4:s.d.nodes.length*s.d.nodes.length≤16*16:=Nat.mul_le_mul n16 n16
        rw[List.length_append,List.length_append]
        omega
      · intro x hx
        simp only[List.mem_cons,List.not_mem_nil,or_false] at hx
        rcases hx with rfl |rfl |rfl
        · exact ⟨own5 s3,hw3.noosl⟩
        · exact ⟨own5 s4,hw4.noosl⟩
        · exact ⟨own5 s5,hw5.noosl⟩
      rw[cv] at hw6
      simp+contextual -implicitDefEqProofs (maxSteps:=1000000) (maxDischargeDepth:=20) only[go_sem,simprocAttr,r_vc,r_vp,mskO,Mem.more,bmore,nb_more,List.filter_nil,List.flatMap_nil,List.filter_cons,List.flatMap_cons,List.map_nil,List.map_cons,mask,unmask,AOp.reads,AOpnd.top,top_p,top_s,top_m,top_i,top_b,top_t,top_a,top_u,top_ns,top_s0,top_d,top_f,nb_beq,nb_blt,nb_add,nidOf,slotIn,Nat.beq_refl,clash,Bool.or_self,List.any_nil,List.any_cons,AOp.isMaker,hy]
      have K5:Keep ⟨h,lg,d⟩ ⟨h5,lg5++(lg4++(lg3++nb h2 0::nb h2 0::lg2)),d⟩:=(((kk.trans (keep_bx (l:=[some (.row true 4 [[.int .i64 s.now,s.nv,s.lv,.map b]]),none]) (by repeat first |exact LogOK.nil |apply LogOK.cons))).trans (k3.lg _ _)).trans (k4.lg _ _)).trans (k5.lg _ _)
      have hge:h.length≤nb h2 1:=Nat.le_trans kk.len nb_ge
      have K6:=K5.own hge l5 (some (.row true 1 [[w3],[w4],[w5]])) [] (lg2:=nb h2 1::(lg5++(lg4++(lg3++nb h2 0::nb h2 0::lg2)))) (LgG.ok (.cons hge .nil))
      exact ⟨K6.trans (k6.lg _ _),ResV.ok hw6.1 hw6.2⟩
    · simp+contextual -implicitDefEqProofs (maxSteps:=1000000) (maxDischargeDepth:=20) only[go_sem,simprocAttr,snapC,c1,c2,g1,hy]
      exact ⟨kk.trans (keep_bx (by repeat first |exact LogOK.nil |apply LogOK.cons)),ResV.err hy⟩
  · rw[if_neg hz] at hw2
    subst hw2
    have ec:custE s.d l=snapE s.d:=by rw[custE,if_neg hz]
    rw[ec]
    simp+contextual -implicitDefEqProofs (maxSteps:=1000000) (maxDischargeDepth:=20) only[go_sem,simprocAttr,hz]
    exact ⟨kk.trans (keep_bx (by repeat first |exact LogOK.nil |apply LogOK.cons)),ResV.err hz⟩
end
section
variable {F:FuncId→Option AFunc} {meth:Meth} {sm:Summ}
def W31 (F:FuncId→Option AFunc) (meth:Meth) (sm:Summ):Prop:= ∀ (n:Nat) (h:Blks) (lg d:List Nat) (s:SnapX),SnapAt h s→SnapN s→
  Wa F meth sm (n+3000) (.fn 31) [.agg (snapC s)] ⟨bxt h [],lg,d⟩ (Qk ⟨h,lg,d⟩ fun w h'=>OutAt h.length h' 6 w ((spacesV s.d.nodes).map vioC))
def W33 (F:FuncId→Option AFunc) (meth:Meth) (sm:Summ):Prop:= ∀ (n:Nat) (h:Blks) (lg d:List Nat) (s:SnapX),SnapAt h s→snapE s.d=0→SnapN s→
  Wa F meth sm (n+3000) (.fn 33) [.agg (snapC s)] ⟨bxt h [],lg,d⟩ (Qk ⟨h,lg,d⟩ fun w h'=>OutAt h.length h' 6 w ((credsV s.d.nodes s.d.nodes.length).map vioC))
def W43 (F:FuncId→Option AFunc) (meth:Meth) (sm:Summ):Prop:= ∀ (n:Nat) (h:Blks) (lg d:List Nat) (s:SnapX) (l:List BunD) (v:AV),SnapAt h s→snapE s.d=0→SlAt h 9 v (l.map bunC)→listE l=0→(∀ x∈l,x.data.length≤1000000∧I x.total)→
  Wa F meth sm (n+3000) (.fn 43) [.agg (snapC s),v] ⟨bxt h [],lg,d⟩ (Qk ⟨h,lg,d⟩ fun w h'=>OutAt h.length h' 6 w ((custV s.d l).map vioC))
theorem e10 (hF:F 10=some AF10) (hs: ∀ vs m,sm 10 vs m=none) (n:Nat) (h:Blks) (lg d:List Nat) (h14:H14 sm) (g31:W31 F meth sm) {s:SnapX} (H:SnapAt h s) (hN:SnapN s):Wa F meth sm (n+4000) (.fn 10) [.agg (snapC s)] ⟨bxt h [],lg,d⟩ (Qk ⟨h,lg,d⟩ (ResV (snapE s.d) (spacesV s.d.nodes))):=by
  have c1:=H.v.sc
  have c2:=H.l.sc
  have g1:=fun q lg d=>h14 s ⟨bxt h q,lg,d⟩ (H.bx q)
  unfold snapC at g1
  by_cases hz:snapE s.d=0
  · rw[hz] at g1 ⊢
    simp+contextual -implicitDefEqProofs (maxSteps:=1000000) (maxDischargeDepth:=20) only[go_sem,simprocAttr,hs,hF,AF10,snapC,c1,c2,g1,q_k]
    rw[←w_a]
    refine Wa_k (g31 (n+999) (bxt h [some (.row true 3 [[.int .i64 s.now,s.nv,s.lv]])]) _ _ s (H.bx _) hN) (fun w h3 lg3 k3 hw3=> ?_)
    simp+contextual -implicitDefEqProofs (maxSteps:=1000000) (maxDischargeDepth:=20) only[go_sem,simprocAttr]
    exact ⟨(keep_bx (by repeat first |exact LogOK.nil |apply LogOK.cons)).trans k3.sub,ResV.ok hw3.sl hw3.noosl⟩
  · simp+contextual -implicitDefEqProofs (maxSteps:=1000000) (maxDischargeDepth:=20) only[go_sem,simprocAttr,hs,hF,AF10,snapC,c1,c2,g1,hz,q_k]
    exact ResV.err hz
theorem e12 (hF:F 12=some AF12) (hs: ∀ vs m,sm 12 vs m=none) (n:Nat) (h:Blks) (lg d:List Nat) (h14:H14 sm) (g33:W33 F meth sm) {s:SnapX} (H:SnapAt h s) (hN:SnapN s):Wa F meth sm (n+4000) (.fn 12) [.agg (snapC s)] ⟨bxt h [],lg,d⟩ (Qk ⟨h,lg,d⟩ (ResV (snapE s.d) (credsV s.d.nodes s.d.nodes.length))):=by
  have c1:=H.v.sc
  have c2:=H.l.sc
  have g1:=fun q lg d=>h14 s ⟨bxt h q,lg,d⟩ (H.bx q)
  unfold snapC at g1
  by_cases hz:snapE s.d=0
  · rw[hz] at g1 ⊢
    simp+contextual -implicitDefEqProofs (maxSteps:=1000000) (maxDischargeDepth:=20) only[go_sem,simprocAttr,hs,hF,AF12,snapC,c1,c2,g1,q_k]
    rw[←w_a]
    refine Wa_k (g33 (n+999) (bxt h [some (.row true 3 [[.int .i64 s.now,s.nv,s.lv]])]) _ _ s (H.bx _) hz hN) (fun w h3 lg3 k3 hw3=> ?_)
    simp+contextual -implicitDefEqProofs (maxSteps:=1000000) (maxDischargeDepth:=20) only[go_sem,simprocAttr]
    exact ⟨(keep_bx (by repeat first |exact LogOK.nil |apply LogOK.cons)).trans k3.sub,ResV.ok hw3.sl hw3.noosl⟩
  · simp+contextual -implicitDefEqProofs (maxSteps:=1000000) (maxDischargeDepth:=20) only[go_sem,simprocAttr,hs,hF,AF12,snapC,c1,c2,g1,hz,q_k]
    exact ResV.err hz
theorem e17 (hF:F 17=some AF17) (hs: ∀ vs m,sm 17 vs m=none) (n:Nat) (h:Blks) (lg d:List Nat) (h14:H14 sm) (h42:H42 sm) (g43:W43 F meth sm) {s:SnapX} {l:List BunD} {v:AV} (H:SnapAt h s) (hv:SlAt h 9 v (l.map bunC)) (hl:l.length≤10000) (hd: ∀ x∈l,x.data.length≤1000000∧I x.total):Wa F meth sm (n+4000) (.fn 17) [.agg (snapC s),v] ⟨bxt h [],lg,d⟩ (Qk ⟨h,lg,d⟩ (ResV (custE s.d l) (custV s.d l))):=by
  have c1:=H.v.sc
  have c2:=H.l.sc
  have g1:=fun q lg d=>h14 s ⟨bxt h q,lg,d⟩ (H.bx q)
  have g2:=fun q lg d=>h42 l v ⟨bxt h q,lg,d⟩ (hv.bx q) hl hd
  unfold snapC at g1
  by_cases hz:snapE s.d=0
  · have ec:custE s.d l=listE l:=by rw[custE,if_pos hz]
    rw[ec]
    rw[hz] at g1
    by_cases hy:listE l=0
    · rw[hy] at g2 ⊢
      simp+contextual -implicitDefEqProofs (maxSteps:=1000000) (maxDischargeDepth:=20) only[go_sem,simprocAttr,hs,hF,AF17,snapC,c1,c2,g1,g2,q_k]
      rw[←w_a]
      refine Wa_k (g43 (n+999) (bxt h [some (.row true 3 [[.int .i64 s.now,s.nv,s.lv]])]) _ _ s l v (H.bx _) hz (hv.bx _) hy hd) (fun w h3 lg3 k3 hw3=> ?_)
      simp+contextual -implicitDefEqProofs (maxSteps:=1000000) (maxDischargeDepth:=20) only[go_sem,simprocAttr]
      exact ⟨(keep_bx (by repeat first |exact LogOK.nil |apply LogOK.cons)).trans k3.sub,ResV.ok hw3.sl hw3.noosl⟩
    · simp+contextual -implicitDefEqProofs (maxSteps:=1000000) (maxDischargeDepth:=20) only[go_sem,simprocAttr,hs,hF,AF17,snapC,c1,c2,g1,g2,hy,q_k]
      exact ResV.err hy
  · have ec:custE s.d l=snapE s.d:=by rw[custE,if_neg hz]
    rw[ec]
    simp+contextual -implicitDefEqProofs (maxSteps:=1000000) (maxDischargeDepth:=20) only[go_sem,simprocAttr,hs,hF,AF17,snapC,c1,c2,g1,hz,q_k]
    exact ResV.err hz
end
section
variable {F:FuncId→Option AFunc} {meth:Meth} {sm:Summ}
def W17 (F:FuncId→Option AFunc) (meth:Meth) (sm:Summ):Prop:= ∀ (n:Nat) (h:Blks) (lg d:List Nat) (s:SnapX) (l:List BunD) (v:AV),SnapAt h s→SlAt h 9 v (l.map bunC)→l.length≤10000→(∀ x∈l,x.data.length≤1000000∧I x.total)→
  Wa F meth sm (n+4000) (.fn 17) [.agg (snapC s),v] ⟨bxt h [],lg,d⟩ (Qk ⟨h,lg,d⟩ (ResV (custE s.d l) (custV s.d l)))
theorem app_niln (get:Nat→Option ABlk) (nid e bt:Nat) (x:AV) (xs:List (List AV)) (h1:elemsOf get e x=some xs) (h2:xs≠ []) (h5:xs.length*bt≤roomMost):aappend get nid e bt .nilslice x=some (.slice nid 0 xs.length none,[⟨nid,some (.row true e xs),refsLL xs⟩]):=by
  cases xs with
  |nil=>exact absurd rfl h2
  | cons y ys=>
    simp only[aappend,h1]
    rw[if_pos h5]
theorem app_ownn (get:Nat→Option ABlk) (nid e bt b:Nat) (x:AV) (es xs:List (List AV)) (h1:elemsOf get e x=some xs) (h2:xs≠ []) (h3:get b=some (.row true e es)) (h5:(es.length+xs.length)*bt≤roomMost):aappend get nid e bt (.slice b 0 es.length none) x=some (.slice nid 0 (es.length+xs.length) none,[⟨b,none,[]⟩,⟨nid,some (.row true e (es++xs)),refsLL (es++xs)⟩]):=by
  cases xs with
  |nil=>exact absurd rfl h2
  | cons y ys=>
    simp only[aappend,h1,h3,Nat.zero_add]
    rw[if_neg (by omega)]
    have q:decide (es.length+(y::ys).length≤es.length)=false:=by apply decide_eq_false;simp
    simp only[q,Bool.false_eq_true,if_false,if_true,List.drop_zero,List.take_length]
theorem elsG0 (M:Blks) (e:Nat) (x:AV):elemsOf (fun b=>bif ins x.top b then bget M b else none) e x=elemsOf (bget M) e x:=elems_same fun b hb=>by rw[(ins_iff _ _).2 hb];rfl
theorem elsG1 (M:Blks) (e c:Nat) (x:AV):elemsOf (fun b=>bif bif Nat.beq c b then true else ins x.top b then bget M b else none) e x=elemsOf (bget M) e x:=elems_same fun b hb=>by
  simp only[(ins_iff _ _).2 hb]
  cases Nat.beq c b <;>rfl
theorem getG1 (M:Blks) (c:Nat) (l:List Nat):(fun b=>bif bif Nat.beq c b then true else ins l b then bget M b else none) c=bget M c:=by
  simp only[Nat.beq_refl,cond_true]
theorem slr {M:Blks} {b n:Nat} {V:List VioD} {es:List (List AV)} (hb:bget M b=some (.row true 6 es)) (he:es=V.map vioC) (hn:n=V.length):SlAt M 6 (.slice b 0 n none) (V.map vioC):=
  .some b 0 none true es (by rw[hn,List.length_map]) hb (by rw[List.drop_zero,he,List.take_length]) (fun _ h=>by cases h)
theorem e19 (hF:F 19=some AF19) (hs: ∀ vs m,sm 19 vs m=none) (n:Nat) (h:Blks) (lg d:List Nat) (g17:W17 F meth sm) (g31:W31 F meth sm) (g33:W33 F meth sm) {s:SnapX} {l:List BunD} {v:AV} (H:SnapAt h s) (hN:SnapN s) (hv:SlAt h 9 v (l.map bunC)) (hl:l.length≤10000) (hd: ∀ x∈l,x.data.length≤1000000∧I x.total):Wa F meth sm (n+5000) (.fn 19) [.agg (snapC s),v] ⟨bxt h [],lg,d⟩ (Qk ⟨h,lg,d⟩ (ResV (custE s.d l) (spacesV s.d.nodes++credsV s.d.nodes s.d.nodes.length++custV s.d l))):=by
  have c1:=H.v.sc
  have c2:=H.l.sc
  simp+contextual -implicitDefEqProofs (maxSteps:=1000000) (maxDischargeDepth:=20) only[go_sem,simprocAttr,hs,hF,AF19,snapC,c1,c2,q_k]
  rw[←w_a]
  refine Wa_k (g17 (n+999) (bxt h [some (.row true 3 [[.int .i64 s.now,s.nv,s.lv]])]) _ _ s l v (H.bx _) (hv.bx _) hl hd) (fun w h2 lg2 k2 hw2=> ?_)
  obtain ⟨vc,rfl,sc,oc⟩:=hw2
  have kk:Keep ⟨h,lg,d⟩ ⟨h2,lg2,d⟩:=(keep_bx (by repeat first |exact LogOK.nil |apply LogOK.cons)).trans k2.sub
  by_cases hy:custE s.d l=0
  · have hz:snapE s.d=0:=by rw[custE] at hy;split at hy <;>omega
    have hls:listE l=0:=by rw[custE,if_pos hz] at hy;exact hy
    rw[if_pos hy] at sc
    rw[hy]
    have hs2:SnapAt h2 s:=SnapAt.keep (m:=⟨h,lg,d⟩) (m':=⟨h2,lg2,d⟩) H kk
    have z2:bget h2 (nb h 0)=some (.row true 3 [[.int .i64 s.now,s.nv,s.lv]]):=(k2.get _ (by rw[bxt_len];simp[nb])).trans nb_get
    have b2: ∀ q,bget (bxt h2 q) (nb h 0)=_:=fun q=>(bxt_old q h2 _ (bget_lt z2)).trans z2
    simp+contextual -implicitDefEqProofs (maxSteps:=1000000) (maxDischargeDepth:=20) only[go_sem,simprocAttr,snapC,c1,c2,b2,r_vc,r_vp,mskO,Mem.more,bmore,nb_more,List.filter_nil,List.flatMap_nil,List.filter_cons,List.flatMap_cons,List.map_nil,List.map_cons,mask,unmask,AOp.reads,AOpnd.top,top_p,top_s,top_m,top_i,top_b,top_t,top_a,top_u,top_ns,top_s0,top_d,top_f,nb_beq,nb_blt,nb_add,nidOf,slotIn,Nat.beq_refl,clash,Bool.or_self,List.any_nil,List.any_cons,AOp.isMaker]
    rw[←w_a]
    refine Wa_k (g31 (n+1999) h2 [] [] s hs2 hN) (fun w3 h3 lg3 k3 hw3=> ?_)
    have z3:bget h3 (nb h 0)=some (.row true 3 [[.int .i64 s.now,s.nv,s.lv]]):=(k3.get _ (bget_lt z2)).trans z2
    have b3: ∀ q,bget (bxt h3 q) (nb h 0)=_:=fun q=>(bxt_old q h3 _ (bget_lt z3)).trans z3
    have i3:ins lg3 (nb h 0)=false:=k3.insl (bget_lt z2)
    have hs3:SnapAt h3 s:=SnapAt.keep (m:=⟨h2,[],[]⟩) (m':=⟨h3,lg3,[]⟩) hs2 k3
    simp+contextual -implicitDefEqProofs (maxSteps:=1000000) (maxDischargeDepth:=20) only[go_sem,simprocAttr,snapC,c1,c2,b3,i3,ins_app,r_oF,r_oL,r_oM,Bool.cond_self,r_vc,r_vp,mskO,Mem.more,bmore,nb_more,List.filter_nil,List.flatMap_nil,List.filter_cons,List.flatMap_cons,List.map_nil,List.map_cons,mask,unmask,AOp.reads,AOpnd.top,top_p,top_s,top_m,top_i,top_b,top_t,top_a,top_u,top_ns,top_s0,top_d,top_f,nb_beq,nb_blt,nb_add,nidOf,slotIn,Nat.beq_refl,clash,Bool.or_self,List.any_nil,List.any_cons,AOp.isMaker]
    rw[←w_a]
    refine Wa_k (g33 (n+1999) h3 [] [] s hs3 hz hN) (fun w4 h4 lg4 k4 hw4=> ?_)
    have s4:=hw4.sl
    have o3:OutAt h2.length h4 6 w3 ((spacesV s.d.nodes).map vioC):=OutAt.keep (m:=⟨h3,[],[]⟩) (m':=⟨h4,lg4,[]⟩) hw3 k4
    have sc4:SlAt h4 6 vc ((custV s.d l).map vioC):=SlAt.keep (m:=⟨h3,[],[]⟩) (m':=⟨h4,lg4,[]⟩) (SlAt.keep (m:=⟨h2,[],[]⟩) (m':=⟨h3,lg3,[]⟩) sc k3) k4
    have el4:=s4.els hw4.noosl
    have elc:=sc4.els oc
    have n16:=(snap_nodes hz).1
    have lok:=(list_ok hls).1
    have h1:=spacesV_len s.d.nodes
    have h2':=credsV_len s.d.nodes s.d.nodes.length
    have h3':=custV_len (l:=l) (snap_held H)
    have h4':s.d.nodes.length*s.d.nodes.length≤16*16:=Nat.mul_le_mul n16 n16
    have KK:Keep ⟨h,lg,d⟩ ⟨h4,lg4++(lg3++lg2),d⟩:=(kk.trans (k3.lg _ _)).trans (k4.lg _ _)
    generalize spacesV s.d.nodes=A at o3 h1
    generalize credsV s.d.nodes s.d.nodes.length=B at s4 el4 h2'
    generalize custV s.d l=C at sc4 elc h3'
    have mapne: ∀ {L:List VioD},¬ L=[]→L.map vioC≠ []:=fun h q=>h (List.map_eq_nil_iff.1 q)
    have oc4:=hw4.noosl
    have oslice: ∀ (b i m:Nat) (c:Option Nat) (n:Nat),AV.slice b i m c≠ .osl n:=fun b i m c n h=>by cases h
    have onil:NoOsl .nilslice:=fun n h=>by cases h
    have rm:roomMost=1000000000000:=rfl
    rcases o3 with ⟨hn,rfl⟩|⟨bo,rfl,hk,hbo⟩
    · have hA:A=[]:=List.map_eq_nil_iff.1 hn
      subst hA
      by_cases hB:B=[]
      · subst hB
        have ap1:=fun q nid=>app_z (fun b=>bif ins w4.top b then bget (bxt h4 q) b else none) nid 6 48 .nilslice w4 (.inl rfl) ((elsG0 _ _ _).trans (el4 q))
        by_cases hC:C=[]
        · subst hC
          have ap2:=fun q nid=>app_z (fun b=>bif ins vc.top b then bget (bxt h4 q) b else none) nid 6 48 .nilslice vc (.inl rfl) ((elsG0 _ _ _).trans (elc q))
          simp+contextual -implicitDefEqProofs (maxSteps:=1000000) (maxDischargeDepth:=20) only[go_sem,simprocAttr,ap1,ap2,r_oM,r_vc,r_vp,mskO,Mem.more,bmore,nb_more,List.filter_nil,List.flatMap_nil,List.filter_cons,List.flatMap_cons,List.map_nil,List.map_cons,mask,unmask,AOp.reads,AOpnd.top,top_p,top_s,top_m,top_i,top_b,top_t,top_a,top_u,top_ns,top_s0,top_d,top_f,nb_beq,nb_blt,nb_add,nidOf,slotIn,Nat.beq_refl,clash,Bool.or_self,List.any_nil,List.any_cons,AOp.isMaker]
          exact ⟨KK,ResV.ok (.none rfl (.inl rfl)) onil⟩
        · have ap2:=fun q nid=>app_niln (fun b=>bif ins vc.top b then bget (bxt h4 q) b else none) nid 6 48 vc _ ((elsG0 _ _ _).trans (elc q)) (mapne hC) (by rw[List.length_map,rm];omega)
          simp only[List.length_map] at ap2
          simp+contextual -implicitDefEqProofs (maxSteps:=1000000) (maxDischargeDepth:=20) only[go_sem,simprocAttr,ap1,ap2,r_oM,r_vc,r_vp,mskO,Mem.more,bmore,nb_more,List.filter_nil,List.flatMap_nil,List.filter_cons,List.flatMap_cons,List.map_nil,List.map_cons,mask,unmask,AOp.reads,AOpnd.top,top_p,top_s,top_m,top_i,top_b,top_t,top_a,top_u,top_ns,top_s0,top_d,top_f,nb_beq,nb_blt,nb_add,nidOf,slotIn,Nat.beq_refl,clash,Bool.or_self,List.any_nil,List.any_cons,AOp.isMaker]
          exact ⟨KK.trans (keep_bx (by repeat first |exact LogOK.nil |apply LogOK.cons)),ResV.ok (slr (b:=nb h4 0) nb_get rfl rfl) (oslice _ _ _ _)⟩
      · have ap1:=fun q nid=>app_niln (fun b=>bif ins w4.top b then bget (bxt h4 q) b else none) nid 6 48 w4 _ ((elsG0 _ _ _).trans (el4 q)) (mapne hB) (by rw[List.length_map,rm];omega)
        simp only[List.length_map] at ap1
        by_cases hC:C=[]
        · subst hC
          have ap2:=fun q nid c0 m=>app_z (fun b=>bif bif Nat.beq c0 b then true else ins vc.top b then bget (bxt h4 q) b else none) nid 6 48 (.slice c0 0 m none) vc (.inr ⟨_,_,_,_,rfl⟩) ((elsG1 _ _ _ _).trans (elc q))
          simp+contextual -implicitDefEqProofs (maxSteps:=1000000) (maxDischargeDepth:=20) only[go_sem,simprocAttr,ap1,ap2,r_oM,r_vc,r_vp,mskO,Mem.more,bmore,nb_more,List.filter_nil,List.flatMap_nil,List.filter_cons,List.flatMap_cons,List.map_nil,List.map_cons,mask,unmask,AOp.reads,AOpnd.top,top_p,top_s,top_m,top_i,top_b,top_t,top_a,top_u,top_ns,top_s0,top_d,top_f,nb_beq,nb_blt,nb_add,nidOf,slotIn,Nat.beq_refl,clash,Bool.or_self,List.any_nil,List.any_cons,AOp.isMaker]
          exact ⟨KK.trans (keep_bx (by repeat first |exact LogOK.nil |apply LogOK.cons)),ResV.ok (slr (b:=nb h4 0) nb_get rfl rfl) (oslice _ _ _ _)⟩
        · have ap2:=fun nid=>app_ownn (fun b=>bif bif Nat.beq (nb h4 0) b then true else ins vc.top b then bget (bxt h4 [some (.row true 6 (B.map vioC))]) b else none) nid 6 48 (nb h4 0) vc (B.map vioC) _ ((elsG1 _ _ _ _).trans (elc _)) (mapne hC) ((getG1 _ _ _).trans nb_get) (by rw[List.length_map,List.length_map,rm];omega)
          simp only[List.length_map] at ap2
          simp+contextual -implicitDefEqProofs (maxSteps:=1000000) (maxDischargeDepth:=20) only[go_sem,simprocAttr,ap1,ap2,r_oM,r_vc,r_vp,mskO,Mem.more,bmore,nb_more,List.filter_nil,List.flatMap_nil,List.filter_cons,List.flatMap_cons,List.map_nil,List.map_cons,mask,unmask,AOp.reads,AOpnd.top,top_p,top_s,top_m,top_i,top_b,top_t,top_a,top_u,top_ns,top_s0,top_d,top_f,nb_beq,nb_blt,nb_add,nidOf,slotIn,Nat.beq_refl,clash,Bool.or_self,List.any_nil,List.any_cons,AOp.isMaker]
          exact ⟨KK.trans (keep_bx (by repeat first |exact LogOK.nil |apply LogOK.cons)),ResV.ok (slr (b:=nb h4 1) nb_get (by simp) (by simp)) (oslice _ _ _ _)⟩
    · rw[List.length_map]
      have hbo': ∀ q,bget (bxt h4 q) bo=_:=fun q=>(bxt_old q h4 _ (bget_lt hbo)).trans hbo
      have o:=old_blk (bget_lt hbo)
      have hge:h.length≤bo:=Nat.le_trans kk.len hk
      have hr: ∀ c∈vc.refs,c≠bo:=fun c hc q=>by have:=sc.refs c hc;omega
      have sc5: ∀ x,SlAt (bput h4 bo x) 6 vc (C.map vioC):=fun x=>sc4.own (bget_lt hbo) hr x []
      have elc2:=fun x q=>(sc5 x).els oc q
      by_cases hB:B=[]
      · subst hB
        have ap1:=fun q nid m=>app_z (fun b=>bif bif Nat.beq bo b then true else ins w4.top b then bget (bxt h4 q) b else none) nid 6 48 (.slice bo 0 m none) w4 (.inr ⟨_,_,_,_,rfl⟩) ((elsG1 _ _ _ _).trans (el4 q))
        by_cases hC:C=[]
        · subst hC
          have ap2:=fun q nid m=>app_z (fun b=>bif bif Nat.beq bo b then true else ins vc.top b then bget (bxt h4 q) b else none) nid 6 48 (.slice bo 0 m none) vc (.inr ⟨_,_,_,_,rfl⟩) ((elsG1 _ _ _ _).trans (elc q))
          simp+contextual -implicitDefEqProofs (maxSteps:=1000000) (maxDischargeDepth:=20) only[go_sem,simprocAttr,ap1,ap2,r_oM,r_vc,r_vp,mskO,Mem.more,bmore,nb_more,List.filter_nil,List.flatMap_nil,List.filter_cons,List.flatMap_cons,List.map_nil,List.map_cons,mask,unmask,AOp.reads,AOpnd.top,top_p,top_s,top_m,top_i,top_b,top_t,top_a,top_u,top_ns,top_s0,top_d,top_f,nb_beq,nb_blt,nb_add,nidOf,slotIn,Nat.beq_refl,clash,Bool.or_self,List.any_nil,List.any_cons,AOp.isMaker]
          exact ⟨KK,ResV.ok (slr (b:=bo) hbo rfl rfl) (oslice _ _ _ _)⟩
        · have ap2:=fun q nid=>app_ownn (fun b=>bif bif Nat.beq bo b then true else ins vc.top b then bget (bxt h4 q) b else none) nid 6 48 bo vc (A.map vioC) _ ((elsG1 _ _ _ _).trans (elc q)) (mapne hC) ((getG1 _ _ _).trans (hbo' q)) (by rw[List.length_map,List.length_map,rm];omega)
          simp only[List.length_map] at ap2
          simp+contextual -implicitDefEqProofs (maxSteps:=1000000) (maxDischargeDepth:=20) only[go_sem,simprocAttr,ap1,ap2,o,r_oM,r_vc,r_vp,mskO,Mem.more,bmore,nb_more,List.filter_nil,List.flatMap_nil,List.filter_cons,List.flatMap_cons,List.map_nil,List.map_cons,mask,unmask,AOp.reads,AOpnd.top,top_p,top_s,top_m,top_i,top_b,top_t,top_a,top_u,top_ns,top_s0,top_d,top_f,nb_beq,nb_blt,nb_add,nidOf,slotIn,Nat.beq_refl,clash,Bool.or_self,List.any_nil,List.any_cons,AOp.isMaker]
          exact ⟨KK.own hge (bget_lt hbo) _ _ (LgG.ok (by repeat first |exact LgG.nil |refine LgG.cons (by first |exact nb_ge |exact Nat.le_trans (KK.len) nb_ge |assumption) ?_)),ResV.ok (slr (b:=nb h4 0) (o.2.1 _ _ _) (by simp) (by simp)) (oslice _ _ _ _)⟩
      · have ap1:=fun q nid=>app_ownn (fun b=>bif bif Nat.beq bo b then true else ins w4.top b then bget (bxt h4 q) b else none) nid 6 48 bo w4 (A.map vioC) _ ((elsG1 _ _ _ _).trans (el4 q)) (mapne hB) ((getG1 _ _ _).trans (hbo' q)) (by rw[List.length_map,List.length_map,rm];omega)
        simp only[List.length_map] at ap1
        by_cases hC:C=[]
        · subst hC
          have ap2:=fun x q nid c0 m=>app_z (fun b=>bif bif Nat.beq c0 b then true else ins vc.top b then bget (bxt (bput h4 bo x) q) b else none) nid 6 48 (.slice c0 0 m none) vc (.inr ⟨_,_,_,_,rfl⟩) ((elsG1 _ _ _ _).trans (elc2 x q))
          simp+contextual -implicitDefEqProofs (maxSteps:=1000000) (maxDischargeDepth:=20) only[go_sem,simprocAttr,ap1,ap2,o,r_oM,r_vc,r_vp,mskO,Mem.more,bmore,nb_more,List.filter_nil,List.flatMap_nil,List.filter_cons,List.flatMap_cons,List.map_nil,List.map_cons,mask,unmask,AOp.reads,AOpnd.top,top_p,top_s,top_m,top_i,top_b,top_t,top_a,top_u,top_ns,top_s0,top_d,top_f,nb_beq,nb_blt,nb_add,nidOf,slotIn,Nat.beq_refl,clash,Bool.or_self,List.any_nil,List.any_cons,AOp.isMaker]
          exact ⟨KK.own hge (bget_lt hbo) _ _ (LgG.ok (by repeat first |exact LgG.nil |refine LgG.cons (by first |exact nb_ge |exact Nat.le_trans (KK.len) nb_ge |assumption) ?_)),ResV.ok (slr (b:=nb h4 0) (o.2.1 _ _ _) (by simp) (by simp)) (oslice _ _ _ _)⟩
        · have ap2:=fun nid=>app_ownn (fun b=>bif bif Nat.beq (nb h4 0) b then true else ins vc.top b then bget (bxt (bput h4 bo none) [some (.row true 6 (A.map vioC++B.map vioC))]) b else none) nid 6 48 (nb h4 0) vc (A.map vioC++B.map vioC) _ ((elsG1 _ _ _ _).trans (elc2 _ _)) (mapne hC) ((getG1 _ _ _).trans (o.2.1 _ _ _)) (by rw[List.length_append,List.length_map,List.length_map,List.length_map,rm];omega)
          simp only[List.length_map,List.length_append] at ap2
          simp+contextual -implicitDefEqProofs (maxSteps:=1000000) (maxDischargeDepth:=20) only[go_sem,simprocAttr,ap1,ap2,And.intro o.1 (And.intro o.2.1 (And.intro o.2.2.1 o.2.2.2.2)),r_oM,r_vc,r_vp,mskO,Mem.more,bmore,nb_more,List.filter_nil,List.flatMap_nil,List.filter_cons,List.flatMap_cons,List.map_nil,List.map_cons,mask,unmask,AOp.reads,AOpnd.top,top_p,top_s,top_m,top_i,top_b,top_t,top_a,top_u,top_ns,top_s0,top_d,top_f,nb_beq,nb_blt,nb_add,nidOf,slotIn,Nat.beq_refl,clash,Bool.or_self,List.any_nil,List.any_cons,AOp.isMaker]
          exact ⟨KK.own hge (bget_lt hbo) _ _ (LgG.ok (.cons (Nat.le_trans KK.len (by rw[nb_bput (bget_lt hbo)];exact nb_ge)) (.cons (Nat.le_trans KK.len nb_ge) (.cons (Nat.le_trans KK.len nb_ge) (.cons hge .nil))))),ResV.ok (slr (b:=nb (bput h4 bo none) 1) nb_get (by simp) (by simp[Nat.add_assoc])) (oslice _ _ _ _)⟩
  · rw[if_neg hy] at sc
    simp+contextual -implicitDefEqProofs (maxSteps:=1000000) (maxDischargeDepth:=20) only[go_sem,simprocAttr,hy]
    exact ⟨kk,ResV.err hy⟩
end
section
variable {F:FuncId→Option AFunc} {meth:Meth} {sm:Summ}
def lightL (l:List BunD):Bool:=l.all fun b=>decide (¬ 1100<(b.data.length:Int))
def smallP (x:PX):Prop:= ¬ 30<(x.p.send.slots.length:Int)∧ ¬ 30<(x.p.recv.taken.length:Int)∧ ¬ 30<(x.p.recv.kept.length:Int)
instance (x:PX):Decidable (smallP x):=by unfold smallP;infer_instance
def smallL (l:List PX):Bool:=l.all fun x=>decide (smallP x)
def H5 (sm:Summ):Prop:= ∀ (l:List BunD) (v:AV) (m:Mem),SlAt m.blks 9 v (l.map bunC)→l.length≤1000→sm 5 [v] m=some (.bool (decide (lightL l=true)),m)
theorem e5 (hF:F 5=some AF5) (hs: ∀ vs m,sm 5 vs m=none) (n:Nat) (h:Blks) (lg d:List Nat) {l:List BunD} {v:AV} (hv:SlAt h 9 v (l.map bunC)) (hw:l.length≤1000):Ev F meth sm (n+2000) 5 [v] ⟨h,lg,d⟩ (.bool (decide (lightL l=true))):=by
  refine Ev.ofW ?_
  have lv:=hv.len
  simp+contextual -implicitDefEqProofs (maxSteps:=1000000) (maxDischargeDepth:=20) only[go_sem,simprocAttr,hs,hF,AF5,lv,List.length_map]
  refine WloopK l.length [X3] (fun i=> [.int .i64 i]) (fun i=>lightL l=lightL (l.drop i)) (by omega) (by repeat first |apply Cl_b |apply Cl_q |apply Cl_r) ⟨rfl,rfl⟩ (fun i h' lg' g hi hP hK=> ?_) (fun h' lg' g hP hK=> ?_)
  · have a:=hK.all (lg:=lg) (d:=d) (by repeat first |exact LogOK.nil |apply LogOK.cons)
    have e:=(hK.sl hv).el hi
    have r:=rnd hi (by omega)
    unfold bunC at e
    rw[List.drop_eq_getElem_cons hi,lightL,lightL,List.all_cons,←gt_eq hi] at hP
    simp+contextual -implicitDefEqProofs (maxSteps:=1000000) (maxDischargeDepth:=20) only[go_sem,simprocAttr,a,e,r,lv,List.length_map]
    refine ⟨fun c=> ?_,fun c=> ?_⟩
    · symm;apply decide_eq_false
      rw[lightL,hP,decide_eq_false (fun q=>q c)];simp
    · rw[lightL,hP,decide_eq_true c];rfl
  · have a:=hK.all (lg:=lg) (d:=d) (by repeat first |exact LogOK.nil |apply LogOK.cons)
    have r:=rndl l.length
    simp+contextual -implicitDefEqProofs (maxSteps:=1000000) (maxDischargeDepth:=20) only[go_sem,simprocAttr,a,r,lv,List.length_map]
    rw[hP,List.drop_length]
    rfl
def H22 (sm:Summ):Prop:= ∀ (l:List PX) (v:AV) (m:Mem),PeersAt m.blks v l→l.length≤1000→sm 22 [v] m=some (.bool (decide (smallL l=true)),m)
theorem e22 (hF:F 22=some AF22) (hs: ∀ vs m,sm 22 vs m=none) (n:Nat) (h:Blks) (lg d:List Nat) {l:List PX} {v:AV} (hv:PeersAt h v l) (hw:l.length≤1000):Ev F meth sm (n+2000) 22 [v] ⟨h,lg,d⟩ (.bool (decide (smallL l=true))):=by
  refine Ev.ofW ?_
  have lv:=hv.v.len
  simp+contextual -implicitDefEqProofs (maxSteps:=1000000) (maxDischargeDepth:=20) only[go_sem,simprocAttr,hs,hF,AF22,lv,List.length_map]
  refine WloopK l.length [X3] (fun i=> [.int .i64 i]) (fun i=>smallL l=smallL (l.drop i)) (by omega) (by repeat first |apply Cl_b |apply Cl_q |apply Cl_r) ⟨rfl,rfl⟩ (fun i h' lg' g hi hP hK=> ?_) (fun h' lg' g hP hK=> ?_)
  · have a:=hK.all (lg:=lg) (d:=d) (by repeat first |exact LogOK.nil |apply LogOK.cons)
    have hp:=hK.ps hv
    have e:=hp.v.el hi
    have r:=rnd hi (by omega)
    have hx:=hp.p _ (gt_mem hi)
    have d1:=hx.s.s.sc
    have d2:=hx.r.t.sc
    have d3:=hx.r.k.sc
    have l1:=hx.s.s.len
    have l2:=hx.r.t.len
    have l3:=hx.r.k.len
    unfold pxC peerC at e
    rw[List.drop_eq_getElem_cons hi,smallL,smallL,List.all_cons,←gt_eq hi] at hP
    simp+contextual -implicitDefEqProofs (maxSteps:=1000000) (maxDischargeDepth:=20) only[go_sem,simprocAttr,a,e,r,lv,List.length_map,d1,d2,d3,l1,l2,l3]
    have sp:smallP (gt l i)↔(¬ 30<((gt l i).p.send.slots.length:Int)∧ ¬ 30<((gt l i).p.recv.taken.length:Int)∧ ¬ 30<((gt l i).p.recv.kept.length:Int)):=Iff.rfl
    have no: ¬ smallP (gt l i)→false=decide (smallL l=true):=fun q=>by
      symm;apply decide_eq_false
      rw[smallL,hP,decide_eq_false q];simp
    have yes:smallP (gt l i)→smallL l=smallL (l.drop (i+1)):=fun q=>by
      rw[smallL,hP,decide_eq_true q];rfl
    refine ⟨fun c=>no fun q=>(sp.1 q).1 c,fun c=>⟨fun c2=>no fun q=>(sp.1 q).2.1 c2,fun c2=>⟨fun c3=>no fun q=>(sp.1 q).2.2 c3,fun c3=>yes (sp.2 ⟨c,c2,c3⟩)⟩⟩⟩
  · have a:=hK.all (lg:=lg) (d:=d) (by repeat first |exact LogOK.nil |apply LogOK.cons)
    have r:=rndl l.length
    simp+contextual -implicitDefEqProofs (maxSteps:=1000000) (maxDischargeDepth:=20) only[go_sem,simprocAttr,a,r,lv,List.length_map]
    rw[hP,List.drop_length]
    rfl
structure ViewR (h:Blks) (x:VX):Prop where
  b:SlAt h 9 x.b (x.v.st.held.map bunC)
  m:SlAt h 4 x.m (x.v.st.seen.map markC)
  p:PeersAt h x.p x.lp
  q:PeersAt h x.q x.lq
theorem ViewR.keep {m m':Mem} {x:VX} (H:ViewR m.blks x) (k:Keep m m'):ViewR m'.blks x:=⟨H.b.keep k,H.m.keep k,H.p.keep k,H.q.keep k⟩
structure SnapR (h:Blks) (s:SnapX):Prop where
  v:SlAt h 26 s.nv (s.vs.map viewC)
  l:SlAt h 3 s.lv (s.ls.map linkC)
  va: ∀ x∈s.vs,ViewR h x
  la: ∀ x∈s.ls,SlAt h 1 x.f (x.l.frames.map strC)
theorem SnapR.keep {m m':Mem} {s:SnapX} (H:SnapR m.blks s) (k:Keep m m'):SnapR m'.blks s:=⟨H.v.keep k,H.l.keep k,fun x hx=>(H.va x hx).keep k,fun x hx=>(H.la x hx).keep k⟩
theorem SnapR.bx {h:Blks} {s:SnapX} (H:SnapR h s) (l:List (Option ABlk)):SnapR (bxt h l) s:=SnapR.keep (m:=⟨h,[],[]⟩) (m':=⟨bxt h l,[],[]⟩) H ⟨by show h.length≤(bxt h l).length;rw[bxt_len];omega,fun b hb=>bxt_old l h b hb,rfl,[],rfl,fun _ h=>by cases h⟩
structure LightV (x:VX):Prop where
  b:x.v.st.held.length≤15
  m:x.v.st.seen.length≤30
  p:x.lp.length≤18
  q:x.lq.length≤18
  p':smallL x.lp=true
  q':smallL x.lq=true
  d:lightL x.v.st.held=true
structure LightS (s:SnapX):Prop where
  n:s.vs.length≤18
  k:s.ls.length≤245
  v: ∀ x∈s.vs,LightV x
  f: ∀ x∈s.ls,x.l.frames.length≤200
theorem e4 (hF:F 4=some AF4) (hs: ∀ vs m,sm 4 vs m=none) (n:Nat) (h:Blks) (lg d:List Nat) (h5:H5 sm) (h22:H22 sm) {s:SnapX} (H:SnapR h s):Wa F meth sm (n+2000) (.fn 4) [.agg (snapC s)] ⟨bxt h [],lg,d⟩ (Qk ⟨h,lg,d⟩ fun w _=> ∃ b:Bool,w= .bool b∧(b=true→LightS s)):=by
  have c1:=H.v.sc
  have c2:=H.l.sc
  have l1:=H.v.len
  have l2:=H.l.len
  simp+contextual -implicitDefEqProofs (maxSteps:=1000000) (maxDischargeDepth:=20) only[go_sem,simprocAttr,hs,hF,AF4,snapC,c1,c2,l1,l2,List.length_map,q_k]
  refine ⟨fun c=>⟨false,rfl,fun q=>by cases q⟩,fun e1=>⟨fun c=>⟨false,rfl,fun q=>by cases q⟩,fun e2=> ?_⟩⟩
  refine WloopK s.vs.length [X3] (fun i=> [.int .i64 i]) (fun i=> ∀ x∈s.vs.take i,LightV x) (by omega) (by repeat first |apply Cl_b |apply Cl_q |apply Cl_r) ⟨rfl,fun x hx=>by simp at hx⟩ (fun i h' lg' g hi hP hK=> ?_) (fun h' lg' g hP hK=> ?_)
  · have a:=hK.all (lg:=lg) (d:=d) (by repeat first |exact LogOK.nil |apply LogOK.cons)
    have hs':SnapR h' s:=SnapR.keep (m:=⟨bxt h _,_,[]⟩) (m':=⟨h',lg',[]⟩) (H.bx _) hK
    have e:=hs'.v.el hi
    have r:=rnd hi (by omega)
    have hx:=hs'.va _ (gt_mem hi)
    have d1:=hx.b.sc
    have d2:=hx.m.sc
    have d3:=hx.p.v.sc
    have d4:=hx.q.v.sc
    have m1:=hx.b.len
    have m2:=hx.m.len
    have m3:=hx.p.v.len
    have m4:=hx.q.v.len
    have g1:=fun (c: ¬ 18<((gt s.vs i).lq.length:Int)) l lg d=>h22 (gt s.vs i).lq (gt s.vs i).q ⟨bxt h' l,lg,d⟩ (hx.q.bx l) (by omega)
    have g2:=fun (c: ¬ 18<((gt s.vs i).lp.length:Int)) l lg d=>h22 (gt s.vs i).lp (gt s.vs i).p ⟨bxt h' l,lg,d⟩ (hx.p.bx l) (by omega)
    have g3:=fun (c: ¬ 15<((gt s.vs i).v.st.held.length:Int)) l lg d=>h5 (gt s.vs i).v.st.held (gt s.vs i).b ⟨bxt h' l,lg,d⟩ (hx.b.bx l) (by omega)
    unfold viewC at e
    simp+contextual -implicitDefEqProofs (maxSteps:=1000000) (maxDischargeDepth:=20) only[go_sem,simprocAttr,a,e,r,l1,l2,List.length_map,d1,d2,d3,d4,m1,m2,m3,m4,g1,g2,g3]
    have no: ∀ q lg2,LogOK h' lg' lg2→Qk ⟨h,lg,d⟩ (fun w _=> ∃ b:Bool,w= .bool b∧(b=true→LightS s)) (.bool false) ⟨bxt h' q,lg2,d⟩:=fun q lg2 hq=>⟨a.2.2 _ _ hq,false,rfl,fun q=>by cases q⟩
    refine ⟨fun c1=>no _ _ (by repeat first |exact LogOK.nil |apply LogOK.cons),fun c1=>⟨fun c2=>no _ _ (by repeat first |exact LogOK.nil |apply LogOK.cons),fun c2=>⟨fun c3=>no _ _ (by repeat first |exact LogOK.nil |apply LogOK.cons),fun c3=>⟨fun c4=>no _ _ (by repeat first |exact LogOK.nil |apply LogOK.cons),fun c4=>⟨fun c5=>no _ _ (by repeat first |exact LogOK.nil |apply LogOK.cons),fun c5=>⟨fun c6=>no _ _ (by repeat first |exact LogOK.nil |apply LogOK.cons),fun c6=>⟨fun c7=>no _ _ (by repeat first |exact LogOK.nil |apply LogOK.cons),fun c7 x hx=> ?_⟩⟩⟩⟩⟩⟩⟩
    rw[List.take_add_one,List.getElem?_eq_getElem hi,Option.toList_some,List.mem_append,List.mem_singleton,←gt_eq hi] at hx
    rcases hx with hx |rfl
    · exact hP x hx
    · exact ⟨by omega,by omega,by omega,by omega,c6,c5,c7⟩
  · have a:=hK.all (lg:=lg) (d:=d) (by repeat first |exact LogOK.nil |apply LogOK.cons)
    have r:=rndl s.vs.length
    rw[List.take_length] at hP
    simp+contextual -implicitDefEqProofs (maxSteps:=1000000) (maxDischargeDepth:=20) only[go_sem,simprocAttr,a,r,l1,l2,List.length_map]
    refine WloopKE (α:=Nat) s.ls.length [X6,X5] (fun i n=> [.int .i64 i,.int .i64 n]) (fun i n _=>n≤200∧ ∀ x∈s.ls.take i,x.l.frames.length≤200) (by omega) (by repeat first |apply Cl_b |apply Cl_q |apply Cl_r) ⟨0,rfl,by omega,fun x hx=>by simp at hx⟩ (fun i n1 h2 lg2 g2 hi hP2 hK2=> ?_) (fun n1 h2 lg2 g2 hP2 hK2=> ?_)
    · have kk:=hK.trans hK2
      have a2:=hK2.all (lg:=lg') (d:=d) (by repeat first |exact LogOK.nil |apply LogOK.cons)
      have a:=Keep.all (lg:=lg) (d:=d) kk (by repeat first |exact LogOK.nil |apply LogOK.cons)
      have r:=rnd hi (by omega)
      simp+contextual -implicitDefEqProofs (maxSteps:=1000000) (maxDischargeDepth:=20) only[go_sem,simprocAttr,a,a2,r,l2,List.length_map,e_n,e_e,e_r]
      refine WloopK (min (gt s.ls i).l.frames.length (200 - n1)) [X7,X5] (fun k=> [.int .i64 k,.int .i64 ((n1+k:Nat):Int)]) (fun _=>True) (by omega) (by repeat first |apply Cl_b |apply Cl_q |apply Cl_r |apply Cl_v |apply Cl_e) ⟨rfl,trivial⟩ (fun k h3 lg3 g3 hk hP3 hK3=> ?_) (fun h3 lg3 g3 hP3 hK3=> ?_)
      · have kk:=(hK.trans hK2).trans hK3
        have a:=Keep.all (lg:=lg) (d:=d) kk (by repeat first |exact LogOK.nil |apply LogOK.cons)
        have hs3:SnapR h3 s:=SnapR.keep (m:=⟨bxt h _,_,[]⟩) (m':=⟨h3,lg3,[]⟩) (H.bx _) kk
        have e:=hs3.l.el hi
        have hf:=hs3.la _ (gt_mem hi)
        have lf:=hf.len
        have ef:=hf.el (i:=k) (by omega)
        have sf:=hf.sc
        have r1:((k:Int)<((gt s.ls i).l.frames.length:Int))=True:=eq_true (by omega)
        have r2:IntKind.i64.wrap (((n1+k:Nat):Int)+1)=((n1+(k+1):Nat):Int):=by rw[wrapI (by omega) (by omega)];omega
        have r3:(200<((n1+(k+1):Nat):Int))=False:=eq_false (by omega)
        have r4:IntKind.i64.wrap ((k:Int)+1)=((k+1:Nat):Int):=by rw[wrapI (by omega) (by omega)];omega
        unfold linkC at e
        unfold strC at ef
        simp+contextual -implicitDefEqProofs (maxSteps:=1000000) (maxDischargeDepth:=20) only[go_sem,simprocAttr,a,e,lf,ef,sf,r1,r2,r3,r4,List.length_map,e_n,e_e,e_r,q_k]
        exact ⟨fun _=>⟨false,rfl,fun q=>by cases q⟩,fun _=>hK3⟩
      · have kk:=(hK.trans hK2).trans hK3
        have a:=Keep.all (lg:=lg) (d:=d) kk (by repeat first |exact LogOK.nil |apply LogOK.cons)
        have hs3:SnapR h3 s:=SnapR.keep (m:=⟨bxt h _,_,[]⟩) (m':=⟨h3,lg3,[]⟩) (H.bx _) kk
        have e:=hs3.l.el hi
        have hf:=hs3.la _ (gt_mem hi)
        have lf:=hf.len
        have sf:=hf.sc
        unfold linkC at e
        generalize hN:min (gt s.ls i).l.frames.length (200 - n1)=N
        by_cases hle:(gt s.ls i).l.frames.length≤200 - n1
        · have r1:((N:Int)<((gt s.ls i).l.frames.length:Int))=False:=eq_false (by omega)
          simp+contextual -implicitDefEqProofs (maxSteps:=1000000) (maxDischargeDepth:=20) only[go_sem,simprocAttr,a,e,lf,sf,r1,r,List.length_map,e_n,e_e,e_r]
          refine ⟨n1+N,rfl,hK2.trans hK3,by omega,fun x hx=> ?_⟩
          rw[List.take_add_one,List.getElem?_eq_getElem hi,Option.toList_some,List.mem_append,List.mem_singleton,←gt_eq hi] at hx
          rcases hx with hx |rfl
          · exact hP2.2 x hx
          · omega
        · have r1:((N:Int)<((gt s.ls i).l.frames.length:Int))=True:=eq_true (by omega)
          have r2:IntKind.i64.wrap (((n1+N:Nat):Int)+1)=201:=by rw[wrapI (by omega) (by omega)];omega
          simp+contextual -implicitDefEqProofs (maxSteps:=1000000) (maxDischargeDepth:=20) only[go_sem,simprocAttr,a,e,lf,sf,r1,r2,List.length_map,e_n,e_e,e_r,q_k]
          exact ⟨false,rfl,fun q=>by cases q⟩
    · have kk:=hK.trans hK2
      have a2:=hK2.all (lg:=lg') (d:=d) (by repeat first |exact LogOK.nil |apply LogOK.cons)
      have a:=Keep.all (lg:=lg) (d:=d) kk (by repeat first |exact LogOK.nil |apply LogOK.cons)
      have r:=rndl s.ls.length
      rw[List.take_length] at hP2
      simp+contextual -implicitDefEqProofs (maxSteps:=1000000) (maxDischargeDepth:=20) only[go_sem,simprocAttr,a,a2,r,l2,List.length_map,q_k]
      exact ⟨true,rfl,fun _=>⟨by omega,by omega,hP,hP2.2⟩⟩
end
section
variable {F:FuncId→Option AFunc} {meth:Meth} {sm:Summ}
theorem SlAt.els0 {h:Blks} {e:Nat} {v:AV} {es:List (List AV)} (H:SlAt h e v es) (l:List (Option ABlk)):elemsOf (bget (bxt h l)) e v=Option.some es:=by
  rcases H with ⟨rfl,rfl |rfl |rfl⟩|⟨b,i,c,own,rows,rfl,hb,hw,hk⟩
  · rfl
  · rfl
  · rfl
  · exact SlAt.els (.some b i c own rows rfl hb hw hk) (fun n h=>by cases h) l
structure SlO (k:Nat) (h:Blks) (e:Nat) (v:AV) (es:List (List AV)):Prop where
  sl:SlAt h e v es
  no:NoOsl v
  fr: ∀ c∈v.refs,k≤c
theorem SlO.keep {k:Nat} {m m':Mem} {e:Nat} {v:AV} {es:List (List AV)} (H:SlO k m.blks e v es) (q:Keep m m'):SlO k m'.blks e v es:=⟨H.sl.keep q,H.no,H.fr⟩
theorem SlO.bx {k:Nat} {h:Blks} {e:Nat} {v:AV} {es:List (List AV)} (H:SlO k h e v es) (l:List (Option ABlk)):SlO k (bxt h l) e v es:=⟨H.sl.bx l,H.no,H.fr⟩
theorem SlO.le {k k':Nat} {h:Blks} {e:Nat} {v:AV} {es:List (List AV)} (H:SlO k h e v es) (q:k'≤k):SlO k' h e v es:=⟨H.sl,H.no,fun c hc=>Nat.le_trans q (H.fr c hc)⟩
theorem SlO.below {k:Nat} {h:Blks} {b e:Nat} {v:AV} {es:List (List AV)} (H:SlO k h e v es) (hb:b<h.length) (hk:b<k) (x:Option ABlk) (l:List (Option ABlk)):SlO k (bxt (bput h b x) l) e v es:=⟨H.sl.own hb (fun c hc q=>by have:=H.fr c hc;omega) x l,H.no,H.fr⟩
theorem SlO.other {k:Nat} {h:Blks} {b e e':Nat} {own:Bool} {rows:List (List AV)} {v:AV} {es:List (List AV)} (H:SlO k h e v es) (hb:bget h b=some (.row own e' rows)) (hne:e≠e') (x:Option ABlk) (l:List (Option ABlk)):SlO k (bxt (bput h b x) l) e v es:=⟨H.sl.own (bget_lt hb) (H.sl.nrefs hb hne) x l,H.no,H.fr⟩
theorem slo_0 {k:Nat} {h:Blks} {e:Nat}:SlO k h e .slice0 []:=⟨.none rfl (.inr (.inl rfl)),fun n h=>by (cases h),fun c hc=>by cases hc⟩
theorem slo_n {k:Nat} {h:Blks} {e:Nat}:SlO k h e .nilslice []:=⟨.none rfl (.inl rfl),fun n h=>by (cases h),fun c hc=>by cases hc⟩
theorem slo_r {k:Nat} {h:Blks} {b e n:Nat} {own:Bool} {es:List (List AV)} (hb:bget h b=some (.row own e es)) (hn:n=es.length) (hk:k≤b):SlO k h e (.slice b 0 n none) es:=
  ⟨.some b 0 none own es (by rw[hn]) hb (by rw[List.drop_zero,List.take_length]) (fun _ h=>by cases h),fun n h=>by (cases h),fun c hc=>by simp only[AV.refs,List.mem_singleton] at hc;omega⟩
theorem app_s0z (get:Nat→Option ABlk) (nid e b:Nat) (x:AV) (hx:elemsOf get e x=some []):aappend get nid e b .slice0 x=some (.slice0,[]):=by simp only[aappend,hx]
theorem app_s0n (get:Nat→Option ABlk) (nid e bt:Nat) (x:AV) (xs:List (List AV)) (h1:elemsOf get e x=some xs) (h2:xs≠ []) (h5:xs.length*bt≤roomMost):aappend get nid e bt .slice0 x=some (.slice nid 0 xs.length none,[⟨nid,some (.row true e xs),refsLL xs⟩]):=by
  cases xs with
  |nil=>exact absurd rfl h2
  | cons y ys=>
    simp only[aappend,h1]
    rw[if_pos h5]
theorem e8 (hF:F 8=some AF8) (hs: ∀ vs m,sm 8 vs m=none) (n:Nat) (h:Blks) (lg d:List Nat) {l:List BunD} {v:AV} (hv:SlAt h 9 v (l.map bunC)) (hw:l.length≤1000):Wa F meth sm (n+1000) (.fn 8) [v] ⟨bxt h [],lg,d⟩ (Qk ⟨h,lg,d⟩ fun w h'=>SlO h.length h' 9 w (l.map bunC)):=by
  have el:=hv.els0
  by_cases hn:l=[]
  · subst hn
    have ap:=fun q nid=>app_s0z (bget (bxt h q)) nid 9 80 v (el q)
    simp+contextual -implicitDefEqProofs (maxSteps:=1000000) (maxDischargeDepth:=20) only[go_sem,simprocAttr,hs,hF,AF8,q_k,ap]
    exact slo_0
  · have ap:=fun q nid=>app_s0n (bget (bxt h q)) nid 9 80 v _ (el q) (fun z=>hn (List.map_eq_nil_iff.1 z)) (by rw[List.length_map,show roomMost=1000000000000 from rfl];omega)
    simp+contextual -implicitDefEqProofs (maxSteps:=1000000) (maxDischargeDepth:=20) only[go_sem,simprocAttr,hs,hF,AF8,q_k,ap]
    exact slo_r nb_get (by simp) nb_ge
theorem e26 (hF:F 26=some AF26) (hs: ∀ vs m,sm 26 vs m=none) (n:Nat) (h:Blks) (lg d:List Nat) {l:List MarkD} {v:AV} (hv:SlAt h 4 v (l.map markC)) (hw:l.length≤1000):Wa F meth sm (n+1000) (.fn 26) [v] ⟨bxt h [],lg,d⟩ (Qk ⟨h,lg,d⟩ fun w h'=>SlO h.length h' 4 w (l.map markC)):=by
  have el:=hv.els0
  by_cases hn:l=[]
  · subst hn
    have ap:=fun q nid=>app_s0z (bget (bxt h q)) nid 4 32 v (el q)
    simp+contextual -implicitDefEqProofs (maxSteps:=1000000) (maxDischargeDepth:=20) only[go_sem,simprocAttr,hs,hF,AF26,q_k,ap]
    exact slo_0
  · have ap:=fun q nid=>app_s0n (bget (bxt h q)) nid 4 32 v _ (el q) (fun z=>hn (List.map_eq_nil_iff.1 z)) (by rw[List.length_map,show roomMost=1000000000000 from rfl];omega)
    simp+contextual -implicitDefEqProofs (maxSteps:=1000000) (maxDischargeDepth:=20) only[go_sem,simprocAttr,hs,hF,AF26,q_k,ap]
    exact slo_r nb_get (by simp) nb_ge
theorem e28 (hF:F 28=some AF28) (hs: ∀ vs m,sm 28 vs m=none) (n:Nat) (h:Blks) (lg d:List Nat) {l:List (List UInt8)} {v:AV} (hv:SlAt h 1 v (l.map strC)) (hw:l.length≤1000):Wa F meth sm (n+1000) (.fn 28) [v] ⟨bxt h [],lg,d⟩ (Qk ⟨h,lg,d⟩ fun w h'=>SlO h.length h' 1 w (l.map strC)):=by
  have el:=hv.els0
  by_cases hn:l=[]
  · subst hn
    have ap:=fun q nid=>app_s0z (bget (bxt h q)) nid 1 16 v (el q)
    simp+contextual -implicitDefEqProofs (maxSteps:=1000000) (maxDischargeDepth:=20) only[go_sem,simprocAttr,hs,hF,AF28,q_k,ap]
    exact slo_0
  · have ap:=fun q nid=>app_s0n (bget (bxt h q)) nid 1 16 v _ (el q) (fun z=>hn (List.map_eq_nil_iff.1 z)) (by rw[List.length_map,show roomMost=1000000000000 from rfl];omega)
    simp+contextual -implicitDefEqProofs (maxSteps:=1000000) (maxDischargeDepth:=20) only[go_sem,simprocAttr,hs,hF,AF28,q_k,ap]
    exact slo_r nb_get (by simp) nb_ge
theorem e75 (hF:F 75=some AF75) (hs: ∀ vs m,sm 75 vs m=none) (n:Nat) (h:Blks) (lg d:List Nat) {S:SendD} {s:AV} (H:SendAt h S s) (hw:S.slots.length≤1000):Wa F meth sm (n+1000) (.fn 75) [.agg (sendC S s)] ⟨bxt h [],lg,d⟩ (Qk ⟨h,lg,d⟩ fun w h'=> ∃ s',w= .agg (sendC S s')∧SlO h.length h' 5 s' (S.slots.map slotC)):=by
  have c1:=H.s.sc
  have ce:=H.s.cells
  have el:=H.s.els0
  by_cases hn:S.slots=[]
  · rw[hn,List.map_nil] at el ⊢
    have ap:=fun q nid=>app_s0z (bget (bxt h q)) nid 5 40 s (el q)
    simp+contextual -implicitDefEqProofs (maxSteps:=1000000) (maxDischargeDepth:=20) only[go_sem,simprocAttr,hs,hF,AF75,sendC,c1,ce,q_k,ap]
    exact ⟨_,rfl,slo_0⟩
  · have ap:=fun q nid=>app_s0n (bget (bxt h q)) nid 5 40 s _ (el q) (fun z=>hn (List.map_eq_nil_iff.1 z)) (by rw[List.length_map,show roomMost=1000000000000 from rfl];omega)
    simp+contextual -implicitDefEqProofs (maxSteps:=1000000) (maxDischargeDepth:=20) only[go_sem,simprocAttr,hs,hF,AF75,sendC,c1,ce,q_k,ap]
    exact ⟨_,rfl,slo_r nb_get (by simp) nb_ge⟩
theorem e76 (hF:F 76=some AF76) (hs: ∀ vs m,sm 76 vs m=none) (n:Nat) (h:Blks) (lg d:List Nat) {R:RecvD} {t k:AV} (H:RecvAt h R t k) (hw:R.taken.length≤1000) (hx:R.kept.length≤1000):Wa F meth sm (n+1000) (.fn 76) [.agg (recvC R t k)] ⟨bxt h [],lg,d⟩ (Qk ⟨h,lg,d⟩ fun w h'=> ∃ t' k',w= .agg (recvC R t' k')∧SlO h.length h' 2 t' (R.taken.map rngC)∧SlO h.length h' 1 k' (R.kept.map u64C)):=by
  have c1:=H.t.sc
  have c2:=H.k.sc
  have el:=H.t.els0
  have el2:=H.k.els0
  have rm:roomMost=1000000000000:=rfl
  by_cases hn:R.taken=[]
  · rw[hn,List.map_nil] at el ⊢
    have ap:=fun q nid=>app_s0z (bget (bxt h q)) nid 2 16 t (el q)
    by_cases hm:R.kept=[]
    · rw[hm,List.map_nil] at el2 ⊢
      have ap2:=fun q nid=>app_s0z (bget (bxt h q)) nid 1 8 k (el2 q)
      simp+contextual -implicitDefEqProofs (maxSteps:=1000000) (maxDischargeDepth:=20) only[go_sem,simprocAttr,hs,hF,AF76,recvC,c1,c2,q_k,ap,ap2]
      exact ⟨_,_,⟨rfl,rfl⟩,slo_0,slo_0⟩
    · have ap2:=fun q nid=>app_s0n (bget (bxt h q)) nid 1 8 k _ (el2 q) (fun z=>hm (List.map_eq_nil_iff.1 z)) (by rw[List.length_map,rm];omega)
      simp+contextual -implicitDefEqProofs (maxSteps:=1000000) (maxDischargeDepth:=20) only[go_sem,simprocAttr,hs,hF,AF76,recvC,c1,c2,q_k,ap,ap2]
      exact ⟨_,_,⟨rfl,rfl⟩,slo_0,slo_r nb_get (by simp) nb_ge⟩
  · have ap:=fun q nid=>app_s0n (bget (bxt h q)) nid 2 16 t _ (el q) (fun z=>hn (List.map_eq_nil_iff.1 z)) (by rw[List.length_map,rm];omega)
    by_cases hm:R.kept=[]
    · rw[hm,List.map_nil] at el2 ⊢
      have ap2:=fun q nid=>app_s0z (bget (bxt h q)) nid 1 8 k (el2 q)
      simp+contextual -implicitDefEqProofs (maxSteps:=1000000) (maxDischargeDepth:=20) only[go_sem,simprocAttr,hs,hF,AF76,recvC,c1,c2,q_k,ap,ap2]
      exact ⟨_,_,⟨rfl,rfl⟩,slo_r nb_get (by simp) nb_ge,slo_0⟩
    · have ap2:=fun q nid=>app_s0n (bget (bxt h q)) nid 1 8 k _ (el2 q) (fun z=>hm (List.map_eq_nil_iff.1 z)) (by rw[List.length_map,rm];omega)
      simp+contextual -implicitDefEqProofs (maxSteps:=1000000) (maxDischargeDepth:=20) only[go_sem,simprocAttr,hs,hF,AF76,recvC,c1,c2,q_k,ap,ap2]
      exact ⟨_,_,⟨rfl,rfl⟩,slo_r nb_get (by simp) nb_ge,slo_r nb_get (by simp) nb_ge⟩
end
end Go.Abs
end
