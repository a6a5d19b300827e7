/- Functions of the program on symbolic values: part e.
   Conditions: none. -/
import Derived.Test.YtjpnemidlgcmmaaGreatDoorPd
set_option linter.unusedSimpArgs false
set_option linter.unusedVariables false
set_option maxRecDepth 100000
set_option maxHeartbeats 16000000
noncomputable section
namespace Go.Abs
section
variable {F:FuncId→Option AFunc} {meth:Meth} {sm:Summ}
structure Rn2 (h:Blks) (lg:List Nat) (st:List AV) (q s:Int) (R:List Int) (m:Mem):Prop where
  k:Keep ⟨h,lg,[]⟩ m
  b0:bget m.blks (nb h 0)=some (.row true 8 [st])
  b1:bget m.blks (nb h 1)=some (.row true 3 [[.int .u64 0,.int .u64 0,.nilslice]])
  b3:bget m.blks (nb h 3)=some (.row true 1 (R.map u64C))
  b4:bget m.blks (nb h 4)=some (.row true 3 [[.int .u64 q,.int .u64 s,.slice (nb h 3) 0 16 (some 16)]])
theorem u64_get {R:List Int} {k:Nat} (hk:k<R.length):(R.map u64C)[k]? =some [.int .u64 (gt R k)]:=by
  rw[List.getElem?_map,List.getElem?_eq_getElem hk,gt_eq hk];rfl
theorem u64_set (R:List Int) (k:Nat) (x:Int):(R.map u64C).set k [.int .u64 x]=(R.set k x).map u64C:=by
  rw[List.map_set];rfl
theorem resTo_zero {ps:List PeerD} {k:Nat} (hk:k<16): ∀ i,(∀ j,j<i→((gt ps j).node - 1).toNat≠k)→gt (resTo ps i) k=0
  | 0,_=>by
    have: ∀ k,k<16→gt zero16 k=0:=by decide
    exact this k hk
  | i+1,h=>by
    rw[resTo,gt,List.getD_eq_getElem?_getD,List.getElem?_set_ne (h i (by omega)),←List.getD_eq_getElem?_getD]
    exact resTo_zero hk i fun j hj=>h j (by omega)
theorem stateE_asc {S:StateD} (h:stateE S=0): ∀ i,i<S.peers.length→ ∀ j,j<i→(gt S.peers j).node<(gt S.peers i).node
  |0,_,j,hj=>by omega
  | i +1,hi,j,hj=>by
    have h1:=(stateE_peers h (i+1) hi).2 (by omega)
    rw[Nat.add_sub_cancel] at h1
    rcases Nat.lt_or_ge j i with h2 |h2
    · have:=stateE_asc h i (by omega) j h2
      omega
    · rw[show j=i by omega];exact h1
theorem sizesT_le (l:List BunD):0≤sizesT l∧sizesT l≤l.length*1099511627776:=by
  induction l with
  |nil=>simp[sizesT,sumI]
  | cons x l ih=>
    have:=sizeB_le x
    simp only[sizesT,List.map_cons,sumI,List.length_cons] at ih ⊢
    omega
theorem sizesT_take {l:List BunD} {i:Nat} (hi:i<l.length):sizesT (l.take (i+1))=sizesT (l.take i)+sizeB (gt l i):=by
  rw[sizesT,sizesT,List.map_take,List.map_take,sumI_take (by simpa using hi)]
  rw[gt_eq (by simpa using hi),List.getElem_map,gt_eq hi]
theorem e50 (hF:F 50=some AF50) (hs: ∀ vs m,sm 50 vs m=none) (n:Nat) (h:Blks) (lg d:List Nat) (h61:H61 sm) (s82: ∀ vs m,sm 82 vs m=none) (F82:F 82=some AF82) (h83:H83 sm) (h84:H84 sm) (h85:H85 sm) {S:StateD} {b ms v:AV} {l:List PX} {q:Int} (H:StateAt h S b ms v l) (hq0:0≤q) (hs0: ∀ x∈S.held,0≤x.id.s) (hp: ∀ x∈l,PN x.p):Wa F meth sm (n+2000) (.fn 50) [.agg (stateC S b ms v),.int .u64 q] ⟨bxt h [],lg,d⟩ (Qk ⟨h,lg,d⟩ fun w _=> ∃ x y z,z.scalar=true∧w= .tuple [.agg [.int .u64 x,.int .u64 y,z],.int .i64 (spaceE S q)]):=by
  have c1:=H.b.sc
  have c2:=H.m.sc
  have c3:=H.p.v.sc
  have l1:=H.b.len
  have l2:=H.p.v.len
  have g1:=fun q lg d=>h61 S b ms v l ⟨bxt h q,lg,d⟩ (H.bx q)
  unfold stateC at g1
  simp+contextual -implicitDefEqProofs (maxSteps:=1000000) (maxDischargeDepth:=20) only[go_sem,simprocAttr,hs,hF,AF50,stateC,c1,c2,c3,l1,l2,g1,s82,F82,AF82,q_k,List.length_map,r_vc,r_vp,mskO,Mem.more,bmore,nb_more,List.filter_nil,List.flatMap_nil,List.filter_cons,List.flatMap_cons,List.map_nil,List.map_cons,mask,unmask,AOp.reads,AOpnd.top,top_p,top_s,top_m,top_i,top_b,top_t,top_a,top_u,top_ns,top_s0,top_d,top_f,nb_beq,nb_blt,nb_add,nidOf,slotIn,Nat.beq_refl,clash,Bool.or_self,List.any_nil,List.any_cons,AOp.isMaker]
  refine ⟨fun e1=> ?_,fun e1=>⟨fun e2=> ?_,fun e2=> ?_⟩⟩
  · exact ⟨0,0,.nilslice,rfl,⟨rfl,rfl,rfl⟩,by rw[spaceE,if_pos (by omega)]⟩
  · exact ⟨0,0,.nilslice,rfl,⟨rfl,rfl,rfl⟩,by rw[spaceE,if_neg (by omega),if_pos (by omega)]⟩
  have e1:stateE S=0:=by omega
  have hps: ∀ p∈S.peers,PN p:=fun p hx=>by rw[H.e] at hx;obtain ⟨y,hy,rfl⟩:=List.mem_map.1 hx;exact hp y hy
  have sz0: ∀ x∈S.held.map sizeB,(0:Int)≤x:=fun x hx=>by obtain ⟨y,_,rfl⟩:=List.mem_map.1 hx;exact (sizeB_le y).1
  have pr0: ∀ x∈S.peers.map (fun p=>(heldE p).1),(0:Int)≤x:=fun x hx=>by obtain ⟨y,hy,rfl⟩:=List.mem_map.1 hx;exact (heldE_pos (hps y hy)).1
  refine WloopV S.held.length [X8] (fun i=> [.int .i64 i]) (fun i m'=>Rn2 h lg [.int .i64 S.node,.int .u64 S.boot,.int .i64 S.last.n,.int .u64 S.last.s,.int .i64 S.last.o,b,ms,v] q (sizesT (S.held.take i)) zero16 m') (by have:=H.w1;omega) (by repeat first |apply Cl_b |apply Cl_q |apply Cl_r) ⟨rfl,keep_bx (by repeat first |exact LogOK.nil |apply LogOK.cons),nb_get,nb_get,nb_get,nb_get⟩ (fun i m' g hi hP=> ?_) (fun m' g hP=> ?_)
  · obtain ⟨h',lg',d'⟩:=m'
    obtain ⟨k,b0,b1,b3,b4⟩:=hP
    obtain rfl:d'=[]:=k.dfrs
    simp only at b0 b1 b3 b4
    have sl:SlAt h' 9 b (S.held.map bunC):=SlAt.keep (m:=⟨h,lg,[]⟩) (m':=⟨h',lg',[]⟩) H.b k
    have e:=sl.el hi
    have r:=rnd hi (by have:=H.w1;omega)
    have hb4:nb h 4<h'.length:=bget_lt b4
    have o:=old_blk hb4
    have u:=H.d _ (gt_mem hi)
    have g1:=fun m=>h83 (gt S.held i) m (hs0 _ (gt_mem hi)) u.1 u.2
    have z:=sizeB_le (gt S.held i)
    have w:IntKind.u64.wrap (sizeB (gt S.held i))=sizeB (gt S.held i):=wrapU (by omega) (by omega)
    have b0': ∀ l,bget (bxt h' l) (nb h 0)=_:=fun l=>(bxt_old l h' _ (bget_lt b0)).trans b0
    have b4': ∀ l,bget (bxt h' l) (nb h 4)=_:=fun l=>(bxt_old l h' _ hb4).trans b4
    have l1':=sl.len
    unfold bunC at e g1
    refine Wc_bx ?_
    simp+contextual -implicitDefEqProofs (maxSteps:=1000000) (maxDischargeDepth:=20) only[go_sem,simprocAttr,e,r,g1,w,b0',b4',o,l1',List.length_map]
    have q1:=sizesT_le (S.held.take (i+1))
    have q2:=sizesT_take hi
    have q3:(S.held.take (i+1)).length≤1000:=by rw[List.length_take];have:=H.w1;omega
    rw[←q2,wrapU (by omega) (by omega)]
    have n0:nb h 0≠nb h 4:=by rw[ne_eq,nb_inj];omega
    have n1:nb h 1≠nb h 4:=by rw[ne_eq,nb_inj];omega
    have n3:nb h 3≠nb h 4:=by rw[ne_eq,nb_inj];omega
    exact ⟨k.own nb_ge hb4 _ _ ⟨[nb h 4],rfl,fun y hy=>by simp at hy;rw[hy];exact nb_ge⟩,(old_get hb4 (bget_lt b0) n0 _ _).trans b0,(old_get hb4 (bget_lt b1) n1 _ _).trans b1,(old_get hb4 (bget_lt b3) n3 _ _).trans b3,o.2.2.2.2.1 _ _⟩
  · obtain ⟨h',lg',d'⟩:=m'
    obtain ⟨k,b0,b1,b3,b4⟩:=hP
    obtain rfl:d'=[]:=k.dfrs
    simp only at b0 b1 b3 b4
    rw[List.take_length] at b4
    have sl:SlAt h' 9 b (S.held.map bunC):=SlAt.keep (m:=⟨h,lg,[]⟩) (m':=⟨h',lg',[]⟩) H.b k
    have l1':=sl.len
    have r:=rndl S.held.length
    have b0': ∀ l,bget (bxt h' l) (nb h 0)=_:=fun l=>(bxt_old l h' _ (bget_lt b0)).trans b0
    refine Wc_bx ?_
    simp+contextual -implicitDefEqProofs (maxSteps:=1000000) (maxDischargeDepth:=20) only[go_sem,simprocAttr,r,b0',l1',List.length_map]
    refine WloopV l.length [X11] (fun i=> [.int .i64 i]) (fun i m'=>Rn2 h lg [.int .i64 S.node,.int .u64 S.boot,.int .i64 S.last.n,.int .u64 S.last.s,.int .i64 S.last.o,b,ms,v] q (sizesT S.held) (resTo S.peers i) m') (by have:=H.w3;omega) (by repeat first |apply Cl_b |apply Cl_q |apply Cl_r) ⟨rfl,k,b0,b1,b3,b4⟩ (fun i m' g hi hP=> ?_) (fun m' g hP=> ?_)
    · obtain ⟨h3,lg3,d3⟩:=m'
      obtain ⟨k3,b0,b1,b3,b4⟩:=hP
      obtain rfl:d3=[]:=k3.dfrs
      simp only at b0 b1 b3 b4
      have hps3:PeersAt h3 v l:=PeersAt.keep (m:=⟨h,lg,[]⟩) (m':=⟨h3,lg3,[]⟩) H.p k3
      have e:=hps3.v.el hi
      have l2':=hps3.v.len
      have r:=rnd hi (by have:=H.w3;omega)
      have hx:=hps3.p _ (gt_mem hi)
      have hc:=hp _ (gt_mem hi)
      have g1:=fun l lg d=>h84 _ _ _ _ ⟨bxt h3 l,lg,d⟩ (hx.bx l) hc.t hc.f hc.o
      have d1:=hx.s.s.sc
      have d2:=hx.r.t.sc
      have d3:=hx.r.k.sc
      have hi':i<S.peers.length:=by rw[H.e,List.length_map];exact hi
      have x1:gt S.peers i=(gt l i).p:=by rw[H.e];exact gt_map hi
      have pv:=stateE_peers e1 i hi'
      rw[x1] at pv
      have nd:=peer_old pv.1
      have g0:(heldE (gt l i).p).2=0:=heldE_2 pv.1
      obtain ⟨kk,hkk,hk16⟩: ∃ k:Nat,(gt l i).p.node=(k:Int)+1∧k<16:=⟨((gt l i).p.node - 1).toNat,by omega,by omega⟩
      have o:=old_blk (bget_lt b3)
      have b0': ∀ l,bget (bxt h3 l) (nb h 0)=_:=fun l=>(bxt_old l h3 _ (bget_lt b0)).trans b0
      have b3': ∀ l,bget (bxt h3 l) (nb h 3)=_:=fun l=>(bxt_old l h3 _ (bget_lt b3)).trans b3
      have b4': ∀ l,bget (bxt h3 l) (nb h 4)=_:=fun l=>(bxt_old l h3 _ (bget_lt b4)).trans b4
      have n3:IntKind.i64.wrap ((kk:Int)+1 - 1)=(kk:Int):=by rw[wrapI (by omega) (by omega)];omega
      have rw3:=u64_get (R:=resTo S.peers i) (k:=kk) (by rw[resTo_len];exact hk16)
      have rw4:=u64_set (resTo S.peers i) kk
      have k16:decide (kk<16)=true:=decide_eq_true hk16
      unfold pxC peerC at e
      unfold peerC at g1
      simp only[hkk,g0] at e g1
      refine Wc_bx ?_
      simp+contextual -implicitDefEqProofs (maxSteps:=1000000) (maxDischargeDepth:=20) only[go_sem,simprocAttr,e,r,g1,b0',b3',b4',o,d1,d2,d3,l2',List.length_map,n3,rw3,rw4,k16,r_vc,r_vp,mskO,Mem.more,bmore,nb_more,List.filter_nil,List.flatMap_nil,List.filter_cons,List.flatMap_cons,List.map_nil,List.map_cons,mask,unmask,AOp.reads,AOpnd.top,top_p,top_s,top_m,top_i,top_b,top_t,top_a,top_u,top_ns,top_s0,top_d,top_f,nb_beq,nb_blt,nb_add,nidOf,slotIn,Nat.beq_refl,clash,Bool.or_self,List.any_nil,List.any_cons,AOp.isMaker]
      have rz:gt (resTo S.peers i) kk=0:=resTo_zero hk16 i fun j hj=>by
        have h1:=stateE_asc e1 i hi' j hj
        have h2:=stateE_nodes e1 (gt S.peers j) (gt_mem (by omega))
        rw[x1,hkk] at h1
        omega
      have rs:resTo S.peers (i+1)=(resTo S.peers i).set kk (heldE (gt l i).p).1:=by
        rw[resTo,x1,hkk,show ((kk:Int)+1 - 1).toNat=kk by omega,rz,Int.zero_add]
      rw[rs]
      have n0:nb h 0≠nb h 3:=by rw[ne_eq,nb_inj];omega
      have n1:nb h 1≠nb h 3:=by rw[ne_eq,nb_inj];omega
      have n4:nb h 4≠nb h 3:=by rw[ne_eq,nb_inj];omega
      exact ⟨k3.own nb_ge (bget_lt b3) _ _ ⟨[nb h 3],rfl,fun y hy=>by simp at hy;rw[hy];exact nb_ge⟩,(old_get (bget_lt b3) (bget_lt b0) n0 _ _).trans b0,(old_get (bget_lt b3) (bget_lt b1) n1 _ _).trans b1,o.2.2.2.2.1 _ _,(old_get (bget_lt b3) (bget_lt b4) n4 _ _).trans b4⟩
    · obtain ⟨h3,lg3,d3⟩:=m'
      obtain ⟨k3,b0,b1,b3,b4⟩:=hP
      obtain rfl:d3=[]:=k3.dfrs
      simp only at b0 b1 b3 b4
      have hps3:PeersAt h3 v l:=PeersAt.keep (m:=⟨h,lg,[]⟩) (m':=⟨h3,lg3,[]⟩) H.p k3
      have l2':=hps3.v.len
      have r:=rndl l.length
      have o:=old_blk (bget_lt b1)
      have b0': ∀ l,bget (bxt h3 l) (nb h 0)=_:=fun l=>(bxt_old l h3 _ (bget_lt b0)).trans b0
      have b1': ∀ l,bget (bxt h3 l) (nb h 1)=_:=fun l=>(bxt_old l h3 _ (bget_lt b1)).trans b1
      have b4': ∀ l,bget (bxt h3 l) (nb h 4)=_:=fun l=>(bxt_old l h3 _ (bget_lt b4)).trans b4
      have g3:=fun l' lg d=>h85 q (sizesT S.held) (.slice (nb h 3) 0 16 (some 16)) (resTo S.peers l.length) ⟨bxt h3 l',lg,d⟩ (.some (nb h 3) 0 (some 16) true _ (by rw[List.length_map,resTo_len]) ((bxt_old l' h3 _ (bget_lt b3)).trans b3) (by rw[List.drop_zero,List.take_length]) (fun k hk=>by cases hk;rw[List.length_map,resTo_len];exact Nat.le_refl 16)) (resTo_len _ _) (resTo_pos hps _ (by rw[H.e,List.length_map];exact Nat.le_refl _)) (sizesT_le _).1 (by omega)
      refine Wc_bx ?_
      simp+contextual -implicitDefEqProofs (maxSteps:=1000000) (maxDischargeDepth:=20) only[go_sem,simprocAttr,r,b0',b1',b4',o,l2',List.length_map,g3]
      have hl:l.length=S.peers.length:=by rw[H.e,List.length_map]
      have f1:=resTo_sum (stateE_nodes e1) l.length (by omega)
      rw[hl,←(List.length_map (fun p=>(heldE p).1):(S.peers.map fun p=>(heldE p).1).length=S.peers.length),List.take_length,List.length_map] at f1
      rw[hl]
      have k1:=fun x=>(k3.sub (d:=d)).own (b:=nb h 1) nb_ge (bget_lt b1) x [] (lg2:=nb h 1::lg3) ⟨[nb h 1],rfl,fun y hy=>by simp at hy;rw[hy];exact nb_ge⟩
      have sp:spaceE S q=if q<sizesT S.held+sumI (resTo S.peers S.peers.length) then 5 else 0:=by
        rw[spaceE,if_neg (by omega),if_neg (by omega),spaceT,f1]
      rw[←sp]
      refine ⟨fun q1=>⟨k1 _,0,0,.nilslice,rfl,?_⟩,fun q1=>⟨k1 _,q,sizesT S.held,.slice (nb h 3) 0 16 (some 16),rfl,?_⟩⟩
      · have:spaceE S q=5:=by rw[sp] at q1 ⊢;split at q1 <;>first |omega |(rename_i z;rw[if_pos z])
        rw[this]
      · rw[q1]
end
section
variable {F:FuncId→Option AFunc} {meth:Meth} {sm:Summ}
def mx (a b:Int):Int:=if a<b then b else a
def mn (a b:Int):Int:=if b<a then b else a
theorem mx_def (a b:Int):(if a<b then b else a)=mx a b:=rfl
theorem mn_def (a b:Int):(if b<a then b else a)=mn a b:=rfl
def ovl (x:Int × Int) (o e:Int):Int:=if mx x.1 o<mn x.2 e then mn x.2 e - mx x.1 o else 0
theorem ovl_le (x:Int × Int) {o e:Int} (h:0≤o) (he:0≤e):0≤ovl x o e∧ovl x o e≤e:=by
  simp only[ovl,mx,mn];(repeat' split) <;>omega
def cov (x:Int × Int) (o e:Int):Prop:=mx x.1 o=o∧mn x.2 e=e
instance (x:Int × Int) (o e:Int):Decidable (cov x o e):=by unfold cov;infer_instance
def sumO (l:List (Int × Int)) (o e:Int):Int:=sumI (l.map fun x=>ovl x o e)
theorem sumO_take {l:List (Int × Int)} {o e:Int} {i:Nat} (hi:i<l.length):sumO (l.take (i+1)) o e=sumO (l.take i) o e+ovl (gt l i) o e:=by
  rw[sumO,sumO,List.map_take,List.map_take,sumI_take (by simpa using hi)]
  rw[gt_eq (by simpa using hi),List.getElem_map,gt_eq hi]
theorem sumO_le (l:List (Int × Int)) {o e:Int} (h:0≤o) (he:0≤e) (hm:e≤1125899906842624):0≤sumO l o e∧sumO l o e≤l.length*1125899906842624:=by
  induction l with
  |nil=>simp[sumO,sumI]
  | cons x l ih=>
    have:=ovl_le x h he
    simp only[sumO,List.map_cons,sumI,List.length_cons] at ih ⊢
    omega
def baseO (f o e:Int):Int:=if o<f then mn f e - o else 0
def lookS (R:RecvD) (o s:Int):Int × Int:=
  if s=0 then (0,2) else if R.g - R.r<o∨R.g - R.r - o<s then (0,14)
  else if ∃ x∈R.taken,cov x o (o+s) then (1,0)
  else if baseO R.f o (o+s)+sumO R.taken o (o+s)=0 then (2,0) else if baseO R.f o (o+s)+sumO R.taken o (o+s)=s then (1,0) else (3,0)
def H164 (sm:Summ):Prop:= ∀ (R:RecvD) (t k:AV) (o s:Int) (m:Mem),RecvAt m.blks R t k→(recvE R).1=0→0≤o→0≤s→sm 164 [.agg (recvC R t k),.int .u64 o,.int .u64 s] m=some (.tuple [.int .i64 (lookS R o s).1,.int .i64 (lookS R o s).2],m)
theorem e164 (hF:F 164=some AF164) (hs: ∀ vs m,sm 164 vs m=none) (n:Nat) (h:Blks) (lg d:List Nat) (h138:H138 sm) {R:RecvD} {t k:AV} {o s:Int} (H:RecvAt h R t k) (hr:(recvE R).1=0) (ho:0≤o) (hs0:0≤s):
    Ev F meth sm (n+2000) 164 [.agg (recvC R t k),.int .u64 o,.int .u64 s] ⟨h,lg,d⟩ (.tuple [.int .i64 (lookS R o s).1,.int .i64 (lookS R o s).2]):=by
  refine Ev.ofW ?_
  have q:=st_ok hr
  have c1:=H.t.sc
  have c2:=H.k.sc
  have lt:=H.t.len
  have g0:=H.g0
  have g1:=fun m=>h138 R t k m c1 c2 q.2.1 H.g0 H.g1
  unfold recvC at g1
  have w1: ¬ R.g - R.r<o→IntKind.u64.wrap (R.g - R.r - o)=R.g - R.r - o:=fun h=>wrapU (by omega) (by omega)
  have w2: ¬ R.g - R.r<o→ ¬ R.g - R.r - o<s→IntKind.u64.wrap (o+s)=o+s:=fun h1 h2=>wrapU (by omega) (by omega)
  have w3:o<R.f→ ¬ R.g - R.r<o→ ¬ R.g - R.r - o<s→IntKind.u64.wrap (mn R.f (o+s) - o)=mn R.f (o+s) - o:=fun h0 h1 h2=>by
    have:mn R.f (o+s)≤o+s∧o≤mn R.f (o+s):=by simp only[mn];split <;>omega
    exact wrapU (by omega) (by omega)
  simp+contextual -implicitDefEqProofs (maxSteps:=1000000) (maxDischargeDepth:=20) only[go_sem,simprocAttr,hs,hF,AF164,recvC,c1,c2,g1,lt,List.length_map,w1,w2,w3,mn_def]
  refine ⟨fun e1=>by simp[lookS],fun e1=>⟨fun e2=>by simp[lookS,e1,e2],fun e2=>⟨fun e3=>by simp[lookS,e1,e2,e3],fun e3=>⟨fun e4=> ?_,fun e4=> ?_⟩⟩⟩⟩
  all_goals
    have w1:=w1 e2
    have w2:=w2 e2 e3
    have e0:lookS R o s=if ∃ x∈R.taken,cov x o (o+s) then (1,0)
      else if baseO R.f o (o+s)+sumO R.taken o (o+s)=0 then (2,0) else if baseO R.f o (o+s)+sumO R.taken o (o+s)=s then (1,0) else (3,0):=by rw[lookS,if_neg e1,if_neg (by omega)]
    have bb:0≤baseO R.f o (o+s)∧baseO R.f o (o+s)≤1125899906842624:=by simp only[baseO,mn];(repeat' split) <;>omega
    refine WloopK R.taken.length [X48,X9] (fun i=> [.int .i64 i,.int .u64 (baseO R.f o (o+s)+sumO (R.taken.take i) o (o+s))]) (fun i=> ∀ j,j<i→ ¬ cov (gt R.taken j) o (o+s)) (by omega) (by repeat first |apply Cl_b |apply Cl_q |apply Cl_r) ⟨?_,fun j hj=>by omega⟩ (fun i h' lg' g hi hP hK=> ?_) (fun h' lg' g hP hK=> ?_)
    · first |(have:baseO R.f o (o+s)=mn R.f (o+s) - o:=by rw[baseO,if_pos e4])|(have:baseO R.f o (o+s)=0:=by rw[baseO,if_neg e4])
      rw[this]
      have z:sumO (R.taken.take 0) o (o+s)=0:=rfl
      rw[z]
      simp[tget,w3,e2,e3,e4]
    · have a:=hK.all (lg:=lg) (d:=d) (by repeat first |exact LogOK.nil |apply LogOK.cons)
      have e:=(hK.sl H.t).el hi
      have r:=rnd hi (by omega)
      have st:=sumO_take (o:=o) (e:=o+s) hi
      have b1:=sumO_le (R.taken.take (i+1)) (o:=o) (e:=o+s) ho (by omega) (by omega)
      have b3:(R.taken.take (i+1)).length≤1000:=by rw[List.length_take];omega
      have cv:(mx (gt R.taken i).1 o=o∧mn (gt R.taken i).2 (o+s)=o+s)=cov (gt R.taken i) o (o+s):=rfl
      unfold rngC at e
      simp+contextual -implicitDefEqProofs (maxSteps:=1000000) (maxDischargeDepth:=20) only[go_sem,simprocAttr,a,e,r,w1,w2,mx_def,mn_def,cv]
      have nx: ¬ cov (gt R.taken i) o (o+s)→ ∀ j,j<i+1→ ¬ cov (gt R.taken j) o (o+s):=fun hc j hj=>by
        rcases Nat.lt_or_ge j i with h2 |h2
        · exact hP j h2
        · rw[show j=i by omega];exact hc
      have ol:=ovl_le (gt R.taken i) (o:=o) (e:=o+s) ho (by omega)
      have b0:=sumO_le (R.taken.take i) (o:=o) (e:=o+s) ho (by omega) (by omega)
      refine ⟨fun hc=> ?_,fun hc=>⟨fun hd=>⟨?_,nx hc⟩,fun hd=>⟨?_,nx hc⟩⟩⟩
      · rw[e0,if_pos ⟨_,gt_mem hi,hc⟩];exact ⟨rfl,rfl⟩
      · have z:ovl (gt R.taken i) o (o+s)=mn (gt R.taken i).2 (o+s) - mx (gt R.taken i).1 o:=by rw[ovl,if_pos hd]
        rw[←z,wrapU (x:=ovl _ _ _) (by omega) (by omega),wrapU (by omega) (by omega)]
        omega
      · have z:ovl (gt R.taken i) o (o+s)=0:=by rw[ovl,if_neg hd]
        omega
    · have a:=hK.all (lg:=lg) (d:=d) (by repeat first |exact LogOK.nil |apply LogOK.cons)
      have r:=rndl R.taken.length
      simp+contextual -implicitDefEqProofs (maxSteps:=1000000) (maxDischargeDepth:=20) only[go_sem,simprocAttr,a,r,List.take_length]
      have nc: ¬ ∃ x∈R.taken,cov x o (o+s):=fun ⟨x,hx,hc⟩=>by
        obtain ⟨j,hj,e⟩:=List.getElem_of_mem hx
        have:=hP j hj
        rw[gt_eq hj,e] at this
        exact this hc
      rw[if_neg nc] at e0
      rw[e0]
      refine ⟨fun z=> ?_,fun z=>⟨fun y=> ?_,fun y=> ?_⟩⟩
      · rw[if_pos z];exact ⟨rfl,rfl⟩
      · rw[if_neg z,if_pos y];exact ⟨rfl,rfl⟩
      · rw[if_neg z,if_neg y];exact ⟨rfl,rfl⟩
end
section
variable {F:FuncId→Option AFunc} {meth:Meth} {sm:Summ}
theorem refs_slot (y:SlotD):refsL (slotC y)=[]:=rfl
theorem refs_slots (l:List SlotD):refsLL (l.map slotC)=[]:=by
  induction l with
  |nil=>rfl
  |cons y l ih=>rw[List.map_cons,refsLL,ih];rfl
theorem e175 (hF:F 175=some AF175) (hs: ∀ vs m,sm 175 vs m=none) (n:Nat) (h:Blks) (lg d:List Nat) {l:List (Int × Int)} {v:AV} (hv:SlAt h 2 v (l.map rngC)) (ov:NoOsl v) (hw:l.length≤1000):Wa F meth sm (n+1000) (.fn 175) [v] ⟨bxt h [],lg,d⟩ (Qk ⟨h,lg,d⟩ fun w h'=>SlAt h' 2 w (l.map rngC)∧NoOsl w):=by
  rcases hv.forms ov with ⟨ht,rfl⟩|⟨ht,rfl⟩|⟨ht,b,i,c,rfl⟩|⟨y,ys,b,i,c,own,rows,ht,rfl,hb,hwa,hwn⟩
  · simp+contextual -implicitDefEqProofs (maxSteps:=1000000) (maxDischargeDepth:=20) only[go_sem,simprocAttr,hs,hF,AF175,q_k,ht,NoOsl,r_vc,r_vp,mskO,Mem.more,bmore,nb_more,List.filter_nil,List.flatMap_nil,List.filter_cons,List.flatMap_cons,List.map_nil,List.map_cons,mask,unmask,AOp.reads,AOpnd.top,top_p,top_s,top_m,top_i,top_b,top_t,top_a,top_u,top_ns,top_s0,top_d,top_f,nb_beq,nb_blt,nb_add,nidOf,slotIn,Nat.beq_refl,clash,Bool.or_self,List.any_nil,List.any_cons,AOp.isMaker]
    exact .none rfl (.inl rfl)
  · simp+contextual -implicitDefEqProofs (maxSteps:=1000000) (maxDischargeDepth:=20) only[go_sem,simprocAttr,hs,hF,AF175,q_k,ht,NoOsl,r_vc,r_vp,mskO,Mem.more,bmore,nb_more,List.filter_nil,List.flatMap_nil,List.filter_cons,List.flatMap_cons,List.map_nil,List.map_cons,mask,unmask,AOp.reads,AOpnd.top,top_p,top_s,top_m,top_i,top_b,top_t,top_a,top_u,top_ns,top_s0,top_d,top_f,nb_beq,nb_blt,nb_add,nidOf,slotIn,Nat.beq_refl,clash,Bool.or_self,List.any_nil,List.any_cons,AOp.isMaker]
    exact .none rfl (.inr (.inl rfl))
  · simp+contextual -implicitDefEqProofs (maxSteps:=1000000) (maxDischargeDepth:=20) only[go_sem,simprocAttr,hs,hF,AF175,q_k,ht,NoOsl,r_vc,r_vp,mskO,Mem.more,bmore,nb_more,List.filter_nil,List.flatMap_nil,List.filter_cons,List.flatMap_cons,List.map_nil,List.map_cons,mask,unmask,AOp.reads,AOpnd.top,top_p,top_s,top_m,top_i,top_b,top_t,top_a,top_u,top_ns,top_s0,top_d,top_f,nb_beq,nb_blt,nb_add,nidOf,slotIn,Nat.beq_refl,clash,Bool.or_self,List.any_nil,List.any_cons,AOp.isMaker]
    exact .none rfl (.inr (.inl rfl))
  · have sz:(ys.length+1)*16≤1000000000000:=by rw[ht,List.length_cons] at hw;omega
    simp+contextual -implicitDefEqProofs (maxSteps:=1000000) (maxDischargeDepth:=20) only[go_sem,simprocAttr,hs,hF,AF175,q_k,ht,NoOsl,hb,hwa,hwn,sz,refs_rng,refs_rngs,List.length_map,List.length_cons,r_vc,r_vp,mskO,Mem.more,bmore,nb_more,List.filter_nil,List.flatMap_nil,List.filter_cons,List.flatMap_cons,List.map_nil,List.map_cons,mask,unmask,AOp.reads,AOpnd.top,top_p,top_s,top_m,top_i,top_b,top_t,top_a,top_u,top_ns,top_s0,top_d,top_f,nb_beq,nb_blt,nb_add,nidOf,slotIn,Nat.beq_refl,clash,Bool.or_self,List.any_nil,List.any_cons,AOp.isMaker]
    exact .some (nb h 0) 0 none true _ (by simp) (by rw[nb_get];rfl) (by simp[List.take_of_length_le]) (fun _ h=>by cases h)
theorem e176 (hF:F 176=some AF176) (hs: ∀ vs m,sm 176 vs m=none) (n:Nat) (h:Blks) (lg d:List Nat) {l:List Int} {v:AV} (hv:SlAt h 1 v (l.map u64C)) (ov:NoOsl v) (hw:l.length≤1000):Wa F meth sm (n+1000) (.fn 176) [v] ⟨bxt h [],lg,d⟩ (Qk ⟨h,lg,d⟩ fun w h'=>SlAt h' 1 w (l.map u64C)∧NoOsl w):=by
  rcases hv.forms ov with ⟨ht,rfl⟩|⟨ht,rfl⟩|⟨ht,b,i,c,rfl⟩|⟨y,ys,b,i,c,own,rows,ht,rfl,hb,hwa,hwn⟩
  · simp+contextual -implicitDefEqProofs (maxSteps:=1000000) (maxDischargeDepth:=20) only[go_sem,simprocAttr,hs,hF,AF176,q_k,ht,NoOsl,r_vc,r_vp,mskO,Mem.more,bmore,nb_more,List.filter_nil,List.flatMap_nil,List.filter_cons,List.flatMap_cons,List.map_nil,List.map_cons,mask,unmask,AOp.reads,AOpnd.top,top_p,top_s,top_m,top_i,top_b,top_t,top_a,top_u,top_ns,top_s0,top_d,top_f,nb_beq,nb_blt,nb_add,nidOf,slotIn,Nat.beq_refl,clash,Bool.or_self,List.any_nil,List.any_cons,AOp.isMaker]
    exact .none rfl (.inl rfl)
  · simp+contextual -implicitDefEqProofs (maxSteps:=1000000) (maxDischargeDepth:=20) only[go_sem,simprocAttr,hs,hF,AF176,q_k,ht,NoOsl,r_vc,r_vp,mskO,Mem.more,bmore,nb_more,List.filter_nil,List.flatMap_nil,List.filter_cons,List.flatMap_cons,List.map_nil,List.map_cons,mask,unmask,AOp.reads,AOpnd.top,top_p,top_s,top_m,top_i,top_b,top_t,top_a,top_u,top_ns,top_s0,top_d,top_f,nb_beq,nb_blt,nb_add,nidOf,slotIn,Nat.beq_refl,clash,Bool.or_self,List.any_nil,List.any_cons,AOp.isMaker]
    exact .none rfl (.inr (.inl rfl))
  · simp+contextual -implicitDefEqProofs (maxSteps:=1000000) (maxDischargeDepth:=20) only[go_sem,simprocAttr,hs,hF,AF176,q_k,ht,NoOsl,r_vc,r_vp,mskO,Mem.more,bmore,nb_more,List.filter_nil,List.flatMap_nil,List.filter_cons,List.flatMap_cons,List.map_nil,List.map_cons,mask,unmask,AOp.reads,AOpnd.top,top_p,top_s,top_m,top_i,top_b,top_t,top_a,top_u,top_ns,top_s0,top_d,top_f,nb_beq,nb_blt,nb_add,nidOf,slotIn,Nat.beq_refl,clash,Bool.or_self,List.any_nil,List.any_cons,AOp.isMaker]
    exact .none rfl (.inr (.inl rfl))
  · have sz:(ys.length+1)*8≤1000000000000:=by rw[ht,List.length_cons] at hw;omega
    simp+contextual -implicitDefEqProofs (maxSteps:=1000000) (maxDischargeDepth:=20) only[go_sem,simprocAttr,hs,hF,AF176,q_k,ht,NoOsl,hb,hwa,hwn,sz,refs_u64,refs_u64s,List.length_map,List.length_cons,r_vc,r_vp,mskO,Mem.more,bmore,nb_more,List.filter_nil,List.flatMap_nil,List.filter_cons,List.flatMap_cons,List.map_nil,List.map_cons,mask,unmask,AOp.reads,AOpnd.top,top_p,top_s,top_m,top_i,top_b,top_t,top_a,top_u,top_ns,top_s0,top_d,top_f,nb_beq,nb_blt,nb_add,nidOf,slotIn,Nat.beq_refl,clash,Bool.or_self,List.any_nil,List.any_cons,AOp.isMaker]
    exact .some (nb h 0) 0 none true _ (by simp) (by rw[nb_get];rfl) (by simp[List.take_of_length_le]) (fun _ h=>by cases h)
theorem e162 (hF:F 162=some AF162) (hs: ∀ vs m,sm 162 vs m=none) (n:Nat) (h:Blks) (lg d:List Nat) {l:List SlotD} {v:AV} (hv:SlAt h 5 v (l.map slotC)) (ov:NoOsl v) (hw:l.length≤1000):Wa F meth sm (n+1000) (.fn 162) [v] ⟨bxt h [],lg,d⟩ (Qk ⟨h,lg,d⟩ fun w h'=>SlAt h' 5 w (l.map slotC)∧NoOsl w):=by
  rcases hv.forms ov with ⟨ht,rfl⟩|⟨ht,rfl⟩|⟨ht,b,i,c,rfl⟩|⟨y,ys,b,i,c,own,rows,ht,rfl,hb,hwa,hwn⟩
  · simp+contextual -implicitDefEqProofs (maxSteps:=1000000) (maxDischargeDepth:=20) only[go_sem,simprocAttr,hs,hF,AF162,q_k,ht,NoOsl,r_vc,r_vp,mskO,Mem.more,bmore,nb_more,List.filter_nil,List.flatMap_nil,List.filter_cons,List.flatMap_cons,List.map_nil,List.map_cons,mask,unmask,AOp.reads,AOpnd.top,top_p,top_s,top_m,top_i,top_b,top_t,top_a,top_u,top_ns,top_s0,top_d,top_f,nb_beq,nb_blt,nb_add,nidOf,slotIn,Nat.beq_refl,clash,Bool.or_self,List.any_nil,List.any_cons,AOp.isMaker]
    exact .none rfl (.inl rfl)
  · simp+contextual -implicitDefEqProofs (maxSteps:=1000000) (maxDischargeDepth:=20) only[go_sem,simprocAttr,hs,hF,AF162,q_k,ht,NoOsl,r_vc,r_vp,mskO,Mem.more,bmore,nb_more,List.filter_nil,List.flatMap_nil,List.filter_cons,List.flatMap_cons,List.map_nil,List.map_cons,mask,unmask,AOp.reads,AOpnd.top,top_p,top_s,top_m,top_i,top_b,top_t,top_a,top_u,top_ns,top_s0,top_d,top_f,nb_beq,nb_blt,nb_add,nidOf,slotIn,Nat.beq_refl,clash,Bool.or_self,List.any_nil,List.any_cons,AOp.isMaker]
    exact .none rfl (.inr (.inl rfl))
  · simp+contextual -implicitDefEqProofs (maxSteps:=1000000) (maxDischargeDepth:=20) only[go_sem,simprocAttr,hs,hF,AF162,q_k,ht,NoOsl,r_vc,r_vp,mskO,Mem.more,bmore,nb_more,List.filter_nil,List.flatMap_nil,List.filter_cons,List.flatMap_cons,List.map_nil,List.map_cons,mask,unmask,AOp.reads,AOpnd.top,top_p,top_s,top_m,top_i,top_b,top_t,top_a,top_u,top_ns,top_s0,top_d,top_f,nb_beq,nb_blt,nb_add,nidOf,slotIn,Nat.beq_refl,clash,Bool.or_self,List.any_nil,List.any_cons,AOp.isMaker]
    exact .none rfl (.inr (.inl rfl))
  · have sz:(ys.length+1)*40≤1000000000000:=by rw[ht,List.length_cons] at hw;omega
    simp+contextual -implicitDefEqProofs (maxSteps:=1000000) (maxDischargeDepth:=20) only[go_sem,simprocAttr,hs,hF,AF162,q_k,ht,NoOsl,hb,hwa,hwn,sz,refs_slot,refs_slots,List.length_map,List.length_cons,r_vc,r_vp,mskO,Mem.more,bmore,nb_more,List.filter_nil,List.flatMap_nil,List.filter_cons,List.flatMap_cons,List.map_nil,List.map_cons,mask,unmask,AOp.reads,AOpnd.top,top_p,top_s,top_m,top_i,top_b,top_t,top_a,top_u,top_ns,top_s0,top_d,top_f,nb_beq,nb_blt,nb_add,nidOf,slotIn,Nat.beq_refl,clash,Bool.or_self,List.any_nil,List.any_cons,AOp.isMaker]
    exact .some (nb h 0) 0 none true _ (by simp) (by rw[nb_get];rfl) (by simp[List.take_of_length_le]) (fun _ h=>by cases h)
end
section
variable {F:FuncId→Option AFunc} {meth:Meth} {sm:Summ}
theorem r_oF (full:Bool) (rd msk:List Nat) (h:Blks) (nid:Nat) (T:Tr) (k:Nat) (x:AOpnd):Ro full rd msk h nid T (.fieldA k x)=afa k (aev T x):=by cases full <;>rfl
theorem r_oL (full:Bool) (rd msk:List Nat) (h:Blks) (nid:Nat) (T:Tr) (a:Bool) (n:Nat) (x:AOpnd):Ro full rd msk h nid T (.load a n x)=cond full (ald (bget h) a n (aev T x)) (ald (fun b=>cond (ins rd b && !ins msk b) (bget h b) none) a n (aev T x)):=by cases full <;>rfl
theorem Keep.ins0 {h h2:Blks} {l0:List (Option ABlk)} {lg2 d d2:List Nat} (k:Keep ⟨bxt h l0,[],d⟩ ⟨h2,lg2,d2⟩) {j:Nat} (hj:j<l0.length):ins lg2 (nb h j)=false:=by
  cases hq:ins lg2 (nb h j) with
  |false=>rfl
  | true=>
    obtain ⟨q,h1,h2⟩:=k.log
    simp only[List.append_nil] at h1 h2
    subst h1
    have:=h2 _ ((ins_iff _ _).1 hq)
    rw[bxt_len,nb] at this
    omega
theorem Keep.lg {a b:Blks} {l x y:List Nat} (k:Keep ⟨a,[],x⟩ ⟨b,l,y⟩) (L d:List Nat):Keep ⟨a,L,d⟩ ⟨b,l++L,d⟩ where
  len:=k.len
  get:=k.get
  dfrs:=rfl
  log:=by
    obtain ⟨q,h1,h2⟩:=k.log
    simp only[List.append_nil] at h1
    subst h1
    exact ⟨_,rfl,h2⟩
theorem e163 (hF:F 163=some AF163) (hs: ∀ vs m,sm 163 vs m=none) (n:Nat) (h:Blks) (lg d:List Nat) (h97:H97 sm) (s175: ∀ vs m,sm 175 vs m=none) (F175:F 175=some AF175) (s176: ∀ vs m,sm 176 vs m=none) (F176:F 176=some AF176) {R:RecvD} {t k:AV} (H:RecvAt h R t k) (ot:NoOsl t) (ok:NoOsl k) (hr:(recvE R).1=0):
    Wa F meth sm (n+1500) (.fn 163) [.agg (recvC R t k)] ⟨bxt h [],lg,d⟩ (Qk ⟨h,lg,d⟩ fun w h'=> ∃ t' k',w= .tuple [.agg (recvC R t' k'),.int .i64 0]∧RecvAt h' R t' k'):=by
  have c1:=H.t.sc
  have c2:=H.k.sc
  have q:=st_ok hr
  have g1:=fun l lg d=>h97 R t k ⟨bxt h l,lg,d⟩ (H.bx l)
  rw[hr] at g1
  unfold recvC at g1
  simp+contextual -implicitDefEqProofs (maxSteps:=1000000) (maxDischargeDepth:=20) only[go_sem,simprocAttr,hs,hF,AF163,recvC,c1,c2,g1,r_vc,r_vp,mskO,Mem.more,bmore,nb_more,List.filter_nil,List.flatMap_nil,List.filter_cons,List.flatMap_cons,List.map_nil,List.map_cons,mask,unmask,AOp.reads,AOpnd.top,top_p,top_s,top_m,top_i,top_b,top_t,top_a,top_u,top_ns,top_s0,top_d,top_f,nb_beq,nb_blt,nb_add,nidOf,slotIn,Nat.beq_refl,clash,Bool.or_self,List.any_nil,List.any_cons,AOp.isMaker]
  rw[←w_a]
  refine Wa_k (e175 F175 s175 (n+499) (bxt h [some (.row true 5 [[.int .u64 R.g,.int .u64 R.r,.int .u64 R.f,t,k]]),some (.row true 5 [[.int .u64 0,.int .u64 0,.int .u64 0,.nilslice,.nilslice]])]) [] [] (H.t.bx _) ot q.2.2.2.2.1) (fun w1 h2 lg2 k2 hw1=> ?_)
  have sc1:=hw1.1.sc
  have len2:h.length+2≤h2.length:=by have:=k2.len;simp only[bxt_len,List.length_cons,List.length_nil] at this;omega
  have z0:bget h2 (nb h 0)=some (.row true 5 [[.int .u64 R.g,.int .u64 R.r,.int .u64 R.f,t,k]]):=(k2.get _ (by rw[bxt_len];simp[nb])).trans nb_get
  have b0: ∀ l,bget (bxt h2 l) (nb h 0)=some (.row true 5 [[.int .u64 R.g,.int .u64 R.r,.int .u64 R.f,t,k]]):=fun l=>(bxt_old l h2 _ (bget_lt z0)).trans z0
  have z1:bget h2 (nb h 1)=some (.row true 5 [[.int .u64 0,.int .u64 0,.int .u64 0,.nilslice,.nilslice]]):=(k2.get _ (by rw[bxt_len];simp[nb])).trans nb_get
  have i2:ins lg2 (nb h 0)=false:=k2.ins0 (by simp)
  simp+contextual -implicitDefEqProofs (maxSteps:=1000000) (maxDischargeDepth:=20) only[go_sem,simprocAttr,b0,sc1,r_vc,r_vp,mskO,Mem.more,bmore,nb_more,List.filter_nil,List.flatMap_nil,List.filter_cons,List.flatMap_cons,List.map_nil,List.map_cons,mask,unmask,AOp.reads,AOpnd.top,top_p,top_s,top_m,top_i,top_b,top_t,top_a,top_u,top_ns,top_s0,top_d,top_f,nb_beq,nb_blt,nb_add,nidOf,slotIn,Nat.beq_refl,clash,Bool.or_self,List.any_nil,List.any_cons,AOp.isMaker,r_oF,r_oL,i2,Bool.cond_self]
  rw[←w_a]
  have hk2:SlAt h2 1 k (R.kept.map u64C):=SlAt.keep (m:=⟨bxt h _,[],[]⟩) (m':=⟨h2,lg2,[]⟩) (H.k.bx _) k2
  refine Wa_k (e176 F176 s176 (n+499) h2 [] [] hk2 ok q.2.2.2.2.2.1) (fun w2 h3 lg3 k3 hw2=> ?_)
  have sc2:=hw2.1.sc
  have ce1:=hw1.1.cells
  have ce2:=hw2.1.cells
  have len3:h2.length≤h3.length:=k3.len
  have y0:bget h3 (nb h 0)=some (.row true 5 [[.int .u64 R.g,.int .u64 R.r,.int .u64 R.f,t,k]]):=(k3.get _ (bget_lt z0)).trans z0
  have y1:bget h3 (nb h 1)=some (.row true 5 [[.int .u64 0,.int .u64 0,.int .u64 0,.nilslice,.nilslice]]):=(k3.get _ (bget_lt z1)).trans z1
  have b0: ∀ l,bget (bxt h3 l) (nb h 0)=some (.row true 5 [[.int .u64 R.g,.int .u64 R.r,.int .u64 R.f,t,k]]):=fun l=>(bxt_old l h3 _ (bget_lt y0)).trans y0
  have n10:nb h 1≠nb h 0:=by rw[ne_eq,nb_inj];omega
  have b1: ∀ l x,bget (bxt (bput h3 (nb h 0) x) l) (nb h 1)=some (.row true 5 [[.int .u64 0,.int .u64 0,.int .u64 0,.nilslice,.nilslice]]):=fun l x=>(old_get (bget_lt y0) (bget_lt y1) n10 l x).trans y1
  have o:=old_blk (bget_lt y0)
  have o1:=fun x=>old_blk (h:=bput h3 (nb h 0) x) (b:=nb h 1) (by rw[bput_len_eq (bget_lt y0)];exact bget_lt y1)
  simp+contextual -implicitDefEqProofs (maxSteps:=1000000) (maxDischargeDepth:=20) only[go_sem,simprocAttr,b0,b1,o,o1,sc1,sc2,ce1,ce2,r_vc,r_vp,mskO,Mem.more,bmore,nb_more,List.filter_nil,List.flatMap_nil,List.filter_cons,List.flatMap_cons,List.map_nil,List.map_cons,mask,unmask,AOp.reads,AOpnd.top,top_p,top_s,top_m,top_i,top_b,top_t,top_a,top_u,top_ns,top_s0,top_d,top_f,nb_beq,nb_blt,nb_add,nidOf,slotIn,Nat.beq_refl,clash,Bool.or_self,List.any_nil,List.any_cons,AOp.isMaker,r_oF,q_k]
  have k0:Keep ⟨h,lg,d⟩ ⟨h3,lg3++(lg2++nb h 1::nb h 0::lg),d⟩:=((keep_bx (by repeat first |exact LogOK.nil |apply LogOK.cons)).trans (k2.lg _ d)).trans (k3.lg _ d)
  have ka:=fun x=>k0.own (b:=nb h 0) nb_ge (bget_lt y0) x [] (lg2:=nb h 0::nb h 0::(lg3++(lg2++nb h 1::nb h 0::lg))) ⟨[nb h 0,nb h 0],rfl,fun y hy=>by simp at hy;rw[hy];exact nb_ge⟩
  have l1: ∀ x,nb h 1<(bxt (bput h3 (nb h 0) x) []).length:=fun x=>by rw[bxt_len,bput_len_eq (bget_lt y0)];exact bget_lt y1
  have kb:=fun x y=>(ka x).own (b:=nb h 1) nb_ge (l1 x) y [] (lg2:=nb h 1::nb h 0::nb h 0::(lg3++(lg2++nb h 1::nb h 0::lg))) ⟨[nb h 1],rfl,fun y hy=>by simp at hy;rw[hy];exact nb_ge⟩
  have s1:SlAt h3 2 w1 (R.taken.map rngC):=SlAt.keep (m:=⟨h2,[],[]⟩) (m':=⟨h3,lg3,[]⟩) hw1.1 k3
  have s2:=hw2.1
  have own2: ∀ {e:Nat} {v:AV} {es:List (List AV)} (x y:Option ABlk),SlAt h3 e v es→e≠5→SlAt (bxt (bput (bput h3 (nb h 0) x) (nb h 1) y) []) e v es:=fun x y hv he=>by
    have r0:=hv.nrefs y0 he
    have r1:=hv.nrefs y1 he
    exact (hv.own (bget_lt y0) r0 x []).own (l1 x) r1 y []
  exact ⟨kb _ _,w1,w2,⟨rfl,rfl⟩,own2 _ _ s1 (by omega),own2 _ _ s2 (by omega),H.g0,H.g1⟩
end
section
variable {F:FuncId→Option AFunc} {meth:Meth} {sm:Summ}
def H127 (sm:Summ):Prop:= ∀ (R:RecvD) (t k:AV) (o s:Int) (m:Mem),RecvAt m.blks R t k→NoOsl t→NoOsl k→(recvE R).1=0→0≤o→0≤s→sm 127 [.agg (recvC R t k),.int .u64 o,.int .u64 s] m=some (.tuple [.int .i64 (lookS R o s).1,.int .i64 (lookS R o s).2],m)
theorem e127 (hF:F 127=some AF127) (hs: ∀ vs m,sm 127 vs m=none) (n:Nat) (h:Blks) (lg d:List Nat) (s163: ∀ vs m,sm 163 vs m=none) (F163:F 163=some AF163) (h164:H164 sm) (h97:H97 sm) (s175: ∀ vs m,sm 175 vs m=none) (F175:F 175=some AF175) (s176: ∀ vs m,sm 176 vs m=none) (F176:F 176=some AF176) {R:RecvD} {t k:AV} {o s:Int} (H:RecvAt h R t k) (ot:NoOsl t) (ok:NoOsl k) (hr:(recvE R).1=0) (ho:0≤o) (hs0:0≤s):
    Ev F meth sm (n+2000) 127 [.agg (recvC R t k),.int .u64 o,.int .u64 s] ⟨h,lg,d⟩ (.tuple [.int .i64 (lookS R o s).1,.int .i64 (lookS R o s).2]):=by
  refine Ev.ofW ?_
  have c1:=H.t.sc
  have c2:=H.k.sc
  simp+contextual -implicitDefEqProofs (maxSteps:=1000000) (maxDischargeDepth:=20) only[go_sem,simprocAttr,hs,hF,AF127,recvC,c1,c2]
  rw[←w_a]
  refine Wa_k (e163 F163 s163 (n+499) (bxt h [some (.row true 5 [[.int .u64 R.g,.int .u64 R.r,.int .u64 R.f,t,k]])]) _ _ h97 s175 F175 s176 F176 (H.bx _) ot ok hr) (fun w h2 lg2 k2 hw=> ?_)
  obtain ⟨t',k',rfl,H2⟩:=hw
  have len2:h.length+1≤h2.length:=by have:=k2.len;simp only[bxt_len,List.length_cons,List.length_nil] at this;omega
  have z0:bget h2 (nb h 0)=some (.row true 5 [[.int .u64 R.g,.int .u64 R.r,.int .u64 R.f,t,k]]):=(k2.get _ (by rw[bxt_len];simp[nb])).trans nb_get
  have b0: ∀ l,bget (bxt h2 l) (nb h 0)=some (.row true 5 [[.int .u64 R.g,.int .u64 R.r,.int .u64 R.f,t,k]]):=fun l=>(bxt_old l h2 _ (bget_lt z0)).trans z0
  have ob:=old_blk (bget_lt z0)
  have c3:=H2.t.sc
  have c4:=H2.k.sc
  have own2: ∀ {e:Nat} {v:AV} {es:List (List AV)} (x:Option ABlk) (l:List (Option ABlk)),SlAt h2 e v es→e≠5→SlAt (bxt (bput h2 (nb h 0) x) l) e v es:=fun x l hv he=>hv.own (bget_lt z0) (hv.nrefs z0 he) x l
  have g1:=fun x l lg d=>h164 R t' k' o s ⟨bxt (bput h2 (nb h 0) x) l,lg,d⟩ ⟨own2 x l H2.t (by omega),own2 x l H2.k (by omega),H2.g0,H2.g1⟩ hr ho hs0
  unfold recvC at g1
  simp+contextual -implicitDefEqProofs (maxSteps:=1000000) (maxDischargeDepth:=20) only[go_sem,simprocAttr,b0,ob,c3,c4,g1,recvC]
  have k0:Keep ⟨h,lg,d⟩ ⟨h2,lg2,d⟩:=(keep_bx (by repeat first |exact LogOK.nil |apply LogOK.cons)).trans k2.sub
  exact k0.own nb_ge (bget_lt z0) _ _ ⟨[nb h 0],rfl,fun y hy=>by simp at hy;rw[hy];exact nb_ge⟩
end
section
variable {F:FuncId→Option AFunc} {meth:Meth} {sm:Summ}
theorem send_ok {S:SendD} (h:(sendE S).1=0):S.r≤S.g∧S.n≤S.g - S.r∧S.g≤1125899906842624∧S.slots.length≤100∧first (slBad S) S.slots.length=0:=by
  rw[sendE] at h
  split at h
  · cases h
  · split at h
    · cases h
    · split at h
      · cases h
      · exact ⟨by omega,by omega,by omega,by omega,h⟩
theorem e124 (hF:F 124=some AF124) (hs: ∀ vs m,sm 124 vs m=none) (n:Nat) (h:Blks) (lg d:List Nat) (h96:H96 sm) (s162: ∀ vs m,sm 162 vs m=none) (F162:F 162=some AF162) {S:SendD} {s:AV} (H:SendAt h S s) (os:NoOsl s) (hr:(sendE S).1=0):
    Wa F meth sm (n+1500) (.fn 124) [.agg (sendC S s)] ⟨bxt h [],lg,d⟩ (Qk ⟨h,lg,d⟩ fun w h'=> ∃ s',s'.scalar=true∧w= .tuple [.agg (sendC S s'),.int .i64 0]):=by
  have c1:=H.s.sc
  have q:=send_ok hr
  have g1:=fun l lg d=>h96 S s ⟨bxt h l,lg,d⟩ (H.bx l)
  rw[hr] at g1
  unfold sendC at g1
  simp+contextual -implicitDefEqProofs (maxSteps:=1000000) (maxDischargeDepth:=20) only[go_sem,simprocAttr,hs,hF,AF124,sendC,c1,g1,r_vc,r_vp,mskO,Mem.more,bmore,nb_more,List.filter_nil,List.flatMap_nil,List.filter_cons,List.flatMap_cons,List.map_nil,List.map_cons,mask,unmask,AOp.reads,AOpnd.top,top_p,top_s,top_m,top_i,top_b,top_t,top_a,top_u,top_ns,top_s0,top_d,top_f,nb_beq,nb_blt,nb_add,nidOf,slotIn,Nat.beq_refl,clash,Bool.or_self,List.any_nil,List.any_cons,AOp.isMaker]
  rw[←w_a]
  refine Wa_k (e162 F162 s162 (n+499) (bxt h [some (.row true 4 [[.int .u64 S.g,.int .u64 S.n,.int .u64 S.r,s]]),some (.row true 4 [[.int .u64 0,.int .u64 0,.int .u64 0,.nilslice]])]) _ _ (H.s.bx _) os (by omega)) (fun w1 h2 lg2 k2 hw1=> ?_)
  have sc1:=hw1.1.sc
  have ce1:=hw1.1.cells
  have z0:bget h2 (nb h 0)=some (.row true 4 [[.int .u64 S.g,.int .u64 S.n,.int .u64 S.r,s]]):=(k2.get _ (by rw[bxt_len];simp[nb])).trans nb_get
  have z1:bget h2 (nb h 1)=some (.row true 4 [[.int .u64 0,.int .u64 0,.int .u64 0,.nilslice]]):=(k2.get _ (by rw[bxt_len];simp[nb])).trans nb_get
  have b0: ∀ l,bget (bxt h2 l) (nb h 0)=some (.row true 4 [[.int .u64 S.g,.int .u64 S.n,.int .u64 S.r,s]]):=fun l=>(bxt_old l h2 _ (bget_lt z0)).trans z0
  have n10:nb h 1≠nb h 0:=by rw[ne_eq,nb_inj];omega
  have b1: ∀ l x,bget (bxt (bput h2 (nb h 0) x) l) (nb h 1)=some (.row true 4 [[.int .u64 0,.int .u64 0,.int .u64 0,.nilslice]]):=fun l x=>(old_get (bget_lt z0) (bget_lt z1) n10 l x).trans z1
  have o:=old_blk (bget_lt z0)
  have o1:=fun x=>old_blk (h:=bput h2 (nb h 0) x) (b:=nb h 1) (by rw[bput_len_eq (bget_lt z0)];exact bget_lt z1)
  simp+contextual -implicitDefEqProofs (maxSteps:=1000000) (maxDischargeDepth:=20) only[go_sem,simprocAttr,b0,b1,o,o1,sc1,ce1,q_k]
  have k0:Keep ⟨h,lg,d⟩ ⟨h2,lg2,d⟩:=(keep_bx (by repeat first |exact LogOK.nil |apply LogOK.cons)).trans k2.sub
  have ka:=fun x=>k0.own (b:=nb h 0) nb_ge (bget_lt z0) x [] (lg2:=nb h 0::lg2) ⟨[nb h 0],rfl,fun y hy=>by simp at hy;rw[hy];exact nb_ge⟩
  have kb:=fun x y=>(ka x).own (b:=nb h 1) nb_ge (by rw[bxt_len,bput_len_eq (bget_lt z0)];exact bget_lt z1) y [] (lg2:=nb h 1::nb h 0::lg2) ⟨[nb h 1],rfl,fun y hy=>by simp at hy;rw[hy];exact nb_ge⟩
  exact ⟨kb _ _,w1,sc1,rfl⟩
def H86 (sm:Summ):Prop:= ∀ (S:SendD) (s:AV) (m:Mem),SendAt m.blks S s→NoOsl s→(sendE S).1=0→sm 86 [.agg (sendC S s)] m=some (.tuple [.int .u64 (S.g - S.n - S.r),.int .i64 0],m)
theorem e86 (hF:F 86=some AF86) (hs: ∀ vs m,sm 86 vs m=none) (n:Nat) (h:Blks) (lg d:List Nat) (s124: ∀ vs m,sm 124 vs m=none) (F124:F 124=some AF124) (s125: ∀ vs m,sm 125 vs m=none) (F125:F 125=some AF125) (h96:H96 sm) (s162: ∀ vs m,sm 162 vs m=none) (F162:F 162=some AF162) {S:SendD} {s:AV} (H:SendAt h S s) (os:NoOsl s) (hr:(sendE S).1=0):
    Ev F meth sm (n+2000) 86 [.agg (sendC S s)] ⟨h,lg,d⟩ (.tuple [.int .u64 (S.g - S.n - S.r),.int .i64 0]):=by
  refine Ev.ofW ?_
  have c1:=H.s.sc
  have q:=send_ok hr
  have w1:IntKind.u64.wrap (S.g - S.n)=S.g - S.n:=wrapU (by have:=H.g0;omega) (by have:=H.n0;omega)
  have w2:IntKind.u64.wrap (S.g - S.n - S.r)=S.g - S.n - S.r:=wrapU (by omega) (by have:=H.n0;have:=H.g0;omega)
  simp+contextual -implicitDefEqProofs (maxSteps:=1000000) (maxDischargeDepth:=20) only[go_sem,simprocAttr,hs,hF,AF86,sendC,c1]
  rw[←w_a]
  refine Wa_k (e124 F124 s124 (n+499) (bxt h [some (.row true 4 [[.int .u64 S.g,.int .u64 S.n,.int .u64 S.r,s]])]) _ _ h96 s162 F162 (H.bx _) os hr) (fun w h2 lg2 k2 hw=> ?_)
  obtain ⟨s',sc,rfl⟩:=hw
  simp+contextual -implicitDefEqProofs (maxSteps:=1000000) (maxDischargeDepth:=20) only[go_sem,simprocAttr,sendC,sc,s125,F125,AF125,w1,w2]
  exact ((keep_bx (by repeat first |exact LogOK.nil |apply LogOK.cons)).trans k2.sub).trans (keep_bx (by repeat first |exact LogOK.nil |apply LogOK.cons))
def H90 (sm:Summ):Prop:= ∀ (S:SendD) (s:AV) (m:Mem),SendAt m.blks S s→(sendE S).1=0→sm 90 [.agg (sendC S s)] m=some (.tuple [.int .u64 (S.g - S.n - S.r),.int .i64 0],m)
theorem e90 (hF:F 90=some AF90) (hs: ∀ vs m,sm 90 vs m=none) (n:Nat) (h:Blks) (lg d:List Nat) (h104:H104 sm) (s130: ∀ vs m,sm 130 vs m=none) (F130:F 130=some AF130) {S:SendD} {s:AV} (H:SendAt h S s) (hr:(sendE S).1=0):
    Ev F meth sm (n+2000) 90 [.agg (sendC S s)] ⟨h,lg,d⟩ (.tuple [.int .u64 (S.g - S.n - S.r),.int .i64 0]):=by
  refine Ev.ofW ?_
  have c1:=H.s.sc
  have q:=send_ok hr
  have w1:IntKind.u64.wrap (S.g - S.n)=S.g - S.n:=wrapU (by have:=H.g0;omega) (by have:=H.n0;omega)
  have w2:IntKind.u64.wrap (S.g - S.n - S.r)=S.g - S.n - S.r:=wrapU (by omega) (by have:=H.n0;have:=H.g0;omega)
  have w3:IntKind.u64.wrap (S.g - S.r)=S.g - S.r:=wrapU (by have:=H.g0;omega) (by have:=H.n0;have:=H.g0;omega)
  have w4:IntKind.u64.wrap (S.g - S.r - S.n)=S.g - S.n - S.r:=by rw[wrapU (by omega) (by have:=H.n0;have:=H.g0;omega)];omega
  have g1:=fun l lg d=>h104 S s ⟨bxt h l,lg,d⟩ (H.bx l)
  rw[hr] at g1
  unfold sendC at g1
  simp+contextual -implicitDefEqProofs (maxSteps:=1000000) (maxDischargeDepth:=20) only[go_sem,simprocAttr,hs,hF,AF90,sendC,c1,g1,s130,F130,AF130,w1,w2,w3,w4]
end
section
variable {F:FuncId→Option AFunc} {meth:Meth} {sm:Summ}
def refS (R:RecvD) (o s:Int):Int × Int:=
  if s=0 then (0,2) else if R.g - R.r<s∨R.g - R.r - s<o then (0,14)
  else if baseO R.f o (o+s)+sumO R.taken o (o+s)=s then (1,0) else if baseO R.f o (o+s)+sumO R.taken o (o+s)=0 then (2,0) else (3,0)
def H91 (sm:Summ):Prop:= ∀ (R:RecvD) (t k:AV) (o s:Int) (m:Mem),RecvAt m.blks R t k→(recvE R).1=0→0≤o→0≤s→sm 91 [.agg (recvC R t k),.int .u64 o,.int .u64 s] m=some (.tuple [.int .i64 (refS R o s).1,.int .i64 (refS R o s).2],m)
theorem e91 (hF:F 91=some AF91) (hs: ∀ vs m,sm 91 vs m=none) (n:Nat) (h:Blks) (lg d:List Nat) (h105:H105 sm) {R:RecvD} {t k:AV} {o s:Int} (H:RecvAt h R t k) (hr:(recvE R).1=0) (ho:0≤o) (hs0:0≤s):
    Ev F meth sm (n+2000) 91 [.agg (recvC R t k),.int .u64 o,.int .u64 s] ⟨h,lg,d⟩ (.tuple [.int .i64 (refS R o s).1,.int .i64 (refS R o s).2]):=by
  refine Ev.ofW ?_
  have q:=st_ok hr
  have c1:=H.t.sc
  have c2:=H.k.sc
  have lt:=H.t.len
  have g0:=H.g0
  have g1:=fun l lg d=>h105 R t k ⟨bxt h l,lg,d⟩ (H.bx l)
  rw[hr] at g1
  unfold recvC at g1
  have w0:IntKind.u64.wrap (R.g - R.r)=R.g - R.r:=wrapU (by omega) (by omega)
  have w1: ¬ R.g - R.r<s→IntKind.u64.wrap (R.g - R.r - s)=R.g - R.r - s:=fun h=>wrapU (by omega) (by omega)
  have w2: ¬ R.g - R.r<s→ ¬ R.g - R.r - s<o→IntKind.u64.wrap (o+s)=o+s:=fun h1 h2=>wrapU (by omega) (by omega)
  have w3:o<R.f→IntKind.u64.wrap (R.f - o)=R.f - o:=fun h0=>wrapU (by omega) (by omega)
  simp+contextual -implicitDefEqProofs (maxSteps:=1000000) (maxDischargeDepth:=20) only[go_sem,simprocAttr,hs,hF,AF91,recvC,c1,c2,g1,lt,List.length_map,w0,w1,w2,w3,mn_def]
  refine ⟨fun e1=>by simp[refS,e1],fun e1=>⟨fun e2=>by simp[refS,e1,e2],fun e2=>⟨fun e3=>by simp[refS,e1,e2,e3],fun e3=>⟨fun e4=> ?_,fun e4=> ?_⟩⟩⟩⟩
  all_goals
    have w1:=w1 e2
    have w2:=w2 e2 e3
    have e0:refS R o s=if baseO R.f o (o+s)+sumO R.taken o (o+s)=s then (1,0) else if baseO R.f o (o+s)+sumO R.taken o (o+s)=0 then (2,0) else (3,0):=by rw[refS,if_neg e1,if_neg (by omega)]
    have bb:0≤baseO R.f o (o+s)∧baseO R.f o (o+s)≤1125899906842624:=by simp only[baseO,mn];(repeat' split) <;>omega
    refine WloopK R.taken.length [X11,X10] (fun i=> [.int .i64 i,.int .u64 (baseO R.f o (o+s)+sumO (R.taken.take i) o (o+s))]) (fun _=>True) (by omega) (by repeat first |apply Cl_b |apply Cl_q |apply Cl_r) ⟨?_,trivial⟩ (fun i h' lg' g hi hP hK=> ?_) (fun h' lg' g hP hK=> ?_)
    · first |(have:baseO R.f o (o+s)=mn (R.f - o) s:=by (rw[baseO,if_pos e4];simp only[mn];(repeat' split) <;>omega))|(have:baseO R.f o (o+s)=0:=by rw[baseO,if_neg e4])
      rw[this]
      have z:sumO (R.taken.take 0) o (o+s)=0:=rfl
      rw[z]
      simp[tget]
    · have a:=hK.all (lg:=lg) (d:=d) (by repeat first |exact LogOK.nil |apply LogOK.cons)
      have e:=(hK.sl H.t).el hi
      have r:=rnd hi (by omega)
      have st:=sumO_take (o:=o) (e:=o+s) hi
      have b0:=sumO_le (R.taken.take i) (o:=o) (e:=o+s) ho (by omega) (by omega)
      have b1:=sumO_le (R.taken.take (i+1)) (o:=o) (e:=o+s) ho (by omega) (by omega)
      have b3:(R.taken.take (i+1)).length≤1000:=by rw[List.length_take];omega
      have b4:(R.taken.take i).length≤1000:=by rw[List.length_take];omega
      unfold rngC at e
      simp+contextual -implicitDefEqProofs (maxSteps:=1000000) (maxDischargeDepth:=20) only[go_sem,simprocAttr,a,e,r,w1,w2,mx_def,mn_def,lt,List.length_map,r_vc,r_vp,mskO,Mem.more,bmore,nb_more,List.filter_nil,List.flatMap_nil,List.filter_cons,List.flatMap_cons,List.map_nil,List.map_cons,mask,unmask,AOp.reads,AOpnd.top,top_p,top_s,top_m,top_i,top_b,top_t,top_a,top_u,top_ns,top_s0,top_d,top_f,nb_beq,nb_blt,nb_add,nidOf,slotIn,Nat.beq_refl,clash,Bool.or_self,List.any_nil,List.any_cons,AOp.isMaker]
      have mm:mn (gt R.taken i).2 (o+s)≤o+s∧o≤mx (gt R.taken i).1 o:=by simp only[mn,mx];(repeat' split) <;>omega
      refine ⟨fun hd=> ?_,fun hd=> ?_⟩
      · have z:ovl (gt R.taken i) o (o+s)=mn (gt R.taken i).2 (o+s) - mx (gt R.taken i).1 o:=by rw[ovl,if_pos hd]
        rw[wrapU (x:=_+mn _ _) (by omega) (by omega),wrapU (by omega) (by omega)]
        omega
      · have z:ovl (gt R.taken i) o (o+s)=0:=by rw[ovl,if_neg hd]
        omega
    · have a:=hK.all (lg:=lg) (d:=d) (by repeat first |exact LogOK.nil |apply LogOK.cons)
      have r:=rndl R.taken.length
      simp+contextual -implicitDefEqProofs (maxSteps:=1000000) (maxDischargeDepth:=20) only[go_sem,simprocAttr,a,r,List.take_length,lt,List.length_map]
      rw[e0]
      refine ⟨fun z=> ?_,fun z=>⟨fun y=> ?_,fun y=> ?_⟩⟩
      · rw[if_pos z];exact ⟨rfl,rfl⟩
      · rw[if_neg z,if_pos y];exact ⟨rfl,rfl⟩
      · rw[if_neg z,if_neg y];exact ⟨rfl,rfl⟩
def cntS (R:RecvD) (x:SlotD):Prop:=(lookS R x.off x.size).2=14∨((lookS R x.off x.size).2=0∧(lookS R x.off x.size).1=2)
def cntR (R:RecvD) (x:SlotD):Prop:=(refS R x.off x.size).2≠0∨(refS R x.off x.size).1=2
instance (R:RecvD) (x:SlotD):Decidable (cntS R x):=by unfold cntS;infer_instance
instance (R:RecvD) (x:SlotD):Decidable (cntR R x):=by unfold cntR;infer_instance
theorem sumO_pos {l:List (Int × Int)} {o e:Int} (h:0≤o) (he:0≤e) (hm:e≤1125899906842624) {x:Int × Int} (hx:x∈l):ovl x o e≤sumO l o e:=by
  induction l with
  |nil=>cases hx
  | cons y l ih=>
    have h1:=ovl_le y h he
    have h2:=sumO_le l h he hm
    simp only[sumO,List.map_cons,sumI] at ih h2 ⊢
    rcases List.mem_cons.1 hx with rfl |hx
    · omega
    · have:=ih hx;omega
theorem cnt_eq {R:RecvD} {x:SlotD} (hr:(recvE R).1=0) (h0:0≤x.off) (h1:0≤x.size) (hr0:0≤R.r):(if cntS R x then x.size else 0)=(if cntR R x then x.size else 0):=by
  have q:=st_ok hr
  by_cases hz:x.size=0
  · rw[hz];simp
  · have e:cntS R x↔cntR R x:=by
      rw[cntS,cntR,lookS,refS,if_neg hz,if_neg hz]
      by_cases hc:R.g - R.r<x.size∨R.g - R.r - x.size<x.off
      · rw[if_pos (by omega),if_pos hc];simp
      · rw[if_neg (by omega),if_neg hc]
        by_cases hv: ∃ y∈R.taken,cov y x.off (x.off+x.size)
        · rw[if_pos hv]
          obtain ⟨y,hy,c1,c2⟩:=hv
          have z1:=sumO_pos (e:=x.off+x.size) h0 (by omega) (by omega) hy
          have z2:ovl y x.off (x.off+x.size)=x.size:=by rw[ovl,c1,c2,if_pos (by omega)];omega
          have bb:0≤baseO R.f x.off (x.off+x.size):=by simp only[baseO,mn];(repeat' split) <;>omega
          rw[if_neg (c:=_=0) (by omega)]
          split <;>simp
        · rw[if_neg hv]
          by_cases a1:baseO R.f x.off (x.off+x.size)+sumO R.taken x.off (x.off+x.size)=0
          · rw[if_pos a1,if_neg (by omega),if_pos a1];simp
          · rw[if_neg a1,if_neg a1];split <;>simp
    simp only[e]
end
section
variable {F:FuncId→Option AFunc} {meth:Meth} {sm:Summ}
def cntT (R:RecvD) (l:List SlotD):Int:=sumI (l.map fun x=>if cntS R x then x.size else 0)
def passH (P:PeerD) (bs:Int) (Q:PeerD) (br:Int):Prop:=Q.theirs=bs∧(P.theirs=br∨(P.theirs<br∧ ¬ Q.sure=true))
instance (P:PeerD) (bs:Int) (Q:PeerD) (br:Int):Decidable (passH P bs Q br):=by unfold passH;infer_instance
def holdsE (P:PeerD) (bs:Int) (Q:PeerD) (br:Int):Bool × Int:=
  if peerE P≠0 then (false,peerE P) else if peerE Q≠0 then (false,peerE Q) else if bs<1∨1099511627776<bs∨br<1∨1099511627776<br then (false,2)
  else if passH P bs Q br then (decide (P.send.g - P.send.n - P.send.r+(if P.theirs<br then 0 else cntT Q.recv P.send.slots)≤Q.old+resE Q.recv),0) else (true,0)
def H51 (sm:Summ):Prop:= ∀ (P:PeerD) (s t k:AV) (bs:Int) (Q:PeerD) (s' t' k':AV) (br:Int) (m:Mem),PeerAt m.blks P s t k→PeerAt m.blks Q s' t' k'→NoOsl s→NoOsl t'→NoOsl k'→PN Q→sm 51 [.agg (peerC P s t k),.int .u64 bs,.agg (peerC Q s' t' k'),.int .u64 br] m=some (.tuple [.bool (holdsE P bs Q br).1,.int .i64 (holdsE P bs Q br).2],m)
theorem send_size {S:SendD} (h:(sendE S).1=0) (hr:0≤S.r) {x:SlotD} (hx:x∈S.slots) (h0:0≤x.off):x.size≤1125899906842624:=by
  have q:=send_ok h
  obtain ⟨i,hi,e⟩:=List.getElem_of_mem hx
  have hz:=(ffrom_zero S.slots.length 0).1 q.2.2.2.2 i (by omega) (by omega)
  rw[slBad,gt_eq hi,e] at hz
  split at hz
  · omega
  · split at hz <;>omega
theorem cntT_take {R:RecvD} {l:List SlotD} {i:Nat} (hi:i<l.length):cntT R (l.take (i+1))=cntT R (l.take i)+(if cntS R (gt l i) then (gt l i).size else 0):=by
  rw[cntT,cntT,List.map_take,List.map_take,sumI_take (by simpa using hi)]
  rw[gt_eq (by simpa using hi),List.getElem_map,gt_eq hi]
theorem cntT_le {R:RecvD} {l:List SlotD} (h: ∀ x∈l,0≤x.size∧x.size≤1125899906842624):0≤cntT R l∧cntT R l≤l.length*1125899906842624:=by
  induction l with
  |nil=>simp[cntT,sumI]
  | cons x l ih=>
    have h1:=h x (by simp)
    have h2:=ih fun y hy=>h y (by simp[hy])
    have h3:0≤(if cntS R x then x.size else 0)∧(if cntS R x then x.size else 0)≤1125899906842624:=by split <;>omega
    simp only[cntT,List.map_cons,sumI,List.length_cons] at h2 h3 ⊢
    omega
structure Cnt (h:Blks) (lg:List Nat) (pc qc:List AV) (a:Bool) (L:ALoop) (u:Int) (m:Mem):Prop where
  k:Keep ⟨h,lg,[]⟩ m
  b1:bget m.blks (nb h 1)=some (.row true 13 [qc])
  b2:bget m.blks (nb h 2)=some (.row true 1 [[.int .u64 u]])
  b3:bget m.blks (nb h 3)=some (.row true 13 [pc])
  b4:bget m.blks (nb h 4)=some (.row true 13 [qc])
  b7:bget m.blks (nb h 7)=some (.loop L)
theorem e51a (hF:F 51=some AF51) (hs: ∀ vs m,sm 51 vs m=none) (n:Nat) (h:Blks) (lg d:List Nat) (h58:H58 sm) (h86:H86 sm) (h88:H88 sm) (h127:H127 sm) (s87: ∀ vs m,sm 87 vs m=none) (F87:F 87=some AF87) (s126: ∀ vs m,sm 126 vs m=none) (F126:F 126=some AF126)
    {P:PeerD} {s t k:AV} {bs:Int} {Q:PeerD} {s' t' k':AV} {br:Int} (HP:PeerAt h P s t k) (HQ:PeerAt h Q s' t' k') (os:NoOsl s) (ot:NoOsl t') (ok:NoOsl k') (hn:PN Q) (eP:peerE P=0) (eQ:peerE Q=0) (hbs:1≤bs∧bs≤1099511627776∧1≤br∧br≤1099511627776) (hp:passH P bs Q br):Ev F meth sm (n+2000) 51 [.agg (peerC P s t k),.int .u64 bs,.agg (peerC Q s' t' k'),.int .u64 br] ⟨h,lg,d⟩ (.tuple [.bool (holdsE P bs Q br).1,.int .i64 (holdsE P bs Q br).2]):=by
  refine Ev.ofW ?_
  have c1:=HP.s.s.sc
  have c2:=HP.r.t.sc
  have c3:=HP.r.k.sc
  have c4:=HQ.s.s.sc
  have c5:=HQ.r.t.sc
  have c6:=HQ.r.k.sc
  have g1:=fun l lg d=>h58 P s t k ⟨bxt h l,lg,d⟩ (HP.bx l)
  have g2:=fun l lg d=>h58 Q s' t' k' ⟨bxt h l,lg,d⟩ (HQ.bx l)
  have g3:=fun l lg d=>h86 P.send s ⟨bxt h l,lg,d⟩ (HP.s.bx l) os (peer_old eP).2.2.2.1
  have g4:=fun l lg d=>h88 Q s' t' k' ⟨bxt h l,lg,d⟩ (HQ.bx l) ot ok hn.t hn.f hn.o (peer_old eQ).1
  rw[eP] at g1
  rw[eQ] at g2
  unfold sendC at g3
  unfold peerC at g1 g2 g4
  obtain ⟨hq,hp⟩:=hp
  have n1:(bs<1)=False:=by simp;omega
  have n2:(1099511627776<bs)=False:=by simp;omega
  have n3:(br<1)=False:=by simp;omega
  have n4:(1099511627776<br)=False:=by simp;omega
  have e0:holdsE P bs Q br=(decide (P.send.g - P.send.n - P.send.r+(if P.theirs<br then 0 else cntT Q.recv P.send.slots)≤Q.old+resE Q.recv),0):=by
    rw[holdsE,if_neg (by omega),if_neg (by omega),if_neg (by omega),if_pos ⟨hq,hp⟩]
  rw[e0]
  rcases hp with hp |⟨hp,hs2⟩
  · subst hq hp
    have ir:(P.theirs<P.theirs)=False:=by simp
    simp+contextual -implicitDefEqProofs (maxSteps:=1000000) (maxDischargeDepth:=20) only[go_sem,simprocAttr,hs,hF,AF51,peerC,c1,c2,c3,c4,c5,c6,g1,g2,g3,s87,F87,AF87,n1,n2,n3,n4,ir]
    refine w_rf rfl (fun T1 hT=> ?_) (by simp only[Mem.apply,nb_len,blen];rw[nb_put (by rfl),nb_len];rfl)
    have ls:=HP.s.s.len
    simp+contextual -implicitDefEqProofs (maxSteps:=1000000) (maxDischargeDepth:=20) only[go_sem,simprocAttr,s126,F126,AF126,kf_0,kg_r,kg_d,ky_0,kh_n,kh_e,kh_r,kz_n,ki_r,rt_n,rt_c,nb_add,ls,List.length_map]
    refine WloopV P.send.slots.length [X14] (fun i=> [.int .i64 i]) (fun i m'=>Cnt h lg (peerC P s t k) (peerC Q s' t' k') false ⟨.ready,none,T1,[X80],(oR [oP X14 (.alloc 5 [[U0,U0,E0,U0,E0]]),oN (.store 5 Y14 Y80)]),(.block 1 (oR [oP X81 (.load false 1 Y12),oP X82 (.fieldA 1 Y14),oP X83 (.load false 1 Y82),oP X84 (.bin .add Y81 Y83),oN (.store 1 Y12 Y84)]))⟩ (P.send.g - P.send.n - P.send.r+cntT Q.recv (P.send.slots.take i)) m') (by have:=(send_ok (peer_old eP).2.2.2.1);omega) (by repeat first |apply Cl_b |apply Cl_q |apply Cl_r) ⟨rfl,?_⟩ (fun i m' g hi hP=> ?_) (fun m' g hP=> ?_)
    · have z:P.send.g - P.send.n - P.send.r+cntT Q.recv (P.send.slots.take 0)=P.send.g - P.send.n - P.send.r:=by
        rw[show cntT Q.recv (P.send.slots.take 0)=0 from rfl,Int.add_zero]
      rw[z]
      exact ⟨keep_bx (by repeat first |exact LogOK.nil |apply LogOK.cons),nb_get,nb_get,nb_get,nb_get,nb_get⟩
    · obtain ⟨h',lg',d'⟩:=m'
      obtain ⟨kk,b1,b2,b3,b4,b7⟩:=hP
      obtain rfl:d'=[]:=kk.dfrs
      simp only at b1 b2 b3 b4 b7
      have sl:SlAt h' 5 s (P.send.slots.map slotC):=SlAt.keep (m:=⟨h,lg,[]⟩) (m':=⟨h',lg',[]⟩) HP.s.s kk
      have hr:=RecvAt.keep (m:=⟨h,lg,[]⟩) (m':=⟨h',lg',[]⟩) HQ.r kk
      have e:=sl.el hi
      have r:=rnd hi (by have:=(send_ok (peer_old eP).2.2.2.1);omega)
      have uu:=HP.s.u _ (gt_mem hi)
      have g5:=fun l lg d=>h127 Q.recv t' k' (gt P.send.slots i).off (gt P.send.slots i).size ⟨bxt h' l,lg,d⟩ (hr.bx l) ot ok (peer_old eQ).2.2.2.2 uu.1 uu.2
      have b4': ∀ l,bget (bxt h' l) (nb h 4)=_:=fun l=>(bxt_old l h' _ (bget_lt b4)).trans b4
      have b7': ∀ l,bget (bxt h' l) (nb h 7)=_:=fun l=>(bxt_old l h' _ (bget_lt b7)).trans b7
      have n27:nb h 2≠nb h 7:=by rw[ne_eq,nb_inj];omega
      have o7:=old_blk (bget_lt b7)
      have o:=old_blk2 (bget_lt b7) (bget_lt b2) n27
      have cs:cntS Q.recv (gt P.send.slots i)↔((lookS Q.recv (gt P.send.slots i).off (gt P.send.slots i).size).2=14∨((lookS Q.recv (gt P.send.slots i).off (gt P.send.slots i).size).2=0∧(lookS Q.recv (gt P.send.slots i).off (gt P.send.slots i).size).1=2)):=Iff.rfl
      generalize lookS Q.recv (gt P.send.slots i).off (gt P.send.slots i).size=zz at g5 cs
      unfold slotC at e
      unfold recvC at g5
      unfold peerC at b4'
      refine Wc_bx ?_
      simp+contextual -implicitDefEqProofs (maxSteps:=1000000) (maxDischargeDepth:=20) only[go_sem,simprocAttr,e,r,g5,b4']
      have ct:=cntT_take (R:=Q.recv) hi
      have so:=send_ok (peer_old eP).2.2.2.1
      have cl:=cntT_le (R:=Q.recv) (l:=P.send.slots.take i) fun x hx=>⟨(HP.s.u x (List.mem_of_mem_take hx)).2,send_size (peer_old eP).2.2.2.1 HP.s.g0 (List.mem_of_mem_take hx) (HP.s.u x (List.mem_of_mem_take hx)).1⟩
      have cl2:(P.send.slots.take i).length≤100:=by rw[List.length_take];omega
      have sz:=send_size (peer_old eP).2.2.2.1 HP.s.g0 (gt_mem hi) uu.1
      have n0:=HP.s.n0
      have r0:=HP.s.g0
      have wu:IntKind.u64.wrap (P.send.g - P.send.n - P.send.r+cntT Q.recv (P.send.slots.take i)+(gt P.send.slots i).size)=P.send.g - P.send.n - P.send.r+cntT Q.recv (P.send.slots.take i)+(gt P.send.slots i).size:=wrapU (by omega) (by omega)
      have skip: ∀ l lg2,LogOK h' lg' lg2→ ¬ cntS Q.recv (gt P.send.slots i)→Cnt h lg (peerC P s t k) (peerC Q s' t' k') false ⟨.ready,none,T1,[X80],(oR [oP X14 (.alloc 5 [[U0,U0,E0,U0,E0]]),oN (.store 5 Y14 Y80)]),(.block 1 (oR [oP X81 (.load false 1 Y12),oP X82 (.fieldA 1 Y14),oP X83 (.load false 1 Y82),oP X84 (.bin .add Y81 Y83),oN (.store 1 Y12 Y84)]))⟩ (P.send.g - P.send.n - P.send.r+cntT Q.recv (P.send.slots.take (i+1))) ⟨bxt h' l,lg2,[]⟩:=fun l lg2 hl hc=>by
        rw[ct,if_neg hc,Int.add_zero]
        exact ⟨kk.trans (keep_bx hl),(bxt_old l h' _ (bget_lt b1)).trans b1,(bxt_old l h' _ (bget_lt b2)).trans b2,(bxt_old l h' _ (bget_lt b3)).trans b3,(bxt_old l h' _ (bget_lt b4)).trans b4,b7' l⟩
      have yes: ∀ l lg2,LgG h.length lg' lg2→cntS Q.recv (gt P.send.slots i)→Cnt h lg (peerC P s t k) (peerC Q s' t' k') false ⟨.ready,none,T1,[X80],(oR [oP X14 (.alloc 5 [[U0,U0,E0,U0,E0]]),oN (.store 5 Y14 Y80)]),(.block 1 (oR [oP X81 (.load false 1 Y12),oP X82 (.fieldA 1 Y14),oP X83 (.load false 1 Y82),oP X84 (.bin .add Y81 Y83),oN (.store 1 Y12 Y84)]))⟩ (P.send.g - P.send.n - P.send.r+cntT Q.recv (P.send.slots.take (i+1))) ⟨bxt (bput (bput h' (nb h 7) (some (.loop ⟨.ready,none,T1,[X80],(oR [oP X14 (.alloc 5 [[U0,U0,E0,U0,E0]]),oN (.store 5 Y14 Y80)]),(.block 1 (oR [oP X81 (.load false 1 Y12),oP X82 (.fieldA 1 Y14),oP X83 (.load false 1 Y82),oP X84 (.bin .add Y81 Y83),oN (.store 1 Y12 Y84)]))⟩))) (nb h 2) (some (.row true 1 [[.int .u64 (P.send.g - P.send.n - P.send.r+cntT Q.recv (P.send.slots.take i)+(gt P.send.slots i).size)]]))) l,lg2,[]⟩:=fun l lg2 hl hc=>by
        have e1:P.send.g - P.send.n - P.send.r+cntT Q.recv (P.send.slots.take (i+1))=P.send.g - P.send.n - P.send.r+cntT Q.recv (P.send.slots.take i)+(gt P.send.slots i).size:=by rw[ct,if_pos hc];omega
        rw[e1]
        have q: ∀ {j c},bget h' (nb h j)=some c→j≠7→j≠2→ ∀ x y,bget (bxt (bput (bput h' (nb h 7) x) (nb h 2) y) l) (nb h j)=some c:=fun hj h1 h2 x y=>(old_get2 (bget_lt b7) (bget_lt b2) (bget_lt hj) (by rw[ne_eq,nb_inj];exact h1) (by rw[ne_eq,nb_inj];exact h2) l x y).trans hj
        exact ⟨kk.own2 nb_ge (bget_lt b7) nb_ge (bget_lt b2) _ _ _ hl.ok,q b1 (by omega) (by omega) _ _,o.2.2.2.2.1 _ _ _,q b3 (by omega) (by omega) _ _,q b4 (by omega) (by omega) _ _,o.2.2.2.2.2.1 _ _ _⟩
      refine ⟨fun q1=> ?_,fun q1=>⟨fun q2=>⟨fun q3=> ?_,fun q3=>skip _ _ (by repeat first |exact LogOK.nil |apply LogOK.cons) (fun hc=> ?_)⟩,fun q2=>skip _ _ (by repeat first |exact LogOK.nil |apply LogOK.cons) (fun hc=> ?_)⟩⟩
      · have hc:cntS Q.recv (gt P.send.slots i):=cs.2 (.inl q1)
        refine w_y (b7' _) rfl rfl rfl (Teq.round hT _ _) ?_
        simp+contextual -implicitDefEqProofs (maxSteps:=1000000) (maxDischargeDepth:=20) only[go_sem,simprocAttr,kf_0,kg_r,kg_d,ky_0,kh_n,kh_e,kh_r,kz_n,ki_r,rt_n,rt_c,nb_add,o7,o,b2,b7',wu,r]
        exact yes _ _ (by repeat first |exact LgG.nil |refine LgG.cons (by first |exact nb_ge |exact Nat.le_trans (kk.len) nb_ge |assumption) ?_) hc
      · have hc:cntS Q.recv (gt P.send.slots i):=cs.2 (.inr ⟨q2,q3⟩)
        refine w_y (b7' _) rfl rfl rfl (Teq.round hT _ _) ?_
        simp+contextual -implicitDefEqProofs (maxSteps:=1000000) (maxDischargeDepth:=20) only[go_sem,simprocAttr,kf_0,kg_r,kg_d,ky_0,kh_n,kh_e,kh_r,kz_n,ki_r,rt_n,rt_c,nb_add,o7,o,b2,b7',wu,r]
        exact yes _ _ (by repeat first |exact LgG.nil |refine LgG.cons (by first |exact nb_ge |exact Nat.le_trans (kk.len) nb_ge |assumption) ?_) hc
      · rcases cs.1 hc with h1 |h1
        · exact q1 h1
        · exact q3 h1.2
      · rcases cs.1 hc with h1 |h1
        · exact q1 h1
        · exact q2 h1.1
    · obtain ⟨h',lg',d'⟩:=m'
      obtain ⟨kk,b1,b2,b3,b4,b7⟩:=hP
      obtain rfl:d'=[]:=kk.dfrs
      simp only at b1 b2 b3 b4 b7
      rw[List.take_length] at b2
      have r:=rndl P.send.slots.length
      have HQ':PeerAt h' Q s' t' k':=PeerAt.keep (m:=⟨h,lg,[]⟩) (m':=⟨h',lg',[]⟩) HQ kk
      have o7:=old_blk (bget_lt b7)
      have q: ∀ {j c},bget h' (nb h j)=some c→j≠7→ ∀ l x,bget (bxt (bput h' (nb h 7) x) l) (nb h j)=some c:=fun hj h1 l x=>(old_get (bget_lt b7) (bget_lt hj) (by rw[ne_eq,nb_inj];exact h1) l x).trans hj
      have b1':=q b1 (by omega)
      have b2':=q b2 (by omega)
      have b7': ∀ l,bget (bxt h' l) (nb h 7)=_:=fun l=>(bxt_old l h' _ (bget_lt b7)).trans b7
      have ow: ∀ {e:Nat} {v:AV} {es:List (List AV)},SlAt h' e v es→ ∀ x l,SlAt (bxt (bput h' (nb h 7) x) l) e v es:=fun hv x l=>hv.own (bget_lt b7) (fun c hc hq=>by
        rcases hv with ⟨_,rfl |rfl |rfl⟩|⟨c',i,k,own,rows,rfl,hc',hw,hk⟩
        · cases hc
        · cases hc
        · cases hc
        · simp only[AV.refs,List.mem_singleton] at hc
          rw[←hc,hq,b7] at hc'
          cases hc') x l
      have g6:=fun x l lg d=>h88 Q s' t' k' ⟨bxt (bput h' (nb h 7) x) l,lg,d⟩ ⟨⟨ow HQ'.s.s x l,HQ'.s.g0,HQ'.s.n0,HQ'.s.g1,HQ'.s.n1,HQ'.s.u⟩,⟨ow HQ'.r.t x l,ow HQ'.r.k x l,HQ'.r.g0,HQ'.r.g1⟩⟩ ot ok hn.t hn.f hn.o (peer_old eQ).1
      unfold peerC at b1' g6
      refine Wc_bx ?_
      simp+contextual -implicitDefEqProofs (maxSteps:=1000000) (maxDischargeDepth:=20) only[go_sem,simprocAttr,r,b1',b2',b7',o7,kf_0,kg_r,kg_d,ky_0,kh_n,kh_e,kh_r,kz_n,ki_r,rt_n,rt_c,nb_add,g6,c4,c5,c6]
      have l6:nb h 6<h'.length:=by
        have h1:=bget_lt b7
        have h2:nb h 6+1=nb h 7:=nb_add
        omega
      exact (kk.sub (d:=d)).own2 (b:=nb h 7) (c:=nb h 6) nb_ge (bget_lt b7) nb_ge l6 none none [] (LgG.cons nb_ge (LgG.cons nb_ge LgG.nil)).ok
  · subst hq
    have ne:(P.theirs=br)=False:=by simp;omega
    have d0:decide (Q.sure=true)=false:=decide_eq_false hs2
    simp only[d0] at g2 g4
    simp+contextual -implicitDefEqProofs (maxSteps:=1000000) (maxDischargeDepth:=20) only[go_sem,simprocAttr,hs,hF,AF51,peerC,c1,c2,c3,c4,c5,c6,g1,g2,g3,s87,F87,AF87,n1,n2,n3,n4,hp,ne,hs2]
    refine w_rf rfl (fun T1 hT=> ?_) (by simp only[Mem.apply,nb_len,blen];rw[nb_put (by rfl),nb_len];rfl)
    simp+contextual -implicitDefEqProofs (maxSteps:=1000000) (maxDischargeDepth:=20) only[go_sem,simprocAttr,s126,F126,AF126,kf_0,kg_r,kg_d,ky_0,kh_n,kh_e,kh_r,kz_n,ki_r,rt_n,rt_c,nb_add,g4,Int.add_zero]
end
section
variable {F:FuncId→Option AFunc} {meth:Meth} {sm:Summ}
theorem e51 (hF:F 51=some AF51) (hs: ∀ vs m,sm 51 vs m=none) (n:Nat) (h:Blks) (lg d:List Nat) (h58:H58 sm) (h86:H86 sm) (h88:H88 sm) (h127:H127 sm) (s87: ∀ vs m,sm 87 vs m=none) (F87:F 87=some AF87) (s126: ∀ vs m,sm 126 vs m=none) (F126:F 126=some AF126)
    {P:PeerD} {s t k:AV} {bs:Int} {Q:PeerD} {s' t' k':AV} {br:Int} (HP:PeerAt h P s t k) (HQ:PeerAt h Q s' t' k') (os:NoOsl s) (ot:NoOsl t') (ok:NoOsl k') (hn:PN Q):Ev F meth sm (n+2000) 51 [.agg (peerC P s t k),.int .u64 bs,.agg (peerC Q s' t' k'),.int .u64 br] ⟨h,lg,d⟩ (.tuple [.bool (holdsE P bs Q br).1,.int .i64 (holdsE P bs Q br).2]):=by
  by_cases hE:peerE P=0∧peerE Q=0∧(1≤bs∧bs≤1099511627776∧1≤br∧br≤1099511627776)∧passH P bs Q br
  · exact e51a hF hs n h lg d h58 h86 h88 h127 s87 F87 s126 F126 HP HQ os ot ok hn hE.1 hE.2.1 hE.2.2.1 hE.2.2.2
  refine Ev.ofW ?_
  have c1:=HP.s.s.sc
  have c2:=HP.r.t.sc
  have c3:=HP.r.k.sc
  have c4:=HQ.s.s.sc
  have c5:=HQ.r.t.sc
  have c6:=HQ.r.k.sc
  have g1:=fun l lg d=>h58 P s t k ⟨bxt h l,lg,d⟩ (HP.bx l)
  have g2:=fun l lg d=>h58 Q s' t' k' ⟨bxt h l,lg,d⟩ (HQ.bx l)
  have g3:=fun l lg d (q:peerE P=0)=>h86 P.send s ⟨bxt h l,lg,d⟩ (HP.s.bx l) os (peer_old q).2.2.2.1
  unfold sendC at g3
  unfold peerC at g1 g2
  simp+contextual -implicitDefEqProofs (maxSteps:=1000000) (maxDischargeDepth:=20) only[go_sem,simprocAttr,hs,hF,AF51,peerC,c1,c2,c3,c4,c5,c6,g1,g2,g3,s87,F87,AF87]
  clear g1 g2 g3
  have hE2: ∀ {p:Prop},peerE P=0→peerE Q=0→ ¬ bs<1→ ¬ 1099511627776<bs→ ¬ br<1→ ¬ 1099511627776<br→Q.theirs=bs→(P.theirs=br∨(P.theirs<br∧ ¬ Q.sure=true))→p:=fun h1 h2 h3 h4 h5 h6 h7 h8=>absurd ⟨h1,h2,by omega,h7,h8⟩ hE
  clear hE
  (repeat' first |apply And.intro |intro _)
  all_goals first
    |(refine hE2 ?_ ?_ ?_ ?_ ?_ ?_ ?_ ?_ <;>first |assumption |omega |(apply Or.inl;omega)|(apply Or.inr;refine ⟨?_,?_⟩ <;>first |assumption |omega))
    |(simp only[holdsE,passH];(repeat' split) <;>first |rfl |omega |simp_all)
    |(simp only[holdsE,passH];(repeat' split) <;>first |rfl |omega |(simp_all;omega))
end
section
variable {F:FuncId→Option AFunc} {meth:Meth} {sm:Summ}
def H89 (sm:Summ):Prop:= ∀ (x:Int) (m:Mem),sm 89 [.int .u64 x] m=some (.int .i64 (if x<1∨1099511627776<x then 2 else 0),m)
theorem e89 (hF:F 89=some AF89) (hs: ∀ vs m,sm 89 vs m=none) (n:Nat) (h:Blks) (lg d:List Nat) {x:Int}:Ev F meth sm (n+2000) 89 [.int .u64 x] ⟨h,lg,d⟩ (.int .i64 (if x<1∨1099511627776<x then 2 else 0)):=by
  refine Ev.ofW ?_
  simp+contextual -implicitDefEqProofs (maxSteps:=1000000) (maxDischargeDepth:=20) only[go_sem,simprocAttr,hs,hF,AF89]
theorem e53a (hF:F 53=some AF53) (hs: ∀ vs m,sm 53 vs m=none) (n:Nat) (h:Blks) (lg d:List Nat) (h62:H62 sm) (h89:H89 sm) (h90:H90 sm) (h84:H84 sm) (h91:H91 sm)
    {P:PeerD} {s t k:AV} {bs:Int} {Q:PeerD} {s' t' k':AV} {br:Int} (HP:PeerAt h P s t k) (HQ:PeerAt h Q s' t' k') (hn:PN Q) (eP:peerE P=0) (eQ:peerE Q=0) (hbs:1≤bs∧bs≤1099511627776∧1≤br∧br≤1099511627776) (hp:passH P bs Q br):Ev F meth sm (n+2000) 53 [.agg (peerC P s t k),.int .u64 bs,.agg (peerC Q s' t' k'),.int .u64 br] ⟨h,lg,d⟩ (.tuple [.bool (holdsE P bs Q br).1,.int .i64 (holdsE P bs Q br).2]):=by
  refine Ev.ofW ?_
  have c1:=HP.s.s.sc
  have c2:=HP.r.t.sc
  have c3:=HP.r.k.sc
  have c4:=HQ.s.s.sc
  have c5:=HQ.r.t.sc
  have c6:=HQ.r.k.sc
  have ls:=HP.s.s.len
  have g1:=fun l lg d=>h62 P s t k ⟨bxt h l,lg,d⟩ (HP.bx l)
  have g2:=fun l lg d=>h62 Q s' t' k' ⟨bxt h l,lg,d⟩ (HQ.bx l)
  have g3:=fun l lg d=>h90 P.send s ⟨bxt h l,lg,d⟩ (HP.s.bx l) (peer_old eP).2.2.2.1
  have b1: ∀ m,sm 89 [.int .u64 bs] m=some (.int .i64 0,m):=fun m=>by rw[h89,if_neg (by omega)]
  have b2: ∀ m,sm 89 [.int .u64 br] m=some (.int .i64 0,m):=fun m=>by rw[h89,if_neg (by omega)]
  have hE0:(heldE Q).1=Q.old+resE Q.recv:=by rw[heldE,if_neg (by omega)]
  rw[eP] at g1
  rw[eQ] at g2
  unfold sendC at g3
  unfold peerC at g1 g2
  obtain ⟨hq,hp⟩:=hp
  have e0:holdsE P bs Q br=(decide (P.send.g - P.send.n - P.send.r+(if P.theirs<br then 0 else cntT Q.recv P.send.slots)≤Q.old+resE Q.recv),0):=by
    rw[holdsE,if_neg (by omega),if_neg (by omega),if_neg (by omega),if_pos ⟨hq,hp⟩]
  rw[e0]
  rcases hp with hp |⟨hp,hs2⟩
  · subst hq hp
    have ir:(P.theirs<P.theirs)=False:=by simp
    simp+contextual -implicitDefEqProofs (maxSteps:=1000000) (maxDischargeDepth:=20) only[go_sem,simprocAttr,hs,hF,AF53,peerC,c1,c2,c3,c4,c5,c6,g1,g2,g3,b1,b2,ir]
    refine WloopK P.send.slots.length [X15,X13] (fun i=> [.int .i64 i,.int .u64 (P.send.g - P.send.n - P.send.r+cntT Q.recv (P.send.slots.take i))]) (fun _=>True) (by have:=(send_ok (peer_old eP).2.2.2.1);omega) (by repeat first |apply Cl_b |apply Cl_q |apply Cl_r) ⟨?_,trivial⟩ (fun i h' lg' g hi hP hK=> ?_) (fun h' lg' g hP hK=> ?_)
    · rw[show cntT Q.recv (P.send.slots.take 0)=0 from rfl,Int.add_zero]
      rfl
    · have a:=hK.all (lg:=lg) (d:=d) (by repeat first |exact LogOK.nil |apply LogOK.cons)
      have e:=(hK.sl HP.s.s).el hi
      have hr:RecvAt h' Q.recv t' k':=RecvAt.keep (m:=⟨bxt h _,_,[]⟩) (m':=⟨h',lg',[]⟩) (HQ.r.bx _) hK
      have r:=rnd hi (by have:=(send_ok (peer_old eP).2.2.2.1);omega)
      have uu:=HP.s.u _ (gt_mem hi)
      have g5:=fun l lg d=>h91 Q.recv t' k' (gt P.send.slots i).off (gt P.send.slots i).size ⟨bxt h' l,lg,d⟩ (hr.bx l) (peer_old eQ).2.2.2.2 uu.1 uu.2
      have ct:=cntT_take (R:=Q.recv) hi
      have so:=send_ok (peer_old eP).2.2.2.1
      have cl:=cntT_le (R:=Q.recv) (l:=P.send.slots.take i) fun x hx=>⟨(HP.s.u x (List.mem_of_mem_take hx)).2,send_size (peer_old eP).2.2.2.1 HP.s.g0 (List.mem_of_mem_take hx) (HP.s.u x (List.mem_of_mem_take hx)).1⟩
      have cl2:(P.send.slots.take i).length≤100:=by rw[List.length_take];omega
      have sz:=send_size (peer_old eP).2.2.2.1 HP.s.g0 (gt_mem hi) uu.1
      have n0:=HP.s.n0
      have r0:=HP.s.g0
      have wu:IntKind.u64.wrap (P.send.g - P.send.n - P.send.r+cntT Q.recv (P.send.slots.take i)+(gt P.send.slots i).size)=P.send.g - P.send.n - P.send.r+cntT Q.recv (P.send.slots.take i)+(gt P.send.slots i).size:=wrapU (by omega) (by omega)
      have ce:=cnt_eq (R:=Q.recv) (x:=gt P.send.slots i) (peer_old eQ).2.2.2.2 uu.1 uu.2 HQ.r.g0
      rw[ce] at ct
      have cs:cntR Q.recv (gt P.send.slots i)↔(¬ (refS Q.recv (gt P.send.slots i).off (gt P.send.slots i).size).2=0∨(refS Q.recv (gt P.send.slots i).off (gt P.send.slots i).size).1=2):=Iff.rfl
      generalize refS Q.recv (gt P.send.slots i).off (gt P.send.slots i).size=zz at g5 cs
      unfold slotC at e
      unfold recvC at g5
      simp+contextual -implicitDefEqProofs (maxSteps:=1000000) (maxDischargeDepth:=20) only[go_sem,simprocAttr,a,e,r,g5,ls,List.length_map,wu]
      refine ⟨fun q=>by rw[ct,if_pos (cs.2 (.inl q))];omega,fun q=>⟨fun q2=>by rw[ct,if_pos (cs.2 (.inr q2))];omega,fun q2=>by rw[ct,if_neg (fun hc=>(cs.1 hc).elim (fun z=>z q) q2)];omega⟩⟩
    · have a:=hK.all (lg:=lg) (d:=d) (by repeat first |exact LogOK.nil |apply LogOK.cons)
      have r:=rndl P.send.slots.length
      have HQ':PeerAt h' Q s' t' k':=PeerAt.keep (m:=⟨bxt h _,_,[]⟩) (m':=⟨h',lg',[]⟩) (HQ.bx _) hK
      have g6:=fun l lg d=>h84 Q s' t' k' ⟨bxt h' l,lg,d⟩ (HQ'.bx l) hn.t hn.f hn.o
      rw[hE0] at g6
      unfold peerC at g6
      simp+contextual -implicitDefEqProofs (maxSteps:=1000000) (maxDischargeDepth:=20) only[go_sem,simprocAttr,a,r,g6,ls,List.length_map,List.take_length,c4,c5,c6]
  · subst hq
    have ne:(P.theirs=br)=False:=by simp;omega
    have d0:decide (Q.sure=true)=false:=decide_eq_false hs2
    simp only[d0] at g2
    simp+contextual -implicitDefEqProofs (maxSteps:=1000000) (maxDischargeDepth:=20) only[go_sem,simprocAttr,hs,hF,AF53,peerC,c1,c2,c3,c4,c5,c6,g1,g2,g3,b1,b2,hp,ne,hs2]
    refine WloopK 0 [X15,X13] (fun i=> [.int .i64 0,.int .u64 (P.send.g - P.send.n - P.send.r)]) (fun _=>True) (by omega) (by repeat first |apply Cl_b |apply Cl_q |apply Cl_r) ⟨rfl,trivial⟩ (fun i h' lg' g hi hP hK=>by omega) (fun h' lg' g hP hK=> ?_)
    have a:=hK.all (lg:=lg) (d:=d) (by repeat first |exact LogOK.nil |apply LogOK.cons)
    have HQ':PeerAt h' Q s' t' k':=PeerAt.keep (m:=⟨bxt h _,_,[]⟩) (m':=⟨h',lg',[]⟩) (HQ.bx _) hK
    have g6:=fun l lg d=>h84 Q s' t' k' ⟨bxt h' l,lg,d⟩ (HQ'.bx l) hn.t hn.f hn.o
    rw[hE0] at g6
    unfold peerC at g6
    simp only[d0] at g6
    simp+contextual -implicitDefEqProofs (maxSteps:=1000000) (maxDischargeDepth:=20) only[go_sem,simprocAttr,a,g6,ls,List.length_map,c4,c5,c6,Int.add_zero]
def H53 (sm:Summ):Prop:= ∀ (P:PeerD) (s t k:AV) (bs:Int) (Q:PeerD) (s' t' k':AV) (br:Int) (m:Mem),PeerAt m.blks P s t k→PeerAt m.blks Q s' t' k'→PN Q→sm 53 [.agg (peerC P s t k),.int .u64 bs,.agg (peerC Q s' t' k'),.int .u64 br] m=some (.tuple [.bool (holdsE P bs Q br).1,.int .i64 (holdsE P bs Q br).2],m)
theorem e53 (hF:F 53=some AF53) (hs: ∀ vs m,sm 53 vs m=none) (n:Nat) (h:Blks) (lg d:List Nat) (h62:H62 sm) (h89:H89 sm) (h90:H90 sm) (h84:H84 sm) (h91:H91 sm)
    {P:PeerD} {s t k:AV} {bs:Int} {Q:PeerD} {s' t' k':AV} {br:Int} (HP:PeerAt h P s t k) (HQ:PeerAt h Q s' t' k') (hn:PN Q):Ev F meth sm (n+2000) 53 [.agg (peerC P s t k),.int .u64 bs,.agg (peerC Q s' t' k'),.int .u64 br] ⟨h,lg,d⟩ (.tuple [.bool (holdsE P bs Q br).1,.int .i64 (holdsE P bs Q br).2]):=by
  by_cases hE:peerE P=0∧peerE Q=0∧(1≤bs∧bs≤1099511627776∧1≤br∧br≤1099511627776)∧passH P bs Q br
  · exact e53a hF hs n h lg d h62 h89 h90 h84 h91 HP HQ hn hE.1 hE.2.1 hE.2.2.1 hE.2.2.2
  refine Ev.ofW ?_
  have c1:=HP.s.s.sc
  have c2:=HP.r.t.sc
  have c3:=HP.r.k.sc
  have c4:=HQ.s.s.sc
  have c5:=HQ.r.t.sc
  have c6:=HQ.r.k.sc
  have g1:=fun l lg d=>h62 P s t k ⟨bxt h l,lg,d⟩ (HP.bx l)
  have g2:=fun l lg d=>h62 Q s' t' k' ⟨bxt h l,lg,d⟩ (HQ.bx l)
  have g3:=fun l lg d (q:peerE P=0)=>h90 P.send s ⟨bxt h l,lg,d⟩ (HP.s.bx l) (peer_old q).2.2.2.1
  have bz: ∀ x:Int,(if x<1∨1099511627776<x then 2 else 0:Int)=0∨(if x<1∨1099511627776<x then 2 else 0:Int)=2:=fun x=>by split <;>simp
  have b1:=fun m=>h89 bs m
  have b2:=fun m=>h89 br m
  have y1:(if bs<1∨1099511627776<bs then 2 else 0:Int)=0↔(1≤bs∧bs≤1099511627776):=by split <;>omega
  have y2:(if br<1∨1099511627776<br then 2 else 0:Int)=0↔(1≤br∧br≤1099511627776):=by split <;>omega
  have z1:=bz bs
  have z2:=bz br
  generalize (if bs<1∨1099511627776<bs then 2 else 0:Int)=v1 at b1 y1 z1
  generalize (if br<1∨1099511627776<br then 2 else 0:Int)=v2 at b2 y2 z2
  unfold sendC at g3
  unfold peerC at g1 g2
  simp+contextual -implicitDefEqProofs (maxSteps:=1000000) (maxDischargeDepth:=20) only[go_sem,simprocAttr,hs,hF,AF53,peerC,c1,c2,c3,c4,c5,c6,g1,g2,g3,b1,b2]
  clear g1 g2 g3 b1 b2 bz
  have hE2: ∀ {p:Prop},peerE P=0→peerE Q=0→v1=0→v2=0→Q.theirs=bs→(P.theirs=br∨(P.theirs<br∧ ¬ Q.sure=true))→p:=fun h1 h2 h3 h4 h7 h8=>absurd ⟨h1,h2,by omega,h7,h8⟩ hE
  clear hE
  (repeat' first |apply And.intro |intro _)
  all_goals first
    |(refine hE2 ?_ ?_ ?_ ?_ ?_ ?_ <;>first |assumption |omega |(apply Or.inl;omega)|(apply Or.inr;refine ⟨?_,?_⟩ <;>first |assumption |omega))
    |(simp only[holdsE,passH];(repeat' split) <;>first |rfl |omega |simp_all)
    |(simp only[holdsE,passH];(repeat' split) <;>first |rfl |omega |(simp_all;omega))
end
end Go.Abs
end
