/- Functions of the program on symbolic values: part g.
   Conditions: none. -/
import Derived.Test.YtjpnemidlgcmmaaGreatDoorPf
set_option linter.unusedSimpArgs false
set_option linter.unusedVariables false
set_option maxRecDepth 100000
set_option maxHeartbeats 16000000
noncomputable section
namespace Go.Abs
section
variable {F:FuncId→Option AFunc} {meth:Meth} {sm:Summ}
def blankD (o:Int):PeerD:=⟨o,0,false,0,⟨0,0,0,[]⟩,⟨0,0,0,[],[]⟩⟩
def pickD (l:List PeerD) (o:Int):PeerD:=(l.find? fun p=>decide (p.node=o)).getD (blankD o)
def peerD (v:ViewD) (o:Int):PeerD:=pickD (if v.up=true then v.peers else v.st.peers) o
theorem pickX_p (l:List PX) (o:Int):(pickX l o).p=pickD (l.map (·.p)) o:=by
  rw[pickX,pickD,List.find?_map]
  cases h:l.find? fun p=>decide (p.p.node=o) with
  |none=>rw[show l.find? ((fun p=>decide (p.node=o)) ∘ fun x=>x.p)=none from h];rfl
  |some x=>rw[show l.find? ((fun p=>decide (p.node=o)) ∘ fun x=>x.p)=some x from h];rfl
theorem peerX_p {h:Blks} {x:VX} (H:ViewAt h x) (o:Int):(peerX x o).p=peerD x.v o:=by
  rw[peerX,peersOf,peerD]
  by_cases hu:x.v.up=true
  · rw[if_pos hu,if_pos hu,pickX_p,H.e]
  · rw[if_neg hu,if_neg hu,pickX_p,H.s.e]
theorem peerX_at {h:Blks} {x:VX} (H:ViewAt h x) (o:Int):PeerAt h (peerX x o).p (peerX x o).s (peerX x o).t (peerX x o).k:=by
  rw[peerX,peersOf]
  by_cases hu:x.v.up=true
  · rw[if_pos hu];exact pickX_at H.q.p
  · rw[if_neg hu];exact pickX_at H.s.p.p
theorem pickX_all {l:List PX} {o:Int} {p:PX→Prop} (h: ∀ x∈l,p x) (hb:p (blankX o)):p (pickX l o):=by
  rw[pickX]
  cases hf:l.find? fun p=>decide (p.p.node=o) with
  |none=>exact hb
  |some x=>exact h x (List.mem_of_find?_eq_some hf)
theorem peerX_n {s:SnapX} (hN:SnapN s) {x:VX} (hx:x∈s.vs) (o:Int):PN (peerX x o).p:=by
  rw[peerX,peersOf]
  have hb:PN (blankX o).p:=⟨by show 0≤1000;omega,Int.le_refl 0,Int.le_refl 0,Int.le_refl 0⟩
  by_cases hu:x.v.up=true
  · rw[if_pos hu];exact pickX_all (p:=fun y=>PN y.p) (hN.r x hx) hb
  · rw[if_neg hu];exact pickX_all (p:=fun y=>PN y.p) (hN.p x hx) hb
theorem peerX_o {s:SnapX} (hO:SnapO s) {x:VX} (hx:x∈s.vs) (o:Int):PO (peerX x o):=by
  rw[peerX,peersOf]
  have hb:PO (blankX o):=⟨fun n h=>(by cases h),fun n h=>(by cases h),fun n h=>(by cases h)⟩
  by_cases hu:x.v.up=true
  · rw[if_pos hu];exact pickX_all (p:=PO) (hO.r x hx) hb
  · rw[if_neg hu];exact pickX_all (p:=PO) (hO.p x hx) hb
def holdV (v o:ViewD):Bool × Int:=holdsE (peerD v o.cfg.node) v.st.boot (peerD o v.cfg.node) o.st.boot
def credV (l:List ViewD) (i k:Nat):List VioD:=
  if i=k∨ ¬ (gt l i).up=true then [] else if (holdV (gt l i) (gt l k)).1=true then [] else [⟨2,(gt l i).cfg.node,(gt l k).cfg.node,⟨0,0,0⟩⟩]
def rowV (l:List ViewD) (i:Nat):Nat→List VioD
  |0=> []
  |k+1=>rowV l i k++credV l i k
def credsV (l:List ViewD):Nat→List VioD
  |0=> []
  |i+1=>credsV l i++rowV l i l.length
theorem credV_len (l:List ViewD) (i k:Nat):(credV l i k).length≤1:=by
  rw[credV];split
  · simp
  · split <;>simp
theorem rowV_len (l:List ViewD) (i:Nat): ∀ k,(rowV l i k).length≤k
  |0=>Nat.le_refl 0
  | k+1=>by
    have:=rowV_len l i k
    have:=credV_len l i k
    rw[rowV,List.length_append];omega
theorem credsV_len (l:List ViewD): ∀ i,(credsV l i).length≤i*l.length
  |0=>by simp[credsV]
  | i+1=>by
    have h1:=credsV_len l i
    have h2:=rowV_len l i l.length
    rw[credsV,List.length_append,Nat.succ_mul];omega
theorem node_inj {D:SnapD} (h:snapE D=0) {i k:Nat} (hi:i<D.nodes.length) (hk:k<D.nodes.length):(gt D.nodes i).cfg.node=(gt D.nodes k).cfg.node↔i=k:=by
  constructor
  · intro q
    rcases Nat.lt_trichotomy i k with h1 |h1 |h1
    · have:=snap_asc h k hk i h1;omega
    · exact h1
    · have:=snap_asc h i hi k h1;omega
  · rintro rfl;rfl
def VRow (h:Blks) (b:Nat) (x:VX):Prop:=bget h b=some (.row true 1 ((viewC x).map fun c=> [c]))
structure CrI (h:Blks) (lg:List Nat) (st:List AV) (e0:Nat) (bv:Nat) (x:VX) (L:List VioD) (a:AV) (m:Mem):Prop where
  k:Keep ⟨h,lg,[]⟩ m
  b0:bget m.blks (nb h 0)=some (.row true e0 [st])
  b1:VRow m.blks bv x
  ho:OutAt h.length m.blks 6 a (L.map vioC)
theorem VRow.bx {h:Blks} {b:Nat} {x:VX} (H:VRow h b x) (l:List (Option ABlk)):VRow (bxt h l) b x:=(bxt_old l h b (bget_lt H)).trans H
theorem e32 (hF:F 32=some AF32) (hs: ∀ vs m,sm 32 vs m=none) (n:Nat) (h:Blks) (lg d:List Nat) (h52:H52 sm) (h51:H51 sm) {s:SnapX} {b:Nat} (H:SnapAt h s) (hz:snapE s.d=0) (hb:bget h b=some (.map (vEnt s.nv s.vs s.vs.length))) (hN:SnapN s) (hO:SnapO s):Wa F meth sm (n+3000) (.fn 32) [.agg (snapC s++ [.map b])] ⟨bxt h [],lg,d⟩ (Qk ⟨h,lg,d⟩ fun w h'=>OutAt h.length h' 6 w ((credsV s.d.nodes s.d.nodes.length).map vioC)):=by
  have c1:=H.v.sc
  have c2:=H.l.sc
  have l1:=H.v.len
  have n1:s.d.nodes.length=s.vs.length:=by simp[SnapX.d]
  have n16:=(snap_nodes hz).1
  simp+contextual -implicitDefEqProofs (maxSteps:=1000000) (maxDischargeDepth:=20) only[go_sem,simprocAttr,hs,hF,AF32,snapC,c1,c2,l1,List.length_map,q_k]
  refine WloopE (α:=AV) s.vs.length [X16,X3] (fun i a=> [.int .i64 i,a]) (fun i a m'=>Keep ⟨h,lg,[]⟩ m'∧bget m'.blks (nb h 0)=some (.row true 4 [[.int .i64 s.now,s.nv,s.lv,.map b]])∧OutAt h.length m'.blks 6 a ((credsV s.d.nodes i).map vioC)) (by omega) (by repeat first |apply Cl_b |apply Cl_q |apply Cl_r) ⟨.nilslice,rfl,keep_bx (by repeat first |exact LogOK.nil |apply LogOK.cons),nb_get,.nil rfl rfl⟩ (fun i a m' g hi hP=> ?_) (fun a m' g hP=> ?_)
  · obtain ⟨h',lg',d'⟩:=m'
    obtain ⟨k,b0,ho⟩:=hP
    obtain rfl:d'=[]:=k.dfrs
    simp only at ho b0
    have hs':SnapAt h' s:=SnapAt.keep (m:=⟨h,lg,[]⟩) (m':=⟨h',lg',[]⟩) H k
    have e:=hs'.v.el hi
    have l1':=hs'.v.len
    have r:=rnd hi (by omega)
    have hx:=hs'.va _ (gt_mem hi)
    have d1:=hx.s.b.sc
    have d2:=hx.s.m.sc
    have d3:=hx.s.p.v.sc
    have d4:=hx.q.v.sc
    have b0': ∀ l,bget (bxt h' l) (nb h 0)=_:=fun l=>(bxt_old l h' _ (bget_lt b0)).trans b0
    unfold viewC at e
    refine Wc_bx ?_
    simp+contextual -implicitDefEqProofs (maxSteps:=1000000) (maxDischargeDepth:=20) only[go_sem,simprocAttr,e,r,d1,d2,d3,d4,b0',l1',List.length_map,e_n,e_e,e_r]
    have z1:bget (bxt h' [some (.row true 1 ((viewC (gt s.vs i)).map fun c=> [c]))]) (nb h' 0)=some (.row true 1 ((viewC (gt s.vs i)).map fun c=> [c])):=nb_get
    refine WloopE (α:=AV) s.vs.length [X24,X3] (fun j a=> [.int .i64 j,a]) (fun j=>CrI h lg [.int .i64 s.now,s.nv,s.lv,.map b] 4 (nb h' 0) (gt s.vs i) (credsV s.d.nodes i++rowV s.d.nodes i j)) (by omega) (by repeat first |apply Cl_b |apply Cl_q |apply Cl_r |apply Cl_e) ⟨a,rfl,⟨k.trans (keep_bx (by repeat first |exact LogOK.nil |apply LogOK.cons)),b0' _,z1,by rw[show rowV s.d.nodes i 0=[] from rfl,List.append_nil];exact ho.bx _⟩⟩ (fun j a m' g hj hP=> ?_) (fun a m' g hP=> ?_)
    · obtain ⟨h3,lg3,d3⟩:=m'
      obtain ⟨k,b0,b1,ho⟩:=hP
      obtain rfl:d3=[]:=k.dfrs
      simp only at b0 b1 ho
      have hs3:SnapAt h3 s:=SnapAt.keep (m:=⟨h,lg,[]⟩) (m':=⟨h3,lg3,[]⟩) H k
      have hb3:bget h3 b=some (.map (vEnt s.nv s.vs s.vs.length)):=(k.get b (bget_lt hb)).trans hb
      have e:=hs3.v.el hj
      have r:=rnd hj (by omega)
      have hx:=hs3.va _ (gt_mem hi)
      have hy:=hs3.va _ (gt_mem hj)
      have d1:=hy.s.b.sc
      have d2:=hy.s.m.sc
      have d3:=hy.s.p.v.sc
      have d4:=hy.q.v.sc
      have b0': ∀ l,bget (bxt h3 l) (nb h 0)=_:=fun l=>(bxt_old l h3 _ (bget_lt b0)).trans b0
      have b1': ∀ l,bget (bxt h3 l) (nb h' 0)=some (.row true 1 ((viewC (gt s.vs i)).map fun c=> [c])):=fun l=>b1.bx l
      have x1:gt s.d.nodes i=(gt s.vs i).v:=gt_mapV hi
      have x2:gt s.d.nodes j=(gt s.vs j).v:=gt_mapV hj
      have g1:=fun l lg d=>h52 s b i (gt s.vs j).v.cfg.node ⟨bxt h3 l,lg,d⟩ (hs3.bx l) hz ((bxt_old l h3 _ (bget_lt hb3)).trans hb3) hi
      have g2:=fun l lg d=>h52 s b j (gt s.vs i).v.cfg.node ⟨bxt h3 l,lg,d⟩ (hs3.bx l) hz ((bxt_old l h3 _ (bget_lt hb3)).trans hb3) hj
      have hv:holdV (gt s.d.nodes i) (gt s.d.nodes j)=holdsE (peerX (gt s.vs i) (gt s.vs j).v.cfg.node).p (gt s.vs i).v.st.boot (peerX (gt s.vs j) (gt s.vs i).v.cfg.node).p (gt s.vs j).v.st.boot:=by rw[holdV,x1,x2,peerX_p hx,peerX_p hy]
      have oX:=peerX_o hO (gt_mem hi) (gt s.vs j).v.cfg.node
      have oY:=peerX_o hO (gt_mem hj) (gt s.vs i).v.cfg.node
      have g3: ∀ l lg d,sm 51 [.agg (pxC (peerX (gt s.vs i) (gt s.vs j).v.cfg.node)),.int .u64 (gt s.vs i).v.st.boot,.agg (pxC (peerX (gt s.vs j) (gt s.vs i).v.cfg.node)),.int .u64 (gt s.vs j).v.st.boot] ⟨bxt h3 l,lg,d⟩=some (.tuple [.bool (decide ((holdV (gt s.d.nodes i) (gt s.d.nodes j)).1=true)),.int .i64 (holdV (gt s.d.nodes i) (gt s.d.nodes j)).2],⟨bxt h3 l,lg,d⟩):=fun l lg d=>by
        rw[hv,Bool.decide_eq_true]
        exact h51 _ _ _ _ _ _ _ _ _ _ ⟨bxt h3 l,lg,d⟩ ((peerX_at hx _).bx l) ((peerX_at hy _).bx l) oX.1 oY.2.1 oY.2.2 (peerX_n hN (gt_mem hj) _)
      have cv:credV s.d.nodes i j=if i=j∨ ¬ (gt s.vs i).v.up=true then [] else if (holdV (gt s.d.nodes i) (gt s.d.nodes j)).1=true then [] else [⟨2,(gt s.vs i).v.cfg.node,(gt s.vs j).v.cfg.node,⟨0,0,0⟩⟩]:=by rw[credV,x1,x2]
      have rv:rowV s.d.nodes i (j+1)=rowV s.d.nodes i j++credV s.d.nodes i j:=rfl
      have ni:=node_inj hz (i:=i) (k:=j) (by omega) (by omega)
      rw[x1,x2] at ni
      have len1:(credsV s.d.nodes i++rowV s.d.nodes i j).length≤1000:=by
        have h1:=credsV_len s.d.nodes i
        have h2:=rowV_len s.d.nodes i j
        have h3:i*s.d.nodes.length≤16*16:=Nat.mul_le_mul (by omega) n16
        rw[List.length_append];omega
      rw[rv,←List.append_assoc]
      generalize credsV s.d.nodes i++rowV s.d.nodes i j=L at ho len1
      generalize holdV (gt s.d.nodes i) (gt s.d.nodes j)=hh at g3 cv
      unfold viewC at e b1'
      simp only[List.map_cons,List.map_nil] at b1'
      simp only[snapC,List.cons_append,List.nil_append] at g1 g2
      refine Wc_bx ?_
      by_cases hij:i=j
      · subst hij
        rw[cv,if_pos (.inl rfl),List.append_nil]
        simp+contextual -implicitDefEqProofs (maxSteps:=1000000) (maxDischargeDepth:=20) only[go_sem,simprocAttr,e,r,b0',b1',d1,d2,d3,d4,e_n,e_e,e_r]
        exact ⟨_,rfl,⟨k.trans (keep_bx (by repeat first |exact LogOK.nil |apply LogOK.cons)),b0' _,b1.bx _,ho.bx _⟩⟩
      · have ne:((gt s.vs i).v.cfg.node=(gt s.vs j).v.cfg.node)=False:=by simp only[eq_iff_iff,iff_false];exact fun q=>hij (ni.1 q)
        have nor:(gt s.vs i).v.up=true→ ¬ (i=j∨ ¬ (gt s.vs i).v.up=true):=fun c q=>q.elim hij (fun z=>z c)
        rcases ho with ⟨hn,rfl⟩|⟨bo,rfl,hk,hb⟩
        · simp+contextual -implicitDefEqProofs (maxSteps:=1000000) (maxDischargeDepth:=20) only[go_sem,simprocAttr,e,r,b0',b1',d1,d2,d3,d4,e_n,e_e,e_r,ne,g1,g2,g3]
          refine ⟨fun c=>⟨_,rfl,⟨k.trans (keep_bx (by repeat first |exact LogOK.nil |apply LogOK.cons)),b0' _,b1.bx _,?_⟩⟩,fun c=>⟨fun c2=>⟨_,rfl,⟨k.trans (keep_bx (by repeat first |exact LogOK.nil |apply LogOK.cons)),b0' _,b1.bx _,?_⟩⟩,fun c2=>⟨_,rfl,⟨k.trans (keep_bx (by repeat first |exact LogOK.nil |apply LogOK.cons)),b0' _,b1.bx _,?_⟩⟩⟩⟩
          · rw[cv,if_pos (.inr c),List.append_nil];exact .nil hn rfl
          · rw[cv,if_neg (nor c),if_neg c2,List.map_append,hn]
            exact .some (nb h3 2) rfl (Nat.le_trans k.len nb_ge) nb_get
          · rw[cv,if_neg (nor c),if_pos c2,List.append_nil];exact .nil hn rfl
        · have o:=old_blk (bget_lt hb)
          have hb': ∀ l,bget (bxt h3 l) bo=_:=fun l=>(bxt_old l h3 _ (bget_lt hb)).trans hb
          have n0:nb h 0≠bo:=fun q=>by rw[q,hb] at b0;cases b0
          have n1:nb h' 0≠bo:=fun q=>by have b1:bget h3 (nb h' 0)=_:=b1;rw[q,hb] at b1;cases b1
          have fA:(1000000000000<(L.length+1)*48)=False:=by simp;omega
          have fC:List.take L.length (L.map vioC)=L.map vioC:=List.take_of_length_le (by simp)
          rw[List.length_map]
          simp+contextual -implicitDefEqProofs (maxSteps:=1000000) (maxDischargeDepth:=20) only[go_sem,simprocAttr,e,r,b0',b1',d1,d2,d3,d4,e_n,e_e,e_r,ne,g1,g2,g3,o,hb',List.length_map,fA,fB,fC]
          refine ⟨fun c=>⟨_,rfl,⟨k.trans (keep_bx (by repeat first |exact LogOK.nil |apply LogOK.cons)),b0' _,b1.bx _,?_⟩⟩,fun c=>⟨fun c2=>⟨_,rfl,⟨k.own hk (bget_lt hb) _ _ (LgG.ok (by repeat first |exact LgG.nil |refine LgG.cons (by first |exact nb_ge |exact Nat.le_trans (k.len) nb_ge |assumption) ?_)),(old_get (bget_lt hb) (bget_lt b0) n0 _ _).trans b0,(old_get (bget_lt hb) (bget_lt (show bget h3 (nb h' 0)=_ from b1)) n1 _ _).trans b1,?_⟩⟩,fun c2=>⟨_,rfl,⟨k.trans (keep_bx (by repeat first |exact LogOK.nil |apply LogOK.cons)),b0' _,b1.bx _,?_⟩⟩⟩⟩
          · rw[cv,if_pos (.inr c),List.append_nil];exact .some bo (by rw[List.length_map]) hk (hb' _)
          · rw[cv,if_neg (nor c),if_neg c2,List.map_append]
            exact .some (nb h3 2) (by simp) (Nat.le_trans k.len nb_ge) (o.2.1 _ _ _)
          · rw[cv,if_neg (nor c),if_pos c2,List.append_nil];exact .some bo (by rw[List.length_map]) hk (hb' _)
    · obtain ⟨h3,lg3,d3⟩:=m'
      obtain ⟨k,b0,b1,ho⟩:=hP
      obtain rfl:d3=[]:=k.dfrs
      have r2:=rndl s.vs.length
      refine Wc_bx ?_
      simp+contextual -implicitDefEqProofs (maxSteps:=1000000) (maxDischargeDepth:=20) only[go_sem,simprocAttr,r,r2,e_n,e_e,e_r]
      rw[←n1] at ho
      exact ⟨_,rfl,k,b0,ho⟩
  · obtain ⟨h',lg',d'⟩:=m'
    obtain ⟨k,b0,ho⟩:=hP
    obtain rfl:d'=[]:=k.dfrs
    have r:=rndl s.vs.length
    rw[←n1] at ho
    refine Wc_bx ?_
    simp+contextual -implicitDefEqProofs (maxSteps:=1000000) (maxDischargeDepth:=20) only[go_sem,simprocAttr,r,q_k]
    exact ⟨k.sub (d:=d),ho⟩
end
section
variable {F:FuncId→Option AFunc} {meth:Meth} {sm:Summ}
theorem pickD_all {l:List PeerD} {o:Int} {p:PeerD→Prop} (h: ∀ x∈l,p x) (hb:p (blankD o)):p (pickD l o):=by
  rw[pickD]
  cases hf:l.find? fun p=>decide (p.node=o) with
  |none=>exact hb
  |some x=>exact h x (List.mem_of_find?_eq_some hf)
theorem blankD_ok {o:Int} (h1:1≤o) (h2:o≤16):peerE (blankD o)=0:=by
  have e1:emptyP (blankD o):=⟨by simp[blankD],rfl,rfl,rfl,rfl,rfl,rfl,rfl,rfl,rfl,rfl⟩
  have e2:(sendE (⟨0,0,0,[]⟩:SendD)).1=0:=by decide
  have e3:(recvE (⟨0,0,0,[],[]⟩:RecvD)).1=0:=by decide
  have e2:(sendE (blankD o).send).1=0:=e2
  have e3:(recvE (blankD o).recv).1=0:=e3
  have e4:(blankD o).node=o:=rfl
  have e5:(blankD o).theirs=0:=rfl
  have e6:(blankD o).old=0:=rfl
  rw[peerE,if_neg (by omega),if_neg (by omega),if_neg (by omega),if_neg (fun q=>q.2 e1)]
theorem peerD_ok {v:ViewD} {o:Int} (hv:viewE v=0) (h1:1≤o) (h2:o≤16):peerE (peerD v o)=0:=by
  have q:=view_ok hv
  rw[peerD]
  refine pickD_all (p:=fun x=>peerE x=0) (fun x hx=> ?_) (blankD_ok h1 h2)
  split at hx
  · obtain ⟨i,hi,e⟩:=List.getElem_of_mem hx
    have hz:=(ffrom_zero v.peers.length 0).1 q.2.2.2 i (by omega) (by omega)
    rw[vPeerBad,gt_eq hi,e] at hz
    split at hz
    · omega
    · rename_i z;omega
  · obtain ⟨i,hi,e⟩:=List.getElem_of_mem hx
    have hz:=(stateE_peers q.1 i hi).1
    rw[gt_eq hi,e] at hz
    exact hz
theorem state_boot {S:StateD} (h:stateE S=0):S.boot≤1099511627776:=by
  rw[stateE] at h
  split at h
  · omega
  · omega
theorem holdV_ok {D:SnapD} (h:snapE D=0) {i k:Nat} (hi:i<D.nodes.length) (hk:k<D.nodes.length):(holdV (gt D.nodes i) (gt D.nodes k)).2=0:=by
  have vi:=(snap_nodes h).2 i hi
  have vk:=(snap_nodes h).2 k hk
  have ci:=cfg_node vi.1
  have ck:=cfg_node vk.1
  have qi:=view_ok vi.2.1
  have qk:=view_ok vk.2.1
  have bi:=state_boot qi.1
  have bk:=state_boot qk.1
  rw[holdV,holdsE,if_neg (by have:=peerD_ok vi.2.1 ck.1 ck.2.1;omega),if_neg (by have:=peerD_ok vk.2.1 ci.1 ci.2.1;omega),if_neg (by omega)]
  split <;>rfl
theorem e33 (hF:F 33=some AF33) (hs: ∀ vs m,sm 33 vs m=none) (n:Nat) (h:Blks) (lg d:List Nat) (h54:H54 sm) (h53:H53 sm) {s:SnapX} (H:SnapAt h s) (hz:snapE s.d=0) (hN:SnapN s):Wa F meth sm (n+3000) (.fn 33) [.agg (snapC s)] ⟨bxt h [],lg,d⟩ (Qk ⟨h,lg,d⟩ fun w h'=>OutAt h.length h' 6 w ((credsV s.d.nodes s.d.nodes.length).map vioC)):=by
  have c1:=H.v.sc
  have c2:=H.l.sc
  have l1:=H.v.len
  have n1:s.d.nodes.length=s.vs.length:=by simp[SnapX.d]
  have n16:=(snap_nodes hz).1
  simp+contextual -implicitDefEqProofs (maxSteps:=1000000) (maxDischargeDepth:=20) only[go_sem,simprocAttr,hs,hF,AF33,snapC,c1,c2,l1,List.length_map,q_k]
  refine WloopE (α:=AV) s.vs.length [X4,X3] (fun i a=> [.int .i64 i,a]) (fun i a m'=>Keep ⟨h,lg,[]⟩ m'∧bget m'.blks (nb h 0)=some (.row true 3 [[.int .i64 s.now,s.nv,s.lv]])∧OutAt h.length m'.blks 6 a ((credsV s.d.nodes i).map vioC)) (by omega) (by repeat first |apply Cl_b |apply Cl_q |apply Cl_r) ⟨.nilslice,rfl,keep_bx (by repeat first |exact LogOK.nil |apply LogOK.cons),nb_get,.nil rfl rfl⟩ (fun i a m' g hi hP=> ?_) (fun a m' g hP=> ?_)
  · obtain ⟨h',lg',d'⟩:=m'
    obtain ⟨k,b0,ho⟩:=hP
    obtain rfl:d'=[]:=k.dfrs
    simp only at ho b0
    have hs':SnapAt h' s:=SnapAt.keep (m:=⟨h,lg,[]⟩) (m':=⟨h',lg',[]⟩) H k
    have l1':=hs'.v.len
    have r:=rnd hi (by omega)
    have b0': ∀ l,bget (bxt h' l) (nb h 0)=_:=fun l=>(bxt_old l h' _ (bget_lt b0)).trans b0
    refine Wc_bx ?_
    simp+contextual -implicitDefEqProofs (maxSteps:=1000000) (maxDischargeDepth:=20) only[go_sem,simprocAttr,r,b0',l1',List.length_map,e_n,e_e,e_r]
    refine WloopE (α:=AV) s.vs.length [X5,X3] (fun j a=> [.int .i64 j,a]) (fun j a m'=>Keep ⟨h,lg,[]⟩ m'∧bget m'.blks (nb h 0)=some (.row true 3 [[.int .i64 s.now,s.nv,s.lv]])∧OutAt h.length m'.blks 6 a ((credsV s.d.nodes i++rowV s.d.nodes i j).map vioC)) (by omega) (by repeat first |apply Cl_b |apply Cl_q |apply Cl_r |apply Cl_e) ⟨a,rfl,k,b0,by rw[show rowV s.d.nodes i 0=[] from rfl,List.append_nil];exact ho⟩ (fun j a m' g hj hP=> ?_) (fun a m' g hP=> ?_)
    · obtain ⟨h3,lg3,d3⟩:=m'
      obtain ⟨k,b0,ho⟩:=hP
      obtain rfl:d3=[]:=k.dfrs
      simp only at b0 ho
      have hs3:SnapAt h3 s:=SnapAt.keep (m:=⟨h,lg,[]⟩) (m':=⟨h3,lg3,[]⟩) H k
      have e1:=hs3.v.el hi
      have e:=hs3.v.el hj
      have l3:=hs3.v.len
      have r:=rnd hj (by omega)
      have hx:=hs3.va _ (gt_mem hi)
      have hy:=hs3.va _ (gt_mem hj)
      have d1:=hy.s.b.sc
      have d2:=hy.s.m.sc
      have d3:=hy.s.p.v.sc
      have d4:=hy.q.v.sc
      have d5:=hx.s.b.sc
      have d6:=hx.s.m.sc
      have d7:=hx.s.p.v.sc
      have d8:=hx.q.v.sc
      have b0': ∀ l,bget (bxt h3 l) (nb h 0)=_:=fun l=>(bxt_old l h3 _ (bget_lt b0)).trans b0
      have x1:gt s.d.nodes i=(gt s.vs i).v:=gt_mapV hi
      have x2:gt s.d.nodes j=(gt s.vs j).v:=gt_mapV hj
      have g1:=fun l lg d=>h54 (gt s.vs i) (gt s.vs j).v.cfg.node ⟨bxt h3 l,lg,d⟩ (hx.bx l)
      have g2:=fun l lg d=>h54 (gt s.vs j) (gt s.vs i).v.cfg.node ⟨bxt h3 l,lg,d⟩ (hy.bx l)
      have hv:holdV (gt s.d.nodes i) (gt s.d.nodes j)=holdsE (peerX (gt s.vs i) (gt s.vs j).v.cfg.node).p (gt s.vs i).v.st.boot (peerX (gt s.vs j) (gt s.vs i).v.cfg.node).p (gt s.vs j).v.st.boot:=by rw[holdV,x1,x2,peerX_p hx,peerX_p hy]
      have hok:=holdV_ok hz (i:=i) (k:=j) (by omega) (by omega)
      have g3: ∀ l lg d,sm 53 [.agg (pxC (peerX (gt s.vs i) (gt s.vs j).v.cfg.node)),.int .u64 (gt s.vs i).v.st.boot,.agg (pxC (peerX (gt s.vs j) (gt s.vs i).v.cfg.node)),.int .u64 (gt s.vs j).v.st.boot] ⟨bxt h3 l,lg,d⟩=some (.tuple [.bool (decide ((holdV (gt s.d.nodes i) (gt s.d.nodes j)).1=true)),.int .i64 0],⟨bxt h3 l,lg,d⟩):=fun l lg d=>by
        rw[←hok,hv,Bool.decide_eq_true]
        exact h53 _ _ _ _ _ _ _ _ _ _ ⟨bxt h3 l,lg,d⟩ ((peerX_at hx _).bx l) ((peerX_at hy _).bx l) (peerX_n hN (gt_mem hj) _)
      have cv:credV s.d.nodes i j=if i=j∨ ¬ (gt s.vs i).v.up=true then [] else if (holdV (gt s.d.nodes i) (gt s.d.nodes j)).1=true then [] else [⟨2,(gt s.vs i).v.cfg.node,(gt s.vs j).v.cfg.node,⟨0,0,0⟩⟩]:=by rw[credV,x1,x2]
      have rv:rowV s.d.nodes i (j+1)=rowV s.d.nodes i j++credV s.d.nodes i j:=rfl
      have len1:(credsV s.d.nodes i++rowV s.d.nodes i j).length≤1000:=by
        have h1:=credsV_len s.d.nodes i
        have h2:=rowV_len s.d.nodes i j
        have h3:i*s.d.nodes.length≤16*16:=Nat.mul_le_mul (by omega) n16
        rw[List.length_append];omega
      rw[rv,←List.append_assoc]
      generalize credsV s.d.nodes i++rowV s.d.nodes i j=L at ho len1
      generalize holdV (gt s.d.nodes i) (gt s.d.nodes j)=hh at g3 cv
      unfold viewC at e e1 g1 g2
      have q1:=hs3.v.sbn (by rw[List.length_map];exact hi)
      have q2:=hs3.v.top
      have q3: ∀ k,Nat.beq (nb h 0) (nb h3 k)=false:=fun k=>nb_beq_ne (bget_lt b0)
      refine Wc_bx ?_
      by_cases hij:i=j
      · subst hij
        rw[cv,if_pos (.inl rfl),List.append_nil]
        simp+contextual -implicitDefEqProofs (maxSteps:=1000000) (maxDischargeDepth:=20) only[go_sem,simprocAttr,e,r,b0',l3,List.length_map,d1,d2,d3,d4,e_n,e_e,e_r,q1,q2,q3,r_vc,r_vp,mskO,Mem.more,bmore,nb_more,List.filter_nil,List.flatMap_nil,List.filter_cons,List.flatMap_cons,List.map_nil,List.map_cons,mask,unmask,AOp.reads,AOpnd.top,top_p,top_s,top_m,top_i,top_b,top_t,top_a,top_u,top_ns,top_s0,top_d,top_f,nb_beq,nb_blt,nb_add,nidOf,slotIn,Nat.beq_refl,clash,Bool.or_self,List.any_nil,List.any_cons,AOp.isMaker]
        exact ⟨_,rfl,k.trans (keep_bx (by repeat first |exact LogOK.nil |apply LogOK.cons)),ho.bx _⟩
      · have ne:((i:Int)=(j:Int))=False:=by simp;omega
        have nor:(gt s.vs i).v.up=true→ ¬ (i=j∨ ¬ (gt s.vs i).v.up=true):=fun c q=>q.elim hij (fun z=>z c)
        by_cases hu:(gt s.vs i).v.up=true
        · have du:decide ((gt s.vs i).v.up=true)=true:=decide_eq_true hu
          simp only[du] at e1 g1
          rcases ho with ⟨hn,rfl⟩|⟨bo,rfl,hk,hb⟩
          · simp+contextual -implicitDefEqProofs (maxSteps:=1000000) (maxDischargeDepth:=20) only[go_sem,simprocAttr,e,e1,r,b0',l3,List.length_map,d1,d2,d3,d4,d5,d6,d7,d8,e_n,e_e,e_r,ne,g1,g2,g3,q1,q2,q3,r_vc,r_vp,mskO,Mem.more,bmore,nb_more,List.filter_nil,List.flatMap_nil,List.filter_cons,List.flatMap_cons,List.map_nil,List.map_cons,mask,unmask,AOp.reads,AOpnd.top,top_p,top_s,top_m,top_i,top_b,top_t,top_a,top_u,top_ns,top_s0,top_d,top_f,nb_beq,nb_blt,nb_add,nidOf,slotIn,Nat.beq_refl,clash,Bool.or_self,List.any_nil,List.any_cons,AOp.isMaker]
            refine ⟨fun c=>⟨_,rfl,k.trans (keep_bx (by repeat first |exact LogOK.nil |apply LogOK.cons)),?_⟩,fun c=>⟨_,rfl,k.trans (keep_bx (by repeat first |exact LogOK.nil |apply LogOK.cons)),?_⟩⟩
            · rw[cv,if_neg (nor hu),if_neg c,List.map_append,hn]
              exact .some (nb h3 3) rfl (Nat.le_trans k.len nb_ge) nb_get
            · rw[cv,if_neg (nor hu),if_pos c,List.append_nil];exact .nil hn rfl
          · have o:=old_blk (bget_lt hb)
            have hb': ∀ l,bget (bxt h3 l) bo=_:=fun l=>(bxt_old l h3 _ (bget_lt hb)).trans hb
            have n0:nb h 0≠bo:=fun q=>by rw[q,hb] at b0;cases b0
            have fA:(1000000000000<(L.length+1)*48)=False:=by simp;omega
            have fC:List.take L.length (L.map vioC)=L.map vioC:=List.take_of_length_le (by simp)
            rw[List.length_map]
            simp+contextual -implicitDefEqProofs (maxSteps:=1000000) (maxDischargeDepth:=20) only[go_sem,simprocAttr,e,e1,r,b0',l3,List.length_map,d1,d2,d3,d4,d5,d6,d7,d8,e_n,e_e,e_r,ne,g1,g2,g3,q1,q2,q3,r_vc,r_vp,mskO,Mem.more,bmore,nb_more,List.filter_nil,List.flatMap_nil,List.filter_cons,List.flatMap_cons,List.map_nil,List.map_cons,mask,unmask,AOp.reads,AOpnd.top,top_p,top_s,top_m,top_i,top_b,top_t,top_a,top_u,top_ns,top_s0,top_d,top_f,nb_beq,nb_blt,nb_add,nidOf,slotIn,Nat.beq_refl,clash,Bool.or_self,List.any_nil,List.any_cons,AOp.isMaker,o,hb',fA,fB,fC]
            refine ⟨fun c=>⟨_,rfl,k.own hk (bget_lt hb) _ _ (LgG.ok (by repeat first |exact LgG.nil |refine LgG.cons (by first |exact nb_ge |exact Nat.le_trans (k.len) nb_ge |assumption) ?_)),(old_get (bget_lt hb) (bget_lt b0) n0 _ _).trans b0,?_⟩,fun c=>⟨_,rfl,k.trans (keep_bx (by repeat first |exact LogOK.nil |apply LogOK.cons)),?_⟩⟩
            · rw[cv,if_neg (nor hu),if_neg c,List.map_append]
              exact .some (nb h3 3) (by simp) (Nat.le_trans k.len nb_ge) (o.2.1 _ _ _)
            · rw[cv,if_neg (nor hu),if_pos c,List.append_nil];exact .some bo (by rw[List.length_map]) hk (hb' _)
        · have du:decide ((gt s.vs i).v.up=true)=false:=decide_eq_false hu
          simp only[du] at e1
          rw[cv,if_pos (.inr hu),List.append_nil]
          simp+contextual -implicitDefEqProofs (maxSteps:=1000000) (maxDischargeDepth:=20) only[go_sem,simprocAttr,e,e1,r,b0',l3,List.length_map,d1,d2,d3,d4,d5,d6,d7,d8,e_n,e_e,e_r,ne,q1,q2,q3,r_vc,r_vp,mskO,Mem.more,bmore,nb_more,List.filter_nil,List.flatMap_nil,List.filter_cons,List.flatMap_cons,List.map_nil,List.map_cons,mask,unmask,AOp.reads,AOpnd.top,top_p,top_s,top_m,top_i,top_b,top_t,top_a,top_u,top_ns,top_s0,top_d,top_f,nb_beq,nb_blt,nb_add,nidOf,slotIn,Nat.beq_refl,clash,Bool.or_self,List.any_nil,List.any_cons,AOp.isMaker]
          exact ⟨_,rfl,k.trans (keep_bx (by repeat first |exact LogOK.nil |apply LogOK.cons)),ho.bx _⟩
    · obtain ⟨h3,lg3,d3⟩:=m'
      obtain ⟨k,b0,ho⟩:=hP
      obtain rfl:d3=[]:=k.dfrs
      simp only at b0
      have hs3:SnapAt h3 s:=SnapAt.keep (m:=⟨h,lg,[]⟩) (m':=⟨h3,lg3,[]⟩) H k
      have l3:=hs3.v.len
      have b0': ∀ l,bget (bxt h3 l) (nb h 0)=_:=fun l=>(bxt_old l h3 _ (bget_lt b0)).trans b0
      have r2:=rndl s.vs.length
      refine Wc_bx ?_
      simp+contextual -implicitDefEqProofs (maxSteps:=1000000) (maxDischargeDepth:=20) only[go_sem,simprocAttr,r,r2,b0',l3,List.length_map,e_n,e_e,e_r]
      rw[←n1] at ho
      exact ⟨_,rfl,k,ho⟩
  · obtain ⟨h',lg',d'⟩:=m'
    obtain ⟨k,b0,ho⟩:=hP
    obtain rfl:d'=[]:=k.dfrs
    simp only at ho b0
    have hs':SnapAt h' s:=SnapAt.keep (m:=⟨h,lg,[]⟩) (m':=⟨h',lg',[]⟩) H k
    have l1':=hs'.v.len
    have b0': ∀ l,bget (bxt h' l) (nb h 0)=_:=fun l=>(bxt_old l h' _ (bget_lt b0)).trans b0
    have r:=rndl s.vs.length
    rw[←n1] at ho
    refine Wc_bx ?_
    simp+contextual -implicitDefEqProofs (maxSteps:=1000000) (maxDischargeDepth:=20) only[go_sem,simprocAttr,r,q_k,b0',l1',List.length_map]
    exact ⟨k.sub (d:=d),ho⟩
end
section
variable {F:FuncId→Option AFunc} {meth:Meth} {sm:Summ}
def W66 (F:FuncId→Option AFunc) (meth:Meth) (sm:Summ):Prop:= ∀ (n:Nat) (h:Blks) (lg d:List Nat) (s:SnapX) (wv:AV) (x:IdD),SnapAt h s→wv.scalar=true→
  Wa F meth sm (n+2000) (.fn 66) [.agg (snapC s++ [wv]),.agg (idC x)] ⟨bxt h [],lg,d⟩ (Qk ⟨h,lg,d⟩ fun w h'=>SlAt h' 1 w ((hold1 s.d.nodes x).map i64C))
def lostP (now:Int) (N:List ViewD) (b:BunD):Prop:=now<b.born+b.life∧ ¬ delivD N b=true∧hold1 N b.id=[]
instance (now:Int) (N:List ViewD) (b:BunD):Decidable (lostP now N b):=by unfold lostP;infer_instance
def lostV (now:Int) (N:List ViewD) (l:List BunD):List VioD:=l.filterMap fun b=>if lostP now N b then some ⟨3,b.id.n,b.dest,b.id⟩ else none
def strN (l:List BunD) (n:Int) (h:List BunD):List VioD:=h.filterMap fun b=>if knownB l b=true then none else some ⟨4,n,0,b.id⟩
def strV (l:List BunD) (N:List ViewD):List VioD:=N.flatMap fun v=>strN l v.cfg.node v.st.held
def custV (D:SnapD) (l:List BunD):List VioD:=lostV D.now D.nodes l++strV l D.nodes
theorem lostV_take {now:Int} {N:List ViewD} {l:List BunD} {i:Nat} (hi:i<l.length):lostV now N (l.take (i+1))=lostV now N (l.take i)++(if lostP now N (gt l i) then [⟨3,(gt l i).id.n,(gt l i).dest,(gt l i).id⟩] else []):=by
  rw[lostV,lostV,List.take_add_one,List.getElem?_eq_getElem hi,Option.toList_some,List.filterMap_append,gt_eq hi]
  congr 1
  rw[List.filterMap_cons,List.filterMap_nil]
  by_cases q:lostP now N l[i]
  · rw[if_pos q,if_pos q]
  · rw[if_neg q,if_neg q]
theorem strN_take {l:List BunD} {n:Int} {h:List BunD} {i:Nat} (hi:i<h.length):strN l n (h.take (i+1))=strN l n (h.take i)++(if knownB l (gt h i)=true then [] else [⟨4,n,0,(gt h i).id⟩]):=by
  rw[strN,strN,List.take_add_one,List.getElem?_eq_getElem hi,Option.toList_some,List.filterMap_append,gt_eq hi]
  congr 1
  rw[List.filterMap_cons,List.filterMap_nil]
  by_cases q:knownB l h[i]=true
  · rw[if_pos q,if_pos q]
  · rw[if_neg q,if_neg q]
theorem strV_take {l:List BunD} {N:List ViewD} {i:Nat} (hi:i<N.length):strV l (N.take (i+1))=strV l (N.take i)++strN l (gt N i).cfg.node (gt N i).st.held:=by
  rw[strV,strV,List.take_add_one,List.getElem?_eq_getElem hi,Option.toList_some,List.flatMap_append,gt_eq hi]
  simp
theorem lostV_len (now:Int) (N:List ViewD) (l:List BunD):(lostV now N l).length≤l.length:=List.length_filterMap_le _ _
theorem strN_len (l:List BunD) (n:Int) (h:List BunD):(strN l n h).length≤h.length:=List.length_filterMap_le _ _
theorem strV_len {l:List BunD} {N:List ViewD} (h: ∀ v∈N,v.st.held.length≤1000):(strV l N).length≤N.length*1000:=by
  induction N with
  |nil=>simp[strV]
  | cons v N ih=>
    have h1:=strN_len l v.cfg.node v.st.held
    have h2:=h v (by simp)
    have h3:=ih fun w hw=>h w (by simp[hw])
    simp only[strV,List.flatMap_cons,List.length_append,List.length_cons] at h3 ⊢
    omega
theorem dest_cases {D:SnapD} (hz:snapE D=0) (x:Int):(∀ j,j<D.nodes.length→(gt D.nodes j).cfg.node≠x)∨ ∃ i,i<D.nodes.length∧(gt D.nodes i).cfg.node=x∧ ∀ j,j<i→(gt D.nodes j).cfg.node≠x:=by
  by_cases h: ∃ i,i<D.nodes.length∧(gt D.nodes i).cfg.node=x
  · obtain ⟨i,hi,hx⟩:=h
    refine .inr ⟨i,hi,hx,fun j hj q=> ?_⟩
    have:=snap_asc hz i hi j hj
    omega
  · exact .inl fun j hj q=>h ⟨j,hj,q⟩
theorem deliv_none {N:List ViewD} {b:BunD} (h: ∀ j,j<N.length→(gt N j).cfg.node≠b.dest):delivD N b=false:=by
  have:N.find? (fun v=>decide (v.cfg.node=b.dest))=none:=by
    rw[List.find?_eq_none]
    intro v hv
    obtain ⟨j,hj,e⟩:=List.getElem_of_mem hv
    have:=h j hj
    rw[gt_eq hj,e] at this
    simpa using this
  rw[delivD,this]
theorem deliv_some {N:List ViewD} {b:BunD} {i:Nat} (hi:i<N.length) (hx:(gt N i).cfg.node=b.dest) (h: ∀ j,j<i→(gt N j).cfg.node≠b.dest):delivD N b=(hasE (gt N i).st.seen b.id).1:=by
  have:N.find? (fun v=>decide (v.cfg.node=b.dest))=some (gt N i):=by
    rw[List.find?_eq_some_iff_getElem]
    refine ⟨decide_eq_true hx,i,hi,(gt_eq hi).symm,fun j hj=> ?_⟩
    have:=h j hj
    rw[gt_eq (by omega)] at this
    simpa using this
  rw[delivD,this]
theorem list_ok {l:List BunD} (h:listE l=0):l.length≤1000∧ ∀ i,i<l.length→bunE (gt l i)=0:=by
  rw[listE] at h
  split at h
  · omega
  · split at h
    · omega
    · rename_i q1 q2
      refine ⟨by omega,fun i hi=> ?_⟩
      have q3:first (bBad l) l.length=0:=by omega
      exact (ffrom_zero l.length 0).1 q3 i (by omega) (by omega)
theorem left_ok {b:BunD} {now:Int} (h:bunE b=0) (h1:0≤now) (h2:now≤1099511627776):decide ((leftE b now).1≤0∧(leftE b now).2=0)=decide (¬ now<b.born+b.life):=by
  rw[leftE,if_neg (by omega),if_neg (by omega)]
  apply decide_eq_decide.2
  show (b.born+b.life - now≤0∧(0:Int)=0)↔ ¬ now<b.born+b.life
  omega
theorem snap_now {D:SnapD} (h:snapE D=0):0≤D.now∧D.now≤1099511627776:=by
  rw[snapE] at h
  split at h
  · omega
  · omega
end
section
variable {F:FuncId→Option AFunc} {meth:Meth} {sm:Summ}
theorem e41 (hF:F 41=some AF41) (hs: ∀ vs m,sm 41 vs m=none) (n:Nat) (h:Blks) (lg d:List Nat) (h64:H64 sm) (h65:H65 sm) (h67:H67 sm) (g66:W66 F meth sm) {s:SnapX} {b:Nat} {l:List BunD} {v:AV} (H:SnapAt h s) (hz:snapE s.d=0) (hb:bget h b=some (.map (vEnt s.nv s.vs s.vs.length))) (hv:SlAt h 9 v (l.map bunC)) (hl:listE l=0) (hd: ∀ x∈l,x.data.length≤1000000∧I x.total):Wa F meth sm (n+3000) (.fn 41) [.agg (snapC s++ [.map b]),v] ⟨bxt h [],lg,d⟩ (Qk ⟨h,lg,d⟩ fun w h'=>OutAt h.length h' 6 w ((custV s.d l).map vioC)):=by
  have c1:=H.v.sc
  have c2:=H.l.sc
  have l1:=H.v.len
  have lv:=hv.len
  have n1:s.d.nodes.length=s.vs.length:=by simp[SnapX.d]
  have n16:=(snap_nodes hz).1
  have lok:=list_ok hl
  have nok:=snap_now hz
  have nok:0≤s.now∧s.now≤1099511627776:=nok
  simp+contextual -implicitDefEqProofs (maxSteps:=1000000) (maxDischargeDepth:=20) only[go_sem,simprocAttr,hs,hF,AF41,snapC,c1,c2,lv,List.length_map,q_k]
  refine WloopE (α:=AV) l.length [X17,X5] (fun i a=> [.int .i64 i,a]) (fun i a m'=>Keep ⟨h,lg,[]⟩ m'∧bget m'.blks (nb h 0)=some (.row true 4 [[.int .i64 s.now,s.nv,s.lv,.map b]])∧OutAt h.length m'.blks 6 a ((lostV s.now s.d.nodes (l.take i)).map vioC)) (by omega) (by repeat first |apply Cl_b |apply Cl_q |apply Cl_r) ⟨.nilslice,rfl,keep_bx (by repeat first |exact LogOK.nil |apply LogOK.cons),nb_get,.nil rfl rfl⟩ (fun i a m' g hi hP=> ?_) (fun a m' g hP=> ?_)
  · obtain ⟨h',lg',d'⟩:=m'
    obtain ⟨k,b0,ho⟩:=hP
    obtain rfl:d'=[]:=k.dfrs
    simp only at ho b0
    have hs':SnapAt h' s:=SnapAt.keep (m:=⟨h,lg,[]⟩) (m':=⟨h',lg',[]⟩) H k
    have hb3:bget h' b=some (.map (vEnt s.nv s.vs s.vs.length)):=(k.get b (bget_lt hb)).trans hb
    have hv':SlAt h' 9 v (l.map bunC):=SlAt.keep (m:=⟨h,lg,[]⟩) (m':=⟨h',lg',[]⟩) hv k
    have e:=hv'.el hi
    have r:=rnd hi (by omega)
    have u:=hd _ (gt_mem hi)
    have b0': ∀ l,bget (bxt h' l) (nb h 0)=_:=fun l=>(bxt_old l h' _ (bget_lt b0)).trans b0
    have hb': ∀ l,bget (bxt h' l) b=_:=fun l=>(bxt_old l h' _ (bget_lt hb3)).trans hb3
    have g1:=fun m=>h64 (gt l i) s.now m u.1 u.2
    have ht:=lostV_take (now:=s.now) (N:=s.d.nodes) hi
    have lo:=left_ok (now:=s.now) (lok.2 i hi) nok.1 nok.2
    have g1: ∀ m:Mem,sm 64 [.agg (bunC (gt l i)),.int .i64 s.now] m=some (.tuple [.bool (decide (¬ s.now<(gt l i).born+(gt l i).life)),.int .i64 (leftE (gt l i) s.now).2],m):=fun m=>by rw[←lo];exact h64 (gt l i) s.now m u.1 u.2
    have p1:peq false [.i] (.int .i64 (gt l i).dest) (.int .i64 (gt l i).dest)=some true:=by
      show some ((gt l i).dest==(gt l i).dest)=_
      simp
    have len1:(lostV s.now s.d.nodes (l.take i)).length≤1000:=by
      have h1:=lostV_len s.now s.d.nodes (l.take i)
      rw[List.length_take] at h1
      omega
    generalize lostV s.now s.d.nodes (l.take i)=L at ho ht len1
    unfold bunC at e g1
    refine Wc_bx ?_
    have stay: ∀ q lg2,LogOK h' lg' lg2→ ¬ lostP s.now s.d.nodes (gt l i)→Keep ⟨h,lg,[]⟩ ⟨bxt h' q,lg2,[]⟩∧OutAt h.length (bxt h' q) 6 a ((lostV s.now s.d.nodes (l.take (i+1))).map vioC):=fun q lg2 hq hn=>by
      rw[ht,if_neg hn,List.append_nil]
      exact ⟨k.trans (keep_bx hq),ho.bx _⟩
    by_cases hx:s.now<(gt l i).born+(gt l i).life
    · have xx:decide (¬ s.now<(gt l i).born+(gt l i).life)=false:=decide_eq_false fun q=>q hx
      simp only[xx] at g1
      rcases dest_cases hz (gt l i).dest with hno |⟨j,hj,hjd,hjn⟩
      · have f1:=find_v s.nv s.vs (gt l i).dest s.vs.length (fun j hj=>by have:=hno j (by omega);rwa[show gt s.d.nodes j=(gt s.vs j).v from gt_mapV hj] at this)
        have dl:=deliv_none hno
        simp+contextual -implicitDefEqProofs (maxSteps:=1000000) (maxDischargeDepth:=20) only[go_sem,simprocAttr,e,r,b0',g1,hb',f1,p1,e_n,e_e,e_r]
        rw[←w_a]
        refine Wa_k (g66 (n+999) (bxt h' [some (.row true 9 [bunC (gt l i)])]) _ _ s (.map b) (gt l i).id (hs'.bx _) rfl) (fun w h2 lg2 k2 hw2=> ?_)
        have lw:=hw2.len
        have hlen:((hold1 s.d.nodes (gt l i).id).length:Int)=0↔hold1 s.d.nodes (gt l i).id=[]:=by rw[←List.length_eq_zero_iff];omega
        have z0:bget h2 (nb h' 0)=some (.row true 9 [bunC (gt l i)]):=(k2.get _ (by rw[bxt_len];simp[nb])).trans nb_get
        have y0: ∀ q,bget (bxt h2 q) (nb h' 0)=some (.row true 9 [bunC (gt l i)]):=fun q=>(bxt_old q h2 _ (bget_lt z0)).trans z0
        have z1:bget h2 (nb h 0)=some (.row true 4 [[.int .i64 s.now,s.nv,s.lv,.map b]]):=(k2.get _ (by rw[bxt_len];exact Nat.lt_of_lt_of_le (bget_lt b0) (Nat.le_add_right _ _))).trans (b0' _)
        have y1: ∀ q,bget (bxt h2 q) (nb h 0)=_:=fun q=>(bxt_old q h2 _ (bget_lt z1)).trans z1
        have kk:Keep ⟨h,lg,[]⟩ ⟨h2,lg2,[]⟩:=(k.trans (keep_bx (by repeat first |exact LogOK.nil |apply LogOK.cons))).trans k2
        have ho2:OutAt h.length h2 6 a (L.map vioC):=OutAt.keep (m:=⟨h',lg',[]⟩) (m':=⟨h2,lg2,[]⟩) ho ((keep_bx (by repeat first |exact LogOK.nil |apply LogOK.cons)).trans k2)
        have stay2: ∀ q lg3,LogOK h2 lg2 lg3→ ¬ lostP s.now s.d.nodes (gt l i)→Keep ⟨h,lg,[]⟩ ⟨bxt h2 q,lg3,[]⟩∧OutAt h.length (bxt h2 q) 6 a ((lostV s.now s.d.nodes (l.take (i+1))).map vioC):=fun q lg3 hq hn=>by
          rw[ht,if_neg hn,List.append_nil]
          exact ⟨kk.trans (keep_bx hq),ho2.bx _⟩
        unfold bunC at y0
        have yes:hold1 s.d.nodes (gt l i).id=[]→lostP s.now s.d.nodes (gt l i):=fun q=>⟨hx,by rw[dl];simp,q⟩
        rcases ho2 with ⟨hn,rfl⟩|⟨bo,rfl,hk,hbo⟩
        · simp+contextual -implicitDefEqProofs (maxSteps:=1000000) (maxDischargeDepth:=20) only[go_sem,simprocAttr,r,y0,y1,lw,List.length_map,e_n,e_e,e_r,hlen]
          refine ⟨fun c=>⟨_,rfl,kk.trans (keep_bx (by repeat first |exact LogOK.nil |apply LogOK.cons)),?_⟩,fun c=>⟨_,rfl,stay2 _ _ (by repeat first |exact LogOK.nil |apply LogOK.cons) fun q=>c q.2.2⟩⟩
          rw[ht,if_pos (yes c),List.map_append,hn]
          exact .some (nb h2 1) rfl (Nat.le_trans kk.len nb_ge) nb_get
        · have o:=old_blk (bget_lt hbo)
          have hbo': ∀ l,bget (bxt h2 l) bo=_:=fun l=>(bxt_old l h2 _ (bget_lt hbo)).trans hbo
          have m0:nb h 0≠bo:=fun q=>by rw[q,hbo] at z1;cases z1
          have fA:(1000000000000<(L.length+1)*48)=False:=by simp;omega
          have fC:List.take L.length (L.map vioC)=L.map vioC:=List.take_of_length_le (by simp)
          rw[List.length_map] at stay2 ⊢
          simp+contextual -implicitDefEqProofs (maxSteps:=1000000) (maxDischargeDepth:=20) only[go_sem,simprocAttr,r,y0,y1,lw,List.length_map,e_n,e_e,e_r,hlen,o,hbo',fA,fB,fC]
          refine ⟨fun c=>⟨_,rfl,kk.own hk (bget_lt hbo) _ _ (LgG.ok (by repeat first |exact LgG.nil |refine LgG.cons (by first |exact nb_ge |exact Nat.le_trans (kk.len) nb_ge |assumption) ?_)),(old_get (bget_lt hbo) (bget_lt z1) m0 _ _).trans z1,?_⟩,fun c=>⟨_,rfl,stay2 _ _ (by repeat first |exact LogOK.nil |apply LogOK.cons) fun q=>c q.2.2⟩⟩
          rw[ht,if_pos (yes c),List.map_append]
          exact .some (nb h2 1) (by simp) (Nat.le_trans kk.len nb_ge) (o.2.1 _ _ _)
      · rw[n1] at hj
        have x1:gt s.d.nodes j=(gt s.vs j).v:=gt_mapV hj
        rw[x1] at hjd
        have f1:=find_v2 s.nv s.vs (gt l i).dest hjd (fun q hq=>by have:=hjn q hq;rwa[show gt s.d.nodes q=(gt s.vs q).v from gt_mapV (by omega)] at this) s.vs.length hj
        have dl:=deliv_some (by omega) (by rw[x1];exact hjd) hjn
        rw[x1] at dl
        have ej:=hs'.v.el hj
        have hy:=hs'.va _ (gt_mem hj)
        have dm:=hy.s.m.sc
        have g2:=fun l2 lg d=>h65 (gt s.vs j).v.st.seen (gt s.vs j).m (gt l i).id ⟨bxt h' l2,lg,d⟩ (hy.s.m.bx l2) hy.s.w2
        rw[←dl] at g2
        unfold viewC at ej
        unfold idC at g2
        simp+contextual -implicitDefEqProofs (maxSteps:=1000000) (maxDischargeDepth:=20) only[go_sem,simprocAttr,e,r,b0',g1,hb',f1,p1,ej,g2,dm,e_n,e_e,e_r]
        refine ⟨fun nd=> ?_,fun nd=>⟨_,rfl,stay _ _ (by repeat first |exact LogOK.nil |apply LogOK.cons) fun q=>q.2.1 nd⟩⟩
        rw[←w_a]
        refine Wa_k (g66 (n+999) (bxt h' [some (.row true 9 [bunC (gt l i)])]) _ _ s (.map b) (gt l i).id (hs'.bx _) rfl) (fun w h2 lg2 k2 hw2=> ?_)
        have lw:=hw2.len
        have hlen:((hold1 s.d.nodes (gt l i).id).length:Int)=0↔hold1 s.d.nodes (gt l i).id=[]:=by rw[←List.length_eq_zero_iff];omega
        have z0:bget h2 (nb h' 0)=some (.row true 9 [bunC (gt l i)]):=(k2.get _ (by rw[bxt_len];simp[nb])).trans nb_get
        have y0: ∀ q,bget (bxt h2 q) (nb h' 0)=some (.row true 9 [bunC (gt l i)]):=fun q=>(bxt_old q h2 _ (bget_lt z0)).trans z0
        have z1:bget h2 (nb h 0)=some (.row true 4 [[.int .i64 s.now,s.nv,s.lv,.map b]]):=(k2.get _ (by rw[bxt_len];exact Nat.lt_of_lt_of_le (bget_lt b0) (Nat.le_add_right _ _))).trans (b0' _)
        have y1: ∀ q,bget (bxt h2 q) (nb h 0)=_:=fun q=>(bxt_old q h2 _ (bget_lt z1)).trans z1
        have kk:Keep ⟨h,lg,[]⟩ ⟨h2,lg2,[]⟩:=(k.trans (keep_bx (by repeat first |exact LogOK.nil |apply LogOK.cons))).trans k2
        have ho2:OutAt h.length h2 6 a (L.map vioC):=OutAt.keep (m:=⟨h',lg',[]⟩) (m':=⟨h2,lg2,[]⟩) ho ((keep_bx (by repeat first |exact LogOK.nil |apply LogOK.cons)).trans k2)
        have stay2: ∀ q lg3,LogOK h2 lg2 lg3→ ¬ lostP s.now s.d.nodes (gt l i)→Keep ⟨h,lg,[]⟩ ⟨bxt h2 q,lg3,[]⟩∧OutAt h.length (bxt h2 q) 6 a ((lostV s.now s.d.nodes (l.take (i+1))).map vioC):=fun q lg3 hq hn=>by
          rw[ht,if_neg hn,List.append_nil]
          exact ⟨kk.trans (keep_bx hq),ho2.bx _⟩
        unfold bunC at y0
        have yes:hold1 s.d.nodes (gt l i).id=[]→lostP s.now s.d.nodes (gt l i):=fun q=>⟨hx,nd,q⟩
        rcases ho2 with ⟨hn,rfl⟩|⟨bo,rfl,hk,hbo⟩
        · simp+contextual -implicitDefEqProofs (maxSteps:=1000000) (maxDischargeDepth:=20) only[go_sem,simprocAttr,r,y0,y1,lw,List.length_map,e_n,e_e,e_r,hlen]
          refine ⟨fun c=>⟨_,rfl,kk.trans (keep_bx (by repeat first |exact LogOK.nil |apply LogOK.cons)),?_⟩,fun c=>⟨_,rfl,stay2 _ _ (by repeat first |exact LogOK.nil |apply LogOK.cons) fun q=>c q.2.2⟩⟩
          rw[ht,if_pos (yes c),List.map_append,hn]
          exact .some (nb h2 1) rfl (Nat.le_trans kk.len nb_ge) nb_get
        · have o:=old_blk (bget_lt hbo)
          have hbo': ∀ l,bget (bxt h2 l) bo=_:=fun l=>(bxt_old l h2 _ (bget_lt hbo)).trans hbo
          have m0:nb h 0≠bo:=fun q=>by rw[q,hbo] at z1;cases z1
          have fA:(1000000000000<(L.length+1)*48)=False:=by simp;omega
          have fC:List.take L.length (L.map vioC)=L.map vioC:=List.take_of_length_le (by simp)
          rw[List.length_map] at stay2 ⊢
          simp+contextual -implicitDefEqProofs (maxSteps:=1000000) (maxDischargeDepth:=20) only[go_sem,simprocAttr,r,y0,y1,lw,List.length_map,e_n,e_e,e_r,hlen,o,hbo',fA,fB,fC]
          refine ⟨fun c=>⟨_,rfl,kk.own hk (bget_lt hbo) _ _ (LgG.ok (by repeat first |exact LgG.nil |refine LgG.cons (by first |exact nb_ge |exact Nat.le_trans (kk.len) nb_ge |assumption) ?_)),(old_get (bget_lt hbo) (bget_lt z1) m0 _ _).trans z1,?_⟩,fun c=>⟨_,rfl,stay2 _ _ (by repeat first |exact LogOK.nil |apply LogOK.cons) fun q=>c q.2.2⟩⟩
          rw[ht,if_pos (yes c),List.map_append]
          exact .some (nb h2 1) (by simp) (Nat.le_trans kk.len nb_ge) (o.2.1 _ _ _)
    · have xx:decide (¬ s.now<(gt l i).born+(gt l i).life)=true:=decide_eq_true hx
      simp only[xx] at g1
      rcases dest_cases hz (gt l i).dest with hno |⟨j,hj,hjd,hjn⟩
      · have f1:=find_v s.nv s.vs (gt l i).dest s.vs.length (fun j hj=>by have:=hno j (by omega);rwa[show gt s.d.nodes j=(gt s.vs j).v from gt_mapV hj] at this)
        simp+contextual -implicitDefEqProofs (maxSteps:=1000000) (maxDischargeDepth:=20) only[go_sem,simprocAttr,e,r,b0',g1,hb',f1,p1,e_n,e_e,e_r]
        exact ⟨_,rfl,stay _ _ (by repeat first |exact LogOK.nil |apply LogOK.cons) fun q=>hx q.1⟩
      · rw[n1] at hj
        have x1:gt s.d.nodes j=(gt s.vs j).v:=gt_mapV hj
        rw[x1] at hjd
        have f1:=find_v2 s.nv s.vs (gt l i).dest hjd (fun q hq=>by have:=hjn q hq;rwa[show gt s.d.nodes q=(gt s.vs q).v from gt_mapV (by omega)] at this) s.vs.length hj
        simp+contextual -implicitDefEqProofs (maxSteps:=1000000) (maxDischargeDepth:=20) only[go_sem,simprocAttr,e,r,b0',g1,hb',f1,p1,e_n,e_e,e_r]
        exact ⟨_,rfl,stay _ _ (by repeat first |exact LogOK.nil |apply LogOK.cons) fun q=>hx q.1⟩
  · obtain ⟨h',lg',d'⟩:=m'
    obtain ⟨k,b0,ho⟩:=hP
    obtain rfl:d'=[]:=k.dfrs
    simp only at ho b0
    have r0:=rndl l.length
    have hs':SnapAt h' s:=SnapAt.keep (m:=⟨h,lg,[]⟩) (m':=⟨h',lg',[]⟩) H k
    have l1':=hs'.v.len
    have b0': ∀ l,bget (bxt h' l) (nb h 0)=_:=fun l=>(bxt_old l h' _ (bget_lt b0)).trans b0
    rw[List.take_length] at ho
    refine Wc_bx ?_
    simp+contextual -implicitDefEqProofs (maxSteps:=1000000) (maxDischargeDepth:=20) only[go_sem,simprocAttr,r0,b0',l1',List.length_map]
    have hh: ∀ v∈s.d.nodes,v.st.held.length≤1000:=fun v hv=>by
      obtain ⟨y,hy,rfl⟩:=List.mem_map.1 hv
      exact (H.va y hy).s.w1
    refine WloopE (α:=AV) s.vs.length [X77,X5] (fun i a=> [.int .i64 i,a]) (fun i a m'=>Keep ⟨h,lg,[]⟩ m'∧bget m'.blks (nb h 0)=some (.row true 4 [[.int .i64 s.now,s.nv,s.lv,.map b]])∧OutAt h.length m'.blks 6 a ((lostV s.now s.d.nodes l++strV l (s.d.nodes.take i)).map vioC)) (by omega) (by repeat first |apply Cl_b |apply Cl_q |apply Cl_r) ⟨a,rfl,k,b0,by rw[show strV l (s.d.nodes.take 0)=[] from rfl,List.append_nil];exact ho⟩ (fun i a m' g hi hP=> ?_) (fun a m' g hP=> ?_)
    · obtain ⟨h',lg',d'⟩:=m'
      obtain ⟨k,b0,ho⟩:=hP
      obtain rfl:d'=[]:=k.dfrs
      simp only at ho b0
      have hs':SnapAt h' s:=SnapAt.keep (m:=⟨h,lg,[]⟩) (m':=⟨h',lg',[]⟩) H k
      have e:=hs'.v.el hi
      have r:=rnd hi (by omega)
      have hx:=hs'.va _ (gt_mem hi)
      have d1:=hx.s.b.sc
      have d2:=hx.s.m.sc
      have d3:=hx.s.p.v.sc
      have d4:=hx.q.v.sc
      have lh:=hx.s.b.len
      have w1:=hx.s.w1
      have b0': ∀ l,bget (bxt h' l) (nb h 0)=_:=fun l=>(bxt_old l h' _ (bget_lt b0)).trans b0
      unfold viewC at e
      refine Wc_bx ?_
      simp+contextual -implicitDefEqProofs (maxSteps:=1000000) (maxDischargeDepth:=20) only[go_sem,simprocAttr,e,r,d1,d2,d3,d4,lh,List.length_map,e_n,e_e,e_r]
      have z1:bget (bxt h' [some (.row true 1 ((viewC (gt s.vs i)).map fun c=> [c]))]) (nb h' 0)=some (.row true 1 ((viewC (gt s.vs i)).map fun c=> [c])):=nb_get
      refine WloopE (α:=AV) (gt s.vs i).v.st.held.length [X85,X5] (fun j a=> [.int .i64 j,a]) (fun j=>CrI h lg [.int .i64 s.now,s.nv,s.lv,.map b] 4 (nb h' 0) (gt s.vs i) (lostV s.now s.d.nodes l++strV l (s.d.nodes.take i)++strN l (gt s.vs i).v.cfg.node ((gt s.vs i).v.st.held.take j))) (by omega) (by repeat first |apply Cl_b |apply Cl_q |apply Cl_r |apply Cl_e) ⟨a,rfl,⟨k.trans (keep_bx (by repeat first |exact LogOK.nil |apply LogOK.cons)),b0' _,z1,by rw[show strN l (gt s.vs i).v.cfg.node ((gt s.vs i).v.st.held.take 0)=[] from rfl,List.append_nil];exact ho.bx _⟩⟩ (fun j a m' g hj hP=> ?_) (fun a m' g hP=> ?_)
      · obtain ⟨h3,lg3,d3⟩:=m'
        obtain ⟨k,b0,b1,ho⟩:=hP
        obtain rfl:d3=[]:=k.dfrs
        simp only at b0 b1 ho
        have hs3:SnapAt h3 s:=SnapAt.keep (m:=⟨h,lg,[]⟩) (m':=⟨h3,lg3,[]⟩) H k
        have hv3:SlAt h3 9 v (l.map bunC):=SlAt.keep (m:=⟨h,lg,[]⟩) (m':=⟨h3,lg3,[]⟩) hv k
        have hx:=hs3.va _ (gt_mem hi)
        have e:=hx.s.b.el hj
        have r:=rnd hj (by omega)
        have b0': ∀ l,bget (bxt h3 l) (nb h 0)=_:=fun l=>(bxt_old l h3 _ (bget_lt b0)).trans b0
        have b1': ∀ l,bget (bxt h3 l) (nb h' 0)=some (.row true 1 ((viewC (gt s.vs i)).map fun c=> [c])):=fun l=>b1.bx l
        have g1:=fun l2 lg d=>h67 l v (gt (gt s.vs i).v.st.held j) ⟨bxt h3 l2,lg,d⟩ (hv3.bx l2) lok.1
        have ht:=strN_take (l:=l) (n:=(gt s.vs i).v.cfg.node) hj
        have len1:(lostV s.now s.d.nodes l++strV l (s.d.nodes.take i)++strN l (gt s.vs i).v.cfg.node ((gt s.vs i).v.st.held.take j)).length≤20000:=by
          have h1:=lostV_len s.now s.d.nodes l
          have h2:=strV_len (l:=l) (N:=s.d.nodes.take i) fun v hv=>hh v (List.mem_of_mem_take hv)
          have h3:=strN_len l (gt s.vs i).v.cfg.node ((gt s.vs i).v.st.held.take j)
          rw[List.length_take] at h2 h3
          have h4:min i s.d.nodes.length≤16:=by omega
          rw[List.length_append,List.length_append]
          omega
        rw[ht,←List.append_assoc]
        generalize lostV s.now s.d.nodes l++strV l (s.d.nodes.take i)++strN l (gt s.vs i).v.cfg.node ((gt s.vs i).v.st.held.take j)=L at ho len1
        generalize hkn:knownB l (gt (gt s.vs i).v.st.held j)=kn at g1
        unfold bunC at e g1
        unfold viewC at b1'
        simp only[List.map_cons,List.map_nil] at b1'
        refine Wc_bx ?_
        rcases ho with ⟨hn,rfl⟩|⟨bo,rfl,hk,hbo⟩
        · simp+contextual -implicitDefEqProofs (maxSteps:=1000000) (maxDischargeDepth:=20) only[go_sem,simprocAttr,e,r,b0',b1',g1,e_n,e_e,e_r]
          refine ⟨fun c=>⟨_,rfl,⟨k.trans (keep_bx (by repeat first |exact LogOK.nil |apply LogOK.cons)),b0' _,b1.bx _,?_⟩⟩,fun c=>⟨_,rfl,⟨k.trans (keep_bx (by repeat first |exact LogOK.nil |apply LogOK.cons)),b0' _,b1.bx _,.nil hn rfl⟩⟩⟩
          rw[List.map_append,hn]
          exact .some (nb h3 2) rfl (Nat.le_trans k.len nb_ge) nb_get
        · have o:=old_blk (bget_lt hbo)
          have hbo': ∀ l,bget (bxt h3 l) bo=_:=fun l=>(bxt_old l h3 _ (bget_lt hbo)).trans hbo
          have m0:nb h 0≠bo:=fun q=>by rw[q,hbo] at b0;cases b0
          have m1:nb h' 0≠bo:=fun q=>by have b1:bget h3 (nb h' 0)=_:=b1;rw[q,hbo] at b1;cases b1
          have fA:(1000000000000<(L.length+1)*48)=False:=by simp;omega
          have fC:List.take L.length (L.map vioC)=L.map vioC:=List.take_of_length_le (by simp)
          rw[List.length_map]
          simp+contextual -implicitDefEqProofs (maxSteps:=1000000) (maxDischargeDepth:=20) only[go_sem,simprocAttr,e,r,b0',b1',g1,e_n,e_e,e_r,o,hbo',List.length_map,fA,fB,fC]
          refine ⟨fun c=>⟨_,rfl,⟨k.own hk (bget_lt hbo) _ _ (LgG.ok (by repeat first |exact LgG.nil |refine LgG.cons (by first |exact nb_ge |exact Nat.le_trans (k.len) nb_ge |assumption) ?_)),(old_get (bget_lt hbo) (bget_lt b0) m0 _ _).trans b0,(old_get (bget_lt hbo) (bget_lt (show bget h3 (nb h' 0)=_ from b1)) m1 _ _).trans b1,?_⟩⟩,fun c=>⟨_,rfl,⟨k.trans (keep_bx (by repeat first |exact LogOK.nil |apply LogOK.cons)),b0' _,b1.bx _,.some bo (by rw[List.length_map]) hk (hbo' _)⟩⟩⟩
          rw[List.map_append]
          exact .some (nb h3 2) (by simp) (Nat.le_trans k.len nb_ge) (o.2.1 _ _ _)
      · obtain ⟨h3,lg3,d3⟩:=m'
        obtain ⟨k,b0,b1,ho⟩:=hP
        obtain rfl:d3=[]:=k.dfrs
        have r2:=rndl (gt s.vs i).v.st.held.length
        have ht:=strV_take (l:=l) (N:=s.d.nodes) (i:=i) (by omega)
        rw[show gt s.d.nodes i=(gt s.vs i).v from gt_mapV hi] at ht
        refine Wc_bx ?_
        simp+contextual -implicitDefEqProofs (maxSteps:=1000000) (maxDischargeDepth:=20) only[go_sem,simprocAttr,r,r2,e_n,e_e,e_r]
        rw[List.take_length,List.append_assoc,←ht] at ho
        exact ⟨_,rfl,k,b0,ho⟩
    · obtain ⟨h',lg',d'⟩:=m'
      obtain ⟨k,b0,ho⟩:=hP
      obtain rfl:d'=[]:=k.dfrs
      have r:=rndl s.vs.length
      rw[←n1,List.take_length] at ho
      refine Wc_bx ?_
      simp+contextual -implicitDefEqProofs (maxSteps:=1000000) (maxDischargeDepth:=20) only[go_sem,simprocAttr,r,q_k]
      exact ⟨k.sub (d:=d),ho⟩
end
section
variable {F:FuncId→Option AFunc} {meth:Meth} {sm:Summ}
def W69 (F:FuncId→Option AFunc) (meth:Meth) (sm:Summ):Prop:= ∀ (n:Nat) (h:Blks) (lg d:List Nat) (s:SnapX) (x:IdD),SnapAt h s→
  Wa F meth sm (n+2000) (.fn 69) [.agg (snapC s),.agg (idC x)] ⟨bxt h [],lg,d⟩ (Qk ⟨h,lg,d⟩ fun w h'=>SlAt h' 1 w ((hold2 s.d.nodes x).map i64C))
theorem e43 (hF:F 43=some AF43) (hs: ∀ vs m,sm 43 vs m=none) (n:Nat) (h:Blks) (lg d:List Nat) (h70:H70 sm) (h71:H71 sm) (g69:W69 F meth sm) {s:SnapX} {l:List BunD} {v:AV} (H:SnapAt h s) (hz:snapE s.d=0) (hv:SlAt h 9 v (l.map bunC)) (hl:listE l=0) (hd: ∀ x∈l,x.data.length≤1000000∧I x.total):Wa F meth sm (n+3000) (.fn 43) [.agg (snapC s),v] ⟨bxt h [],lg,d⟩ (Qk ⟨h,lg,d⟩ fun w h'=>OutAt h.length h' 6 w ((custV s.d l).map vioC)):=by
  have c1:=H.v.sc
  have c2:=H.l.sc
  have l1:=H.v.len
  have lv:=hv.len
  have n1:s.d.nodes.length=s.vs.length:=by simp[SnapX.d]
  have n16:=(snap_nodes hz).1
  have lok:=list_ok hl
  have nok:=snap_now hz
  have nok:0≤s.now∧s.now≤1099511627776:=nok
  simp+contextual -implicitDefEqProofs (maxSteps:=1000000) (maxDischargeDepth:=20) only[go_sem,simprocAttr,hs,hF,AF43,snapC,c1,c2,lv,List.length_map,q_k]
  refine WloopE (α:=AV) l.length [X6,X5] (fun i a=> [.int .i64 i,a]) (fun i a m'=>Keep ⟨h,lg,[]⟩ m'∧bget m'.blks (nb h 0)=some (.row true 3 [[.int .i64 s.now,s.nv,s.lv]])∧OutAt h.length m'.blks 6 a ((lostV s.now s.d.nodes (l.take i)).map vioC)) (by omega) (by repeat first |apply Cl_b |apply Cl_q |apply Cl_r) ⟨.nilslice,rfl,keep_bx (by repeat first |exact LogOK.nil |apply LogOK.cons),nb_get,.nil rfl rfl⟩ (fun i a m' g hi hP=> ?_) (fun a m' g hP=> ?_)
  · obtain ⟨h',lg',d'⟩:=m'
    obtain ⟨k,b0,ho⟩:=hP
    obtain rfl:d'=[]:=k.dfrs
    simp only at ho b0
    have hs':SnapAt h' s:=SnapAt.keep (m:=⟨h,lg,[]⟩) (m':=⟨h',lg',[]⟩) H k
    have hv':SlAt h' 9 v (l.map bunC):=SlAt.keep (m:=⟨h,lg,[]⟩) (m':=⟨h',lg',[]⟩) hv k
    have e:=hv'.el hi
    have lv':=hv'.len
    have r:=rnd hi (by omega)
    have b0': ∀ l,bget (bxt h' l) (nb h 0)=_:=fun l=>(bxt_old l h' _ (bget_lt b0)).trans b0
    have ht:=lostV_take (now:=s.now) (N:=s.d.nodes) hi
    have bo1:=bunE_ok (lok.2 i hi)
    have ww:IntKind.i64.wrap ((gt l i).born+(gt l i).life)=(gt l i).born+(gt l i).life:=wrapI (by omega) (by omega)
    have len1:(lostV s.now s.d.nodes (l.take i)).length≤1000:=by
      have h1:=lostV_len s.now s.d.nodes (l.take i)
      rw[List.length_take] at h1
      omega
    generalize lostV s.now s.d.nodes (l.take i)=L at ho ht len1
    unfold bunC at e
    refine Wc_bx ?_
    have stay: ∀ q lg2,LogOK h' lg' lg2→ ¬ lostP s.now s.d.nodes (gt l i)→Keep ⟨h,lg,[]⟩ ⟨bxt h' q,lg2,[]⟩∧OutAt h.length (bxt h' q) 6 a ((lostV s.now s.d.nodes (l.take (i+1))).map vioC):=fun q lg2 hq hn=>by
      rw[ht,if_neg hn,List.append_nil]
      exact ⟨k.trans (keep_bx hq),ho.bx _⟩
    by_cases hx:s.now<(gt l i).born+(gt l i).life
    · simp+contextual -implicitDefEqProofs (maxSteps:=1000000) (maxDischargeDepth:=20) only[go_sem,simprocAttr,e,r,b0',lv',List.length_map,ww,hx,e_n,e_e,e_r]
      rw[←w_a]
      refine Wa_k (g69 (n+999) (bxt h' [some (.row true 9 [bunC (gt l i)])]) _ _ s (gt l i).id (hs'.bx _)) (fun w h2 lg2 k2 hw2=> ?_)
      have lw:=hw2.len
      have hlen:((hold2 s.d.nodes (gt l i).id).length:Int)=0↔hold1 s.d.nodes (gt l i).id=[]:=by rw[hold_iff,←List.length_eq_zero_iff];omega
      have z0:bget h2 (nb h' 0)=some (.row true 9 [bunC (gt l i)]):=(k2.get _ (by rw[bxt_len];simp[nb])).trans nb_get
      have y0: ∀ q,bget (bxt h2 q) (nb h' 0)=some (.row true 9 [bunC (gt l i)]):=fun q=>(bxt_old q h2 _ (bget_lt z0)).trans z0
      have z1:bget h2 (nb h 0)=some (.row true 3 [[.int .i64 s.now,s.nv,s.lv]]):=(k2.get _ (by rw[bxt_len];exact Nat.lt_of_lt_of_le (bget_lt b0) (Nat.le_add_right _ _))).trans (b0' _)
      have y1: ∀ q,bget (bxt h2 q) (nb h 0)=_:=fun q=>(bxt_old q h2 _ (bget_lt z1)).trans z1
      have kk:Keep ⟨h,lg,[]⟩ ⟨h2,lg2,[]⟩:=(k.trans (keep_bx (by repeat first |exact LogOK.nil |apply LogOK.cons))).trans k2
      have hs2:SnapAt h2 s:=SnapAt.keep (m:=⟨h,lg,[]⟩) (m':=⟨h2,lg2,[]⟩) H kk
      have g7:=fun q lg d=>h70 s (gt l i) ⟨bxt h2 q,lg,d⟩ (hs2.bx q)
      have ho2:OutAt h.length h2 6 a (L.map vioC):=OutAt.keep (m:=⟨h',lg',[]⟩) (m':=⟨h2,lg2,[]⟩) ho ((keep_bx (by repeat first |exact LogOK.nil |apply LogOK.cons)).trans k2)
      have stay2: ∀ q lg3,LogOK h2 lg2 lg3→ ¬ lostP s.now s.d.nodes (gt l i)→Keep ⟨h,lg,[]⟩ ⟨bxt h2 q,lg3,[]⟩∧OutAt h.length (bxt h2 q) 6 a ((lostV s.now s.d.nodes (l.take (i+1))).map vioC):=fun q lg3 hq hn=>by
        rw[ht,if_neg hn,List.append_nil]
        exact ⟨kk.trans (keep_bx hq),ho2.bx _⟩
      generalize hdv:delivD s.d.nodes (gt l i)=dv at g7
      unfold bunC at y0 g7
      unfold snapC at g7
      have yes:hold1 s.d.nodes (gt l i).id=[]→ ¬ dv=true→lostP s.now s.d.nodes (gt l i):=fun q q2=>⟨hx,by rw[hdv];exact q2,q⟩
      have no1: ¬ hold1 s.d.nodes (gt l i).id=[]→ ¬ lostP s.now s.d.nodes (gt l i):=fun q q2=>q q2.2.2
      have no2:dv=true→ ¬ lostP s.now s.d.nodes (gt l i):=fun q q2=>q2.2.1 (by rw[hdv];exact q)
      rcases ho2 with ⟨hn,rfl⟩|⟨bo,rfl,hk,hbo⟩
      · simp+contextual -implicitDefEqProofs (maxSteps:=1000000) (maxDischargeDepth:=20) only[go_sem,simprocAttr,r,y0,y1,lw,List.length_map,e_n,e_e,e_r,hlen,g7,c1,c2]
        refine ⟨fun c=>⟨fun c2=>⟨_,rfl,kk.trans (keep_bx (by repeat first |exact LogOK.nil |apply LogOK.cons)),?_⟩,fun c2=>⟨_,rfl,stay2 _ _ (by repeat first |exact LogOK.nil |apply LogOK.cons) (no2 c2)⟩⟩,fun c=>⟨_,rfl,stay2 _ _ (by repeat first |exact LogOK.nil |apply LogOK.cons) (no1 c)⟩⟩
        rw[ht,if_pos (yes c c2),List.map_append,hn]
        exact .some (nb h2 1) rfl (Nat.le_trans kk.len nb_ge) nb_get
      · have o:=old_blk (bget_lt hbo)
        have hbo': ∀ l,bget (bxt h2 l) bo=_:=fun l=>(bxt_old l h2 _ (bget_lt hbo)).trans hbo
        have m0:nb h 0≠bo:=fun q=>by rw[q,hbo] at z1;cases z1
        have fA:(1000000000000<(L.length+1)*48)=False:=by simp;omega
        have fC:List.take L.length (L.map vioC)=L.map vioC:=List.take_of_length_le (by simp)
        rw[List.length_map] at stay2 ⊢
        simp+contextual -implicitDefEqProofs (maxSteps:=1000000) (maxDischargeDepth:=20) only[go_sem,simprocAttr,r,y0,y1,lw,List.length_map,e_n,e_e,e_r,hlen,g7,c1,c2,o,hbo',fA,fB,fC]
        refine ⟨fun c=>⟨fun c2=>⟨_,rfl,kk.own hk (bget_lt hbo) _ _ (LgG.ok (by repeat first |exact LgG.nil |refine LgG.cons (by first |exact nb_ge |exact Nat.le_trans (kk.len) nb_ge |assumption) ?_)),(old_get (bget_lt hbo) (bget_lt z1) m0 _ _).trans z1,?_⟩,fun c2=>⟨_,rfl,stay2 _ _ (by repeat first |exact LogOK.nil |apply LogOK.cons) (no2 c2)⟩⟩,fun c=>⟨_,rfl,stay2 _ _ (by repeat first |exact LogOK.nil |apply LogOK.cons) (no1 c)⟩⟩
        rw[ht,if_pos (yes c c2),List.map_append]
        exact .some (nb h2 1) (by simp) (Nat.le_trans kk.len nb_ge) (o.2.1 _ _ _)
    · simp+contextual -implicitDefEqProofs (maxSteps:=1000000) (maxDischargeDepth:=20) only[go_sem,simprocAttr,e,r,b0',lv',List.length_map,ww,hx,e_n,e_e,e_r]
      exact ⟨_,rfl,stay _ _ (by repeat first |exact LogOK.nil |apply LogOK.cons) fun q=>hx q.1⟩
  · obtain ⟨h',lg',d'⟩:=m'
    obtain ⟨k,b0,ho⟩:=hP
    obtain rfl:d'=[]:=k.dfrs
    simp only at ho b0
    have r0:=rndl l.length
    have hv':SlAt h' 9 v (l.map bunC):=SlAt.keep (m:=⟨h,lg,[]⟩) (m':=⟨h',lg',[]⟩) hv k
    have lv':=hv'.len
    rw[List.take_length] at ho
    refine Wc_bx ?_
    simp+contextual -implicitDefEqProofs (maxSteps:=1000000) (maxDischargeDepth:=20) only[go_sem,simprocAttr,r0,lv',List.length_map]
    have hh: ∀ v∈s.d.nodes,v.st.held.length≤1000:=fun v hv=>by
      obtain ⟨y,hy,rfl⟩:=List.mem_map.1 hv
      exact (H.va y hy).s.w1
    refine WloopE (α:=AV) s.vs.length [X8,X5] (fun i a=> [.int .i64 i,a]) (fun i a m'=>Keep ⟨h,lg,[]⟩ m'∧bget m'.blks (nb h 0)=some (.row true 3 [[.int .i64 s.now,s.nv,s.lv]])∧OutAt h.length m'.blks 6 a ((lostV s.now s.d.nodes l++strV l (s.d.nodes.take i)).map vioC)) (by omega) (by repeat first |apply Cl_b |apply Cl_q |apply Cl_r) ⟨a,rfl,k,b0,by rw[show strV l (s.d.nodes.take 0)=[] from rfl,List.append_nil];exact ho⟩ (fun i a m' g hi hP=> ?_) (fun a m' g hP=> ?_)
    · obtain ⟨h',lg',d'⟩:=m'
      obtain ⟨k,b0,ho⟩:=hP
      obtain rfl:d'=[]:=k.dfrs
      simp only at ho b0
      have hs':SnapAt h' s:=SnapAt.keep (m:=⟨h,lg,[]⟩) (m':=⟨h',lg',[]⟩) H k
      have e:=hs'.v.el hi
      have l1':=hs'.v.len
      have r:=rnd hi (by omega)
      have hx:=hs'.va _ (gt_mem hi)
      have d1:=hx.s.b.sc
      have w1:=hx.s.w1
      have b0': ∀ l,bget (bxt h' l) (nb h 0)=_:=fun l=>(bxt_old l h' _ (bget_lt b0)).trans b0
      unfold viewC at e
      refine Wc_bx ?_
      simp+contextual -implicitDefEqProofs (maxSteps:=1000000) (maxDischargeDepth:=20) only[go_sem,simprocAttr,e,r,d1,b0',l1',List.length_map,e_n,e_e,e_r]
      refine WloopE (α:=AV) (gt s.vs i).v.st.held.length [X10,X5] (fun j a=> [.int .i64 j,a]) (fun j a m'=>Keep ⟨h,lg,[]⟩ m'∧bget m'.blks (nb h 0)=some (.row true 3 [[.int .i64 s.now,s.nv,s.lv]])∧OutAt h.length m'.blks 6 a ((lostV s.now s.d.nodes l++strV l (s.d.nodes.take i)++strN l (gt s.vs i).v.cfg.node ((gt s.vs i).v.st.held.take j)).map vioC)) (by omega) (by repeat first |apply Cl_b |apply Cl_q |apply Cl_r |apply Cl_e) ⟨a,rfl,k,b0,by rw[show strN l (gt s.vs i).v.cfg.node ((gt s.vs i).v.st.held.take 0)=[] from rfl,List.append_nil];exact ho⟩ (fun j a m' g hj hP=> ?_) (fun a m' g hP=> ?_)
      · obtain ⟨h3,lg3,d3⟩:=m'
        obtain ⟨k,b0,ho⟩:=hP
        obtain rfl:d3=[]:=k.dfrs
        simp only at b0 ho
        have hs3:SnapAt h3 s:=SnapAt.keep (m:=⟨h,lg,[]⟩) (m':=⟨h3,lg3,[]⟩) H k
        have hv3:SlAt h3 9 v (l.map bunC):=SlAt.keep (m:=⟨h,lg,[]⟩) (m':=⟨h3,lg3,[]⟩) hv k
        have hx:=hs3.va _ (gt_mem hi)
        have e0:=hs3.v.el hi
        have e:=hx.s.b.el hj
        have lh:=hx.s.b.len
        have r:=rnd hj (by omega)
        have b0': ∀ l,bget (bxt h3 l) (nb h 0)=_:=fun l=>(bxt_old l h3 _ (bget_lt b0)).trans b0
        have g1:=fun l2 lg d=>h71 l v (gt (gt s.vs i).v.st.held j) ⟨bxt h3 l2,lg,d⟩ (hv3.bx l2) lok.1
        have ht:=strN_take (l:=l) (n:=(gt s.vs i).v.cfg.node) hj
        have len1:(lostV s.now s.d.nodes l++strV l (s.d.nodes.take i)++strN l (gt s.vs i).v.cfg.node ((gt s.vs i).v.st.held.take j)).length≤20000:=by
          have h1:=lostV_len s.now s.d.nodes l
          have h2:=strV_len (l:=l) (N:=s.d.nodes.take i) fun v hv=>hh v (List.mem_of_mem_take hv)
          have h3:=strN_len l (gt s.vs i).v.cfg.node ((gt s.vs i).v.st.held.take j)
          rw[List.length_take] at h2 h3
          have h4:min i s.d.nodes.length≤16:=by omega
          rw[List.length_append,List.length_append]
          omega
        rw[ht,←List.append_assoc]
        generalize lostV s.now s.d.nodes l++strV l (s.d.nodes.take i)++strN l (gt s.vs i).v.cfg.node ((gt s.vs i).v.st.held.take j)=L at ho len1
        generalize hkn:knownB l (gt (gt s.vs i).v.st.held j)=kn at g1
        have q1:=hs3.v.sbn (by rw[List.length_map];exact hi)
        have q2:=hs3.v.top
        have q3: ∀ k,Nat.beq (nb h 0) (nb h3 k)=false:=fun k=>nb_beq_ne (bget_lt b0)
        have q5:=hx.s.b.sbn (by rw[List.length_map];exact hj)
        have q6:=hx.s.b.top
        unfold viewC at e0
        unfold bunC at e g1
        refine Wc_bx ?_
        rcases ho with ⟨hn,rfl⟩|⟨bo,rfl,hk,hbo⟩
        · simp+contextual -implicitDefEqProofs (maxSteps:=1000000) (maxDischargeDepth:=20) only[go_sem,simprocAttr,e,e0,r,b0',lh,List.length_map,g1,e_n,e_e,e_r,q1,q2,q3,q5,q6,r_vc,r_vp,mskO,Mem.more,bmore,nb_more,List.filter_nil,List.flatMap_nil,List.filter_cons,List.flatMap_cons,List.map_nil,List.map_cons,mask,unmask,AOp.reads,AOpnd.top,top_p,top_s,top_m,top_i,top_b,top_t,top_a,top_u,top_ns,top_s0,top_d,top_f,nb_beq,nb_blt,nb_add,nidOf,slotIn,Nat.beq_refl,clash,Bool.or_self,List.any_nil,List.any_cons,AOp.isMaker]
          refine ⟨fun c=>⟨_,rfl,k.trans (keep_bx (by repeat first |exact LogOK.nil |apply LogOK.cons)),?_⟩,fun c=>⟨_,rfl,k.trans (keep_bx (by repeat first |exact LogOK.nil |apply LogOK.cons)),.nil hn rfl⟩⟩
          rw[List.map_append,hn]
          exact .some (nb h3 1) rfl (Nat.le_trans k.len nb_ge) nb_get
        · have o:=old_blk (bget_lt hbo)
          have hbo': ∀ l,bget (bxt h3 l) bo=_:=fun l=>(bxt_old l h3 _ (bget_lt hbo)).trans hbo
          have m0:nb h 0≠bo:=fun q=>by rw[q,hbo] at b0;cases b0
          have fA:(1000000000000<(L.length+1)*48)=False:=by simp;omega
          have fC:List.take L.length (L.map vioC)=L.map vioC:=List.take_of_length_le (by simp)
          have q7: ∀ k,Nat.beq bo (nb h3 k)=false:=fun k=>nb_beq_ne (bget_lt hbo)
          have q8: ∀ k,Nat.beq (nb h3 k) bo=false:=fun k=>nb_beq_ne' (bget_lt hbo)
          rw[List.length_map]
          simp+contextual -implicitDefEqProofs (maxSteps:=1000000) (maxDischargeDepth:=20) only[go_sem,simprocAttr,e,e0,r,b0',lh,g1,e_n,e_e,e_r,o,hbo',List.length_map,fA,fB,fC,q1,q2,q3,q5,q6,q7,q8,r_vc,r_vp,mskO,Mem.more,bmore,nb_more,List.filter_nil,List.flatMap_nil,List.filter_cons,List.flatMap_cons,List.map_nil,List.map_cons,mask,unmask,AOp.reads,AOpnd.top,top_p,top_s,top_m,top_i,top_b,top_t,top_a,top_u,top_ns,top_s0,top_d,top_f,nb_beq,nb_blt,nb_add,nidOf,slotIn,Nat.beq_refl,clash,Bool.or_self,List.any_nil,List.any_cons,AOp.isMaker]
          refine ⟨fun c=>⟨_,rfl,k.own hk (bget_lt hbo) _ _ (LgG.ok (by repeat first |exact LgG.nil |refine LgG.cons (by first |exact nb_ge |exact Nat.le_trans (k.len) nb_ge |assumption) ?_)),(old_get (bget_lt hbo) (bget_lt b0) m0 _ _).trans b0,?_⟩,fun c=>⟨_,rfl,k.trans (keep_bx (by repeat first |exact LogOK.nil |apply LogOK.cons)),.some bo (by rw[List.length_map]) hk (hbo' _)⟩⟩
          rw[List.map_append]
          exact .some (nb h3 1) (by simp) (Nat.le_trans k.len nb_ge) (o.2.1 _ _ _)
      · obtain ⟨h3,lg3,d3⟩:=m'
        obtain ⟨k,b0,ho⟩:=hP
        obtain rfl:d3=[]:=k.dfrs
        simp only at b0
        have hs3:SnapAt h3 s:=SnapAt.keep (m:=⟨h,lg,[]⟩) (m':=⟨h3,lg3,[]⟩) H k
        have lh:=(hs3.va _ (gt_mem hi)).s.b.len
        have r2:=rndl (gt s.vs i).v.st.held.length
        have ht:=strV_take (l:=l) (N:=s.d.nodes) (i:=i) (by omega)
        rw[show gt s.d.nodes i=(gt s.vs i).v from gt_mapV hi] at ht
        refine Wc_bx ?_
        simp+contextual -implicitDefEqProofs (maxSteps:=1000000) (maxDischargeDepth:=20) only[go_sem,simprocAttr,r,r2,lh,List.length_map,e_n,e_e,e_r]
        rw[List.take_length,List.append_assoc,←ht] at ho
        exact ⟨_,rfl,k,b0,ho⟩
    · obtain ⟨h',lg',d'⟩:=m'
      obtain ⟨k,b0,ho⟩:=hP
      obtain rfl:d'=[]:=k.dfrs
      simp only at b0
      have hs':SnapAt h' s:=SnapAt.keep (m:=⟨h,lg,[]⟩) (m':=⟨h',lg',[]⟩) H k
      have l1':=hs'.v.len
      have b0': ∀ l,bget (bxt h' l) (nb h 0)=_:=fun l=>(bxt_old l h' _ (bget_lt b0)).trans b0
      have r:=rndl s.vs.length
      rw[←n1,List.take_length] at ho
      refine Wc_bx ?_
      simp+contextual -implicitDefEqProofs (maxSteps:=1000000) (maxDischargeDepth:=20) only[go_sem,simprocAttr,r,q_k,b0',l1',List.length_map]
      exact ⟨k.sub (d:=d),ho⟩
end
end Go.Abs
end
