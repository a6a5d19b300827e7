/- Functions of the program on symbolic values: part b.
   Conditions: none. -/
import Derived.Test.YtjpnemidlgcmmaaGreatDoorPa
set_option linter.unusedSimpArgs false
set_option linter.unusedVariables false
set_option maxRecDepth 100000
set_option maxHeartbeats 16000000
noncomputable section
namespace Go.Abs
section
variable {F:FuncId→Option AFunc} {meth:Meth} {sm:Summ}
structure PX where
  p:PeerD
  s:AV
  t:AV
  k:AV
  deriving Inhabited
def pxC (x:PX):List AV:=peerC x.p x.s x.t x.k
structure PeersAt (h:Blks) (v:AV) (l:List PX):Prop where
  v:SlAt h 13 v (l.map pxC)
  p: ∀ x∈l,PeerAt h x.p x.s x.t x.k
theorem SendAt.keep {m m':Mem} {S:SendD} {s:AV} (H:SendAt m.blks S s) (k:Keep m m'):SendAt m'.blks S s:=⟨H.s.keep k,H.g0,H.n0,H.g1,H.n1,H.u⟩
theorem RecvAt.keep {m m':Mem} {R:RecvD} {t q:AV} (H:RecvAt m.blks R t q) (k:Keep m m'):RecvAt m'.blks R t q:=⟨H.t.keep k,H.k.keep k,H.g0,H.g1⟩
theorem PeerAt.keep {m m':Mem} {P:PeerD} {s t q:AV} (H:PeerAt m.blks P s t q) (k:Keep m m'):PeerAt m'.blks P s t q:=⟨H.s.keep k,H.r.keep k⟩
theorem PeersAt.keep {m m':Mem} {v:AV} {l:List PX} (H:PeersAt m.blks v l) (k:Keep m m'):PeersAt m'.blks v l:=⟨H.v.keep k,fun x hx=>(H.p x hx).keep k⟩
theorem PeersAt.bx {h:Blks} {v:AV} {l:List PX} (H:PeersAt h v l) (q:List (Option ABlk)):PeersAt (bxt h q) v l:=⟨H.v.bx q,fun x hx=>(H.p x hx).bx q⟩
theorem Keep.ps {h h':Blks} {lg0 lg':List Nat} {l0:List (Option ABlk)} (k:Keep ⟨bxt h l0,lg0,[]⟩ ⟨h',lg',[]⟩) {v:AV} {l:List PX} (H:PeersAt h v l):PeersAt h' v l:=PeersAt.keep (m:=⟨bxt h l0,lg0,[]⟩) (m':=⟨h',lg',[]⟩) (H.bx l0) k
theorem gt_mem {α:Type} [Inhabited α] {l:List α} {i:Nat} (hi:i<l.length):gt l i∈l:=by rw[gt_eq hi];exact List.getElem_mem hi
structure StateAt (h:Blks) (S:StateD) (b m v:AV) (l:List PX):Prop where
  b:SlAt h 9 b (S.held.map bunC)
  m:SlAt h 4 m (S.seen.map markC)
  p:PeersAt h v l
  e:S.peers=l.map (·.p)
  w1:S.held.length≤1000
  w2:S.seen.length≤1000
  w3:l.length≤1000
  d: ∀ x∈S.held,x.data.length≤1000000∧I x.total
theorem StateAt.bx {h:Blks} {S:StateD} {b m v:AV} {l:List PX} (H:StateAt h S b m v l) (q:List (Option ABlk)):StateAt (bxt h q) S b m v l:=⟨H.b.bx q,H.m.bx q,H.p.bx q,H.e,H.w1,H.w2,H.w3,H.d⟩
def heldBad (l:List BunD) (i:Nat):Int:=
  if bunE (gt l i)≠0 then bunE (gt l i) else if 0<i∧0≤cmpD (gt l (i - 1)).id (gt l i).id then 19 else 0
def sPeerBad (node:Int) (l:List PeerD) (i:Nat):Int:=
  if peerE (gt l i)≠0 then peerE (gt l i) else if (gt l i).node=node∨ ¬ blankS (gt l i).send∨(gt l i).sure=true then 3 else if 0<i∧(gt l i).node≤(gt l (i - 1)).node then 19 else 0
theorem sPeerBad_v {node:Int} {ps:List PeerD} {i:Nat} {p q:PeerD} (x1:gt ps i=p) (x2:gt ps (i - 1)=q):sPeerBad node ps i=if peerE p≠0 then peerE p else if p.node=node∨ ¬ blankS p.send∨p.sure=true then 3 else if 0<i∧p.node≤q.node then 19 else 0:=by
  rw[sPeerBad,x1,x2]
def id0:IdD:=⟨0,0,0⟩
def stateE (S:StateD):Int:=
  if S.node<1∨16<S.node∨1099511627776<S.boot then 2 else if S.last≠id0∧idE S.last≠0 then 2 else if S.last≠id0∧S.last.n≠S.node then 3
  else if first (heldBad S.held) S.held.length≠0 then first (heldBad S.held) S.held.length
  else if first (markBad S.seen) S.seen.length≠0 then first (markBad S.seen) S.seen.length
  else first (sPeerBad S.node S.peers) S.peers.length
def restE (S:StateD):Int:=
  if first (heldBad S.held) S.held.length≠0 then first (heldBad S.held) S.held.length
  else if first (markBad S.seen) S.seen.length≠0 then first (markBad S.seen) S.seen.length
  else first (sPeerBad S.node S.peers) S.peers.length
theorem gt_map {l:List PX} {i:Nat} (hi:i<l.length):gt (l.map (·.p)) i=(gt l i).p:=by
  rw[gt_eq hi,gt_eq (by simpa using hi)];simp
def H57 (sm:Summ):Prop:= ∀ (S:StateD) (b ms v:AV) (l:List PX) (m:Mem),StateAt m.blks S b ms v l→sm 57 [.agg (stateC S b ms v)] m=some (.int .i64 (stateE S),m)
theorem e57 (hF:F 57=some AF57) (hs: ∀ vs m,sm 57 vs m=none) (n:Nat) (h:Blks) (lg d:List Nat) (h92:H92 sm) (h63:H63 sm) (h93:H93 sm) (h94:H94 sm) (h58:H58 sm) (h95:H95 sm) {S:StateD} {b ms v:AV} {l:List PX} (H:StateAt h S b ms v l):Ev F meth sm (n+2000) 57 [.agg (stateC S b ms v)] ⟨h,lg,d⟩ (.int .i64 (stateE S)):=by
  refine Ev.ofW ?_
  have c1:=H.b.sc
  have c2:=H.m.sc
  have c3:=H.p.v.sc
  have l1:=H.b.len
  have g1:=h92 S.last
  unfold idC at g1
  have hq:(S.last.n=0∧S.last.s=0∧S.last.o=0)=(S.last=id0):=propext (idD_eq S.last id0)
  have hi2:=idE02 S.last
  rcases Classical.em (S.last=id0) with hz |hz
  · have hz':=hq.trans (eq_true hz)
    simp+contextual -implicitDefEqProofs (maxSteps:=1000000) (maxDischargeDepth:=20) only[go_sem,simprocAttr,hs,hF,AF57,stateC,c1,c2,c3,l1,g1,hz',List.length_map]
    (repeat' first |apply And.intro |intro _) <;>first |(simp only[stateE] <;>(repeat' split) <;>first |omega |contradiction |(simp_all;done))|skip
    have e0:stateE S=restE S:=by
      rw[stateE,if_neg (by omega),if_neg (fun q=>by first |exact q.1 hz |omega),if_neg (fun q=>by first |exact q.1 hz |(apply q.2;assumption))]
      rfl
    refine WloopK S.held.length [X44] (fun i=> [.int .i64 i]) (FP (heldBad S.held) S.held.length) (by have:=H.w1;omega) (by repeat first |apply Cl_b |apply Cl_q |apply Cl_r) ⟨rfl,FP.zero _ _⟩ (fun i h' lg' g hi hP hK=> ?_) (fun h' lg' g hP hK=> ?_)
    · have a:=hK.all (lg:=lg) (d:=d) (by repeat first |exact LogOK.nil |apply LogOK.cons)
      have e:=(hK.sl H.b).el hi
      have p:=(hK.sl H.b).pv hi (by have:=H.w1;omega)
      have r:=rnd hi (by have:=H.w1;omega)
      have u:=H.d _ (gt_mem hi)
      have g1:=fun m=>h63 (gt S.held i) m u.1 u.2
      have g2:=h93 (gt S.held (i - 1)).id (gt S.held i).id
      unfold bunC at e p g1
      unfold idC at g2
      simp+contextual -implicitDefEqProofs (maxSteps:=1000000) (maxDischargeDepth:=20) only[go_sem,simprocAttr,a,e,p,r,g1,g2]
      have f1: ∀ x:Int,heldBad S.held i=x∧x≠0→x=stateE S:=fun x hx=>by
        have:=hP.s1 hi hx
        rw[e0,restE,if_pos (by rw[←this];exact hx.2)]
        exact this
      (repeat' first |(refine f1 _ ?_)|apply And.intro |intro _) <;>(try refine hP.next hi ?_) <;>first |omega |assumption |(simp only[heldBad] <;>(repeat' split) <;>first |omega |contradiction)
    · have a:=hK.all (lg:=lg) (d:=d) (by repeat first |exact LogOK.nil |apply LogOK.cons)
      have r:=rndl S.held.length
      have gs:=fun l lg d=>h94 S.seen ms ⟨bxt h' l,lg,d⟩ ((hK.sl H.m).bx l) H.w2
      have lv:=H.p.v.len
      simp+contextual -implicitDefEqProofs (maxSteps:=1000000) (maxDischargeDepth:=20) only[go_sem,simprocAttr,a,r,gs,lv,List.length_map]
      have hz2:=hP.last
      refine ⟨fun c=> ?_,fun c=> ?_⟩
      · rw[e0,restE,if_neg (by rw[hz2.1];omega),if_pos c]
      have e1:stateE S=first (sPeerBad S.node S.peers) S.peers.length:=by
        rw[e0,restE,if_neg (by rw[hz2.1];omega),if_neg (by omega)]
      refine WloopK l.length [X82] (fun i=> [.int .i64 i]) (FP (sPeerBad S.node S.peers) S.peers.length) (by have:=H.w3;omega) (by repeat first |apply Cl_b |apply Cl_q |apply Cl_r) ⟨rfl,FP.zero _ _⟩ (fun i h2 lg2 g2 hi hP2 hK2=> ?_) (fun h2 lg2 g2 hP2 hK2=> ?_)
      · have a2:=hK2.all (lg:=lg') (d:=d) (by repeat first |exact LogOK.nil |apply LogOK.cons)
        have a:=Keep.all (lg:=lg) (d:=d) (hK.trans hK2) (by repeat first |exact LogOK.nil |apply LogOK.cons)
        have hp:=hK2.ps (hK.ps H.p)
        have e:=hp.v.el hi
        have p:=hp.v.pv hi (by have:=H.w3;omega)
        have r:=rnd hi (by have:=H.w3;omega)
        have hx:=hp.p _ (gt_mem hi)
        have g3:=fun l lg d=>h58 _ _ _ _ ⟨bxt h2 l,lg,d⟩ (hx.bx l)
        have g4:=fun l lg d=>h95 _ _ ⟨bxt h2 l,lg,d⟩ (hx.s.bx l)
        have hi':i<S.peers.length:=by rw[H.e];simpa using hi
        have x1:gt S.peers i=(gt l i).p:=by rw[H.e];exact gt_map hi
        have x2:gt S.peers (i - 1)=(gt l (i - 1)).p:=by rw[H.e];exact gt_map (by omega)
        have d1:=hx.s.s.sc
        have d2:=hx.r.t.sc
        have d3:=hx.r.k.sc
        unfold pxC peerC at e p
        unfold peerC at g3
        unfold sendC at g4
        simp+contextual -implicitDefEqProofs (maxSteps:=1000000) (maxDischargeDepth:=20) only[go_sem,simprocAttr,a,a2,e,p,r,g3,g4,d1,d2,d3]
        have f1: ∀ x:Int,sPeerBad S.node S.peers i=x∧x≠0→x=stateE S:=fun x hx=>by
          rw[e1];exact hP2.s1 hi' hx
        have f3:=sPeerBad_v (node:=S.node) x1 x2
        clear a a2 e p r g3 g4 hp hx d1 d2 d3 hK hK2 hP H g1 gs lv l1 c1 c2 c3 hs hF h92 h63 h93 h94 h58 h95 x1 x2 hq hz' e0 e1 hz2
        (repeat' first |(refine f1 _ ?_)|apply And.intro |intro _) <;>(try refine hP2.next hi' ?_) <;>first |omega |assumption |(rw[f3];(repeat' split) <;>first |omega |contradiction |(simp_all;done)|(simp_all;omega))
      · have a2:=hK2.all (lg:=lg') (d:=d) (by repeat first |exact LogOK.nil |apply LogOK.cons)
        have a:=Keep.all (lg:=lg) (d:=d) (hK.trans hK2) (by repeat first |exact LogOK.nil |apply LogOK.cons)
        have r:=rndl l.length
        simp+contextual -implicitDefEqProofs (maxSteps:=1000000) (maxDischargeDepth:=20) only[go_sem,simprocAttr,a,a2,r]
        rw[e1]
        have:S.peers.length=l.length:=by rw[H.e];simp
        rw[this] at hP2 ⊢
        simp[hP2.last]
  · have hz':=hq.trans (eq_false hz)
    simp+contextual -implicitDefEqProofs (maxSteps:=1000000) (maxDischargeDepth:=20) only[go_sem,simprocAttr,hs,hF,AF57,stateC,c1,c2,c3,l1,g1,hz',List.length_map]
    (repeat' first |apply And.intro |intro _) <;>first |(simp only[stateE] <;>(repeat' split) <;>first |omega |contradiction |(simp_all;done))|skip
    have e0:stateE S=restE S:=by
      rw[stateE,if_neg (by omega),if_neg (fun q=>by first |exact q.1 hz |omega),if_neg (fun q=>by first |exact q.1 hz |(apply q.2;assumption))]
      rfl
    refine WloopK S.held.length [X44] (fun i=> [.int .i64 i]) (FP (heldBad S.held) S.held.length) (by have:=H.w1;omega) (by repeat first |apply Cl_b |apply Cl_q |apply Cl_r) ⟨rfl,FP.zero _ _⟩ (fun i h' lg' g hi hP hK=> ?_) (fun h' lg' g hP hK=> ?_)
    · have a:=hK.all (lg:=lg) (d:=d) (by repeat first |exact LogOK.nil |apply LogOK.cons)
      have e:=(hK.sl H.b).el hi
      have p:=(hK.sl H.b).pv hi (by have:=H.w1;omega)
      have r:=rnd hi (by have:=H.w1;omega)
      have u:=H.d _ (gt_mem hi)
      have g1:=fun m=>h63 (gt S.held i) m u.1 u.2
      have g2:=h93 (gt S.held (i - 1)).id (gt S.held i).id
      unfold bunC at e p g1
      unfold idC at g2
      simp+contextual -implicitDefEqProofs (maxSteps:=1000000) (maxDischargeDepth:=20) only[go_sem,simprocAttr,a,e,p,r,g1,g2]
      have f1: ∀ x:Int,heldBad S.held i=x∧x≠0→x=stateE S:=fun x hx=>by
        have:=hP.s1 hi hx
        rw[e0,restE,if_pos (by rw[←this];exact hx.2)]
        exact this
      (repeat' first |(refine f1 _ ?_)|apply And.intro |intro _) <;>(try refine hP.next hi ?_) <;>first |omega |assumption |(simp only[heldBad] <;>(repeat' split) <;>first |omega |contradiction)
    · have a:=hK.all (lg:=lg) (d:=d) (by repeat first |exact LogOK.nil |apply LogOK.cons)
      have r:=rndl S.held.length
      have gs:=fun l lg d=>h94 S.seen ms ⟨bxt h' l,lg,d⟩ ((hK.sl H.m).bx l) H.w2
      have lv:=H.p.v.len
      simp+contextual -implicitDefEqProofs (maxSteps:=1000000) (maxDischargeDepth:=20) only[go_sem,simprocAttr,a,r,gs,lv,List.length_map]
      have hz2:=hP.last
      refine ⟨fun c=> ?_,fun c=> ?_⟩
      · rw[e0,restE,if_neg (by rw[hz2.1];omega),if_pos c]
      have e1:stateE S=first (sPeerBad S.node S.peers) S.peers.length:=by
        rw[e0,restE,if_neg (by rw[hz2.1];omega),if_neg (by omega)]
      refine WloopK l.length [X82] (fun i=> [.int .i64 i]) (FP (sPeerBad S.node S.peers) S.peers.length) (by have:=H.w3;omega) (by repeat first |apply Cl_b |apply Cl_q |apply Cl_r) ⟨rfl,FP.zero _ _⟩ (fun i h2 lg2 g2 hi hP2 hK2=> ?_) (fun h2 lg2 g2 hP2 hK2=> ?_)
      · have a2:=hK2.all (lg:=lg') (d:=d) (by repeat first |exact LogOK.nil |apply LogOK.cons)
        have a:=Keep.all (lg:=lg) (d:=d) (hK.trans hK2) (by repeat first |exact LogOK.nil |apply LogOK.cons)
        have hp:=hK2.ps (hK.ps H.p)
        have e:=hp.v.el hi
        have p:=hp.v.pv hi (by have:=H.w3;omega)
        have r:=rnd hi (by have:=H.w3;omega)
        have hx:=hp.p _ (gt_mem hi)
        have g3:=fun l lg d=>h58 _ _ _ _ ⟨bxt h2 l,lg,d⟩ (hx.bx l)
        have g4:=fun l lg d=>h95 _ _ ⟨bxt h2 l,lg,d⟩ (hx.s.bx l)
        have hi':i<S.peers.length:=by rw[H.e];simpa using hi
        have x1:gt S.peers i=(gt l i).p:=by rw[H.e];exact gt_map hi
        have x2:gt S.peers (i - 1)=(gt l (i - 1)).p:=by rw[H.e];exact gt_map (by omega)
        have d1:=hx.s.s.sc
        have d2:=hx.r.t.sc
        have d3:=hx.r.k.sc
        unfold pxC peerC at e p
        unfold peerC at g3
        unfold sendC at g4
        simp+contextual -implicitDefEqProofs (maxSteps:=1000000) (maxDischargeDepth:=20) only[go_sem,simprocAttr,a,a2,e,p,r,g3,g4,d1,d2,d3]
        have f1: ∀ x:Int,sPeerBad S.node S.peers i=x∧x≠0→x=stateE S:=fun x hx=>by
          rw[e1];exact hP2.s1 hi' hx
        have f3:=sPeerBad_v (node:=S.node) x1 x2
        clear a a2 e p r g3 g4 hp hx d1 d2 d3 hK hK2 hP H g1 gs lv l1 c1 c2 c3 hs hF h92 h63 h93 h94 h58 h95 x1 x2 hq hz' e0 e1 hz2
        (repeat' first |(refine f1 _ ?_)|apply And.intro |intro _) <;>(try refine hP2.next hi' ?_) <;>first |omega |assumption |(rw[f3];(repeat' split) <;>first |omega |contradiction |(simp_all;done)|(simp_all;omega))
      · have a2:=hK2.all (lg:=lg') (d:=d) (by repeat first |exact LogOK.nil |apply LogOK.cons)
        have a:=Keep.all (lg:=lg) (d:=d) (hK.trans hK2) (by repeat first |exact LogOK.nil |apply LogOK.cons)
        have r:=rndl l.length
        simp+contextual -implicitDefEqProofs (maxSteps:=1000000) (maxDischargeDepth:=20) only[go_sem,simprocAttr,a,a2,r]
        rw[e1]
        have:S.peers.length=l.length:=by rw[H.e];simp
        rw[this] at hP2 ⊢
        simp[hP2.last]
end
end Go.Abs
end
