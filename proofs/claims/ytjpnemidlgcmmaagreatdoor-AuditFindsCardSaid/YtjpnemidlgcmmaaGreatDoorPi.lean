/- Functions of the program on symbolic values: part i.
   Conditions: none. -/
import Derived.Test.YtjpnemidlgcmmaaGreatDoorPh
set_option linter.unusedSimpArgs false
set_option linter.unusedVariables false
set_option maxRecDepth 100000
set_option maxHeartbeats 16000000
noncomputable section
namespace Go.Abs
section
variable {F:FuncId→Option AFunc} {meth:Meth} {sm:Summ}
structure PeerO (k:Nat) (h:Blks) (P:PeerD) (s t q:AV):Prop where
  s:SlO k h 5 s (P.send.slots.map slotC)
  t:SlO k h 2 t (P.recv.taken.map rngC)
  q:SlO k h 1 q (P.recv.kept.map u64C)
theorem PeerO.keep {k:Nat} {m m':Mem} {P:PeerD} {s t q:AV} (H:PeerO k m.blks P s t q) (K:Keep m m'):PeerO k m'.blks P s t q:=⟨H.s.keep K,H.t.keep K,H.q.keep K⟩
theorem PeerO.bx {k:Nat} {h:Blks} {P:PeerD} {s t q:AV} (H:PeerO k h P s t q) (l:List (Option ABlk)):PeerO k (bxt h l) P s t q:=⟨H.s.bx l,H.t.bx l,H.q.bx l⟩
theorem PeerO.le {k k':Nat} {h:Blks} {P:PeerD} {s t q:AV} (H:PeerO k h P s t q) (c:k'≤k):PeerO k' h P s t q:=⟨H.s.le c,H.t.le c,H.q.le c⟩
theorem PeerO.below {k:Nat} {h:Blks} {P:PeerD} {s t q:AV} {b:Nat} (H:PeerO k h P s t q) (hb:b<h.length) (hk:b<k) (x:Option ABlk) (l:List (Option ABlk)):PeerO k (bxt (bput h b x) l) P s t q:=⟨H.s.below hb hk x l,H.t.below hb hk x l,H.q.below hb hk x l⟩
theorem PeerO.other {k:Nat} {h:Blks} {P:PeerD} {s t q:AV} {b e':Nat} {own:Bool} {rows:List (List AV)} (H:PeerO k h P s t q) (hb:bget h b=some (.row own e' rows)) (hne:5<e') (x:Option ABlk) (l:List (Option ABlk)):PeerO k (bxt (bput h b x) l) P s t q:=⟨H.s.other hb (by omega) x l,H.t.other hb (by omega) x l,H.q.other hb (by omega) x l⟩
def PU (P:PeerD):Prop:=0≤P.send.r∧0≤P.send.n∧P.send.g≤18446744073709551615∧P.send.n≤18446744073709551615∧(∀ x∈P.send.slots,0≤x.off∧0≤x.size)∧0≤P.recv.r∧P.recv.g≤18446744073709551615
theorem PeerAt.pu {h:Blks} {P:PeerD} {s t q:AV} (H:PeerAt h P s t q):PU P:=⟨H.s.g0,H.s.n0,H.s.g1,H.s.n1,H.s.u,H.r.g0,H.r.g1⟩
theorem PeerO.at {k:Nat} {h:Blks} {P:PeerD} {s t q:AV} (H:PeerO k h P s t q) (u:PU P):PeerAt h P s t q:=⟨⟨H.s.sl,u.1,u.2.1,u.2.2.1,u.2.2.2.1,u.2.2.2.2.1⟩,⟨H.t.sl,H.q.sl,u.2.2.2.2.2.1,u.2.2.2.2.2.2⟩⟩
def W75 (F:FuncId→Option AFunc) (meth:Meth) (sm:Summ):Prop:= ∀ (n:Nat) (h:Blks) (lg d:List Nat) (S:SendD) (s:AV),SendAt h S s→S.slots.length≤1000→
  Wa F meth sm (n+1000) (.fn 75) [.agg (sendC S s)] ⟨bxt h [],lg,d⟩ (Qk ⟨h,lg,d⟩ fun w h'=> ∃ s',w= .agg (sendC S s')∧SlO h.length h' 5 s' (S.slots.map slotC))
def W76 (F:FuncId→Option AFunc) (meth:Meth) (sm:Summ):Prop:= ∀ (n:Nat) (h:Blks) (lg d:List Nat) (R:RecvD) (t k:AV),RecvAt h R t k→R.taken.length≤1000→R.kept.length≤1000→
  Wa F meth sm (n+1000) (.fn 76) [.agg (recvC R t k)] ⟨bxt h [],lg,d⟩ (Qk ⟨h,lg,d⟩ fun w h'=> ∃ t' k',w= .agg (recvC R t' k')∧SlO h.length h' 2 t' (R.taken.map rngC)∧SlO h.length h' 1 k' (R.kept.map u64C))
theorem e48 (hF:F 48=some AF48) (hs: ∀ vs m,sm 48 vs m=none) (n:Nat) (h:Blks) (lg d:List Nat) (g75:W75 F meth sm) (g76:W76 F meth sm) {P:PeerD} {s t k:AV} (H:PeerAt h P s t k) (w1:P.send.slots.length≤1000) (w2:P.recv.taken.length≤1000) (w3:P.recv.kept.length≤1000):Wa F meth sm (n+1500) (.fn 48) [.agg (peerC P s t k)] ⟨bxt h [],lg,d⟩ (Qk ⟨h,lg,d⟩ fun w h'=> ∃ s' t' k',w= .agg (peerC P s' t' k')∧PeerO h.length h' P s' t' k'):=by
  have c1:=H.s.s.sc
  have c2:=H.r.t.sc
  have c3:=H.r.k.sc
  simp+contextual -implicitDefEqProofs (maxSteps:=1000000) (maxDischargeDepth:=20) only[go_sem,simprocAttr,hs,hF,AF48,peerC,c1,c2,c3,q_k]
  rw[←w_a]
  refine Wa_k (g75 (n+499) (bxt h [some (.row true 13 [peerC P s t k]),some (.row true 13 [[.int .i64 0,.int .u64 0,.bool false,.int .u64 0,.int .u64 0,.int .u64 0,.int .u64 0,.nilslice,.int .u64 0,.int .u64 0,.int .u64 0,.nilslice,.nilslice]])]) _ _ P.send s (H.s.bx _) w1) (fun w h2 lg2 k2 hw2=> ?_)
  obtain ⟨s',rfl,o2⟩:=hw2
  have l0:nb h 0<h2.length:=by have:=k2.len;rw[bxt_len] at this;simp only[List.length_cons,List.length_nil] at this;simp only[nb];omega
  have l1:nb h 1<h2.length:=by have:=k2.len;rw[bxt_len] at this;simp only[List.length_cons,List.length_nil] at this;simp only[nb];omega
  have z0:bget h2 (nb h 0)=some (.row true 13 [peerC P s t k]):=(k2.get _ (by rw[bxt_len];simp[nb])).trans nb_get
  have z1:bget h2 (nb h 1)=some (.row true 13 [[.int .i64 0,.int .u64 0,.bool false,.int .u64 0,.int .u64 0,.int .u64 0,.int .u64 0,.nilslice,.int .u64 0,.int .u64 0,.int .u64 0,.nilslice,.nilslice]]):=(k2.get _ (by rw[bxt_len];simp[nb])).trans nb_get
  have b0: ∀ q,bget (bxt h2 q) (nb h 0)=some (.row true 13 [peerC P s t k]):=fun q=>(bxt_old q h2 _ l0).trans z0
  have ob:=old_blk l0
  have d1:=o2.sl.sc
  have hr2: ∀ x,RecvAt (bput h2 (nb h 0) x) P.recv t k:=fun x=>by
    have q1:SlAt h2 2 t (P.recv.taken.map rngC):=SlAt.keep (m:=⟨_,_,_⟩) (m':=⟨h2,lg2,_⟩) (H.r.t.bx _) k2
    have q2:SlAt h2 1 k (P.recv.kept.map u64C):=SlAt.keep (m:=⟨_,_,_⟩) (m':=⟨h2,lg2,_⟩) (H.r.k.bx _) k2
    exact ⟨q1.own l0 (q1.nrefs z0 (by omega)) x [],q2.own l0 (q2.nrefs z0 (by omega)) x [],H.r.g0,H.r.g1⟩
  unfold peerC at b0
  simp+contextual -implicitDefEqProofs (maxSteps:=1000000) (maxDischargeDepth:=20) only[go_sem,simprocAttr,sendC,b0,ob,d1,c2,c3]
  rw[←w_a]
  refine Wa_k (g76 (n+499) (bput h2 (nb h 0) (some (.row true 13 [peerC P s' t k]))) _ _ P.recv t k (hr2 _) w2 w3) (fun w h3 lg3 k3 hw3=> ?_)
  obtain ⟨t',k',rfl,o3,o4⟩:=hw3
  obtain ⟨X,hX⟩: ∃ X:Option ABlk,X=some (.row true 13 [peerC P s' t k]):=⟨_,rfl⟩
  have lm:(bput h2 (nb h 0) X).length=h2.length:=bput_len_eq l0
  have k3:Keep ⟨bput h2 (nb h 0) X,nb h 0::lg2,[]⟩ ⟨h3,lg3,[]⟩:=by rw[hX];exact k3
  have le3:h2.length≤h3.length:=by have:=k3.len;simp only[lm] at this;exact this
  have l3:nb h 0<h3.length:=Nat.lt_of_lt_of_le l0 le3
  have y0:bget h3 (nb h 0)=some (.row true 13 [peerC P s' t k]):=(k3.get (nb h 0) (by show _<(bput h2 _ X).length;rw[lm];exact l0)).trans (by show bget (bput h2 (nb h 0) X) (nb h 0)=_;rw[bget_set l0,if_pos rfl,hX])
  have n10:nb h 1≠nb h 0:=by rw[ne_eq,nb_inj];omega
  have y1:bget h3 (nb h 1)=some (.row true 13 [[.int .i64 0,.int .u64 0,.bool false,.int .u64 0,.int .u64 0,.int .u64 0,.int .u64 0,.nilslice,.int .u64 0,.int .u64 0,.int .u64 0,.nilslice,.nilslice]]):=((k3.get (nb h 1) (by show _<(bput h2 _ X).length;rw[lm];exact l1)).trans (by show bget (bput h2 (nb h 0) X) (nb h 1)=bget h2 (nb h 1);rw[bget_set l0,if_neg n10])).trans z1
  have b3: ∀ q,bget (bxt h3 q) (nb h 0)=some (.row true 13 [peerC P s' t k]):=fun q=>(bxt_old q h3 _ l3).trans y0
  have b1: ∀ q x,bget (bxt (bput h3 (nb h 0) x) q) (nb h 1)=_:=fun q x=>(old_get l3 (bget_lt y1) n10 q x).trans y1
  have o:=old_blk l3
  have l13: ∀ x,nb h 1<(bput h3 (nb h 0) x).length:=fun x=>by rw[bput_len_eq l3];exact bget_lt y1
  have oo:=fun x=>old_blk (h:=bput h3 (nb h 0) x) (b:=nb h 1) (l13 x)
  have d3:=o3.sl.sc
  have d4:=o4.sl.sc
  unfold peerC at b3
  simp+contextual -implicitDefEqProofs (maxSteps:=1000000) (maxDischargeDepth:=20) only[go_sem,simprocAttr,recvC,b3,b1,o,oo,d1,d3,d4,q_k]
  have K2:Keep ⟨h,lg,[]⟩ ⟨h2,lg2,[]⟩:=(keep_bx (by repeat first |exact LogOK.nil |apply LogOK.cons)).trans k2
  have K3:Keep ⟨h,lg,[]⟩ ⟨h3,lg3,[]⟩:=(K2.own nb_ge l0 X [] (lg2:=nb h 0::lg2) (LgG.ok (.cons nb_ge .nil))).trans k3
  have S2:SlO h.length h2 5 s' (P.send.slots.map slotC):=o2.le (by rw[bxt_len];omega)
  have S3:SlO h.length h3 5 s' (P.send.slots.map slotC):=SlO.keep (m:=⟨bput h2 (nb h 0) X,nb h 0::lg2,[]⟩) (m':=⟨h3,lg3,[]⟩) (S2.other z0 (by omega) X []) k3
  have hl:h.length≤(bput h2 (nb h 0) (some (.row true 13 [peerC P s' t k]))).length:=by rw[bput_len_eq l0];exact K2.len
  have P3:PeerO h.length h3 P s' t' k':=⟨S3,o3.le hl,o4.le hl⟩
  have P4:=fun x=>P3.other y0 (by omega) x []
  exact ⟨(K3.sub (d:=d)).own2 nb_ge l3 nb_ge (bget_lt y1) _ _ _ (LgG.ok (by repeat first |exact LgG.nil |refine LgG.cons (by first |exact nb_ge |exact Nat.le_trans (K3.len) nb_ge |assumption) ?_)),s',t',k',⟨rfl,rfl,rfl⟩,(P4 _).other (b1 [] _) (by omega) _ []⟩
end
section
variable {F:FuncId→Option AFunc} {meth:Meth} {sm:Summ}
def W48 (F:FuncId→Option AFunc) (meth:Meth) (sm:Summ):Prop:= ∀ (n:Nat) (h:Blks) (lg d:List Nat) (P:PeerD) (s t k:AV),PeerAt h P s t k→P.send.slots.length≤1000→P.recv.taken.length≤1000→P.recv.kept.length≤1000→
  Wa F meth sm (n+1500) (.fn 48) [.agg (peerC P s t k)] ⟨bxt h [],lg,d⟩ (Qk ⟨h,lg,d⟩ fun w h'=> ∃ s' t' k',w= .agg (peerC P s' t' k')∧PeerO h.length h' P s' t' k')
structure PeersO (k:Nat) (h:Blks) (v:AV) (l:List PX):Prop where
  v:SlO k h 13 v (l.map pxC)
  p: ∀ x∈l,PeerO k h x.p x.s x.t x.k
theorem PeersO.keep {k:Nat} {m m':Mem} {v:AV} {l:List PX} (H:PeersO k m.blks v l) (K:Keep m m'):PeersO k m'.blks v l:=⟨H.v.keep K,fun x hx=>(H.p x hx).keep K⟩
theorem PeersO.bx {k:Nat} {h:Blks} {v:AV} {l:List PX} (H:PeersO k h v l) (q:List (Option ABlk)):PeersO k (bxt h q) v l:=⟨H.v.bx q,fun x hx=>(H.p x hx).bx q⟩
theorem PeersO.le {k k':Nat} {h:Blks} {v:AV} {l:List PX} (H:PeersO k h v l) (c:k'≤k):PeersO k' h v l:=⟨H.v.le c,fun x hx=>(H.p x hx).le c⟩
theorem PeersO.below {k:Nat} {h:Blks} {v:AV} {l:List PX} {b:Nat} (H:PeersO k h v l) (hb:b<h.length) (hk:b<k) (x:Option ABlk) (q:List (Option ABlk)):PeersO k (bxt (bput h b x) q) v l:=⟨H.v.below hb hk x q,fun y hy=>(H.p y hy).below hb hk x q⟩
theorem PeersO.other {k:Nat} {h:Blks} {v:AV} {l:List PX} {b e':Nat} {own:Bool} {rows:List (List AV)} (H:PeersO k h v l) (hb:bget h b=some (.row own e' rows)) (hne:13<e') (x:Option ABlk) (q:List (Option ABlk)):PeersO k (bxt (bput h b x) q) v l:=⟨H.v.other hb (by omega) x q,fun y hy=>(H.p y hy).other hb (by omega) x q⟩
theorem OutAt.slo {k:Nat} {h:Blks} {e:Nat} {v:AV} {es:List (List AV)} (H:OutAt k h e v es):SlO k h e v es:=⟨H.sl,H.noosl,fun c hc=>by
  rcases H with ⟨hn,rfl⟩|⟨b,rfl,hk,hb⟩
  · cases hc
  · simp only[AV.refs,List.mem_singleton] at hc;omega⟩
def PL (P:PeerD):Prop:=P.send.slots.length≤1000∧P.recv.taken.length≤1000∧P.recv.kept.length≤1000
theorem e27 (hF:F 27=some AF27) (hs: ∀ vs m,sm 27 vs m=none) (n:Nat) (h:Blks) (lg d:List Nat) (g48:W48 F meth sm) {l:List PX} {v:AV} (H:PeersAt h v l) (hl:l.length≤1000) (hp: ∀ x∈l,PL x.p):Wa F meth sm (n+2000) (.fn 27) [v] ⟨bxt h [],lg,d⟩ (Qk ⟨h,lg,d⟩ fun w h'=> ∃ l',PeersO h.length h' w l'∧l'.map (·.p)=l.map (·.p)):=by
  have lv:=H.v.len
  simp+contextual -implicitDefEqProofs (maxSteps:=1000000) (maxDischargeDepth:=20) only[go_sem,simprocAttr,hs,hF,AF27,lv,List.length_map,q_k]
  refine WloopE (α:=AV × List PX) l.length [X4,X3] (fun i a=> [.int .i64 i,a.1]) (fun i a m'=>Keep ⟨h,lg,[]⟩ m'∧OutAt h.length m'.blks 13 a.1 (a.2.map pxC)∧(∀ x∈a.2,PeerO h.length m'.blks x.p x.s x.t x.k)∧a.2.map (·.p)=(l.take i).map (·.p)) (by omega) (by repeat first |apply Cl_b |apply Cl_q |apply Cl_r) ⟨(.nilslice,[]),rfl,keep_bx (by repeat first |exact LogOK.nil |apply LogOK.cons),.nil rfl rfl,fun x hx=>by (cases hx),rfl⟩ (fun i a m' g hi hP=> ?_) (fun a m' g hP=> ?_)
  · obtain ⟨h',lg',d'⟩:=m'
    obtain ⟨vo,L⟩:=a
    obtain ⟨k,ho,hL,eL⟩:=hP
    obtain rfl:d'=[]:=k.dfrs
    simp only at ho hL eL
    have hv':PeersAt h' v l:=PeersAt.keep (m:=⟨h,lg,[]⟩) (m':=⟨h',lg',[]⟩) H k
    have e:=hv'.v.el hi
    have lv':=hv'.v.len
    have r:=rnd hi (by omega)
    have hx:=hv'.p _ (gt_mem hi)
    have d1:=hx.s.s.sc
    have d2:=hx.r.t.sc
    have d3:=hx.r.k.sc
    have pl:=hp _ (gt_mem hi)
    have len1:L.length≤1000:=by
      have:=congrArg List.length eL
      rw[List.length_map,List.length_map,List.length_take] at this
      omega
    have et:(l.take (i+1)).map (·.p)=(l.take i).map (·.p)++ [(gt l i).p]:=by
      rw[List.take_add_one,List.getElem?_eq_getElem hi,Option.toList_some,List.map_append,gt_eq hi];rfl
    unfold pxC peerC at e
    refine Wc_bx ?_
    simp+contextual -implicitDefEqProofs (maxSteps:=1000000) (maxDischargeDepth:=20) only[go_sem,simprocAttr,e,r,d1,d2,d3,lv',List.length_map]
    rw[←w_a]
    refine Wa_k (g48 (n+499) h' _ _ (gt l i).p (gt l i).s (gt l i).t (gt l i).k hx pl.1 pl.2.1 pl.2.2) (fun w h2 lg2 k2 hw2=> ?_)
    obtain ⟨s',t',q',rfl,op⟩:=hw2
    have kk:Keep ⟨h,lg,[]⟩ ⟨h2,lg2,[]⟩:=k.trans k2
    have op':=op.le k.len
    have ho2:OutAt h.length h2 13 vo (L.map pxC):=OutAt.keep (m:=⟨h',lg',[]⟩) (m':=⟨h2,lg2,[]⟩) ho k2
    have hL2: ∀ x∈L,PeerO h.length h2 x.p x.s x.t x.k:=fun x hx=>PeerO.keep (m:=⟨h',lg',[]⟩) (m':=⟨h2,lg2,[]⟩) (hL x hx) k2
    have f1:=op.s.sl.sc
    have f2:=op.t.sl.sc
    have f3:=op.q.sl.sc
    have mapE: ∀ (hq:Blks),(∀ x∈L,PeerO h.length hq x.p x.s x.t x.k)→PeerO h.length hq (gt l i).p s' t' q'→ ∀ x∈L++ [(⟨(gt l i).p,s',t',q'⟩:PX)],PeerO h.length hq x.p x.s x.t x.k:=fun hq h1 h2 x hx=>by
      rcases List.mem_append.1 hx with hx |hx
      · exact h1 x hx
      · rw[List.mem_singleton] at hx;subst hx;exact h2
    have eE:(L++ [(⟨(gt l i).p,s',t',q'⟩:PX)]).map (·.p)=(l.take (i+1)).map (·.p):=by rw[List.map_append,eL,et];rfl
    rcases ho2 with ⟨hn,rfl⟩|⟨bo,rfl,hk,hbo⟩
    · simp+contextual -implicitDefEqProofs (maxSteps:=1000000) (maxDischargeDepth:=20) only[go_sem,simprocAttr,peerC,r,f1,f2,f3,e_n,e_e,e_r]
      refine ⟨(.slice (nb h2 1) 0 1 none,L++ [⟨(gt l i).p,s',t',q'⟩]),rfl,kk.trans (keep_bx (by repeat first |exact LogOK.nil |apply LogOK.cons)),?_,mapE _ (fun x hx=>(hL2 x hx).bx _) (op'.bx _),eE⟩
      rw[List.map_append,hn]
      exact .some (nb h2 1) rfl (Nat.le_trans kk.len nb_ge) nb_get
    · have o:=old_blk (bget_lt hbo)
      have hbo': ∀ l,bget (bxt h2 l) bo=_:=fun l=>(bxt_old l h2 _ (bget_lt hbo)).trans hbo
      have fA:(1000000000000<(L.length+1)*152)=False:=by simp;omega
      have fC:List.take L.length (L.map pxC)=L.map pxC:=List.take_of_length_le (by simp)
      rw[List.length_map]
      simp+contextual -implicitDefEqProofs (maxSteps:=1000000) (maxDischargeDepth:=20) only[go_sem,simprocAttr,peerC,r,f1,f2,f3,e_n,e_e,e_r,o,hbo',List.length_map,fA,fB,fC]
      refine ⟨(.slice (nb h2 1) 0 (L.length+1) none,L++ [⟨(gt l i).p,s',t',q'⟩]),rfl,kk.own hk (bget_lt hbo) _ _ (LgG.ok (by repeat first |exact LgG.nil |refine LgG.cons (by first |exact nb_ge |exact Nat.le_trans (kk.len) nb_ge |assumption) ?_)),?_,mapE _ (fun x hx=>(hL2 x hx).other hbo (by omega) _ _) (op'.other hbo (by omega) _ _),eE⟩
      rw[List.map_append]
      exact .some (nb h2 1) (by simp) (Nat.le_trans kk.len nb_ge) (o.2.1 _ _ _)
  · obtain ⟨h',lg',d'⟩:=m'
    obtain ⟨vo,L⟩:=a
    obtain ⟨k,ho,hL,eL⟩:=hP
    obtain rfl:d'=[]:=k.dfrs
    simp only at ho hL eL
    have hv':PeersAt h' v l:=PeersAt.keep (m:=⟨h,lg,[]⟩) (m':=⟨h',lg',[]⟩) H k
    have lv':=hv'.v.len
    have r:=rndl l.length
    rw[List.take_length] at eL
    refine Wc_bx ?_
    simp+contextual -implicitDefEqProofs (maxSteps:=1000000) (maxDischargeDepth:=20) only[go_sem,simprocAttr,r,q_k,lv',List.length_map]
    exact ⟨k.sub (d:=d),L,⟨ho.slo,hL⟩,eL⟩
end
theorem o4 {a b c d e:Prop} (h:a∧b∧c∧d∧e):a∧b∧c∧e:=⟨h.1,h.2.1,h.2.2.1,h.2.2.2.2⟩
section
variable {F:FuncId→Option AFunc} {meth:Meth} {sm:Summ}
structure ViewO (k:Nat) (h:Blks) (x:VX):Prop where
  b:SlO k h 9 x.b (x.v.st.held.map bunC)
  m:SlO k h 4 x.m (x.v.st.seen.map markC)
  p:PeersO k h x.p x.lp
  q:PeersO k h x.q x.lq
  e:x.v.st.peers=x.lp.map (·.p)
  f:x.v.peers=x.lq.map (·.p)
theorem ViewO.keep {k:Nat} {m m':Mem} {x:VX} (H:ViewO k m.blks x) (K:Keep m m'):ViewO k m'.blks x:=⟨H.b.keep K,H.m.keep K,H.p.keep K,H.q.keep K,H.e,H.f⟩
theorem ViewO.bx {k:Nat} {h:Blks} {x:VX} (H:ViewO k h x) (q:List (Option ABlk)):ViewO k (bxt h q) x:=⟨H.b.bx q,H.m.bx q,H.p.bx q,H.q.bx q,H.e,H.f⟩
theorem ViewO.le {k k':Nat} {h:Blks} {x:VX} (H:ViewO k h x) (c:k'≤k):ViewO k' h x:=⟨H.b.le c,H.m.le c,H.p.le c,H.q.le c,H.e,H.f⟩
theorem ViewO.below {k:Nat} {h:Blks} {x:VX} {b:Nat} (H:ViewO k h x) (hb:b<h.length) (hk:b<k) (y:Option ABlk) (q:List (Option ABlk)):ViewO k (bxt (bput h b y) q) x:=⟨H.b.below hb hk y q,H.m.below hb hk y q,H.p.below hb hk y q,H.q.below hb hk y q,H.e,H.f⟩
theorem PeersO.oth {k:Nat} {h:Blks} {v:AV} {l:List PX} {b e':Nat} {own:Bool} {rows:List (List AV)} (H:PeersO k h v l) (hb:bget h b=some (.row own e' rows)) (hne:e'=26∨e'=3) (x:Option ABlk) (q:List (Option ABlk)):PeersO k (bxt (bput h b x) q) v l:=
  ⟨H.v.other hb (by omega) x q,fun y hy=>⟨(H.p y hy).s.other hb (by omega) x q,(H.p y hy).t.other hb (by omega) x q,(H.p y hy).q.other hb (by omega) x q⟩⟩
theorem ViewO.oth {k:Nat} {h:Blks} {x:VX} {b e':Nat} {own:Bool} {rows:List (List AV)} (H:ViewO k h x) (hb:bget h b=some (.row own e' rows)) (hne:e'=26∨e'=3) (y:Option ABlk) (q:List (Option ABlk)):ViewO k (bxt (bput h b y) q) x:=⟨H.b.other hb (by omega) y q,H.m.other hb (by omega) y q,H.p.oth hb hne y q,H.q.oth hb hne y q,H.e,H.f⟩
def W8 (F:FuncId→Option AFunc) (meth:Meth) (sm:Summ):Prop:= ∀ (n:Nat) (h:Blks) (lg d:List Nat) (l:List BunD) (v:AV),SlAt h 9 v (l.map bunC)→l.length≤1000→
  Wa F meth sm (n+1000) (.fn 8) [v] ⟨bxt h [],lg,d⟩ (Qk ⟨h,lg,d⟩ fun w h'=>SlO h.length h' 9 w (l.map bunC))
def W26 (F:FuncId→Option AFunc) (meth:Meth) (sm:Summ):Prop:= ∀ (n:Nat) (h:Blks) (lg d:List Nat) (l:List MarkD) (v:AV),SlAt h 4 v (l.map markC)→l.length≤1000→
  Wa F meth sm (n+1000) (.fn 26) [v] ⟨bxt h [],lg,d⟩ (Qk ⟨h,lg,d⟩ fun w h'=>SlO h.length h' 4 w (l.map markC))
def W28 (F:FuncId→Option AFunc) (meth:Meth) (sm:Summ):Prop:= ∀ (n:Nat) (h:Blks) (lg d:List Nat) (l:List (List UInt8)) (v:AV),SlAt h 1 v (l.map strC)→l.length≤1000→
  Wa F meth sm (n+1000) (.fn 28) [v] ⟨bxt h [],lg,d⟩ (Qk ⟨h,lg,d⟩ fun w h'=>SlO h.length h' 1 w (l.map strC))
def W27 (F:FuncId→Option AFunc) (meth:Meth) (sm:Summ):Prop:= ∀ (n:Nat) (h:Blks) (lg d:List Nat) (l:List PX) (v:AV),PeersAt h v l→l.length≤1000→(∀ x∈l,PL x.p)→
  Wa F meth sm (n+2000) (.fn 27) [v] ⟨bxt h [],lg,d⟩ (Qk ⟨h,lg,d⟩ fun w h'=> ∃ l',PeersO h.length h' w l'∧l'.map (·.p)=l.map (·.p))
structure OwnI (h:Blks) (lg:List Nat) (s:SnapX) (i:Nat) (a:AV × List VX) (m:Mem):Prop where
  k:Keep ⟨h,lg,[]⟩ m
  b0:bget m.blks (nb h 0)=some (.row true 3 [[.int .i64 s.now,s.nv,s.lv]])
  b1:bget m.blks (nb h 1)=some (.row true 3 [[.int .i64 0,.nilslice,.nilslice]])
  b2:bget m.blks (nb h 2)=some (.row true 3 [[.int .i64 s.now,a.1,.nilslice]])
  ho:OutAt (nb h 3) m.blks 26 a.1 (a.2.map viewC)
  hv: ∀ x∈a.2,ViewO (nb h 3) m.blks x
  e:a.2.map (·.v)=(s.vs.take i).map (·.v)
structure OwnJ (h:Blks) (lg:List Nat) (s:SnapX) (vo:AV) (L:List VX) (i:Nat) (a:AV × List LX) (m:Mem):Prop where
  k:Keep ⟨h,lg,[]⟩ m
  b0:bget m.blks (nb h 0)=some (.row true 3 [[.int .i64 s.now,s.nv,s.lv]])
  b1:bget m.blks (nb h 1)=some (.row true 3 [[.int .i64 0,.nilslice,.nilslice]])
  b2:bget m.blks (nb h 2)=some (.row true 3 [[.int .i64 s.now,vo,a.1]])
  ho:SlO (nb h 3) m.blks 26 vo (L.map viewC)
  hv: ∀ x∈L,ViewO (nb h 3) m.blks x
  eL:L.map (·.v)=s.vs.map (·.v)
  hl:OutAt (nb h 3) m.blks 3 a.1 (a.2.map linkC)
  hf: ∀ x∈a.2,SlO (nb h 3) m.blks 1 x.f (x.l.frames.map strC)
  e:a.2.map (·.l)=(s.ls.take i).map (·.l)
structure OwnS (k:Nat) (h:Blks) (s:SnapX):Prop where
  v:SlO k h 26 s.nv (s.vs.map viewC)
  l:SlO k h 3 s.lv (s.ls.map linkC)
  va: ∀ x∈s.vs,ViewO k h x
  la: ∀ x∈s.ls,SlO k h 1 x.f (x.l.frames.map strC)
structure SnapL (s:SnapX):Prop where
  p: ∀ x∈s.vs,∀ y∈x.lp,PL y.p
  q: ∀ x∈s.vs,∀ y∈x.lq,PL y.p
theorem e7 (hF:F 7=some AF7) (hs: ∀ vs m,sm 7 vs m=none) (n:Nat) (h:Blks) (lg d:List Nat) (g8:W8 F meth sm) (g26:W26 F meth sm) (g27:W27 F meth sm) (g28:W28 F meth sm) {s:SnapX} (H:SnapAt h s) (hL:SnapL s):Wa F meth sm (n+3000) (.fn 7) [.agg (snapC s)] ⟨bxt h [],lg,d⟩ (Qk ⟨h,lg,d⟩ fun w h'=> ∃ s',w= .agg (snapC s')∧OwnS h.length h' s'∧s'.d=s.d):=by
  have c1:=H.v.sc
  have c2:=H.l.sc
  simp+contextual -implicitDefEqProofs (maxSteps:=1000000) (maxDischargeDepth:=20) only[go_sem,simprocAttr,hs,hF,AF7,snapC,c1,c2,q_k]
  refine WloopE (α:=AV × List VX) s.vs.length [X4] (fun i a=> [.int .i64 i]) (OwnI h lg s) (by have:=H.w1;omega) (by repeat first |apply Cl_b |apply Cl_q |apply Cl_r) ⟨(.nilslice,[]),rfl,⟨keep_bx (by repeat first |exact LogOK.nil |apply LogOK.cons),nb_get,nb_get,nb_get,.nil rfl rfl,fun x hx=>by (cases hx),rfl⟩⟩ (fun i a m' g hi hP=> ?_) (fun a m' g hP=> ?_)
  · obtain ⟨h',lg',d'⟩:=m'
    obtain ⟨vo,L⟩:=a
    obtain ⟨k,b0,b1,b2,ho,hvv,eL⟩:=hP
    obtain rfl:d'=[]:=k.dfrs
    simp only at b0 b1 b2 ho hvv eL
    have hs':SnapAt h' s:=SnapAt.keep (m:=⟨h,lg,[]⟩) (m':=⟨h',lg',[]⟩) H k
    have e:=hs'.v.el hi
    have l1':=hs'.v.len
    have r:=rnd hi (by have:=H.w1;omega)
    have hx:=hs'.va _ (gt_mem hi)
    have d1:=hx.s.b.sc
    have d2:=hx.s.m.sc
    have d3:=hx.s.p.v.sc
    have d4:=hx.q.v.sc
    have b0': ∀ l,bget (bxt h' l) (nb h 0)=_:=fun l=>(bxt_old l h' _ (bget_lt b0)).trans b0
    unfold viewC at e
    refine Wc_bx ?_
    simp+contextual -implicitDefEqProofs (maxSteps:=1000000) (maxDischargeDepth:=20) only[go_sem,simprocAttr,e,r,d1,d2,d3,d4,b0',l1',List.length_map,r_oF,r_vc,r_vp,mskO,Mem.more,bmore,nb_more,List.filter_nil,List.flatMap_nil,List.filter_cons,List.flatMap_cons,List.map_nil,List.map_cons,mask,unmask,AOp.reads,AOpnd.top,top_p,top_s,top_m,top_i,top_b,top_t,top_a,top_u,top_ns,top_s0,top_d,top_f,nb_beq,nb_blt,nb_add,nidOf,slotIn,Nat.beq_refl,clash,Bool.or_self,List.any_nil,List.any_cons,AOp.isMaker]
    rw[←w_a]
    have ge3:h.length≤h'.length:=k.len
    refine Wa_k (g8 (n+1999) (bxt h' [some (.row true 1 ((viewC (gt s.vs i)).map fun c=> [c]))]) [] [] (gt s.vs i).v.st.held (gt s.vs i).b (hx.s.b.bx _) hx.s.w1) (fun w8 h2 lg2 k2 hw8=> ?_)
    have z2:bget h2 (nb h' 0)=some (.row true 1 ((viewC (gt s.vs i)).map fun c=> [c])):=(k2.get _ (by rw[bxt_len];simp[nb])).trans nb_get
    have l2:nb h' 0<h2.length:=bget_lt z2
    have i2:ins lg2 (nb h' 0)=false:=k2.ins0 (by simp)
    have b22: ∀ q,bget (bxt h2 q) (nb h' 0)=some (.row true 1 ((viewC (gt s.vs i)).map fun c=> [c])):=fun q=>(bxt_old q h2 _ l2).trans z2
    have K2:Keep ⟨h',lg',[]⟩ ⟨h2,lg2++(nb h' 0::nb h' 0::lg'),[]⟩:=(keep_bx (l:=[some (.row true 1 ((viewC (gt s.vs i)).map fun c=> [c]))]) (by repeat first |exact LogOK.nil |apply LogOK.cons)).trans (k2.lg _ [])
    have x2:ViewAt h2 (gt s.vs i):=ViewAt.keep (m:=⟨h',lg',[]⟩) (m':=⟨h2,_,[]⟩) hx K2
    have sc8:=hw8.sl.sc
    have ce8:=hw8.sl.cells
    unfold viewC at b22
    simp only[List.map_cons,List.map_nil] at b22
    simp+contextual -implicitDefEqProofs (maxSteps:=1000000) (maxDischargeDepth:=20) only[go_sem,simprocAttr,b22,i2,r_oF,r_oL,r_oM,Bool.cond_self,r_vc,r_vp,mskO,Mem.more,bmore,nb_more,List.filter_nil,List.flatMap_nil,List.filter_cons,List.flatMap_cons,List.map_nil,List.map_cons,mask,unmask,AOp.reads,AOpnd.top,top_p,top_s,top_m,top_i,top_b,top_t,top_a,top_u,top_ns,top_s0,top_d,top_f,nb_beq,nb_blt,nb_add,nidOf,slotIn,Nat.beq_refl,clash,Bool.or_self,List.any_nil,List.any_cons,AOp.isMaker]
    rw[←w_a]
    refine Wa_k (g26 (n+1999) h2 [] [] (gt s.vs i).v.st.seen (gt s.vs i).m x2.s.m x2.s.w2) (fun w26 h3 lg3 k3 hw26=> ?_)
    have z3:bget h3 (nb h' 0)=some (.row true 1 ((viewC (gt s.vs i)).map fun c=> [c])):=(k3.get _ l2).trans z2
    have l3:nb h' 0<h3.length:=bget_lt z3
    have b33: ∀ q,bget (bxt h3 q) (nb h' 0)=some (.row true 1 ((viewC (gt s.vs i)).map fun c=> [c])):=fun q=>(bxt_old q h3 _ l3).trans z3
    have K3:=K2.trans (k3.lg _ [])
    have sc26:=hw26.sl.sc
    have ce26:=hw26.sl.cells
    have ob3:=old_blk l3
    unfold viewC at b33
    simp only[List.map_cons,List.map_nil] at b33
    simp+contextual -implicitDefEqProofs (maxSteps:=1000000) (maxDischargeDepth:=20) only[go_sem,simprocAttr,b33,ob3,sc8,sc26,ce8,ce26,d3,d4,r_oF,r_oL,r_oM,Bool.cond_self,r_vc,r_vp,mskO,Mem.more,bmore,nb_more,List.filter_nil,List.flatMap_nil,List.filter_cons,List.flatMap_cons,List.map_nil,List.map_cons,mask,unmask,AOp.reads,AOpnd.top,top_p,top_s,top_m,top_i,top_b,top_t,top_a,top_u,top_ns,top_s0,top_d,top_f,nb_beq,nb_blt,nb_add,nidOf,slotIn,Nat.beq_refl,clash,Bool.or_self,List.any_nil,List.any_cons,AOp.isMaker]
    rw[←w_a]
    obtain ⟨R1,hR1⟩: ∃ R1:Option ABlk,R1=some (.row true 1 ((viewC ⟨(gt s.vs i).v,w8,w26,(gt s.vs i).p,(gt s.vs i).lp,(gt s.vs i).q,(gt s.vs i).lq⟩).map fun c=> [c])):=⟨_,rfl⟩
    have hge':h'.length≤nb h' 0:=nb_ge
    have lM:(bput h3 (nb h' 0) R1).length=h3.length:=bput_len_eq l3
    have KM:=K3.own (b:=nb h' 0) hge' l3 R1 [] (lg2:=nb h' 0::nb h' 0::(lg3++(lg2++(nb h' 0::nb h' 0::lg')))) (LgG.ok (.cons hge' (.cons hge' .nil)))
    have xM:ViewAt (bput h3 (nb h' 0) R1) (gt s.vs i):=ViewAt.keep (m:=⟨h',lg',[]⟩) (m':=⟨bput h3 (nb h' 0) R1,_,[]⟩) hx KM
    have gM:=g27 (n+999) (bput h3 (nb h' 0) R1) [] [] (gt s.vs i).lp (gt s.vs i).p xM.s.p xM.s.w3 (hL.p _ (gt_mem hi))
    rw[hR1] at gM
    refine Wa_k gM (fun w27 h4 lg4 k4 hw27=> ?_)
    have k4:Keep ⟨bput h3 (nb h' 0) R1,[],[]⟩ ⟨h4,lg4,[]⟩:=by rw[hR1];exact k4
    have hw27: ∃ l',PeersO (bput h3 (nb h' 0) R1).length h4 w27 l'∧l'.map (·.p)=(gt s.vs i).lp.map (·.p):=by rw[hR1];exact hw27
    obtain ⟨lp',op',ep'⟩:=hw27
    have zM:bget (bput h3 (nb h' 0) R1) (nb h' 0)=R1:=by rw[bget_set l3,if_pos rfl]
    have l4:nb h' 0<h4.length:=Nat.lt_of_lt_of_le (by rw[←lM] at l3;exact l3) k4.len
    have z4:bget h4 (nb h' 0)=some (.row true 1 ((viewC ⟨(gt s.vs i).v,w8,w26,(gt s.vs i).p,(gt s.vs i).lp,(gt s.vs i).q,(gt s.vs i).lq⟩).map fun c=> [c])):=((k4.get (nb h' 0) (by show _<(bput h3 _ R1).length;rw[lM];exact l3)).trans zM).trans hR1
    have i4:ins lg4 (nb h' 0)=false:=k4.insl (by rw[lM];exact l3)
    have b44: ∀ q,bget (bxt h4 q) (nb h' 0)=_:=fun q=>(bxt_old q h4 _ l4).trans z4
    have K4:=KM.trans (k4.lg _ [])
    have x4:ViewAt h4 (gt s.vs i):=ViewAt.keep (m:=⟨h',lg',[]⟩) (m':=⟨h4,_,[]⟩) hx K4
    have sc27:=op'.v.sl.sc
    have ce27:=op'.v.sl.cells
    unfold viewC at b44
    simp only[List.map_cons,List.map_nil] at b44
    simp+contextual -implicitDefEqProofs (maxSteps:=1000000) (maxDischargeDepth:=20) only[go_sem,simprocAttr,b44,i4,r_oF,r_oL,r_oM,Bool.cond_self,r_vc,r_vp,mskO,Mem.more,bmore,nb_more,List.filter_nil,List.flatMap_nil,List.filter_cons,List.flatMap_cons,List.map_nil,List.map_cons,mask,unmask,AOp.reads,AOpnd.top,top_p,top_s,top_m,top_i,top_b,top_t,top_a,top_u,top_ns,top_s0,top_d,top_f,nb_beq,nb_blt,nb_add,nidOf,slotIn,Nat.beq_refl,clash,Bool.or_self,List.any_nil,List.any_cons,AOp.isMaker]
    rw[←w_a]
    refine Wa_k (g27 (n+999) h4 [] [] (gt s.vs i).lq (gt s.vs i).q x4.q x4.w (hL.q _ (gt_mem hi))) (fun w27q h5 lg5 k5 hw27q=> ?_)
    obtain ⟨lq',oq',eq'⟩:=hw27q
    have z5:bget h5 (nb h' 0)=some (.row true 1 ((viewC ⟨(gt s.vs i).v,w8,w26,(gt s.vs i).p,(gt s.vs i).lp,(gt s.vs i).q,(gt s.vs i).lq⟩).map fun c=> [c])):=(k5.get _ l4).trans z4
    have l5:nb h' 0<h5.length:=bget_lt z5
    have b55: ∀ q,bget (bxt h5 q) (nb h' 0)=_:=fun q=>(bxt_old q h5 _ l5).trans z5
    have K5:=K4.trans (k5.lg _ [])
    have sc27q:=oq'.v.sl.sc
    have ce27q:=oq'.v.sl.cells
    have ob5:=old_blk l5
    have y2:bget h5 (nb h 2)=some (.row true 3 [[.int .i64 s.now,vo,.nilslice]]):=(K5.get _ (bget_lt b2)).trans b2
    have n20:nb h 2≠nb h' 0:=fun q=>by have:=bget_lt b2;rw[q] at this;simp only[nb] at this;omega
    have b25: ∀ q x,bget (bxt (bput h5 (nb h' 0) x) q) (nb h 2)=_:=fun q x=>(old_get l5 (bget_lt y2) n20 q x).trans y2
    have l25: ∀ x,nb h 2<(bput h5 (nb h' 0) x).length:=fun x=>by rw[bput_len_eq l5];exact bget_lt y2
    have ob2:=fun x=>old_blk (h:=bput h5 (nb h' 0) x) (b:=nb h 2) (l25 x)
    unfold viewC at b55
    simp only[List.map_cons,List.map_nil] at b55
    have ho5:OutAt (nb h 3) h5 26 vo (L.map viewC):=OutAt.keep (m:=⟨h',lg',[]⟩) (m':=⟨h5,_,[]⟩) ho K5
    have hv5: ∀ x∈L,ViewO (nb h 3) h5 x:=fun x hx=>ViewO.keep (m:=⟨h',lg',[]⟩) (m':=⟨h5,_,[]⟩) (hvv x hx) K5
    have len1:L.length≤1000:=by
      have:=congrArg List.length eL
      rw[List.length_map,List.length_map,List.length_take] at this
      have:=H.w1
      omega
    have KN: ∀ R,Keep ⟨h',lg',[]⟩ ⟨bput h5 (nb h' 0) R,_,[]⟩:=fun R=>K5.own hge' l5 R [] ⟨[],rfl,fun y hy=>by cases hy⟩
    have gB: ∀ R,h.length≤(bput h5 (nb h' 0) R).length:=fun R=>Nat.le_trans ge3 (KN R).len
    have lB: ∀ R,(bput h5 (nb h' 0) R).length=h5.length:=fun R=>bput_len_eq l5
    have h0':h.length≤nb h' 0:=Nat.le_trans ge3 hge'
    have lt2':nb h 2<h'.length:=bget_lt b2
    have h3':nb h 3≤nb h' 1:=by simp only[nb] at lt2' ⊢;omega
    have gB2: ∀ R,nb h 3≤nb (bput h5 (nb h' 0) R) 1:=fun R=>by have:=(KN R).len;simp only[nb] at lt2' this ⊢;omega
    have lb2:nb h' 1≤h2.length:=by have:=k2.len;simp only[bxt_len,nb] at this ⊢;exact this
    have lb3:nb h' 1≤h3.length:=Nat.le_trans lb2 k3.len
    have lb4:nb h' 1≤h4.length:=Nat.le_trans (Nat.le_trans lb3 (Nat.le_of_eq lM.symm)) k4.len
    have nvA:ViewO (nb h' 1) h5 ⟨(gt s.vs i).v,w8,w26,w27,lp',w27q,lq'⟩:=by
      have q8:SlO (nb h' 1) h2 9 w8 ((gt s.vs i).v.st.held.map bunC):=hw8.le (by rw[bxt_len];exact Nat.le_refl _)
      have q26:SlO (nb h' 1) h3 4 w26 ((gt s.vs i).v.st.seen.map markC):=hw26.le lb2
      have q27:PeersO (nb h' 1) h4 w27 lp':=op'.le (by rw[lM];exact lb3)
      have q27q:PeersO (nb h' 1) h5 w27q lq':=oq'.le lb4
      have q8b:=(SlO.keep (m:=⟨h2,[],[]⟩) (m':=⟨h3,lg3,[]⟩) q8 k3).below l3 (by simp[nb]) R1 []
      have q26b:=q26.below l3 (by simp[nb]) R1 []
      refine ⟨?_,?_,?_,q27q,?_,?_⟩
      · exact SlO.keep (m:=⟨h4,[],[]⟩) (m':=⟨h5,lg5,[]⟩) (SlO.keep (m:=⟨bput h3 (nb h' 0) R1,[],[]⟩) (m':=⟨h4,lg4,[]⟩) q8b k4) k5
      · exact SlO.keep (m:=⟨h4,[],[]⟩) (m':=⟨h5,lg5,[]⟩) (SlO.keep (m:=⟨bput h3 (nb h' 0) R1,[],[]⟩) (m':=⟨h4,lg4,[]⟩) q26b k4) k5
      · exact PeersO.keep (m:=⟨h4,[],[]⟩) (m':=⟨h5,lg5,[]⟩) q27 k5
      · exact hx.s.e.trans ep'.symm
      · exact hx.e.trans eq'.symm
    have nv: ∀ R R3 q,ViewO (nb h 3) (bxt (bput (bput h5 (nb h' 0) R) (nb h 2) R3) q) ⟨(gt s.vs i).v,w8,w26,w27,lp',w27q,lq'⟩:=fun R R3 q=>((nvA.below l5 (by simp[nb]) R []).below (l25 R) (Nat.lt_of_lt_of_le (by simp[nb]) h3') R3 q).le h3'
    have ov: ∀ R R3 q,∀ x∈L,ViewO (nb h 3) (bxt (bput (bput h5 (nb h' 0) R) (nb h 2) R3) q) x:=fun R R3 q x hx=>(ViewO.keep (m:=⟨h',lg',[]⟩) (m':=⟨bput h5 (nb h' 0) R,_,[]⟩) (hvv x hx) (KN R)).below (l25 R) (by simp[nb]) R3 q
    have av: ∀ R R3 q,∀ x∈L++ [(⟨(gt s.vs i).v,w8,w26,w27,lp',w27q,lq'⟩:VX)],ViewO (nb h 3) (bxt (bput (bput h5 (nb h' 0) R) (nb h 2) R3) q) x:=fun R R3 q x hx=>by
      rcases List.mem_append.1 hx with hx |hx
      · exact ov R R3 q x hx
      · rw[List.mem_singleton] at hx;subst hx;exact nv R R3 q
    have eE:(L++ [(⟨(gt s.vs i).v,w8,w26,w27,lp',w27q,lq'⟩:VX)]).map (·.v)=(s.vs.take (i+1)).map (·.v):=by
      rw[List.map_append,eL,List.take_add_one,List.getElem?_eq_getElem hi,Option.toList_some,List.map_append,gt_eq hi];rfl
    have c0: ∀ R R3 q,bget (bxt (bput (bput h5 (nb h' 0) R) (nb h 2) R3) q) (nb h 0)=_:=fun R R3 q=>(old_get (l25 R) (Nat.lt_of_lt_of_le (bget_lt b0) (KN R).len) (by simp[nb]) q R3).trans (((KN R).get _ (bget_lt b0)).trans b0)
    have c1': ∀ R R3 q,bget (bxt (bput (bput h5 (nb h' 0) R) (nb h 2) R3) q) (nb h 1)=_:=fun R R3 q=>(old_get (l25 R) (Nat.lt_of_lt_of_le (bget_lt b1) (KN R).len) (by simp[nb]) q R3).trans (((KN R).get _ (bget_lt b1)).trans b1)
    rcases ho with ⟨hn,rfl⟩|⟨bo,rfl,hk,hbo⟩
    · simp+contextual -implicitDefEqProofs (maxSteps:=1000000) (maxDischargeDepth:=20) only[go_sem,simprocAttr,b55,o4 ob5,b25,fun x=>o4 (ob2 x),sc8,sc26,sc27,sc27q,ce27,ce27q,r,r_oF,r_oL,r_oM,Bool.cond_self,r_vc,r_vp,mskO,Mem.more,bmore,nb_more,List.filter_nil,List.flatMap_nil,List.filter_cons,List.flatMap_cons,List.map_nil,List.map_cons,mask,unmask,AOp.reads,AOpnd.top,top_p,top_s,top_m,top_i,top_b,top_t,top_a,top_u,top_ns,top_s0,top_d,top_f,nb_beq,nb_blt,nb_add,nidOf,slotIn,Nat.beq_refl,clash,Bool.or_self,List.any_nil,List.any_cons,AOp.isMaker,e_n,e_e,e_r]
      refine ⟨(.slice (nb (bput h5 (nb h' 0) _) 1) 0 1 none,L++ [⟨(gt s.vs i).v,w8,w26,w27,lp',w27q,lq'⟩]),(k.trans K5).own2 h0' l5 nb_ge (bget_lt y2) _ _ _ (LgG.ok (.cons nb_ge (.cons (Nat.le_trans (gB _) nb_ge) (.cons (Nat.le_trans (gB _) nb_ge) (.cons h0' (.cons h0' .nil)))))),c0 _ _ _,c1' _ _ _,(ob2 _).2.2.2.2.1 _ _,?_,av _ _ _,eE⟩
      rw[List.map_append,hn]
      exact .some _ rfl (gB2 _) ((ob2 _).2.1 _ _ _)
    · have lo':=bget_lt hbo
      have bo5: ∀ R,bget (bput h5 (nb h' 0) R) bo=_:=fun R=>((KN R).get _ lo').trans hbo
      have lo5: ∀ R,bo<(bput h5 (nb h' 0) R).length:=fun R=>bget_lt (bo5 R)
      have bo5': ∀ R q,bget (bxt (bput h5 (nb h' 0) R) q) bo=_:=fun R q=>(bxt_old q _ _ (lo5 R)).trans (bo5 R)
      have b25n: ∀ x,bget (bput h5 (nb h' 0) x) (nb h 2)=_:=b25 []
      have n2o:nb h 2≠bo:=fun q=>by rw[←q] at hk;simp[nb] at hk
      have obo:=fun R=>old_blk (h:=bput h5 (nb h' 0) R) (b:=bo) (lo5 R)
      have obb:=fun R=>old_blk2 (h:=bput h5 (nb h' 0) R) (b:=bo) (c:=nb h 2) (lo5 R) (l25 R) n2o
      have fA:(1000000000000<(L.length+1)*272)=False:=by simp;omega
      have fC:List.take L.length (L.map viewC)=L.map viewC:=List.take_of_length_le (by simp)
      rw[List.length_map] at*
      simp+contextual -implicitDefEqProofs (maxSteps:=1000000) (maxDischargeDepth:=20) only[go_sem,simprocAttr,b55,o4 ob5,b25,b25n,fun x=>o4 (ob2 x),fun x=>o4 (obo x),fun x=>o4 (obb x),bo5',sc8,sc26,sc27,sc27q,ce27,ce27q,r,r_oF,r_oL,r_oM,Bool.cond_self,r_vc,r_vp,mskO,Mem.more,bmore,nb_more,List.filter_nil,List.flatMap_nil,List.filter_cons,List.flatMap_cons,List.map_nil,List.map_cons,mask,unmask,AOp.reads,AOpnd.top,top_p,top_s,top_m,top_i,top_b,top_t,top_a,top_u,top_ns,top_s0,top_d,top_f,nb_beq,nb_blt,nb_add,nidOf,slotIn,Nat.beq_refl,clash,Bool.or_self,List.any_nil,List.any_cons,AOp.isMaker,e_n,e_e,e_r,fA,fB,fC,List.length_map]
      have nvo: ∀ R R3 q,ViewO (nb h 3) (bxt (bput (bput (bput h5 (nb h' 0) R) bo none) (nb h 2) R3) q) ⟨(gt s.vs i).v,w8,w26,w27,lp',w27q,lq'⟩:=fun R R3 q=>(((nvA.below l5 (by simp[nb]) R []).below (b:=bo) (lo5 R) (by simp[nb];omega) none []).below (by show nb h 2<(bput (bput h5 (nb h' 0) R) bo none).length;rw[bput_len_eq (lo5 R)];exact l25 R) (Nat.lt_of_lt_of_le (by simp[nb]) h3') R3 q).le h3'
      have ovo: ∀ R R3 q,∀ x∈L,ViewO (nb h 3) (bxt (bput (bput (bput h5 (nb h' 0) R) bo none) (nb h 2) R3) q) x:=fun R R3 q x hx=>((ViewO.keep (m:=⟨h',lg',[]⟩) (m':=⟨bput h5 (nb h' 0) R,_,[]⟩) (hvv x hx) (KN R)).oth (bo5 R) (.inl rfl) none []).below (by show nb h 2<(bput (bput h5 (nb h' 0) R) bo none).length;rw[bput_len_eq (lo5 R)];exact l25 R) (by simp[nb]) R3 q
      have avo: ∀ R R3 q,∀ x∈L++ [(⟨(gt s.vs i).v,w8,w26,w27,lp',w27q,lq'⟩:VX)],ViewO (nb h 3) (bxt (bput (bput (bput h5 (nb h' 0) R) bo none) (nb h 2) R3) q) x:=fun R R3 q x hx=>by
        rcases List.mem_append.1 hx with hx |hx
        · exact ovo R R3 q x hx
        · rw[List.mem_singleton] at hx;subst hx;exact nvo R R3 q
      have c0o: ∀ R R3 q,bget (bxt (bput (bput (bput h5 (nb h' 0) R) bo none) (nb h 2) R3) q) (nb h 0)=_:=fun R R3 q=>(old_get2 (lo5 R) (l25 R) (Nat.lt_of_lt_of_le (bget_lt b0) (KN R).len) (fun z=>by rw[←z] at hk;simp only[nb] at hk;omega) (by simp[nb]) q none R3).trans (((KN R).get _ (bget_lt b0)).trans b0)
      have c1o: ∀ R R3 q,bget (bxt (bput (bput (bput h5 (nb h' 0) R) bo none) (nb h 2) R3) q) (nb h 1)=_:=fun R R3 q=>(old_get2 (lo5 R) (l25 R) (Nat.lt_of_lt_of_le (bget_lt b1) (KN R).len) (fun z=>by rw[←z] at hk;simp only[nb] at hk;omega) (by simp[nb]) q none R3).trans (((KN R).get _ (bget_lt b1)).trans b1)
      have hko:h.length≤bo:=Nat.le_trans nb_ge hk
      refine ⟨(.slice (nb (bput h5 (nb h' 0) _) 1) 0 (L.length+1) none,L++ [⟨(gt s.vs i).v,w8,w26,w27,lp',w27q,lq'⟩]),(k.trans (KN _)).own2 hko (lo5 _) nb_ge (l25 _) _ _ _ (LgG.ok (.cons nb_ge (.cons (Nat.le_trans (gB _) nb_ge) (.cons hko (.cons (Nat.le_trans (gB _) nb_ge) (.cons h0' (.cons h0' .nil))))))),c0o _ _ _,c1o _ _ _,(obb _).2.2.2.2.1 _ _ _,?_,avo _ _ _,eE⟩
      rw[List.map_append]
      exact .some _ (by simp) (gB2 _) ((obb _).2.1 _ _ _ _)
  · obtain ⟨h',lg',d'⟩:=m'
    obtain ⟨vo,L⟩:=a
    obtain ⟨k,b0,b1,b2,ho,hvv,eL⟩:=hP
    obtain rfl:d'=[]:=k.dfrs
    simp only at b0 b1 b2 ho hvv eL
    have hs':SnapAt h' s:=SnapAt.keep (m:=⟨h,lg,[]⟩) (m':=⟨h',lg',[]⟩) H k
    have l1':=hs'.v.len
    have l2':=hs'.l.len
    have r:=rndl s.vs.length
    rw[List.take_length] at eL
    refine Wc_bx ?_
    have b0': ∀ l,bget (bxt h' l) (nb h 0)=_:=fun l=>(bxt_old l h' _ (bget_lt b0)).trans b0
    simp+contextual -implicitDefEqProofs (maxSteps:=1000000) (maxDischargeDepth:=20) only[go_sem,simprocAttr,r,l1',l2',b0',List.length_map,q_k]
    have llen:=H.w2
    refine WloopE (α:=AV × List LX) s.ls.length [X6] (fun i a=> [.int .i64 i]) (OwnJ h lg s vo L) (by omega) (by repeat first |apply Cl_b |apply Cl_q |apply Cl_r) ⟨(.nilslice,[]),rfl,⟨k,b0,b1,b2,ho.slo,fun x hx=>hvv x hx,eL,.nil rfl rfl,fun x hx=>by (cases hx),rfl⟩⟩ (fun i a m' g hi hP=> ?_) (fun a m' g hP=> ?_)
    · obtain ⟨h',lg',d'⟩:=m'
      obtain ⟨wo,K⟩:=a
      obtain ⟨k,b0,b1,b2,ho,hvv,eL,hl,hf,eK⟩:=hP
      obtain rfl:d'=[]:=k.dfrs
      simp only at b0 b1 b2 ho hvv eL hl hf eK
      have hs':SnapAt h' s:=SnapAt.keep (m:=⟨h,lg,[]⟩) (m':=⟨h',lg',[]⟩) H k
      have e:=hs'.l.el hi
      have l2':=hs'.l.len
      have r:=rnd hi (by have:=H.w2;omega)
      have hx:=hs'.la _ (gt_mem hi)
      have d1:=hx.1.sc
      have b0': ∀ l,bget (bxt h' l) (nb h 0)=_:=fun l=>(bxt_old l h' _ (bget_lt b0)).trans b0
      unfold linkC at e
      refine Wc_bx ?_
      simp+contextual -implicitDefEqProofs (maxSteps:=1000000) (maxDischargeDepth:=20) only[go_sem,simprocAttr,e,r,d1,b0',l2',List.length_map,r_oF,r_oL,r_oM,r_vc,r_vp,mskO,Mem.more,bmore,nb_more,List.filter_nil,List.flatMap_nil,List.filter_cons,List.flatMap_cons,List.map_nil,List.map_cons,mask,unmask,AOp.reads,AOpnd.top,top_p,top_s,top_m,top_i,top_b,top_t,top_a,top_u,top_ns,top_s0,top_d,top_f,nb_beq,nb_blt,nb_add,nidOf,slotIn,Nat.beq_refl,clash,Bool.or_self,List.any_nil,List.any_cons,AOp.isMaker]
      rw[←w_a]
      have ge3:h.length≤h'.length:=k.len
      refine Wa_k (g28 (n+1999) (bxt h' [some (.row true 3 [linkC (gt s.ls i)])]) _ _ (gt s.ls i).l.frames (gt s.ls i).f (hx.1.bx _) hx.2) (fun w8 h2 lg2 k2 hw8=> ?_)
      have z2:bget h2 (nb h' 0)=some (.row true 3 [linkC (gt s.ls i)]):=(k2.get _ (by rw[bxt_len];simp[nb])).trans nb_get
      have l2:nb h' 0<h2.length:=bget_lt z2
      have b22: ∀ q,bget (bxt h2 q) (nb h' 0)=some (.row true 3 [linkC (gt s.ls i)]):=fun q=>(bxt_old q h2 _ l2).trans z2
      have K2:Keep ⟨h',lg',[]⟩ ⟨h2,lg2,[]⟩:=(keep_bx (l:=[some (.row true 3 [linkC (gt s.ls i)])]) (by repeat first |exact LogOK.nil |apply LogOK.cons)).trans k2
      have sc8:=hw8.sl.sc
      have ce8:=hw8.sl.cells
      have hge':h'.length≤nb h' 0:=nb_ge
      have ob5:=old_blk l2
      have y2:bget h2 (nb h 2)=some (.row true 3 [[.int .i64 s.now,vo,wo]]):=(K2.get _ (bget_lt b2)).trans b2
      have n20:nb h 2≠nb h' 0:=fun q=>by have:=bget_lt b2;rw[q] at this;simp only[nb] at this;omega
      have b25: ∀ q x,bget (bxt (bput h2 (nb h' 0) x) q) (nb h 2)=_:=fun q x=>(old_get l2 (bget_lt y2) n20 q x).trans y2
      have l25: ∀ x,nb h 2<(bput h2 (nb h' 0) x).length:=fun x=>by rw[bput_len_eq l2];exact bget_lt y2
      have ob2:=fun x=>old_blk (h:=bput h2 (nb h' 0) x) (b:=nb h 2) (l25 x)
      unfold linkC at b22
      have KN: ∀ R,Keep ⟨h',lg',[]⟩ ⟨bput h2 (nb h' 0) R,_,[]⟩:=fun R=>K2.own hge' l2 R [] ⟨[],rfl,fun y hy=>by cases hy⟩
      have gB: ∀ R,h.length≤(bput h2 (nb h' 0) R).length:=fun R=>Nat.le_trans ge3 (KN R).len
      have h0':h.length≤nb h' 0:=Nat.le_trans ge3 hge'
      have lt2':nb h 2<h'.length:=bget_lt b2
      have h3':nb h 3≤nb h' 1:=by simp only[nb] at lt2' ⊢;omega
      have gB2: ∀ R k,1≤k→nb h 3≤nb (bput h2 (nb h' 0) R) k:=fun R k hk=>by have:=(KN R).len;simp only[nb] at lt2' this ⊢;omega
      have gB0: ∀ R k,nb h 3≤nb (bput h2 (nb h' 0) R) k:=fun R k=>by have:=(KN R).len;simp only[nb] at lt2' this ⊢;omega
      have len1:K.length≤1000:=by
        have:=congrArg List.length eK
        rw[List.length_map,List.length_map,List.length_take] at this
        have:=H.w2
        omega
      have q8:SlO (nb h' 1) h2 1 w8 ((gt s.ls i).l.frames.map strC):=hw8.le (by rw[bxt_len];exact Nat.le_refl _)
      have eE:(K++ [(⟨(gt s.ls i).l,w8⟩:LX)]).map (·.l)=(s.ls.take (i+1)).map (·.l):=by
        rw[List.map_append,eK,List.take_add_one,List.getElem?_eq_getElem hi,Option.toList_some,List.map_append,gt_eq hi];rfl
      have c0: ∀ R R3 q,bget (bxt (bput (bput h2 (nb h' 0) R) (nb h 2) R3) q) (nb h 0)=_:=fun R R3 q=>(old_get (l25 R) (Nat.lt_of_lt_of_le (bget_lt b0) (KN R).len) (by simp[nb]) q R3).trans (((KN R).get _ (bget_lt b0)).trans b0)
      have c1': ∀ R R3 q,bget (bxt (bput (bput h2 (nb h' 0) R) (nb h 2) R3) q) (nb h 1)=_:=fun R R3 q=>(old_get (l25 R) (Nat.lt_of_lt_of_le (bget_lt b1) (KN R).len) (by simp[nb]) q R3).trans (((KN R).get _ (bget_lt b1)).trans b1)
      have hoB: ∀ R,SlO (nb h 3) (bput h2 (nb h' 0) R) 26 vo (L.map viewC):=fun R=>SlO.keep (m:=⟨h',lg',[]⟩) (m':=⟨bput h2 (nb h' 0) R,_,[]⟩) ho (KN R)
      have hvB: ∀ R,∀ x∈L,ViewO (nb h 3) (bput h2 (nb h' 0) R) x:=fun R x hx=>ViewO.keep (m:=⟨h',lg',[]⟩) (m':=⟨bput h2 (nb h' 0) R,_,[]⟩) (hvv x hx) (KN R)
      have hfB: ∀ R,∀ x∈K,SlO (nb h 3) (bput h2 (nb h' 0) R) 1 x.f (x.l.frames.map strC):=fun R x hx=>SlO.keep (m:=⟨h',lg',[]⟩) (m':=⟨bput h2 (nb h' 0) R,_,[]⟩) (hf x hx) (KN R)
      have n8B: ∀ R,SlO (nb h 3) (bput h2 (nb h' 0) R) 1 w8 ((gt s.ls i).l.frames.map strC):=fun R=>(q8.below l2 (by simp[nb]) R []).le h3'
      have fE: ∀ (hq:Blks),(∀ x∈K,SlO (nb h 3) hq 1 x.f (x.l.frames.map strC))→SlO (nb h 3) hq 1 w8 ((gt s.ls i).l.frames.map strC)→ ∀ x∈K++ [(⟨(gt s.ls i).l,w8⟩:LX)],SlO (nb h 3) hq 1 x.f (x.l.frames.map strC):=fun hq h1 h2 x hx=>by
        rcases List.mem_append.1 hx with hx |hx
        · exact h1 x hx
        · rw[List.mem_singleton] at hx;subst hx;exact h2
      rcases hl with ⟨hn,rfl⟩|⟨bo,rfl,hk,hbo⟩
      · simp+contextual -implicitDefEqProofs (maxSteps:=1000000) (maxDischargeDepth:=20) only[go_sem,simprocAttr,b22,o4 ob5,b25,fun x=>o4 (ob2 x),sc8,ce8,r,r_oF,r_oL,r_oM,e_n,e_e,e_r]
        refine ⟨(.slice (nb (bput h2 (nb h' 0) _) 1) 0 1 none,K++ [⟨(gt s.ls i).l,w8⟩]),(k.trans (KN _)).own nb_ge (l25 _) _ _ (LgG.ok (.cons nb_ge (.cons (Nat.le_trans (gB _) nb_ge) (.cons (Nat.le_trans (gB _) nb_ge) (.cons h0' .nil))))),c0 _ _ _,c1' _ _ _,(ob2 _).2.2.2.2.1 _ _,(hoB _).below (l25 _) (by simp[nb]) _ _,fun x hx=>(hvB _ x hx).below (l25 _) (by simp[nb]) _ _,eL,?_,fE _ (fun x hx=>(hfB _ x hx).below (l25 _) (by simp[nb]) _ _) ((n8B _).below (l25 _) (by simp[nb]) _ _),eE⟩
        rw[List.map_append,hn]
        exact .some _ rfl (gB2 _ 1 (Nat.le_refl 1)) ((ob2 _).2.1 _ _ _)
      · have lo':=bget_lt hbo
        have bo5: ∀ R,bget (bput h2 (nb h' 0) R) bo=_:=fun R=>((KN R).get _ lo').trans hbo
        have lo5: ∀ R,bo<(bput h2 (nb h' 0) R).length:=fun R=>bget_lt (bo5 R)
        have bo5': ∀ R q,bget (bxt (bput h2 (nb h' 0) R) q) bo=_:=fun R q=>(bxt_old q _ _ (lo5 R)).trans (bo5 R)
        have b25n: ∀ x,bget (bput h2 (nb h' 0) x) (nb h 2)=_:=b25 []
        have n2o:nb h 2≠bo:=fun q=>by rw[←q] at hk;simp[nb] at hk
        have obo:=fun R=>old_blk (h:=bput h2 (nb h' 0) R) (b:=bo) (lo5 R)
        have obb:=fun R=>old_blk2 (h:=bput h2 (nb h' 0) R) (b:=bo) (c:=nb h 2) (lo5 R) (l25 R) n2o
        have fA:(1000000000000<(K.length+1)*40)=False:=by simp;omega
        have fC:List.take K.length (K.map linkC)=K.map linkC:=List.take_of_length_le (by simp)
        rw[List.length_map] at*
        simp+contextual -implicitDefEqProofs (maxSteps:=1000000) (maxDischargeDepth:=20) only[go_sem,simprocAttr,b22,o4 ob5,b25,b25n,fun x=>o4 (ob2 x),fun x=>o4 (obo x),fun x=>o4 (obb x),bo5',sc8,ce8,r,r_oF,r_oL,r_oM,e_n,e_e,e_r,fA,fB,fC,List.length_map]
        have hko:h.length≤bo:=Nat.le_trans nb_ge hk
        have lbb: ∀ R,nb h 2<(bput (bput h2 (nb h' 0) R) bo none).length:=fun R=>by rw[bput_len_eq (lo5 R)];exact l25 R
        have c0o: ∀ R R3 q,bget (bxt (bput (bput (bput h2 (nb h' 0) R) bo none) (nb h 2) R3) q) (nb h 0)=_:=fun R R3 q=>(old_get2 (lo5 R) (l25 R) (Nat.lt_of_lt_of_le (bget_lt b0) (KN R).len) (fun z=>by rw[←z] at hk;simp only[nb] at hk;omega) (by simp[nb]) q none R3).trans (((KN R).get _ (bget_lt b0)).trans b0)
        have c1o: ∀ R R3 q,bget (bxt (bput (bput (bput h2 (nb h' 0) R) bo none) (nb h 2) R3) q) (nb h 1)=_:=fun R R3 q=>(old_get2 (lo5 R) (l25 R) (Nat.lt_of_lt_of_le (bget_lt b1) (KN R).len) (fun z=>by rw[←z] at hk;simp only[nb] at hk;omega) (by simp[nb]) q none R3).trans (((KN R).get _ (bget_lt b1)).trans b1)
        refine ⟨(.slice (nb (bput h2 (nb h' 0) _) 1) 0 (K.length+1) none,K++ [⟨(gt s.ls i).l,w8⟩]),(k.trans (KN _)).own2 hko (lo5 _) nb_ge (l25 _) _ _ _ (LgG.ok (.cons nb_ge (.cons (Nat.le_trans (gB _) nb_ge) (.cons hko (.cons (Nat.le_trans (gB _) nb_ge) (.cons h0' .nil)))))),c0o _ _ _,c1o _ _ _,(obb _).2.2.2.2.1 _ _ _,((hoB _).other (bo5 _) (by omega) none []).below (lbb _) (by simp[nb]) _ _,fun x hx=>((hvB _ x hx).oth (bo5 _) (.inr rfl) none []).below (lbb _) (by simp[nb]) _ _,eL,?_,fE _ (fun x hx=>((hfB _ x hx).other (bo5 _) (by omega) none []).below (lbb _) (by simp[nb]) _ _) (((n8B _).other (bo5 _) (by omega) none []).below (lbb _) (by simp[nb]) _ _),eE⟩
        rw[List.map_append]
        exact .some _ (by simp) (gB2 _ 1 (Nat.le_refl 1)) ((obb _).2.1 _ _ _ _)
    · obtain ⟨h',lg',d'⟩:=m'
      obtain ⟨wo,K⟩:=a
      obtain ⟨k,b0,b1,b2,ho,hvv,eL,hl,hf,eK⟩:=hP
      obtain rfl:d'=[]:=k.dfrs
      simp only at b0 b1 b2 ho hvv eL hl hf eK
      have hs':SnapAt h' s:=SnapAt.keep (m:=⟨h,lg,[]⟩) (m':=⟨h',lg',[]⟩) H k
      have l2':=hs'.l.len
      have r:=rndl s.ls.length
      rw[List.take_length] at eK
      have b0': ∀ l,bget (bxt h' l) (nb h 0)=_:=fun l=>(bxt_old l h' _ (bget_lt b0)).trans b0
      have b1': ∀ l,bget (bxt h' l) (nb h 1)=_:=fun l=>(bxt_old l h' _ (bget_lt b1)).trans b1
      have b2': ∀ l,bget (bxt h' l) (nb h 2)=_:=fun l=>(bxt_old l h' _ (bget_lt b2)).trans b2
      have ob1:=old_blk (bget_lt b1)
      have v1:=ho.sl.sc
      have v2:=hl.slo.sl.sc
      have v3:=ho.sl.cells
      have v4:=hl.slo.sl.cells
      refine Wc_bx ?_
      simp+contextual -implicitDefEqProofs (maxSteps:=1000000) (maxDischargeDepth:=20) only[go_sem,simprocAttr,r,q_k,l2',b0',b1',b2',ob1,v1,v2,v3,v4,List.length_map]
      refine ⟨(k.own (b:=nb h 1) nb_ge (bget_lt b1) (some (.row true 3 [[.int .i64 s.now,vo,wo]])) [] (lg2:=nb h 1::lg') (LgG.ok (.cons nb_ge .nil))).sub (d:=d),⟨s.now,vo,L,wo,K⟩,⟨rfl,rfl,rfl⟩,⟨(ho.below (bget_lt b1) (by simp[nb]) _ _).le nb_ge,(hl.slo.below (bget_lt b1) (by simp[nb]) _ _).le nb_ge,fun x hx=>((hvv x hx).below (bget_lt b1) (by simp[nb]) _ _).le nb_ge,fun x hx=>((hf x hx).below (bget_lt b1) (by simp[nb]) _ _).le nb_ge⟩,?_⟩
      simp only[SnapX.d,eL,eK]
end
section
variable {F:FuncId→Option AFunc} {meth:Meth} {sm:Summ}
def H15 (sm:Summ):Prop:= ∀ (l:List VioD) (v w:AV) (m:Mem),SlAt m.blks 6 v (l.map vioC)→SlAt m.blks 6 w (l.map vioC)→l.length≤20000→sm 15 [v,w] m=some (.bool true,m)
theorem e15 (hF:F 15=some AF15) (hs: ∀ vs m,sm 15 vs m=none) (n:Nat) (h:Blks) (lg d:List Nat) {l:List VioD} {v w:AV} (hv:SlAt h 6 v (l.map vioC)) (hu:SlAt h 6 w (l.map vioC)) (hw:l.length≤20000):Ev F meth sm (n+25000) 15 [v,w] ⟨h,lg,d⟩ (.bool true):=by
  refine Ev.ofW ?_
  have lv:=hv.len
  have lw:=hu.len
  simp+contextual -implicitDefEqProofs (maxSteps:=1000000) (maxDischargeDepth:=20) only[go_sem,simprocAttr,hs,hF,AF15,lv,lw,List.length_map]
  refine WloopK l.length [X5] (fun i=> [.int .i64 i]) (fun i=>True) (by omega) (by repeat first |apply Cl_b |apply Cl_q |apply Cl_r) ⟨rfl,trivial⟩ (fun i h' lg' g hi hP hK=> ?_) (fun h' lg' g hP hK=> ?_)
  · have a:=hK.all (lg:=lg) (d:=d) (by repeat first |exact LogOK.nil |apply LogOK.cons)
    have e:=(hK.sl hv).el hi
    have e2:=(hK.sl hu).el hi
    have r:=rnd hi (by omega)
    unfold vioC at e e2
    simp+contextual -implicitDefEqProofs (maxSteps:=1000000) (maxDischargeDepth:=20) only[go_sem,simprocAttr,a,e,e2,r,lv,lw,List.length_map]
  · have a:=hK.all (lg:=lg) (d:=d) (by repeat first |exact LogOK.nil |apply LogOK.cons)
    have r:=rndl l.length
    simp+contextual -implicitDefEqProofs (maxSteps:=1000000) (maxDischargeDepth:=20) only[go_sem,simprocAttr,a,r,lv,List.length_map]
def H21 (sm:Summ):Prop:= ∀ (l:List BunD) (v w:AV) (m:Mem),SlAt m.blks 9 v (l.map bunC)→SlAt m.blks 9 w (l.map bunC)→l.length≤1000→sm 21 [v,w] m=some (.bool true,m)
theorem e21 (hF:F 21=some AF21) (hs: ∀ vs m,sm 21 vs m=none) (n:Nat) (h:Blks) (lg d:List Nat) {l:List BunD} {v w:AV} (hv:SlAt h 9 v (l.map bunC)) (hu:SlAt h 9 w (l.map bunC)) (hw:l.length≤1000):Ev F meth sm (n+2000) 21 [v,w] ⟨h,lg,d⟩ (.bool true):=by
  refine Ev.ofW ?_
  have lv:=hv.len
  have lw:=hu.len
  simp+contextual -implicitDefEqProofs (maxSteps:=1000000) (maxDischargeDepth:=20) only[go_sem,simprocAttr,hs,hF,AF21,lv,lw,List.length_map]
  refine WloopK l.length [X5] (fun i=> [.int .i64 i]) (fun i=>True) (by omega) (by repeat first |apply Cl_b |apply Cl_q |apply Cl_r) ⟨rfl,trivial⟩ (fun i h' lg' g hi hP hK=> ?_) (fun h' lg' g hP hK=> ?_)
  · have a:=hK.all (lg:=lg) (d:=d) (by repeat first |exact LogOK.nil |apply LogOK.cons)
    have e:=(hK.sl hv).el hi
    have e2:=(hK.sl hu).el hi
    have r:=rnd hi (by omega)
    unfold bunC at e e2
    simp+contextual -implicitDefEqProofs (maxSteps:=1000000) (maxDischargeDepth:=20) only[go_sem,simprocAttr,a,e,e2,r,lv,lw,List.length_map]
  · have a:=hK.all (lg:=lg) (d:=d) (by repeat first |exact LogOK.nil |apply LogOK.cons)
    have r:=rndl l.length
    simp+contextual -implicitDefEqProofs (maxSteps:=1000000) (maxDischargeDepth:=20) only[go_sem,simprocAttr,a,r,lv,List.length_map]
def H73 (sm:Summ):Prop:= ∀ (l:List MarkD) (v w:AV) (m:Mem),SlAt m.blks 4 v (l.map markC)→SlAt m.blks 4 w (l.map markC)→l.length≤1000→sm 73 [v,w] m=some (.bool true,m)
theorem e73 (hF:F 73=some AF73) (hs: ∀ vs m,sm 73 vs m=none) (n:Nat) (h:Blks) (lg d:List Nat) {l:List MarkD} {v w:AV} (hv:SlAt h 4 v (l.map markC)) (hu:SlAt h 4 w (l.map markC)) (hw:l.length≤1000):Ev F meth sm (n+2000) 73 [v,w] ⟨h,lg,d⟩ (.bool true):=by
  refine Ev.ofW ?_
  have lv:=hv.len
  have lw:=hu.len
  simp+contextual -implicitDefEqProofs (maxSteps:=1000000) (maxDischargeDepth:=20) only[go_sem,simprocAttr,hs,hF,AF73,lv,lw,List.length_map]
  refine WloopK l.length [X5] (fun i=> [.int .i64 i]) (fun i=>True) (by omega) (by repeat first |apply Cl_b |apply Cl_q |apply Cl_r) ⟨rfl,trivial⟩ (fun i h' lg' g hi hP hK=> ?_) (fun h' lg' g hP hK=> ?_)
  · have a:=hK.all (lg:=lg) (d:=d) (by repeat first |exact LogOK.nil |apply LogOK.cons)
    have e:=(hK.sl hv).el hi
    have e2:=(hK.sl hu).el hi
    have r:=rnd hi (by omega)
    unfold markC at e e2
    simp+contextual -implicitDefEqProofs (maxSteps:=1000000) (maxDischargeDepth:=20) only[go_sem,simprocAttr,a,e,e2,r,lv,lw,List.length_map]
  · have a:=hK.all (lg:=lg) (d:=d) (by repeat first |exact LogOK.nil |apply LogOK.cons)
    have r:=rndl l.length
    simp+contextual -implicitDefEqProofs (maxSteps:=1000000) (maxDischargeDepth:=20) only[go_sem,simprocAttr,a,r,lv,List.length_map]
def H46 (sm:Summ):Prop:= ∀ (l:List (List UInt8)) (v w:AV) (m:Mem),SlAt m.blks 1 v (l.map strC)→SlAt m.blks 1 w (l.map strC)→l.length≤1000→sm 46 [v,w] m=some (.bool true,m)
theorem e46 (hF:F 46=some AF46) (hs: ∀ vs m,sm 46 vs m=none) (n:Nat) (h:Blks) (lg d:List Nat) {l:List (List UInt8)} {v w:AV} (hv:SlAt h 1 v (l.map strC)) (hu:SlAt h 1 w (l.map strC)) (hw:l.length≤1000):Ev F meth sm (n+2000) 46 [v,w] ⟨h,lg,d⟩ (.bool true):=by
  refine Ev.ofW ?_
  have lv:=hv.len
  have lw:=hu.len
  simp+contextual -implicitDefEqProofs (maxSteps:=1000000) (maxDischargeDepth:=20) only[go_sem,simprocAttr,hs,hF,AF46,lv,lw,List.length_map]
  refine WloopK l.length [X5] (fun i=> [.int .i64 i]) (fun i=>True) (by omega) (by repeat first |apply Cl_b |apply Cl_q |apply Cl_r) ⟨rfl,trivial⟩ (fun i h' lg' g hi hP hK=> ?_) (fun h' lg' g hP hK=> ?_)
  · have a:=hK.all (lg:=lg) (d:=d) (by repeat first |exact LogOK.nil |apply LogOK.cons)
    have e:=(hK.sl hv).el hi
    have e2:=(hK.sl hu).el hi
    have r:=rnd hi (by omega)
    unfold strC at e e2
    simp+contextual -implicitDefEqProofs (maxSteps:=1000000) (maxDischargeDepth:=20) only[go_sem,simprocAttr,a,e,e2,r,lv,lw,List.length_map]
  · have a:=hK.all (lg:=lg) (d:=d) (by repeat first |exact LogOK.nil |apply LogOK.cons)
    have r:=rndl l.length
    simp+contextual -implicitDefEqProofs (maxSteps:=1000000) (maxDischargeDepth:=20) only[go_sem,simprocAttr,a,r,lv,List.length_map]
def H149 (sm:Summ):Prop:= ∀ (S:SendD) (s t:AV) (m:Mem),SendAt m.blks S s→SendAt m.blks S t→S.slots.length≤1000→sm 149 [.agg (sendC S s),.agg (sendC S t)] m=some (.bool true,m)
theorem e149 (hF:F 149=some AF149) (hs: ∀ vs m,sm 149 vs m=none) (n:Nat) (h:Blks) (lg d:List Nat) {S:SendD} {s t:AV} (H:SendAt h S s) (K:SendAt h S t) (hw:S.slots.length≤1000):Ev F meth sm (n+2000) 149 [.agg (sendC S s),.agg (sendC S t)] ⟨h,lg,d⟩ (.bool true):=by
  refine Ev.ofW ?_
  have lv:=H.s.len
  have lw:=K.s.len
  have c1:=H.s.sc
  have c2:=K.s.sc
  simp+contextual -implicitDefEqProofs (maxSteps:=1000000) (maxDischargeDepth:=20) only[go_sem,simprocAttr,hs,hF,AF149,sendC,c1,c2,lv,lw,List.length_map]
  refine WloopK S.slots.length [X5] (fun i=> [.int .i64 i]) (fun i=>True) (by omega) (by repeat first |apply Cl_b |apply Cl_q |apply Cl_r) ⟨rfl,trivial⟩ (fun i h' lg' g hi hP hK=> ?_) (fun h' lg' g hP hK=> ?_)
  · have a:=hK.all (lg:=lg) (d:=d) (by repeat first |exact LogOK.nil |apply LogOK.cons)
    have e:=(hK.sl H.s).el hi
    have e2:=(hK.sl K.s).el hi
    have r:=rnd hi (by omega)
    unfold slotC at e e2
    simp+contextual -implicitDefEqProofs (maxSteps:=1000000) (maxDischargeDepth:=20) only[go_sem,simprocAttr,a,e,e2,r,lv,lw,List.length_map]
  · have a:=hK.all (lg:=lg) (d:=d) (by repeat first |exact LogOK.nil |apply LogOK.cons)
    have r:=rndl S.slots.length
    simp+contextual -implicitDefEqProofs (maxSteps:=1000000) (maxDischargeDepth:=20) only[go_sem,simprocAttr,a,r,lv,List.length_map]
def H150 (sm:Summ):Prop:= ∀ (R:RecvD) (t k t' k':AV) (m:Mem),RecvAt m.blks R t k→RecvAt m.blks R t' k'→R.taken.length≤1000→R.kept.length≤1000→sm 150 [.agg (recvC R t k),.agg (recvC R t' k')] m=some (.bool true,m)
theorem e150 (hF:F 150=some AF150) (hs: ∀ vs m,sm 150 vs m=none) (n:Nat) (h:Blks) (lg d:List Nat) {R:RecvD} {t k t' k':AV} (H:RecvAt h R t k) (K:RecvAt h R t' k') (hw:R.taken.length≤1000) (hx:R.kept.length≤1000):Ev F meth sm (n+2000) 150 [.agg (recvC R t k),.agg (recvC R t' k')] ⟨h,lg,d⟩ (.bool true):=by
  refine Ev.ofW ?_
  have l1:=H.t.len
  have l2:=H.k.len
  have l3:=K.t.len
  have l4:=K.k.len
  have c1:=H.t.sc
  have c2:=H.k.sc
  have c3:=K.t.sc
  have c4:=K.k.sc
  simp+contextual -implicitDefEqProofs (maxSteps:=1000000) (maxDischargeDepth:=20) only[go_sem,simprocAttr,hs,hF,AF150,recvC,c1,c2,c3,c4,l1,l2,l3,l4,List.length_map]
  refine WloopK R.taken.length [X5] (fun i=> [.int .i64 i]) (fun i=>True) (by omega) (by repeat first |apply Cl_b |apply Cl_q |apply Cl_r) ⟨rfl,trivial⟩ (fun i h' lg' g hi hP hK=> ?_) (fun h' lg' g hP hK=> ?_)
  · have a:=hK.all (lg:=lg) (d:=d) (by repeat first |exact LogOK.nil |apply LogOK.cons)
    have e:=(hK.sl H.t).el hi
    have e2:=(hK.sl K.t).el hi
    have r:=rnd hi (by omega)
    unfold rngC at e e2
    simp+contextual -implicitDefEqProofs (maxSteps:=1000000) (maxDischargeDepth:=20) only[go_sem,simprocAttr,a,e,e2,r,l1,l3,List.length_map]
  · have a:=hK.all (lg:=lg) (d:=d) (by repeat first |exact LogOK.nil |apply LogOK.cons)
    have r:=rndl R.taken.length
    simp+contextual -implicitDefEqProofs (maxSteps:=1000000) (maxDischargeDepth:=20) only[go_sem,simprocAttr,a,r,l1,List.length_map]
    refine WloopK R.kept.length [X6] (fun i=> [.int .i64 i]) (fun i=>True) (by omega) (by repeat first |apply Cl_b |apply Cl_q |apply Cl_r) ⟨rfl,trivial⟩ (fun i h2 lg2 g hi hP hK2=> ?_) (fun h2 lg2 g hP hK2=> ?_)
    · have hQ:=hK.trans hK2
      have a:=hQ.all (lg:=lg) (d:=d) (by repeat first |exact LogOK.nil |apply LogOK.cons)
      have e:=(hQ.sl H.k).el hi
      have e2:=(hQ.sl K.k).el hi
      have r:=rnd hi (by omega)
      unfold u64C at e e2
      simp+contextual -implicitDefEqProofs (maxSteps:=1000000) (maxDischargeDepth:=20) only[go_sem,simprocAttr,a,e,e2,r,l2,l4,List.length_map]
      exact hK2
    · have a:=(hK.trans hK2).all (lg:=lg) (d:=d) (by repeat first |exact LogOK.nil |apply LogOK.cons)
      have r:=rndl R.kept.length
      simp+contextual -implicitDefEqProofs (maxSteps:=1000000) (maxDischargeDepth:=20) only[go_sem,simprocAttr,a,r,l2,List.length_map]
def H115 (sm:Summ):Prop:= ∀ (P:PeerD) (s t k s' t' k':AV) (m:Mem),PeerAt m.blks P s t k→PeerAt m.blks P s' t' k'→PL P→sm 115 [.agg (peerC P s t k),.agg (peerC P s' t' k')] m=some (.bool true,m)
theorem e115 (hF:F 115=some AF115) (hs: ∀ vs m,sm 115 vs m=none) (n:Nat) (h:Blks) (lg d:List Nat) (g149:H149 sm) (g150:H150 sm) {P:PeerD} {s t k s' t' k':AV} (H:PeerAt h P s t k) (K:PeerAt h P s' t' k') (hw:PL P):Ev F meth sm (n+2000) 115 [.agg (peerC P s t k),.agg (peerC P s' t' k')] ⟨h,lg,d⟩ (.bool true):=by
  refine Ev.ofW ?_
  have c1:=H.s.s.sc
  have c2:=H.r.t.sc
  have c3:=H.r.k.sc
  have c4:=K.s.s.sc
  have c5:=K.r.t.sc
  have c6:=K.r.k.sc
  have g1:=fun l lg'=>g149 P.send s s' ⟨bxt h l,lg',[]⟩ (H.s.bx l) (K.s.bx l) hw.1
  have g2:=fun l lg'=>g150 P.recv t k t' k' ⟨bxt h l,lg',[]⟩ (H.r.bx l) (K.r.bx l) hw.2.1 hw.2.2
  unfold sendC at g1
  unfold recvC at g2
  simp+contextual -implicitDefEqProofs (maxSteps:=1000000) (maxDischargeDepth:=20) only[go_sem,simprocAttr,hs,hF,AF115,peerC,sendC,recvC,c1,c2,c3,c4,c5,c6,g1,g2]
def H74 (sm:Summ):Prop:= ∀ (l l':List PX) (v w:AV) (m:Mem),PeersAt m.blks v l→PeersAt m.blks w l'→l.map (·.p)=l'.map (·.p)→l.length≤1000→(∀ x∈l,PL x.p)→sm 74 [v,w] m=some (.bool true,m)
theorem e74 (hF:F 74=some AF74) (hs: ∀ vs m,sm 74 vs m=none) (n:Nat) (h:Blks) (lg d:List Nat) (g115:H115 sm) {l l':List PX} {v w:AV} (hv:PeersAt h v l) (hu:PeersAt h w l') (he:l.map (·.p)=l'.map (·.p)) (hw:l.length≤1000) (hp: ∀ x∈l,PL x.p):Ev F meth sm (n+3000) 74 [v,w] ⟨h,lg,d⟩ (.bool true):=by
  refine Ev.ofW ?_
  have lv:=hv.v.len
  have lw:=hu.v.len
  have ll:l'.length=l.length:=by have:=congrArg List.length he;simpa using this.symm
  simp+contextual -implicitDefEqProofs (maxSteps:=1000000) (maxDischargeDepth:=20) only[go_sem,simprocAttr,hs,hF,AF74,lv,lw,ll,List.length_map]
  refine WloopK l.length [X5] (fun i=> [.int .i64 i]) (fun i=>True) (by omega) (by repeat first |apply Cl_b |apply Cl_q |apply Cl_r) ⟨rfl,trivial⟩ (fun i h' lg' g hi hP hK=> ?_) (fun h' lg' g hP hK=> ?_)
  · have a:=hK.all (lg:=lg) (d:=d) (by repeat first |exact LogOK.nil |apply LogOK.cons)
    have h1:=hK.ps hv
    have h2:=hK.ps hu
    have hi2:i<l'.length:=by omega
    have e:=h1.v.el hi
    have e2:=h2.v.el hi2
    have r:=rnd hi (by omega)
    have x1:=h1.p _ (gt_mem hi)
    have x2:=h2.p _ (gt_mem hi2)
    have ep:(gt l' i).p=(gt l i).p:=by
      have:=congrArg (fun q=>q[i]?) he
      simp only[List.getElem?_map,List.getElem?_eq_getElem hi,List.getElem?_eq_getElem hi2,Option.map_some,Option.some.injEq] at this
      rw[gt_eq hi,gt_eq hi2];exact this.symm
    rw[ep] at x2
    have c1:=x1.s.s.sc
    have c2:=x1.r.t.sc
    have c3:=x1.r.k.sc
    have c4:=x2.s.s.sc
    have c5:=x2.r.t.sc
    have c6:=x2.r.k.sc
    have g1:=fun q lg'=>g115 (gt l i).p _ _ _ _ _ _ ⟨bxt h' q,lg',[]⟩ (x1.bx q) (x2.bx q) (hp _ (gt_mem hi))
    unfold pxC peerC at e e2
    unfold peerC at g1
    rw[ep] at e2
    simp+contextual -implicitDefEqProofs (maxSteps:=1000000) (maxDischargeDepth:=20) only[go_sem,simprocAttr,a,e,e2,r,lv,lw,ll,List.length_map,c1,c2,c3,c4,c5,c6,g1]
  · have a:=hK.all (lg:=lg) (d:=d) (by repeat first |exact LogOK.nil |apply LogOK.cons)
    have r:=rndl l.length
    simp+contextual -implicitDefEqProofs (maxSteps:=1000000) (maxDischargeDepth:=20) only[go_sem,simprocAttr,a,r,lv,List.length_map]
end
section
variable {F:FuncId→Option AFunc} {meth:Meth} {sm:Summ}
theorem ViewR.bx {h:Blks} {x:VX} (H:ViewR h x) (l:List (Option ABlk)):ViewR (bxt h l) x:=⟨H.b.bx l,H.m.bx l,H.p.bx l,H.q.bx l⟩
structure SameV (h:Blks) (x y:VX):Prop where
  e:x.v=y.v
  a:ViewR h x
  b:ViewR h y
  p:y.lp.map (·.p)=x.lp.map (·.p)
  q:y.lq.map (·.p)=x.lq.map (·.p)
  w1:y.v.st.held.length≤1000
  w2:y.v.st.seen.length≤1000
  w3:y.lp.length≤1000
  w4:y.lq.length≤1000
  l1: ∀ z∈y.lp,PL z.p
  l2: ∀ z∈y.lq,PL z.p
theorem SameV.keep {m m':Mem} {x y:VX} (H:SameV m.blks x y) (k:Keep m m'):SameV m'.blks x y:=⟨H.e,H.a.keep k,H.b.keep k,H.p,H.q,H.w1,H.w2,H.w3,H.w4,H.l1,H.l2⟩
theorem SameV.bx {h:Blks} {x y:VX} (H:SameV h x y) (l:List (Option ABlk)):SameV (bxt h l) x y:=⟨H.e,H.a.bx l,H.b.bx l,H.p,H.q,H.w1,H.w2,H.w3,H.w4,H.l1,H.l2⟩
def H45 (sm:Summ):Prop:= ∀ (x y:VX) (m:Mem),SameV m.blks y x→sm 45 [.agg (viewC y),.agg (viewC x)] m=some (.bool true,m)
theorem e45 (hF:F 45=some AF45) (hs: ∀ vs m,sm 45 vs m=none) (n:Nat) (h:Blks) (lg d:List Nat) (g21:H21 sm) (g73:H73 sm) (g74:H74 sm) {x y:VX} (H:SameV h y x):Ev F meth sm (n+4000) 45 [.agg (viewC y),.agg (viewC x)] ⟨h,lg,d⟩ (.bool true):=by
  refine Ev.ofW ?_
  have hb:=H.a.b
  have hm:=H.a.m
  rw[H.e] at hb hm
  have c1:=H.a.b.sc
  have c2:=H.a.m.sc
  have c3:=H.a.p.v.sc
  have c4:=H.a.q.v.sc
  have c5:=H.b.b.sc
  have c6:=H.b.m.sc
  have c7:=H.b.p.v.sc
  have c8:=H.b.q.v.sc
  have g1:=fun l lg'=>g21 _ y.b x.b ⟨bxt h l,lg',[]⟩ (hb.bx l) (H.b.b.bx l) H.w1
  have g2:=fun l lg'=>g73 _ y.m x.m ⟨bxt h l,lg',[]⟩ (hm.bx l) (H.b.m.bx l) H.w2
  have pl1:y.lp.length≤1000:=by have:=congrArg List.length H.p;rw[List.length_map,List.length_map] at this;rw[←this];exact H.w3
  have pl2:y.lq.length≤1000:=by have:=congrArg List.length H.q;rw[List.length_map,List.length_map] at this;rw[←this];exact H.w4
  have pp: ∀ {a b:List PX},a.map (·.p)=b.map (·.p)→(∀ z∈a,PL z.p)→ ∀ z∈b,PL z.p:=fun {a b} q ha z hz=>by
    have:z.p∈b.map (·.p):=List.mem_map_of_mem hz
    rw[←q] at this
    obtain ⟨u,hu,hq⟩:=List.mem_map.1 this
    rw[←hq];exact ha u hu
  have g3:=fun l lg'=>g74 y.lp x.lp y.p x.p ⟨bxt h l,lg',[]⟩ (H.a.p.bx l) (H.b.p.bx l) H.p.symm pl1 (pp H.p H.l1)
  have g4:=fun l lg'=>g74 y.lq x.lq y.q x.q ⟨bxt h l,lg',[]⟩ (H.a.q.bx l) (H.b.q.bx l) H.q.symm pl2 (pp H.q H.l2)
  have ev:=H.e
  unfold viewC
  rw[ev]
  simp+contextual -implicitDefEqProofs (maxSteps:=1000000) (maxDischargeDepth:=20) only[go_sem,simprocAttr,hs,hF,AF45,c1,c2,c3,c4,c5,c6,c7,c8,g1,g2,g3,g4]
structure SameS (h:Blks) (x y:SnapX):Prop where
  now:x.now=y.now
  v:SlAt h 26 x.nv (x.vs.map viewC)
  v':SlAt h 26 y.nv (y.vs.map viewC)
  l:SlAt h 3 x.lv (x.ls.map linkC)
  l':SlAt h 3 y.lv (y.ls.map linkC)
  nv:x.vs.length=y.vs.length
  nl:x.ls.length=y.ls.length
  sv: ∀ i,i<y.vs.length→SameV h (gt x.vs i) (gt y.vs i)
  sl: ∀ i,i<y.ls.length→(gt x.ls i).l=(gt y.ls i).l∧SlAt h 1 (gt x.ls i).f ((gt y.ls i).l.frames.map strC)∧SlAt h 1 (gt y.ls i).f ((gt y.ls i).l.frames.map strC)∧(gt y.ls i).l.frames.length≤1000
  w1:y.vs.length≤1000
  w2:y.ls.length≤1000
theorem SameS.keep {m m':Mem} {x y:SnapX} (H:SameS m.blks x y) (k:Keep m m'):SameS m'.blks x y:=⟨H.now,H.v.keep k,H.v'.keep k,H.l.keep k,H.l'.keep k,H.nv,H.nl,fun i hi=>(H.sv i hi).keep k,fun i hi=>⟨(H.sl i hi).1,(H.sl i hi).2.1.keep k,(H.sl i hi).2.2.1.keep k,(H.sl i hi).2.2.2⟩,H.w1,H.w2⟩
theorem SameS.bx {h:Blks} {x y:SnapX} (H:SameS h x y) (l:List (Option ABlk)):SameS (bxt h l) x y:=⟨H.now,H.v.bx l,H.v'.bx l,H.l.bx l,H.l'.bx l,H.nv,H.nl,fun i hi=>(H.sv i hi).bx l,fun i hi=>⟨(H.sl i hi).1,(H.sl i hi).2.1.bx l,(H.sl i hi).2.2.1.bx l,(H.sl i hi).2.2.2⟩,H.w1,H.w2⟩
def H20 (sm:Summ):Prop:= ∀ (x y:SnapX) (m:Mem),SameS m.blks x y→sm 20 [.agg (snapC x),.agg (snapC y)] m=some (.bool true,m)
theorem Keep.ss {h h':Blks} {lg0 lg':List Nat} {l0:List (Option ABlk)} (k:Keep ⟨bxt h l0,lg0,[]⟩ ⟨h',lg',[]⟩) {x y:SnapX} (H:SameS h x y):SameS h' x y:=SameS.keep (m:=⟨bxt h l0,lg0,[]⟩) (m':=⟨h',lg',[]⟩) (H.bx l0) k
theorem e20 (hF:F 20=some AF20) (hs: ∀ vs m,sm 20 vs m=none) (n:Nat) (h:Blks) (lg d:List Nat) (g45:H45 sm) (g46:H46 sm) {x y:SnapX} (H:SameS h x y):Ev F meth sm (n+5000) 20 [.agg (snapC x),.agg (snapC y)] ⟨h,lg,d⟩ (.bool true):=by
  refine Ev.ofW ?_
  have c1:=H.v.sc
  have c2:=H.v'.sc
  have c3:=H.l.sc
  have c4:=H.l'.sc
  have l1:=H.v.len
  have l2:=H.v'.len
  have l3:=H.l.len
  have l4:=H.l'.len
  have n1:=H.nv
  have n2:=H.nl
  have n3:=H.now
  simp+contextual -implicitDefEqProofs (maxSteps:=1000000) (maxDischargeDepth:=20) only[go_sem,simprocAttr,hs,hF,AF20,snapC,c1,c2,c3,c4,l1,l2,l3,l4,n1,n2,n3,List.length_map]
  refine WloopK y.vs.length [X5] (fun i=> [.int .i64 i]) (fun i=>True) (by have:=H.w1;omega) (by repeat first |apply Cl_b |apply Cl_q |apply Cl_r) ⟨rfl,trivial⟩ (fun i h' lg' g hi hP hK=> ?_) (fun h' lg' g hP hK=> ?_)
  · have a:=hK.all (lg:=lg) (d:=d) (by repeat first |exact LogOK.nil |apply LogOK.cons)
    have H':=hK.ss H
    have hi2:i<x.vs.length:=by omega
    have e:=H'.v.el hi2
    have e2:=H'.v'.el hi
    have r:=rnd hi (by have:=H.w1;omega)
    have hx:=H'.sv i hi
    have d1:=hx.a.b.sc
    have d2:=hx.a.m.sc
    have d3:=hx.a.p.v.sc
    have d4:=hx.a.q.v.sc
    have d5:=hx.b.b.sc
    have d6:=hx.b.m.sc
    have d7:=hx.b.p.v.sc
    have d8:=hx.b.q.v.sc
    have g1:=fun q lg'=>g45 _ _ ⟨bxt h' q,lg',[]⟩ (hx.bx q)
    unfold viewC at e e2 g1
    simp+contextual -implicitDefEqProofs (maxSteps:=1000000) (maxDischargeDepth:=20) only[go_sem,simprocAttr,a,e,e2,r,l1,l2,n1,List.length_map,d1,d2,d3,d4,d5,d6,d7,d8,g1]
  · have a:=hK.all (lg:=lg) (d:=d) (by repeat first |exact LogOK.nil |apply LogOK.cons)
    have r:=rndl y.vs.length
    simp+contextual -implicitDefEqProofs (maxSteps:=1000000) (maxDischargeDepth:=20) only[go_sem,simprocAttr,a,r,l1,n1,List.length_map]
    refine WloopK y.ls.length [X6] (fun i=> [.int .i64 i]) (fun i=>True) (by have:=H.w2;omega) (by repeat first |apply Cl_b |apply Cl_q |apply Cl_r) ⟨rfl,trivial⟩ (fun i h2 lg2 g hi hP hK2=> ?_) (fun h2 lg2 g hP hK2=> ?_)
    · have hQ:=hK.trans hK2
      have a:=hQ.all (lg:=lg) (d:=d) (by repeat first |exact LogOK.nil |apply LogOK.cons)
      have H':=hQ.ss H
      have hi2:i<x.ls.length:=by omega
      have e:=H'.l.el hi2
      have e2:=H'.l'.el hi
      have r:=rnd hi (by have:=H.w2;omega)
      obtain ⟨y1,y2,y3,y4⟩:=H'.sl i hi
      have d1:=y2.sc
      have d2:=y3.sc
      have g1:=fun q lg'=>g46 _ _ _ ⟨bxt h2 q,lg',[]⟩ (y2.bx q) (y3.bx q) y4
      unfold linkC at e e2
      rw[y1] at e
      simp+contextual -implicitDefEqProofs (maxSteps:=1000000) (maxDischargeDepth:=20) only[go_sem,simprocAttr,a,e,e2,r,l3,l4,n2,List.length_map,d1,d2,g1]
      exact hK2
    · have a:=(hK.trans hK2).all (lg:=lg) (d:=d) (by repeat first |exact LogOK.nil |apply LogOK.cons)
      have r:=rndl y.ls.length
      simp+contextual -implicitDefEqProofs (maxSteps:=1000000) (maxDischargeDepth:=20) only[go_sem,simprocAttr,a,r,l3,n2,List.length_map]
end
section
variable {F:FuncId→Option AFunc} {meth:Meth} {sm:Summ}
structure PNum (P:PeerD):Prop where
  a:0≤P.send.r
  b:0≤P.send.n
  c:P.send.g≤18446744073709551615
  d:P.send.n≤18446744073709551615
  e: ∀ x∈P.send.slots,0≤x.off∧0≤x.size
  f:0≤P.recv.r
  g:P.recv.g≤18446744073709551615
  i:0≤P.recv.f
  j:0≤P.old
structure VNum (v:ViewD):Prop where
  w:0≤v.cfg.window
  l:0≤v.cfg.low
  q:0≤v.cfg.quota
  b: ∀ b∈v.st.held,0≤b.id.s∧I b.total
  p: ∀ p∈v.st.peers,PNum p
  r: ∀ p∈v.peers,PNum p
structure VGood (v:ViewD):Prop where
  n:VNum v
  d: ∀ b∈v.st.held,b.data.length≤1000000
  w1:v.st.held.length≤1000
  w2:v.st.seen.length≤1000
  w3:v.st.peers.length≤1000
  w4:v.peers.length≤1000
  p: ∀ p∈v.st.peers,PL p
  r: ∀ p∈v.peers,PL p
structure SGood (d:SnapD):Prop where
  v: ∀ v∈d.nodes,VGood v
  f: ∀ l∈d.links,l.frames.length≤1000
  w1:d.nodes.length≤1000
  w2:d.links.length≤1000
def ViewE (x:VX):Prop:=x.v.st.peers=x.lp.map (·.p)∧x.v.peers=x.lq.map (·.p)
theorem good_of {s:SnapX} (hn: ∀ x∈s.vs,VNum x.v) (he: ∀ x∈s.vs,ViewE x) (hl:LightS s):SGood s.d where
  v :=fun v hv=>by
    obtain ⟨x,hx,rfl⟩:=List.mem_map.1 hv
    have L:=hl.v x hx
    obtain ⟨e1,e2⟩:=he x hx
    have l1:=L.b
    have l2:=L.m
    have l3:=L.p
    have l4:=L.q
    have sm: ∀ l:List PX,smallL l=true→ ∀ p∈l.map (·.p),PL p:=fun l q p hp=>by
      obtain ⟨y,hy,rfl⟩:=List.mem_map.1 hp
      have:=List.all_eq_true.1 q y hy
      obtain ⟨h1,h2,h3⟩:=of_decide_eq_true this
      exact ⟨by omega,by omega,by omega⟩
    refine ⟨hn x hx,fun b hb=> ?_,by omega,by omega,by rw[e1,List.length_map];omega,by rw[e2,List.length_map];omega,?_,?_⟩
    · have:=List.all_eq_true.1 L.d b hb
      simp only[decide_eq_true_eq] at this
      omega
    · rw[e1];exact sm _ L.p'
    · rw[e2];exact sm _ L.q'
  f :=fun l h=>by
    obtain ⟨x,hx,rfl⟩:=List.mem_map.1 h
    have:=hl.f x hx
    omega
  w1:=by have:=hl.n;simp only[SnapX.d,List.length_map];omega
  w2:=by have:=hl.k;simp only[SnapX.d,List.length_map];omega
theorem snap_at {h:Blks} {s:SnapX} (R:SnapR h s) (he: ∀ x∈s.vs,ViewE x) (G:SGood s.d):SnapAt h s where
  v:=R.v
  l:=R.l
  va:=fun x hx=>by
    have g:=G.v x.v (List.mem_map_of_mem hx)
    have r:=R.va x hx
    obtain ⟨e1,e2⟩:=he x hx
    refine ⟨⟨r.b,r.m,r.p,e1,g.w1,g.w2,by have:=g.w3;rw[e1,List.length_map] at this;exact this,fun b hb=>⟨g.d b hb,(g.n.b b hb).2⟩⟩,r.q,e2,by have:=g.w4;rw[e2,List.length_map] at this;exact this,g.n.w,g.n.l⟩
  la:=fun x hx=>⟨R.la x hx,G.f x.l (List.mem_map_of_mem hx)⟩
  w1:=by have:=G.w1;simp only[SnapX.d,List.length_map] at this;exact this
  w2:=by have:=G.w2;simp only[SnapX.d,List.length_map] at this;exact this
theorem snap_n {s:SnapX} (he: ∀ x∈s.vs,ViewE x) (G:SGood s.d):SnapN s where
  q:=fun x hx=>(G.v x.v (List.mem_map_of_mem hx)).n.q
  h:=fun x hx b hb=>((G.v x.v (List.mem_map_of_mem hx)).n.b b hb).1
  p :=fun x hx y hy=>by
    have g:=G.v x.v (List.mem_map_of_mem hx)
    have hp:y.p∈x.v.st.peers:=by rw[(he x hx).1];exact List.mem_map_of_mem hy
    exact ⟨(g.p _ hp).2.1,(g.n.p _ hp).i,(g.n.p _ hp).j,(g.n.p _ hp).f⟩
  r :=fun x hx y hy=>by
    have g:=G.v x.v (List.mem_map_of_mem hx)
    have hp:y.p∈x.v.peers:=by rw[(he x hx).2];exact List.mem_map_of_mem hy
    exact ⟨(g.r _ hp).2.1,(g.n.r _ hp).i,(g.n.r _ hp).j,(g.n.r _ hp).f⟩
theorem snap_l {s:SnapX} (he: ∀ x∈s.vs,ViewE x) (G:SGood s.d):SnapL s where
  p:=fun x hx y hy=>(G.v x.v (List.mem_map_of_mem hx)).p _ (by rw[(he x hx).1];exact List.mem_map_of_mem hy)
  q:=fun x hx y hy=>(G.v x.v (List.mem_map_of_mem hx)).r _ (by rw[(he x hx).2];exact List.mem_map_of_mem hy)
theorem peers_own {k:Nat} {h:Blks} {v:AV} {l:List PX} (H:PeersO k h v l) (hp: ∀ p∈l.map (·.p),PNum p):PeersAt h v l:=
  ⟨H.v.sl,fun x hx=>by
    have g:=hp _ (List.mem_map_of_mem hx)
    have o:=H.p x hx
    exact ⟨⟨o.s.sl,g.a,g.b,g.c,g.d,g.e⟩,⟨o.t.sl,o.q.sl,g.f,g.g⟩⟩⟩
theorem own_e {k:Nat} {h:Blks} {s:SnapX} (H:OwnS k h s): ∀ x∈s.vs,ViewE x:=fun x hx=>⟨(H.va x hx).e,(H.va x hx).f⟩
theorem own_r {k:Nat} {h:Blks} {s:SnapX} (H:OwnS k h s) (G:SGood s.d):SnapR h s where
  v:=H.v.sl
  l:=H.l.sl
  va:=fun x hx=>by
    have g:=(G.v x.v (List.mem_map_of_mem hx)).n
    have o:=H.va x hx
    exact ⟨o.b.sl,o.m.sl,peers_own o.p (by rw[←o.e];exact g.p),peers_own o.q (by rw[←o.f];exact g.r)⟩
  la:=fun x hx=>(H.la x hx).sl
theorem own_o {k:Nat} {h:Blks} {s:SnapX} (H:OwnS k h s):SnapO s where
  p :=fun x hx y hy=>by
    have o:=((H.va x hx).p.p y hy)
    exact ⟨o.s.no,o.t.no,o.q.no⟩
  r :=fun x hx y hy=>by
    have o:=((H.va x hx).q.p y hy)
    exact ⟨o.s.no,o.t.no,o.q.no⟩
theorem gt_mp {α β:Type} [Inhabited α] [Inhabited β] {f:α→β} {l:List α} {i:Nat} (hi:i<l.length):gt (l.map f) i=f (gt l i):=by
  rw[gt_eq (by rw[List.length_map];exact hi),gt_eq hi,List.getElem_map]
theorem same_of {h:Blks} {x y:SnapX} (H:SnapR h x) (K:SnapR h y) (hx: ∀ z∈x.vs,ViewE z) (hy: ∀ z∈y.vs,ViewE z) (hd:x.d=y.d) (G:SGood y.d):SameS h x y:=by
  have dv:x.vs.map (·.v)=y.vs.map (·.v):=congrArg SnapD.nodes hd
  have dl:x.ls.map (·.l)=y.ls.map (·.l):=congrArg SnapD.links hd
  have nv:x.vs.length=y.vs.length:=by have:=congrArg List.length dv;simpa using this
  have nl:x.ls.length=y.ls.length:=by have:=congrArg List.length dl;simpa using this
  have w1:=G.w1
  have w2:=G.w2
  simp only[SnapX.d,List.length_map] at w1 w2
  refine ⟨congrArg SnapD.now hd,H.v,K.v,H.l,K.l,nv,nl,fun i hi=> ?_,fun i hi=> ?_,w1,w2⟩
  · have hi':i<x.vs.length:=by omega
    have e:(gt x.vs i).v=(gt y.vs i).v:=by
      have:=congrArg (fun l=>gt l i) dv
      simp only[gt_mp hi,gt_mp hi'] at this
      exact this
    have m1:=gt_mem hi'
    have m2:=gt_mem hi
    have g:=G.v _ (List.mem_map_of_mem (f:=(·.v)) m2)
    obtain ⟨a1,a2⟩:=hx _ m1
    obtain ⟨b1,b2⟩:=hy _ m2
    refine ⟨e,H.va _ m1,K.va _ m2,by rw[←b1,←a1,e],by rw[←b2,←a2,e],g.w1,g.w2,by have:=g.w3;rw[b1,List.length_map] at this;exact this,by have:=g.w4;rw[b2,List.length_map] at this;exact this,fun z hz=>g.p _ (by rw[b1];exact List.mem_map_of_mem hz),fun z hz=>g.r _ (by rw[b2];exact List.mem_map_of_mem hz)⟩
  · have hi':i<x.ls.length:=by omega
    have e:(gt x.ls i).l=(gt y.ls i).l:=by
      have:=congrArg (fun l=>gt l i) dl
      simp only[gt_mp hi,gt_mp hi'] at this
      exact this
    have q:=H.la _ (gt_mem hi')
    rw[e] at q
    exact ⟨e,q,K.la _ (gt_mem hi),G.f _ (List.mem_map_of_mem (f:=(·.l)) (gt_mem hi))⟩
end
section
variable {F:FuncId→Option AFunc} {meth:Meth} {sm:Summ}
def W4 (F:FuncId→Option AFunc) (meth:Meth) (sm:Summ):Prop:= ∀ (n:Nat) (h:Blks) (lg d:List Nat) (s:SnapX),SnapR h s→
  Wa F meth sm (n+2000) (.fn 4) [.agg (snapC s)] ⟨bxt h [],lg,d⟩ (Qk ⟨h,lg,d⟩ fun w _=> ∃ b:Bool,w= .bool b∧(b=true→LightS s))
def W7 (F:FuncId→Option AFunc) (meth:Meth) (sm:Summ):Prop:= ∀ (n:Nat) (h:Blks) (lg d:List Nat) (s:SnapX),SnapAt h s→SnapL s→
  Wa F meth sm (n+3000) (.fn 7) [.agg (snapC s)] ⟨bxt h [],lg,d⟩ (Qk ⟨h,lg,d⟩ fun w h'=> ∃ s',w= .agg (snapC s')∧OwnS h.length h' s'∧s'.d=s.d)
def W9 (F:FuncId→Option AFunc) (meth:Meth) (sm:Summ):Prop:= ∀ (n:Nat) (h:Blks) (lg d:List Nat) (own:Bool) (s:SnapX),bget h 0=some (.row own 1 headsR)→SnapAt h s→SnapN s→SnapO s→
  Wa F meth sm (n+4000) (.fn 9) [.agg (snapC s)] ⟨bxt h [],lg,d⟩ (Qk ⟨h,lg,d⟩ (ResV (snapE s.d) (spacesV s.d.nodes)))
def W10 (F:FuncId→Option AFunc) (meth:Meth) (sm:Summ):Prop:= ∀ (n:Nat) (h:Blks) (lg d:List Nat) (s:SnapX),SnapAt h s→SnapN s→
  Wa F meth sm (n+4000) (.fn 10) [.agg (snapC s)] ⟨bxt h [],lg,d⟩ (Qk ⟨h,lg,d⟩ (ResV (snapE s.d) (spacesV s.d.nodes)))
def W11 (F:FuncId→Option AFunc) (meth:Meth) (sm:Summ):Prop:= ∀ (n:Nat) (h:Blks) (lg d:List Nat) (s:SnapX),SnapAt h s→SnapN s→SnapO s→
  Wa F meth sm (n+4000) (.fn 11) [.agg (snapC s)] ⟨bxt h [],lg,d⟩ (Qk ⟨h,lg,d⟩ (ResV (snapE s.d) (credsV s.d.nodes s.d.nodes.length)))
def W12 (F:FuncId→Option AFunc) (meth:Meth) (sm:Summ):Prop:= ∀ (n:Nat) (h:Blks) (lg d:List Nat) (s:SnapX),SnapAt h s→SnapN s→
  Wa F meth sm (n+4000) (.fn 12) [.agg (snapC s)] ⟨bxt h [],lg,d⟩ (Qk ⟨h,lg,d⟩ (ResV (snapE s.d) (credsV s.d.nodes s.d.nodes.length)))
def W16 (F:FuncId→Option AFunc) (meth:Meth) (sm:Summ):Prop:= ∀ (n:Nat) (h:Blks) (lg d:List Nat) (s:SnapX) (l:List BunD) (v:AV),SnapAt h s→SlAt h 9 v (l.map bunC)→l.length≤10000→(∀ x∈l,x.data.length≤1000000∧I x.total)→
  Wa F meth sm (n+4000) (.fn 16) [.agg (snapC s),v] ⟨bxt h [],lg,d⟩ (Qk ⟨h,lg,d⟩ (ResV (custE s.d l) (custV s.d l)))
def W18 (F:FuncId→Option AFunc) (meth:Meth) (sm:Summ):Prop:= ∀ (n:Nat) (h:Blks) (lg d:List Nat) (own:Bool) (s:SnapX) (l:List BunD) (v:AV),bget h 0=some (.row own 1 headsR)→SnapAt h s→SnapN s→SnapO s→SlAt h 9 v (l.map bunC)→l.length≤10000→(∀ x∈l,x.data.length≤1000000∧I x.total)→
  Wa F meth sm (n+4000) (.fn 18) [.agg (snapC s),v] ⟨bxt h [],lg,d⟩ (Qk ⟨h,lg,d⟩ (ResV (custE s.d l) (spacesV s.d.nodes++credsV s.d.nodes s.d.nodes.length++custV s.d l)))
def W19 (F:FuncId→Option AFunc) (meth:Meth) (sm:Summ):Prop:= ∀ (n:Nat) (h:Blks) (lg d:List Nat) (s:SnapX) (l:List BunD) (v:AV),SnapAt h s→SnapN s→SlAt h 9 v (l.map bunC)→l.length≤10000→(∀ x∈l,x.data.length≤1000000∧I x.total)→
  Wa F meth sm (n+5000) (.fn 19) [.agg (snapC s),v] ⟨bxt h [],lg,d⟩ (Qk ⟨h,lg,d⟩ (ResV (custE s.d l) (spacesV s.d.nodes++credsV s.d.nodes s.d.nodes.length++custV s.d l)))
def H6 (sm:Summ):Prop:= ∀ m:Mem,bget m.blks 0=some (.row false 1 headsR)→sm 6 [] m=some (.bool true,m)
structure LawM (own:Bool) (x y:Nat) (s s':SnapX) (l:List BunD) (v p:AV) (h:Blks):Prop where
  g:bget h 0=some (.row own 1 headsR)
  z:bget h x=some (.row true 3 [snapC s])
  y:bget h y=some (.row true 3 [snapC s'])
  R:SnapR h s
  R':SnapR h s'
  v:SlAt h 9 v (l.map bunC)
  p:SlAt h 9 p (l.map bunC)
theorem LawM.keep {own:Bool} {x y:Nat} {s s':SnapX} {l:List BunD} {v p:AV} {h h':Blks} {lg lg' d:List Nat} (H:LawM own x y s s' l v p h) (k:Keep ⟨h,lg,d⟩ ⟨h',lg',d⟩):LawM own x y s s' l v p h':=
  ⟨(k.get _ (bget_lt H.g)).trans H.g,(k.get _ (bget_lt H.z)).trans H.z,(k.get _ (bget_lt H.y)).trans H.y,SnapR.keep (m:=⟨h,lg,d⟩) (m':=⟨h',lg',d⟩) H.R k,SnapR.keep (m:=⟨h,lg,d⟩) (m':=⟨h',lg',d⟩) H.R' k,SlAt.keep (m:=⟨h,lg,d⟩) (m':=⟨h',lg',d⟩) H.v k,SlAt.keep (m:=⟨h,lg,d⟩) (m':=⟨h',lg',d⟩) H.p k⟩
theorem LawM.bz {own:Bool} {x y:Nat} {s s':SnapX} {l:List BunD} {v p:AV} {h:Blks} (H:LawM own x y s s' l v p h) (q:List (Option ABlk)):bget (bxt h q) x=some (.row true 3 [[.int .i64 s.now,s.nv,s.lv]]):=(bxt_old q h _ (bget_lt H.z)).trans H.z
theorem LawM.by' {own:Bool} {x y:Nat} {s s':SnapX} {l:List BunD} {v p:AV} {h:Blks} (H:LawM own x y s s' l v p h) (q:List (Option ABlk)):bget (bxt h q) y=some (.row true 3 [[.int .i64 s'.now,s'.nv,s'.lv]]):=(bxt_old q h _ (bget_lt H.y)).trans H.y
theorem e3 (hF:F 3=some AF3) (hs: ∀ vs m,sm 3 vs m=none) (n:Nat) (h:Blks) (lg d:List Nat) (h5:H5 sm) (h6:H6 sm) (h13:H13 sm) (h14:H14 sm) (h15:H15 sm) (h20:H20 sm) (h21:H21 sm) (g4:W4 F meth sm) (g7:W7 F meth sm) (g8:W8 F meth sm) (g9:W9 F meth sm) (g10:W10 F meth sm) (g11:W11 F meth sm) (g12:W12 F meth sm) (g16:W16 F meth sm) (g17:W17 F meth sm) (g18:W18 F meth sm) (g19:W19 F meth sm)
    {s:SnapX} {l:List BunD} {v:AV} (hg:bget h 0=some (.row false 1 headsR)) (R:SnapR h s) (he: ∀ x∈s.vs,ViewE x) (hn: ∀ x∈s.vs,VNum x.v) (hv:SlAt h 9 v (l.map bunC)) (hb: ∀ b∈l,I b.total):Wa F meth sm (n+6000) (.fn 3) [.agg (snapC s),v] ⟨bxt h [],lg,d⟩ (Qk ⟨h,lg,d⟩ fun w _=>w= .bool true):=by
  have c1:=R.v.sc
  have c2:=R.l.sc
  have c3:=hv.sc
  have lv:=hv.len
  rw[List.length_map] at lv
  simp+contextual -implicitDefEqProofs (maxSteps:=1000000) (maxDischargeDepth:=20) only[go_sem,simprocAttr,hs,hF,AF3,snapC,c1,c2,c3,q_k]
  rw[←w_a]
  refine Wa_k (g4 (n+3999) (bxt h [some (.row true 3 [snapC s])]) _ _ s (R.bx _)) (fun w h2 lg2 k2 hw2=> ?_)
  obtain ⟨b,rfl,hb4⟩:=hw2
  have kk:Keep ⟨h,lg,d⟩ ⟨h2,lg2,d⟩:=(keep_bx (by repeat first |exact LogOK.nil |apply LogOK.cons)).trans k2.sub
  have z2:bget h2 (nb h 0)=some (.row true 3 [snapC s]):=(k2.get _ (by rw[bxt_len];simp[nb])).trans nb_get
  have b2: ∀ q,bget (bxt h2 q) (nb h 0)=some (.row true 3 [[.int .i64 s.now,s.nv,s.lv]]):=fun q=>(bxt_old q h2 _ (bget_lt z2)).trans z2
  have hv2:SlAt h2 9 v (l.map bunC):=SlAt.keep (m:=⟨h,lg,d⟩) (m':=⟨h2,lg2,d⟩) hv kk
  have hg2:bget h2 0=some (.row false 1 headsR):=(kk.get 0 (bget_lt hg)).trans hg
  have g6:=fun q lg' d'=>h6 ⟨bxt h2 q,lg',d'⟩ ((bxt_old q h2 _ (bget_lt hg2)).trans hg2)
  have done: ∀ q lg',LogOK h2 lg2 lg'→Qk ⟨h,lg,d⟩ (fun w _=>w= .bool true) (.bool true) ⟨bxt h2 q,lg',d⟩:=fun q lg' hq=>⟨kk.trans (keep_bx hq),rfl⟩
  by_cases hb:b=true
  · subst hb
    have L:=hb4 rfl
    have G:=good_of hn he L
    by_cases hNN:(20:Int)<(l.length:Int)
    · simp+contextual -implicitDefEqProofs (maxSteps:=1000000) (maxDischargeDepth:=20) only[go_sem,simprocAttr,g6,c1,c2,c3,b2,lv,hNN]
      exact done _ _ (by repeat first |exact LogOK.nil |apply LogOK.cons)
    · have g5:=fun q lg' d'=>h5 l v ⟨bxt h2 q,lg',d'⟩ (hv2.bx q) (by omega)
      by_cases hL:lightL l=true
      · have fL:decide (lightL l=true)=true:=decide_eq_true hL
        rw[fL] at g5
        simp+contextual -implicitDefEqProofs (maxSteps:=1000000) (maxDischargeDepth:=20) only[go_sem,simprocAttr,g6,c1,c2,c3,b2,lv,hNN,g5]
        rw[←w_a]
        have R2:SnapR h2 s:=SnapR.keep (m:=⟨h,lg,d⟩) (m':=⟨h2,lg2,d⟩) R kk
        have S2:=snap_at R2 he G
        have N0:=snap_n he G
        refine Wa_k (g7 (n+2999) h2 _ _ s S2 (snap_l he G)) (fun w h3 lg3 k3 hw3=> ?_)
        obtain ⟨s',rfl,ow,ed⟩:=hw3
        have hv3:SlAt h3 9 v (l.map bunC):=SlAt.keep (m:=⟨h2,lg2,[]⟩) (m':=⟨h3,lg3,[]⟩) hv2 k3
        have o1:=ow.v.sl.sc
        have o2:=ow.l.sl.sc
        simp+contextual -implicitDefEqProofs (maxSteps:=1000000) (maxDischargeDepth:=20) only[go_sem,simprocAttr,c3]
        rw[←w_a]
        refine Wa_k (g8 (n+4999) h3 _ _ l v hv3 (by omega)) (fun p h4 lg4 k4 hw4=> ?_)
        have p1:=hw4.sl.sc
        simp+contextual -implicitDefEqProofs (maxSteps:=1000000) (maxDischargeDepth:=20) only[go_sem,simprocAttr,c3,snapC,o1,o2,p1]
        rw[←w_a]
        have G':SGood s'.d:=by rw[ed];exact G
        have he':=own_e ow
        have O':=own_o ow
        have N':=snap_n he' G'
        have l20:l.length≤1000:=by omega
        have l21:l.length≤10000:=by omega
        have hd: ∀ x∈l,x.data.length≤1000000∧I x.total:=fun x hx=>⟨by have:=List.all_eq_true.1 hL x hx;have:=of_decide_eq_true this;omega,hb x hx⟩
        have K24:Keep ⟨h2,lg2,[]⟩ ⟨h4,lg4,[]⟩:=k3.trans k4
        have M0:LawM false (nb h 0) (nb h4 0) s s' l v p (bxt h4 [some (.row true 3 [snapC s'])]):=
          ⟨(bxt_old _ h4 _ (bget_lt ((K24.get 0 (bget_lt hg2)).trans hg2))).trans ((K24.get 0 (bget_lt hg2)).trans hg2),
           (bxt_old _ h4 _ (bget_lt ((K24.get _ (bget_lt z2)).trans z2))).trans ((K24.get _ (bget_lt z2)).trans z2),nb_get,
           (SnapR.keep (m:=⟨h2,lg2,[]⟩) (m':=⟨h4,lg4,[]⟩) R2 K24).bx _,(SnapR.keep (m:=⟨h3,lg3,[]⟩) (m':=⟨h4,lg4,[]⟩) (own_r ow G') k4).bx _,
           (SlAt.keep (m:=⟨h2,lg2,[]⟩) (m':=⟨h4,lg4,[]⟩) hv2 K24).bx _,hw4.sl.bx _⟩
        refine Wa_k (g9 (n+1999) (bxt h4 [some (.row true 3 [snapC s'])]) _ _ false s' M0.g (snap_at M0.R' he' G') N' O') (fun w h5 lg5 k5 hw5=> ?_)
        rw[ed] at hw5
        obtain ⟨va,rfl,sa,oa⟩:=hw5
        have M5:=M0.keep k5
        have b5z:=M5.bz
        have b5y:=M5.by'
        have s5:=sa.sc
        simp+contextual -implicitDefEqProofs (maxSteps:=1000000) (maxDischargeDepth:=20) only[go_sem,simprocAttr,snapC,c1,c2,o1,o2,p1,b5z,b5y,s5]
        rw[←w_a]
        refine Wa_k (g10 (n+1999) h5 _ _ s (snap_at M5.R he G) N0) (fun w hA lg6 k6 hw6=> ?_)
        obtain ⟨vb,rfl,sb',ob⟩:=hw6
        have M6:=M5.keep k6
        have b6z:=M6.bz
        have b6y:=M6.by'
        have s6:=sb'.sc
        simp+contextual -implicitDefEqProofs (maxSteps:=1000000) (maxDischargeDepth:=20) only[go_sem,simprocAttr,snapC,c1,c2,o1,o2,p1,b6z,b6y,s5,s6]
        rw[←w_a]
        refine Wa_k (g11 (n+1999) hA _ _ s' (snap_at M6.R' he' G') N' O') (fun w hB lg7 k7 hw7=> ?_)
        rw[ed] at hw7
        obtain ⟨vc,rfl,sc',oc⟩:=hw7
        have M7:=M6.keep k7
        have b7z:=M7.bz
        have b7y:=M7.by'
        have s7:=sc'.sc
        simp+contextual -implicitDefEqProofs (maxSteps:=1000000) (maxDischargeDepth:=20) only[go_sem,simprocAttr,snapC,c1,c2,o1,o2,p1,b7z,b7y,s5,s6,s7]
        rw[←w_a]
        refine Wa_k (g12 (n+1999) hB _ _ s (snap_at M7.R he G) N0) (fun w hC lg8 k8 hw8=> ?_)
        obtain ⟨vd,rfl,sd,od⟩:=hw8
        have M8:=M7.keep k8
        have b8z:=M8.bz
        have b8y:=M8.by'
        have s8:=sd.sc
        have K68:Keep ⟨hA,lg6,[]⟩ ⟨hC,lg8,[]⟩:=k7.trans k8
        have K58:Keep ⟨h5,lg5,[]⟩ ⟨hC,lg8,[]⟩:=k6.trans K68
        have ta:SlAt hC 6 va _:=SlAt.keep (m:=⟨h5,lg5,[]⟩) (m':=⟨hC,lg8,[]⟩) sa K58
        have tb:SlAt hC 6 vb _:=SlAt.keep (m:=⟨hA,lg6,[]⟩) (m':=⟨hC,lg8,[]⟩) sb' K68
        have tc:SlAt hC 6 vc _:=SlAt.keep (m:=⟨hB,lg7,[]⟩) (m':=⟨hC,lg8,[]⟩) sc' k8
        have n1: ∀ (V:List VioD) (e:Int),V.length≤20000→(if e=0 then V else []).length≤20000:=fun V e q=>by split;exact q;exact Nat.zero_le _
        have nn:s.d.nodes.length≤18:=by have:=L.n;simp only[SnapX.d,List.length_map];exact this
        have na:(spacesV s.d.nodes).length≤20000:=by have:=spacesV_len s.d.nodes;omega
        have nc:(credsV s.d.nodes s.d.nodes.length).length≤20000:=by
          have h1:=credsV_len s.d.nodes s.d.nodes.length
          have h2:s.d.nodes.length*s.d.nodes.length≤18*18:=Nat.mul_le_mul nn nn
          omega
        have q13:=fun q lg' d'=>h13 s' ⟨bxt hC q,lg',d'⟩ ((snap_at M8.R' he' G').bx q)
        rw[ed] at q13
        have q14:=fun q lg' d'=>h14 s ⟨bxt hC q,lg',d'⟩ ((snap_at M8.R he G).bx q)
        have qa:=fun q lg' d'=>h15 _ va vb ⟨bxt hC q,lg',d'⟩ (ta.bx q) (tb.bx q) (n1 _ _ na)
        have qc:=fun q lg' d'=>h15 _ vc vd ⟨bxt hC q,lg',d'⟩ (tc.bx q) (sd.bx q) (n1 _ _ nc)
        unfold snapC at q13 q14
        simp+contextual -implicitDefEqProofs (maxSteps:=1000000) (maxDischargeDepth:=20) only[go_sem,simprocAttr,c1,c2,o1,o2,p1,b8z,b8y,s5,s6,s7,s8,q13,q14,qa,qc]
        rw[←w_a]
        refine Wa_k (g16 (n+1999) hC _ _ s' l p (snap_at M8.R' he' G') M8.p l21 hd) (fun w hD lg9 k9 hw9=> ?_)
        rw[ed] at hw9
        obtain ⟨va2,rfl,sa2,oa2⟩:=hw9
        have M9:=M8.keep k9
        have b9z:=M9.bz
        have b9y:=M9.by'
        have t5:=sa2.sc
        simp+contextual -implicitDefEqProofs (maxSteps:=1000000) (maxDischargeDepth:=20) only[go_sem,simprocAttr,snapC,c1,c2,c3,o1,o2,p1,b9z,b9y,t5]
        rw[←w_a]
        refine Wa_k (g17 (n+1999) hD _ _ s l v (snap_at M9.R he G) M9.v l21 hd) (fun w hE lgA kA hwA=> ?_)
        obtain ⟨vb2,rfl,sb2,ob2⟩:=hwA
        have MA:=M9.keep kA
        have bAz:=MA.bz
        have bAy:=MA.by'
        have t6:=sb2.sc
        simp+contextual -implicitDefEqProofs (maxSteps:=1000000) (maxDischargeDepth:=20) only[go_sem,simprocAttr,snapC,c1,c2,c3,o1,o2,p1,bAz,bAy,t5,t6]
        rw[←w_a]
        refine Wa_k (g18 (n+1999) hE _ _ false s' l p MA.g (snap_at MA.R' he' G') N' O' MA.p l21 hd) (fun w hG lgB kB hwB=> ?_)
        rw[ed] at hwB
        obtain ⟨vc2,rfl,sc2,oc2⟩:=hwB
        have MB:=MA.keep kB
        have bBz:=MB.bz
        have bBy:=MB.by'
        have t7:=sc2.sc
        simp+contextual -implicitDefEqProofs (maxSteps:=1000000) (maxDischargeDepth:=20) only[go_sem,simprocAttr,snapC,c1,c2,c3,o1,o2,p1,bBz,bBy,t5,t6,t7]
        rw[←w_a]
        refine Wa_k (g19 (n+999) hG _ _ s l v (snap_at MB.R he G) (snap_n he G) MB.v l21 hd) (fun w hI lgC kC hwC=> ?_)
        obtain ⟨vd2,rfl,sd2,od2⟩:=hwC
        have MC:=MB.keep kC
        have bCz:=MC.bz
        have bCy:=MC.by'
        have t8:=sd2.sc
        have KAC:Keep ⟨hE,lgA,[]⟩ ⟨hI,lgC,[]⟩:=kB.trans kC
        have K9C:Keep ⟨hD,lg9,[]⟩ ⟨hI,lgC,[]⟩:=kA.trans KAC
        have ta2:SlAt hI 6 va2 _:=SlAt.keep (m:=⟨hD,lg9,[]⟩) (m':=⟨hI,lgC,[]⟩) sa2 K9C
        have tb2:SlAt hI 6 vb2 _:=SlAt.keep (m:=⟨hE,lgA,[]⟩) (m':=⟨hI,lgC,[]⟩) sb2 KAC
        have tc2:SlAt hI 6 vc2 _:=SlAt.keep (m:=⟨hG,lgB,[]⟩) (m':=⟨hI,lgC,[]⟩) sc2 kC
        have nu:(custV s.d l).length≤19000:=by
          have:=custV_len (l:=l) (fun v hv=>(G.v v hv).w1)
          omega
        have nv:(spacesV s.d.nodes++credsV s.d.nodes s.d.nodes.length++custV s.d l).length≤20000:=by
          have h0:=spacesV_len s.d.nodes
          have h1:=credsV_len s.d.nodes s.d.nodes.length
          have h2:s.d.nodes.length*s.d.nodes.length≤18*18:=Nat.mul_le_mul nn nn
          rw[List.length_append,List.length_append]
          omega
        have qa2:=fun q lg' d'=>h15 _ va2 vb2 ⟨bxt hI q,lg',d'⟩ (ta2.bx q) (tb2.bx q) (n1 _ _ (by omega))
        have qc2:=fun q lg' d'=>h15 _ vc2 vd2 ⟨bxt hI q,lg',d'⟩ (tc2.bx q) (sd2.bx q) (n1 _ _ nv)
        have q20:=fun q lg' d'=>h20 s' s ⟨bxt hI q,lg',d'⟩ ((same_of MC.R' MC.R he' he ed G).bx q)
        have q21:=fun q lg' d'=>h21 l p v ⟨bxt hI q,lg',d'⟩ (MC.p.bx q) (MC.v.bx q) l20
        have q6:=fun q lg' d'=>h6 ⟨bxt hI q,lg',d'⟩ ((bxt_old q hI _ (bget_lt MC.g)).trans MC.g)
        unfold snapC at q20
        simp+contextual -implicitDefEqProofs (maxSteps:=1000000) (maxDischargeDepth:=20) only[go_sem,simprocAttr,c1,c2,c3,o1,o2,p1,bCz,bCy,t5,t6,t7,t8,qa2,qc2,q20,q21,q6]
        have K45:Keep ⟨h4,lg4,[]⟩ ⟨bxt h4 [some (.row true 3 [snapC s'])],nb h4 0::nb h4 0::lg4,[]⟩:=keep_bx (by repeat first |exact LogOK.nil |apply LogOK.cons)
        exact ⟨kk.trans ((K24.trans (K45.trans (k5.trans (K58.trans (k9.trans K9C))))).sub (d:=d)),rfl⟩
      · have fL:decide (lightL l=true)=false:=decide_eq_false hL
        rw[fL] at g5
        simp+contextual -implicitDefEqProofs (maxSteps:=1000000) (maxDischargeDepth:=20) only[go_sem,simprocAttr,g6,c1,c2,c3,b2,lv,hNN,g5]
        exact done _ _ (by repeat first |exact LogOK.nil |apply LogOK.cons)
  · have hb:b=false:=by simpa using hb
    subst hb
    simp+contextual -implicitDefEqProofs (maxSteps:=1000000) (maxDischargeDepth:=20) only[go_sem,simprocAttr,g6,c1,c2,c3,b2,lv]
    exact done _ _ (by repeat first |exact LogOK.nil |apply LogOK.cons)
end
end Go.Abs
end
