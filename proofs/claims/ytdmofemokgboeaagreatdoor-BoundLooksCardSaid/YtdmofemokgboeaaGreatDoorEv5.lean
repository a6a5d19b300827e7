/- Regions whose order is drawn; calls; rows of the memory: the model does what the evaluator says.
   Conditions: none. -/
import Derived.Test.YtdmofemokgboeaaGreatDoorEv4
import Derived.OpenShut
set_option linter.unusedSimpArgs false
set_option linter.unusedVariables false
set_option maxRecDepth 100000
noncomputable section
namespace Go.Abs
def AOp.quiet (op:AOp):Bool:= !op.makes && !op.isMaker
section
variable {get get':Nat→Option ABlk} {nid nid':Nat} {T T':Tr}
theorem map_aev {xs:List AOpnd} (h: ∀ x∈xs,aev T x=aev T' x):xs.map (aev T)=xs.map (aev T'):=List.map_congr_left h
theorem opt_aev {x:Option AOpnd} (h: ∀ y∈x.toList,aev T y=aev T' y):x.map (aev T)=x.map (aev T'):=by
  cases x with
  |none=>rfl
  |some y=>simp[h y (by simp)]
theorem aprim_T {op:AOp} (h: ∀ x∈op.opnds,aev T x=aev T' x):aprim get nid T op=aprim get nid T' op:=by
  have h1: ∀ {x:AOpnd},x∈op.opnds→aev T x=aev T' x:=fun hx=>h _ hx
  cases op <;>simp only[AOp.opnds,List.mem_cons,List.not_mem_nil,or_false,forall_eq_or_imp,forall_eq,List.mem_append,List.mem_map] at h
  case build z parts=>
    have e:(parts.map fun (x:Nat × Nat × AOpnd)=>(x.1,x.2.1,aev T x.2.2))=parts.map fun (x:Nat × Nat × AOpnd)=>(x.1,x.2.1,aev T' x.2.2):=List.map_congr_left fun x hx=>by rw[h x.2.2 ⟨x,hx,rfl⟩]
    simp only[aprim,e]
  case slit esz len z parts=>
    have e:(parts.map fun (x:Nat × AOpnd)=>(x.1,aev T x.2))=parts.map fun (x:Nat × AOpnd)=>(x.1,aev T' x.2):=List.map_congr_left fun x hx=>by rw[h x.2 ⟨x,hx,rfl⟩]
    simp only[aprim,e]
  case mkfunc f a c=>
    simp only[aprim,map_aev (fun x hx=>h x (.inl hx)),map_aev (fun x hx=>h x (.inr hx))]
  case sliceStr x lo hi=>simp only[aprim,h.1,opt_aev (fun x hx=>h.2 x (.inl hx)),opt_aev (fun x hx=>h.2 x (.inr hx))]
  case sliceS x lo hi mx=>simp only[aprim,h.1,opt_aev (fun x hx=>h.2 x (.inl hx)),opt_aev (fun x hx=>h.2 x (.inr (.inl hx))),opt_aev (fun x hx=>h.2 x (.inr (.inr hx)))]
  case sliceA x lo hi mx=>simp only[aprim,h.1,opt_aev (fun x hx=>h.2 x (.inl hx)),opt_aev (fun x hx=>h.2 x (.inr (.inl hx))),opt_aev (fun x hx=>h.2 x (.inr (.inr hx)))]
  case minmax m xs=>simp only[aprim,map_aev h]
  case call=>rfl
  case callv=>rfl
  case invoke=>rfl
  all_goals simp only[aprim,h]
theorem elemsOf_mono (hg: ∀ b x,get b=some x→get' b=some x) {esz:Nat} {x:AV} {r:List (List AV)} (h:elemsOf get esz x=some r):elemsOf get' esz x=some r:=by
  unfold elemsOf at h ⊢
  split at h
  · exact h
  · exact h
  · exact h
  · exact h
  · split at h
    · rename_i hb
      rw[hg _ _ hb]
      exact h
    · cases h
  · exact h
  · cases h
theorem aslice_mono (hg: ∀ b x,get b=some x→get' b=some x) {esz:Nat} {x:AV} {lo hi mx:Option AV} {r:AV} (h:aslice get esz x lo hi mx=some r):aslice get' esz x lo hi mx=some r:=by
  unfold aslice at h ⊢
  split at h
  · exact h
  · exact h
  · split at h
    · rename_i hb
      rw[hg _ _ hb]
      exact h
    · cases h
  · cases h
theorem asliceA_mono (hg: ∀ b x,get b=some x→get' b=some x) {esz len:Nat} {x:AV} {lo hi mx:Option AV} {r:AV} (h:asliceA get esz len x lo hi mx=some r):asliceA get' esz len x lo hi mx=some r:=by
  unfold asliceA at h ⊢
  split at h
  · split at h
    · rename_i hb
      rw[hg _ _ hb]
      exact h
    · cases h
  · cases h
theorem aappend_mono (hg: ∀ b x,get b=some x→get' b=some x) {esz bytes:Nat} {s x:AV} {r:AV × List Chg} (h:aappend get nid esz bytes s x=some r):aappend get' nid esz bytes s x=some r:=by
  unfold aappend at h ⊢
  split at h
  · cases h
  · rename_i hx
    rw[elemsOf_mono hg hx]
    exact h
  · rename_i hne hx
    rw[elemsOf_mono hg hx]
    split at h
    · split
      · rename_i e;cases e
      · rename_i e;cases e;exact absurd rfl hne
      · rename_i e;cases e;exact h
    · split
      · rename_i e;cases e
      · rename_i e;cases e;exact absurd rfl hne
      · rename_i e;cases e;exact h
    · split at h
      · rename_i hb
        split
        · rename_i e;cases e
        · rename_i e;cases e;exact absurd rfl hne
        · rename_i e
          cases e
          simp only[hg _ _ hb]
          exact h
      · cases h
    · cases h
theorem acopy_mono (hg: ∀ b x,get b=some x→get' b=some x) {esz:Nat} {d s:AV} {r:AV × List Chg} (h:acopy get esz d s=some r):acopy get' esz d s=some r:=by
  unfold acopy at h ⊢
  split at h
  · cases h
  · rename_i hx
    rw[elemsOf_mono hg hx]
    simp only
    split at h
    · exact h
    · exact h
    · simp only at h ⊢
      split at h
      · rw[if_pos (by assumption)]
        exact h
      · rw[if_neg (by assumption)]
        split at h
        · rename_i hb
          rw[hg _ _ hb]
          exact h
        · cases h
    · cases h
theorem aprim_mono (hg: ∀ b x,get b=some x→get' b=some x) {op:AOp} {r:AV × List Chg} (h:aprim get nid T op=some r):aprim get' nid T op=some r:=by
  cases op <;>simp only[aprim] at h ⊢
  case app=>exact aappend_mono hg h
  case copy=>exact acopy_mono hg h
  case sliceS=>
    simp only[Option.map_eq_some_iff] at h ⊢
    obtain ⟨v,h1,h2⟩:=h
    exact ⟨v,aslice_mono hg h1,h2⟩
  case sliceA=>
    simp only[Option.map_eq_some_iff] at h ⊢
    obtain ⟨v,h1,h2⟩:=h
    exact ⟨v,asliceA_mono hg h1,h2⟩
  case conv k x=>
    split at h
    · exact h
    · exact h
    · split at h
      · cases h
      · split at h
        · rename_i hx
          rw[elemsOf_mono hg hx]
          exact h
        · cases h
    · exact h
    · cases h
  case load=>
    split at h
    · split at h
      · rename_i hb
        rw[hg _ _ hb]
        exact h
      · cases h
    · cases h
  case store=>
    split at h
    · split at h
      · rename_i hb
        rw[hg _ _ hb]
        exact h
      · cases h
    · cases h
  case idxS=>
    split at h
    · split at h
      · rename_i hb
        rw[hg _ _ hb]
        exact h
      · cases h
    · cases h
  case idxA=>
    split at h
    · split at h
      · rename_i hb
        rw[hg _ _ hb]
        exact h
      · cases h
    · cases h
  case len =>
    split at h
    all_goals first
      |exact h
      | (split at h
         · rename_i hb
           rw[hg _ _ hb]
           exact h
         · cases h)
      |(cases h;done)
  case look=>
    split at h
    · exact h
    · split at h
      · rename_i hb
        rw[hg _ _ hb]
        exact h
      · cases h
    · cases h
  case mapset=>
    split at h
    · split at h
      · rename_i hb
        rw[hg _ _ hb]
        exact h
      · cases h
    · cases h
  all_goals exact h
theorem aprim_nid {op:AOp} (hq:op.quiet=true):aprim get nid T op=aprim get nid' T op:=by
  cases op <;>simp[AOp.quiet,AOp.makes,AOp.isMaker] at hq <;>try rfl
  case conv k x=>
    cases k with
    |s2b n=>simp at hq
    |toInt k=>simp only[aprim];split <;>first |rfl |simp_all
    |same=>simp only[aprim];split <;>first |rfl |simp_all
    |b2s=>simp only[aprim]
theorem acallee_T {meth:Meth} {op:AOp} (h: ∀ x∈op.opnds,aev T x=aev T' x):acallee get meth T op=acallee get meth T' op:=by
  have hl: ∀ {xs:List AOpnd},(∀ x∈xs,aev T x=aev T' x)→aevs T xs=aevs T' xs:=by
    intro xs hx
    rw[aevs_map,aevs_map,map_aev hx]
  cases op <;>simp only[acallee]
  case call f args=>rw[hl (xs:=args) h]
  case callv x args=>
    simp only[AOp.opnds,List.mem_cons,forall_eq_or_imp] at h
    rw[h.1,hl h.2]
  case invoke x name args=>
    simp only[AOp.opnds,List.mem_cons,forall_eq_or_imp] at h
    rw[h.1,hl h.2]
    simp only[aprim,aev]
theorem acallee_mono {meth:Meth} (hg: ∀ b x,get b=some x→get' b=some x) {op:AOp} {r:ACallee × List AV} (h:acallee get meth T op=some r):acallee get' meth T op=some r:=by
  cases op <;>simp only[acallee] at h ⊢
  case call=>exact h
  case callv=>exact h
  case invoke=>
    split at h
    · split at h
      · exact h
      · split at h
        · rename_i hp
          rw[aprim_mono hg hp]
          exact h
        · cases h
      · cases h
    · cases h
  all_goals cases h
end
structure Trk (m m':Mem):Prop where
  log: ∃ l,m'.log=l++m.log∧(∀ b,b ∉ l→bget m'.blks b=bget m.blks b)∧ ∀ b∈l,b<m'.blks.length
  own: ∀ b x,bget m'.blks b=some x→x.own=false→bget m.blks b=some x
  len:m.blks.length≤m'.blks.length
theorem Trk.refl (m:Mem):Trk m m:=⟨⟨[],rfl,fun _ _=>rfl,fun _ h=>by cases h⟩,fun _ _ h _=>h,Nat.le_refl _⟩
theorem Trk.trans {a b c:Mem} (h:Trk a b) (k:Trk b c):Trk a c where
  log :=by
    obtain ⟨l,h1,h2,h3⟩:=h.log
    obtain ⟨l',k1,k2,k3⟩:=k.log
    refine ⟨l'++l,by rw[k1,h1,List.append_assoc],fun x hx=> ?_,fun x hx=> ?_⟩
    · simp only[List.mem_append,not_or] at hx
      rw[k2 x hx.1,h2 x hx.2]
    · rcases List.mem_append.1 hx with hx |hx
      · exact k3 x hx
      · exact Nat.lt_of_lt_of_le (h3 x hx) k.len
  own:=fun x y hx hy=>h.own x y (k.own x y hx hy) hy
  len:=Nat.le_trans h.len k.len
theorem Trk.dfrs {m m':Mem} (h:Trk m m') (d d':List Nat):Trk {m with dfrs:=d} {m' with dfrs:=d'}:=⟨h.log,h.own,h.len⟩
theorem Trk.apply {m:Mem} {c:Chg} (hid:c.id≤m.blks.length) (hb: ∀ x,c.blk=some x→x.own=true):Trk m (m.apply c) where
  log:=⟨[c.id],rfl,fun b hb=>by rw[apply_blks,bget_bput hid,if_neg (by simpa using hb)],fun b hb=>by
    rw[List.mem_singleton] at hb
    subst hb
    rw[apply_blks,length_bput'];omega⟩
  own:=fun b x hx ho=>by
    rw[apply_blks,bget_bput hid] at hx
    split at hx
    · rw[hb _ hx] at ho;cases ho
    · exact hx
  len:=by rw[apply_blks,length_bput'];omega
theorem data_own {x:ABlk} (h:x.data=true):x.own=true:=by cases x <;>first |exact h |rfl |cases h
theorem Trk.applyAll: ∀ (cs:List Chg) (m:Mem),(∀ c∈cs,c.id≤m.blks.length∧ ∀ x,c.blk=some x→x.own=true)→Trk m (m.applyAll cs)
  | [],m,_=>Trk.refl m
  | c::cs,m,h=>by
    obtain ⟨h1,h2⟩:=h c (by simp)
    have t:=Trk.apply (c:=c) h1 h2
    refine t.trans (Trk.applyAll cs _ fun d hd=> ?_)
    obtain ⟨g1,g2⟩:=h d (by simp[hd])
    exact ⟨Nat.le_trans g1 t.len,g2⟩
theorem bmore_length: ∀ (n:Nat) (h:Blks),(bmore h n).length=h.length+n
  |0,_=>rfl
  |n+1,h=>by rw[bmore,bmore_length n,length_bput'];omega
theorem bmore_get: ∀ (n:Nat) (h:Blks) (b:Nat),bget (bmore h n) b=bget h b
  |0,_,_=>rfl
  | n+1,h,b=>by
    rw[bmore,bmore_get n,bget_bput (Nat.le_refl _)]
    split
    · rename_i e;rw[e,bget_ge (Nat.le_refl _)]
    · rfl
theorem Trk.more (m:Mem) (n:Nat):Trk m (m.more n) where
  log:=⟨[],rfl,fun b _=>bmore_get n m.blks b,fun _ h=>by cases h⟩
  own:=fun b x hx _=>by rw[←bmore_get n m.blks b];exact hx
  len:=by show _≤(bmore m.blks n).length;rw[bmore_length];omega
def CallT (call:CallF):Prop:= ∀ c vs m v m',call c vs m=some (v,m')→Trk m m'
theorem prim_trk {get:Nat→Option ABlk} {nid:Nat} {T:Tr} {op:AOp} {v:AV} {cs:List Chg} {m:Mem} (hg: ∀ b x,get b=some x→bget m.blks b=some x) (hn:nid≤m.blks.length) (h:aprim get nid T op=some (v,cs)):
    ∀ c∈cs,c.id≤m.blks.length∧ ∀ x,c.blk=some x→x.own=true:=fun c hc=>by
  obtain ⟨h1,h2⟩:=aprim_targets h c hc
  refine ⟨?_,fun x hx=>data_own (h2 x hx)⟩
  rcases h1 with e |⟨x,h1,_⟩
  · omega
  · exact Nat.le_of_lt (bget_lt (hg _ _ h1))
theorem aops_trk {call:CallF} {meth:Meth} (hc:CallT call): ∀ (os:List AOper) (T T':Tr) (m m':Mem),aops call meth os T m=some (T',m')→Trk m m'
  | [],T,T',m,m',h=>by simp only[aops] at h;cases h;exact Trk.refl _
  | o ::os,T,T',m,m',h=>by
    simp only[aops] at h
    split at h
    · split at h
      · rename_i v m1 ho
        refine Trk.trans ?_ (aops_trk hc os _ _ _ _ h)
        unfold aoper at ho
        cases hcl:o.op.isCall <;>rw[hcl] at ho <;>simp only[cond] at ho
        · split at ho
          · rename_i hp
            cases ho
            exact Trk.applyAll _ _ (prim_trk (fun _ _ h=>h) (Nat.le_refl _) hp)
          · cases ho
        · split at ho
          · exact hc _ _ _ _ _ ho
          · cases ho
      · cases h
    · exact aops_trk hc os _ _ _ _ h
    · cases h
theorem ins_mem {l:List Nat} {k:Nat}:ins l k=true↔k∈l:=by
  induction l with
  |nil=>simp[ins]
  | cons x l ih=>
    simp only[ins,List.mem_cons]
    cases hb:Nat.beq x k
    · have:x≠k:=fun e=>by subst e;rw[Nat.beq_refl] at hb;cases hb
      simp only[cond,ih]
      exact ⟨fun h=> .inr h,fun h=>h.elim (fun e=>absurd e.symm this) id⟩
    · have:=Nat.eq_of_beq_eq_true hb
      subst this
      simp
theorem mask_length: ∀ (l:List Nat) (h:Blks),(∀ b∈l,b<h.length)→(mask h l).length=h.length
  | [],_,_=>rfl
  | b::l,h,hl=>by
    have hb:=hl b (by simp)
    have e:(bput h b none).length=h.length:=by rw[length_bput'];omega
    rw[mask,mask_length l _ (fun c hc=>by rw[e];exact hl c (by simp[hc])),e]
theorem mask_get: ∀ (l:List Nat) (h:Blks),(∀ b∈l,b<h.length)→ ∀ c,bget (mask h l) c=if c∈l then none else bget h c
  | [],_,_,_=>by simp[mask]
  | b ::l,h,hl,c=>by
    have hb:=hl b (by simp)
    have e:(bput h b none).length=h.length:=by rw[length_bput'];omega
    rw[mask,mask_get l _ (fun c hc=>by rw[e];exact hl c (by simp[hc])),bget_bput (Nat.le_of_lt hb)]
    by_cases h1:c∈l
    · simp[h1]
    · by_cases h2:c=b
      · simp[h2]
      · simp[h1,h2]
theorem unmask_blks: ∀ (l:List Nat) (h:Blks) (m:Mem),(∀ b∈l,b<m.blks.length)→(unmask m h l).blks.length=m.blks.length∧ ∀ c,bget (unmask m h l).blks c=if c∈l then bget h c else bget m.blks c
  | [],_,_,_=>by simp[unmask]
  | b ::l,h,m,hl=>by
    have hb:=hl b (by simp)
    have e:(bput m.blks b (bget h b)).length=m.blks.length:=by rw[length_bput'];omega
    obtain ⟨g1,g2⟩:=unmask_blks l h {m with blks:=bput m.blks b (bget h b)} (fun c hc=>by simp only;rw[e];exact hl c (by simp[hc]))
    refine ⟨by rw[unmask,g1];exact e,fun c=> ?_⟩
    rw[unmask,g2]
    simp only
    rw[bget_bput (Nat.le_of_lt hb)]
    by_cases h1:c∈l
    · simp[h1]
    · by_cases h2:c=b
      · simp[h2]
      · simp[h1,h2]
theorem clash_false {wr:List Nat} {mk:Bool}: ∀ {rs:List ARec},clash wr mk rs=false→ ∀ r∈rs,(mk && r.maker)=false∧(∀ b∈wr,r.vis b=false)∧ ∀ b∈wr,b ∉ r.wr
  | [],_,r,hr=>by cases hr
  | q ::rs,h,r,hr=>by
    simp only[clash,Bool.or_eq_false_iff] at h
    obtain ⟨⟨⟨h1,h2⟩,h3⟩,h4⟩:=h
    rcases List.mem_cons.1 hr with rfl |hr
    · refine ⟨h1,fun b hb=> ?_,fun b hb hm=> ?_⟩
      · have:=List.any_eq_false.1 h2 b hb
        simpa using this
      · have:=List.any_eq_false.1 h3 b hb
        exact this (ins_mem.2 hm)
    · exact clash_false h4 r hr
def RecsIn (recs:List ARec) (n:Nat):Prop:= ∀ r∈recs,∀ b∈r.wr,b<n
theorem applyAll_length: ∀ (cs:List Chg) (m:Mem),m.blks.length≤(m.applyAll cs).blks.length∧ ∀ c∈cs,c.id<(m.applyAll cs).blks.length
  | [],m=>⟨Nat.le_refl _,fun _ h=>by cases h⟩
  | c::cs,m=>by
    obtain ⟨h1,h2⟩:=applyAll_length cs (m.apply c)
    have h3:m.blks.length≤(m.apply c).blks.length∧c.id<(m.apply c).blks.length:=by rw[apply_blks,length_bput'];omega
    refine ⟨Nat.le_trans h3.1 h1,fun d hd=> ?_⟩
    rcases List.mem_cons.1 hd with rfl |hd
    · exact Nat.lt_of_lt_of_le h3.2 h1
    · exact h2 d hd
theorem RecsIn.le {recs:List ARec} {n n':Nat} (h:RecsIn recs n) (hn:n≤n'):RecsIn recs n':=fun r hr b hb=>Nat.lt_of_lt_of_le (h r hr b hb) hn
theorem RecsIn.msk {recs:List ARec} {n:Nat} (h:RecsIn recs n) (p:ARec→Bool): ∀ b∈(recs.filter p).flatMap (·.wr),b<n:=fun b hb=>by
  obtain ⟨r,hr,hb⟩:=List.mem_flatMap.1 hb
  exact h r (List.mem_filter.1 hr).1 b hb
theorem drawcall_trk {call:CallF} (hc:CallT call) {c:ACallee} {vs:List AV} {v:AV} {m m2:Mem} {msk:List Nat} (hm: ∀ b∈msk,b<m.blks.length) (h:call c vs {blks:=mask m.blks msk,log:=[]}=some (v,m2)):
    Trk m {blks:=(unmask m2 m.blks msk).blks,log:=m2.log++m.log,dfrs:=m.dfrs}:=by
  have t:=hc _ _ _ _ _ h
  have hlen:(mask m.blks msk).length=m.blks.length:=mask_length _ _ hm
  have hl2: ∀ b∈msk,b<m2.blks.length:=fun b hb=>Nat.lt_of_lt_of_le (hm b hb) (by have:=t.len;simp only[hlen] at this;exact this)
  obtain ⟨g1,g2⟩:=unmask_blks msk m.blks m2 hl2
  obtain ⟨l,e1,e2,e3⟩:=t.log
  simp only[List.append_nil] at e1
  subst e1
  refine ⟨⟨m2.log,rfl,fun b hb=> ?_,fun b hb=>by simp only;rw[g1];exact e3 b hb⟩,fun b x hx ho=> ?_,by simp only;rw[g1,←hlen];exact t.len⟩
  · simp only
    rw[g2]
    split
    · rfl
    · rw[e2 b hb]
      simp only
      rw[mask_get _ _ hm,if_neg (by assumption)]
  · simp only at hx
    rw[g2] at hx
    split at hx
    · exact hx
    · have:=t.own b x hx ho
      simp only at this
      rw[mask_get _ _ hm,if_neg (by assumption)] at this
      exact this
theorem cond_some {α:Type} {b:Bool} {x:Option α} {y:α} (h:cond b x none=some y):b=true∧x=some y:=by cases b <;>first |(cases h;done)|exact ⟨rfl,h⟩
theorem cond_none {α:Type} {b:Bool} {x:Option α} {y:α} (h:cond b none x=some y):b=false∧x=some y:=by cases b <;>first |(cases h;done)|exact ⟨rfl,h⟩
theorem slot_lt {base n:Nat} {s:Option Nat} (h:slotIn base n s=true): ∀ k,s=some k→base+k<n:=fun k hk=>by subst hk;exact (iff_of_eq Nat.blt_eq).1 h
theorem slot_le {base n:Nat} {s:Option Nat} (h:slotIn base n s=true):nidOf base n s≤n:=by
  cases s with
  |none=>exact Nat.le_refl _
  |some k=>exact Nat.le_of_lt (slot_lt h k rfl)
theorem loop_trk {m:Mem} {l:Nat} {x:ABlk} (hb:bget m.blks l=some x) (y:ALoop):Trk m (m.apply ⟨l,some (.loop y),[]⟩):=Trk.apply (Nat.le_of_lt (bget_lt hb)) (fun x hx=>by cases hx;rfl)
theorem adraw_trk {call:CallF} {meth:Meth} (hc:CallT call) {base:Nat}: ∀ (os:List AOper) (i:Nat) (recs:List ARec) (T T':Tr) (m m':Mem),adraw call meth base i os recs T m=some (T',m')→RecsIn recs m.blks.length→Trk m m'
  | [],i,recs,T,T',m,m',h,_=>by simp only[adraw] at h;cases h;exact Trk.refl _
  | o ::os,i,recs,T,T',m,m',h,hr=>by
    simp only[adraw] at h
    split at h
    · cases hcl:o.op.isCall <;>rw[hcl] at h <;>simp only[cond_true,cond_false] at h
      · split at h
        · rename_i v cs hp
          obtain ⟨hz,h⟩:=cond_none h
          simp only[Bool.or_eq_false_iff,Bool.not_eq_false'] at hz
          have t:Trk m (m.applyAll cs):=Trk.applyAll _ _ (prim_trk (fun b x hb=>(cond_some hb).2) (slot_le hz.1) hp)
          refine t.trans (adraw_trk hc os _ _ _ _ _ _ h (fun r hr' b hb=> ?_))
          rcases List.mem_cons.1 hr' with rfl |hr'
          · obtain ⟨c,hc,rfl⟩:=List.mem_map.1 hb
            exact (applyAll_length cs m).2 c hc
          · exact Nat.lt_of_lt_of_le (hr r hr' b hb) t.len
        · cases h
      · split at h
        · rename_i c vs hac
          split at h
          · rename_i v m2 hcall
            obtain ⟨hz,h⟩:=cond_none h
            have hm:=hr.msk (fun r=> !ins o.after r.idx)
            have t:=drawcall_trk hc hm hcall
            have t2:=hc _ _ _ _ _ hcall
            refine t.trans (adraw_trk hc os _ _ _ _ _ _ h (fun r hr' b hb=> ?_))
            rcases List.mem_cons.1 hr' with rfl |hr'
            · obtain ⟨l,e1,_,e3⟩:=t2.log
              simp only[List.append_nil] at e1
              subst e1
              have hlen:(mask m.blks ((recs.filter fun r=> !ins o.after r.idx).flatMap (·.wr))).length=m.blks.length:=mask_length _ _ hm
              show b<(unmask m2 m.blks _).blks.length
              rw[(unmask_blks _ _ _ (fun b hb=>Nat.lt_of_lt_of_le (hm b hb) (by have:=t2.len;rw[←hlen];exact this))).1]
              exact e3 b hb
            · exact Nat.lt_of_lt_of_le (hr r hr' b hb) t.len
          · cases h
        · cases h
    · exact adraw_trk hc os _ _ _ _ _ _ h hr
    · cases h
theorem kill_trk: ∀ (bs:List Nat) (m:Mem),(∀ b∈bs,b≤m.blks.length)→Trk m (m.killAll bs)
  | [],m,_=>Trk.refl m
  | b::bs,m,h=>by
    have t:Trk m (m.apply ⟨b,none,[]⟩):=Trk.apply (h b (by simp)) (fun x hx=>by cases hx)
    exact t.trans (kill_trk bs _ fun c hc=>Nat.le_trans (h c (by simp[hc])) t.len)
def DfrIn (m:Mem):Prop:= ∀ b∈m.dfrs,b≤m.blks.length
theorem DfrIn.le {m m':Mem} (h:DfrIn m) (hd:m'.dfrs=m.dfrs) (hl:m.blks.length≤m'.blks.length):DfrIn m':=fun b hb=>Nat.le_trans (h b (hd ▸ hb)) hl
theorem aloop_trk {body:Tr→Mem→Option (AExit × Tr × Mem)} (hb: ∀ T m e T' m',body T m=some (e,T',m')→DfrIn m→Trk m m'∧DfrIn m'): ∀ (n:Nat) (T:Tr) (m:Mem) (e:AExit) (T':Tr) (m':Mem),aloop body n T m=some (e,T',m')→DfrIn m→Trk m m'∧DfrIn m'
  |0,_,_,_,_,_,h,_=>by simp[aloop] at h
  | n +1,T,m,e,T',m',h,hd=>by
    simp only[aloop] at h
    split at h
    · rename_i T1 m1 h1
      obtain ⟨t1,d1⟩:=hb _ _ _ _ _ h1 hd
      obtain ⟨t2,d2⟩:=aloop_trk hb n T1 m1 e T' m' h d1
      exact ⟨t1.trans t2,d2⟩
    · exact hb _ _ _ _ _ h hd
theorem acode_trk {call:CallF} {meth:Meth} (hc:CallT call) (hcd:CallD call) {fuel:Nat} {rd:Bool}: ∀ (c:ACode) (T:Tr) (m:Mem) (e:AExit) (T':Tr) (m':Mem),acode call meth fuel rd c T m=some (e,T',m')→DfrIn m→Trk m m'∧DfrIn m':=by
  intro c
  induction c with
  |skip=>intro T m e T' m' h hd;simp only[acode] at h;cases h;exact ⟨Trk.refl _,hd⟩
  |bad=>intro T m e T' m' h hd;simp[acode] at h
  | region draw ns ops=>
    intro T m e T' m' h hd
    simp only[acode] at h
    split at h
    · rename_i T1 m1 h1
      cases h
      cases draw
      · simp only[cond_false] at h1
        have t:=aops_trk hc _ _ _ _ _ h1
        exact ⟨t,hd.le (aops_dfrs hcd _ _ _ _ _ h1) t.len⟩
      · simp only[cond_true] at h1
        have t:=(Trk.more m ns).trans (adraw_trk hc _ _ _ _ _ _ _ h1 (fun _ hr=>by cases hr))
        exact ⟨t,hd.le ((adraw_dfrs hcd _ _ _ _ _ _ _ _ h1).trans (more_dfrs _ _)) t.len⟩
    · cases h
  | seq x y ihx ihy=>
    intro T m e T' m' h hd
    simp only[acode] at h
    split at h
    · rename_i T1 m1 h1
      obtain ⟨t1,d1⟩:=ihx _ _ _ _ _ h1 hd
      obtain ⟨t2,d2⟩:=ihy _ _ _ _ _ h d1
      exact ⟨t1.trans t2,d2⟩
    · exact ihx _ _ _ _ _ h hd
  | cond x c1 c2 ih1 ih2=>
    intro T m e T' m' h hd
    simp only[acode] at h
    split at h
    · exact ih1 _ _ _ _ _ h hd
    · exact ih2 _ _ _ _ _ h hd
    · cases h
  | block id x ih=>
    intro T m e T' m' h hd
    simp only[acode] at h
    split at h
    · rename_i id' T1 m1 h1
      have:=ih _ _ _ _ _ h1 hd
      cases hq:Nat.beq id' id <;>rw[hq] at h <;>simp only[cond] at h <;>cases h <;>exact this
    · exact ih _ _ _ _ _ h hd
  | loop x ih=>
    intro T m e T' m' h hd
    simp only[acode] at h
    exact aloop_trk ih _ _ _ _ _ _ h hd
  |exit id=>intro T m e T' m' h hd;simp only[acode] at h;cases h;exact ⟨Trk.refl _,hd⟩
  |ret=>intro T m e T' m' h hd;simp only[acode] at h;cases h;exact ⟨Trk.refl _,hd⟩
  | rangeFunc f ps x y _ _=>
    intro T m e T' m' h hd
    simp only[acode] at h
    cases rd
    · simp only[cond_false] at h
      split at h
      · rename_i g fa fc ev
        split at h
        · rename_i u m2 hca
          have e1:(bput m.blks m.blks.length (some .dfr)).length=m.blks.length+1:=by rw[length_bput'];omega
          have t1:Trk m {m.apply ⟨m.blks.length,some .dfr,[]⟩ with dfrs:=m.blks.length::m.dfrs}:=(Trk.apply (m:=m) (c:=⟨m.blks.length,some .dfr,[]⟩) (Nat.le_refl _) (fun x hx=>by cases hx;rfl)).dfrs m.dfrs _
          have d1:DfrIn {m.apply ⟨m.blks.length,some .dfr,[]⟩ with dfrs:=m.blks.length::m.dfrs}:=fun b hb=>by
            simp only[apply_blks,e1]
            rcases List.mem_cons.1 hb with rfl |hb
            · omega
            · have:=hd b hb;omega
          have el:(m.apply ⟨m.blks.length,some .dfr,[]⟩).blks.length=({m.apply ⟨m.blks.length,some .dfr,[]⟩ with dfrs:=m.blks.length::m.dfrs}:Mem).blks.length:=rfl
          rw[el] at h hca
          generalize ({m.apply ⟨m.blks.length,some .dfr,[]⟩ with dfrs:=m.blks.length::m.dfrs}:Mem)=ma at t1 d1 h hca
          have t2:Trk ma (ma.apply ⟨ma.blks.length,some (.loop {state:= .ready,pending:=none,tmps:=T,params:=ps,assign:=x,body:=y}),[]⟩):=Trk.apply (Nat.le_refl _) (fun x hx=>by cases hx;rfl)
          have t3:=hc _ _ _ _ _ hca
          have t123:=t2.trans t3
          have d3:DfrIn m2:=d1.le ((hcd _ _ _ _ _ hca).trans rfl) t123.len
          split at h
          · have t4:Trk m2 (m2.apply ⟨ma.blks.length,none,[]⟩):=Trk.apply t123.len (fun x hx=>by cases hx)
            split at h
            · cases h
            · cases h
              exact ⟨(t1.trans t123).trans t4,d3.le rfl t4.len⟩
          · cases h
        · cases h
      · cases h
    · simp only[cond_true] at h
      cases h
theorem acall_trk (F:FuncId→Option AFunc) (meth:Meth) {sm:Summ} (hsd:CallD (smF sm)) (hst:CallT (smF sm)): ∀ n,CallT (acall F meth sm n)
  |0=>fun c vs m v m' h=>by simp[acall] at h
  | n + 1 => fun c vs m v m' h=>by
    have ih:=acall_trk F meth hsd hst n
    have ihd:=acall_dfrs F meth hsd n
    have nil:DfrIn {m with dfrs:=[]}:=fun _ hb=>by cases hb
    cases c with
    | fn f=>
      simp only[acall] at h
      split at h
      · rename_i hs
        cases h
        exact hst (.fn f) vs m v m' hs
      split at h
      · cases h
      · cases hb:Nat.ble vs.length (AFunc.ntmps _) <;>rw[hb] at h <;>simp only[cond] at h
        · cases h
        · have key: ∀ (e:AExit) (T:Tr) (m1:Mem) (fn:AFunc),acode (acall F meth sm n) meth n false fn.body (tputs vs .z .e) {m with dfrs:=[]}=some (e,T,m1)→ ∀ d,Trk m {m1.killAll m1.dfrs with dfrs:=d}:=by
            intro e T m1 fn he d
            obtain ⟨t,d1⟩:=acode_trk ih ihd _ _ _ _ _ _ he nil
            exact (t.trans (kill_trk _ _ d1)).dfrs m.dfrs d
          split at h
          · rename_i he
            split at h
            · cases h
              exact key _ _ _ _ he _
            · cases h
          · rename_i he
            split at h
            · cases h
              exact key _ _ _ _ he _
            · cases h
          · cases h
    | yield l =>
      simp only[acall] at h
      split at h
      · split at h
        · split at h
          · cases h
          · split at h
            · rename_i he1
              obtain ⟨t1,d1⟩:=acode_trk ih ihd _ _ _ _ _ _ he1 nil
              split at h
              · rename_i hb1
                split at h
                · split at h
                  · rename_i he2
                    have t1':=loop_trk hb1
                    obtain ⟨t2,d2⟩:=acode_trk ih ihd _ _ _ _ _ _ he2 (d1.le rfl (t1' _).len)
                    split at h
                    · rename_i hb2
                      have t3:=loop_trk hb2
                      have t:=fun (x:ALoop)=>((t1.trans (t1' _)).trans t2).trans (t3 x)
                      split at h
                      · cases h
                        exact (t _).dfrs m.dfrs m.dfrs
                      · cases h
                        exact (t _).dfrs m.dfrs m.dfrs
                    · cases h
                  · cases h
                · cases h
              · cases h
            · cases h
        · cases h
      · cases h
structure Sg where
  tv:Pth→AV
  get:Nat→Option ABlk
  len:Nat
def sig (T:Tr) (h:Blks):Sg:={tv:=fun p=>tget p T,get:=bget h,len:=h.length}
structure Stp where
  idx:Nat
  dst:Option Pth
  looks:List Pth
  after:List Nat
  v:AV
  wr:List Nat
  out:Nat→Option ABlk
  len:Nat
  maker:Bool
  dom:Nat→Bool
  val:Nat→Option ABlk
  tv:Pth→AV
  mlen:Nat
open Classical in
noncomputable def Stp.app (s:Stp) (σ:Sg):Sg:=
  {tv:=fun p=>if s.dst=some p then s.v else σ.tv p,get:=fun b=>if b∈s.wr then s.out b else σ.get b,len:=max σ.len s.len}
structure Stp.ok (s:Stp) (σ:Sg):Prop where
  mem: ∀ b,(s.dom b=true∨b∈s.wr)→σ.get b=s.val b
  tmp: ∀ p∈s.looks,σ.tv p=s.tv p
  len:s.maker=true→σ.len=s.mlen
def Stp.wf (s:Stp):Prop:=s.maker=false→s.len=0
structure apartM (x y:Stp):Prop where
  seen: ∀ b∈x.wr,y.dom b=false
  seen': ∀ b∈y.wr,x.dom b=false
  wr: ∀ b∈x.wr,b ∉ y.wr
  maker:(x.maker && y.maker)=false
structure apartD (x y:Stp):Prop where
  dst: ∀ d,x.dst=some d→y.dst≠some d
  looks: ∀ d,x.dst=some d→d ∉ y.looks
  looks': ∀ d,y.dst=some d→d ∉ x.looks
theorem Stp.app_comm {x y:Stp} (hm:apartM x y) (hd:apartD x y) (σ:Sg):x.app (y.app σ)=y.app (x.app σ):=by
  unfold Stp.app
  simp only[Sg.mk.injEq]
  refine ⟨funext fun p=> ?_,funext fun b=> ?_,by omega⟩
  · by_cases h1:x.dst=some p
    · rw[if_pos h1,if_neg (hd.dst p h1),if_pos h1]
    · rw[if_neg h1,if_neg h1]
  · by_cases h1:b∈x.wr
    · rw[if_pos h1,if_neg (hm.wr b h1),if_pos h1]
    · rw[if_neg h1,if_neg h1]
theorem Stp.ok_app {x y:Stp} (hm:apartM x y) (hd:apartD x y) (hw:x.wf) {σ:Sg}:y.ok (x.app σ)↔y.ok σ:=by
  have e1: ∀ b,(y.dom b=true∨b∈y.wr)→(x.app σ).get b=σ.get b:=fun b hb=>by
    unfold Stp.app
    simp only
    rw[if_neg]
    intro hx
    rcases hb with h |h
    · rw[hm.seen b hx] at h;cases h
    · exact hm.wr b hx h
  have e2: ∀ p∈y.looks,(x.app σ).tv p=σ.tv p:=fun p hp=>by
    unfold Stp.app
    simp only
    rw[if_neg]
    exact fun hx=>hd.looks p hx hp
  have e3:y.maker=true→(x.app σ).len=σ.len:=fun hy=>by
    have:=hm.maker
    rw[hy,Bool.and_true] at this
    have:=hw this
    unfold Stp.app
    simp only[this]
    omega
  exact ⟨fun h=>⟨fun b hb=>(e1 b hb).symm.trans (h.mem b hb),fun p hp=>(e2 p hp).symm.trans (h.tmp p hp),fun hy=>(e3 hy).symm.trans (h.len hy)⟩,
    fun h=>⟨fun b hb=>(e1 b hb).trans (h.mem b hb),fun p hp=>(e2 p hp).trans (h.tmp p hp),fun hy=>(e3 hy).trans (h.len hy)⟩⟩
theorem apartM.symm {x y:Stp} (h:apartM x y):apartM y x:=⟨h.seen',h.seen,fun b hb hx=>h.wr b hx hb,by rw[Bool.and_comm];exact h.maker⟩
theorem apartD.symm {x y:Stp} (h:apartD x y):apartD y x:=⟨fun d hd hx=>h.dst d hx hd,h.looks',h.looks⟩
def okAll:List Stp→Sg→Prop
  | [],_=>True
  |s::ss,σ=>s.ok σ∧okAll ss (s.app σ)
noncomputable def fin:List Stp→Sg→Sg
  | [],σ=>σ
  |s::ss,σ=>fin ss (s.app σ)
theorem okAll_move {x:Stp}: ∀ (l r:List Stp) (σ:Sg),okAll (l++x::r) σ→(∀ y∈l,apartM y x∧apartD y x∧y.wf)→x.wf→x.ok σ∧okAll (l++r) (x.app σ)∧fin (l++x::r) σ=fin (l++r) (x.app σ)
  | [],r,σ,h,_,_=>⟨h.1,h.2,rfl⟩
  | y ::l,r,σ,h,hl,hx=>by
    obtain ⟨h1,h2⟩:=h
    obtain ⟨m,d,wy⟩:=hl y (by simp)
    obtain ⟨g1,g2,g3⟩:=okAll_move l r (y.app σ) h2 (fun z hz=>hl z (by simp[hz])) hx
    have hc:=Stp.app_comm m.symm d.symm σ
    refine ⟨(Stp.ok_app m d wy).1 g1,⟨(Stp.ok_app m.symm d.symm hx).2 h1,?_⟩,?_⟩
    · rw[←hc];exact g2
    · show fin (l++x::r) (y.app σ)=fin (l++r) (y.app (x.app σ))
      rw[g3,hc]
inductive Info (call:CallF) (meth:Meth) (base:Nat) (o:AOper):Stp→Prop
  | skip (T:Tr) (i:Nat) (hw:awanted T o.guard=some false):
    Info call meth base o ⟨i,o.dst,lks o.op o.guard,o.after,.undef,[],fun _=>none,0,false,fun _=>false,fun _=>none,fun p=>tget p T,0⟩
  | prim (T:Tr) (i:Nat) (get:Nat→Option ABlk) (v:AV) (cs:List Chg) (h:Blks) (hw:awanted T o.guard=some true) (hc:o.op.isCall=false)
      (hp:aprim get (nidOf base h.length o.slot) T o.op=some (v,cs)) (hg: ∀ b x,get b=some x→bget h b=some x) (hs: ∀ k,o.slot=some k→base+k<h.length):
    Info call meth base o ⟨i,o.dst,lks o.op o.guard,o.after,v,cs.map (·.id),bget (bputs h cs),if o.op.isMaker then (bputs h cs).length else 0,o.op.isMaker,fun b=>(get b).isSome,bget h,fun p=>tget p T,h.length⟩
  | call (T:Tr) (i:Nat) (h1:Blks) (c:ACallee) (vs:List AV) (v:AV) (m2:Mem) (hw:awanted T o.guard=some true) (hcl:o.op.isCall=true) (hc:acallee (bget h1) meth T o.op=some (c,vs)) (hv:call c vs {blks:=h1,log:=[]}=some (v,m2)):
    Info call meth base o ⟨i,o.dst,lks o.op o.guard,o.after,v,m2.log,bget m2.blks,m2.blks.length,true,fun b=>(bget h1 b).isSome,bget h1,fun p=>tget p T,h1.length⟩
theorem Info.wf {call:CallF} {meth:Meth} {base:Nat} {o:AOper} {s:Stp} (h:Info call meth base o s):s.wf:=by
  cases h with
  |skip=>exact fun _=>rfl
  |prim=>exact fun hm=>by simp only at hm;simp[hm]
  |call=>exact fun hm=>by cases hm
theorem Info.parts {call:CallF} {meth:Meth} {base:Nat} {o:AOper} {s:Stp} (h:Info call meth base o s):s.dst=o.dst∧s.looks=lks o.op o.guard∧s.after=o.after:=by
  cases h <;>exact ⟨rfl,rfl,rfl⟩
def RecOf (recs:List ARec) (s:Stp):Prop:=(s.wr=[]∧(∀ b,s.dom b=false)∧s.maker=false)∨ ∃ r∈recs,r.idx=s.idx∧r.wr=s.wr∧(∀ b,r.vis b=s.dom b)∧r.maker=s.maker
theorem RecOf.more {recs:List ARec} {s:Stp} (h:RecOf recs s) (r:ARec):RecOf (r::recs) s:=h.imp id fun ⟨q,hq,h⟩=>⟨q,by simp[hq],h⟩
theorem bputs_get: ∀ (cs:List Chg) {h:Blks},(∀ c∈cs,c.id≤h.length)→ ∀ b,b ∉ cs.map (·.id)→bget (bputs h cs) b=bget h b
  | [],_,_,_,_=>rfl
  | c::cs,h,hc,b,hb=>by
    simp only[List.map_cons,List.mem_cons,not_or] at hb
    have h1:=hc c (by simp)
    rw[bputs,bputs_get cs (fun d hd=>by have:=hc d (by simp[hd]);rw[length_bput'];omega) b hb.2,bget_bput h1,if_neg hb.1]
theorem bputs_length: ∀ (cs:List Chg) {h:Blks},h.length≤(bputs h cs).length∧((∀ c∈cs,c.id<h.length)→(bputs h cs).length=h.length)
  | [],_=>⟨Nat.le_refl _,fun _=>rfl⟩
  | c::cs,h=>by
    obtain ⟨h1,h2⟩:=bputs_length cs (h:=bput h c.id c.blk)
    have h3:h.length≤(bput h c.id c.blk).length:=by rw[length_bput'];omega
    refine ⟨Nat.le_trans h3 h1,fun hc=> ?_⟩
    have h4:(bput h c.id c.blk).length=h.length:=by have:=hc c (by simp);rw[length_bput'];omega
    rw[bputs,h2 (fun d hd=>by rw[h4];exact hc d (by simp[hd])),h4]
theorem quiet_ids {get:Nat→Option ABlk} {nid:Nat} {T:Tr} {op:AOp} {v:AV} {cs:List Chg} {h:Blks} (hq:op.quiet=true) (hg: ∀ b x,get b=some x→bget h b=some x) (hp:aprim get nid T op=some (v,cs)): ∀ c∈cs,c.id<h.length:=fun c hc=>by
  have h1:=(aprim_targets hp c hc).1
  rw[aprim_nid (nid':=c.id+1) hq] at hp
  have h2:=(aprim_targets hp c hc).1
  rcases h2 with e |⟨x,hx,_⟩
  · omega
  · exact bget_lt (hg _ _ hx)
def SlotOK (o:AOper):Prop:=o.slot.isSome=o.op.makes
theorem makes_ids {get:Nat→Option ABlk} {base:Nat} {T:Tr} {o:AOper} {v:AV} {cs:List Chg} {h:Blks} (ho:SlotOK o) (hm:o.op.isMaker=false) (hg: ∀ b x,get b=some x→bget h b=some x) (hs: ∀ k,o.slot=some k→base+k<h.length)
    (hp:aprim get (nidOf base h.length o.slot) T o.op=some (v,cs)): ∀ c∈cs,c.id<h.length:=by
  cases hk:o.slot with
  | none=>
    have hq:o.op.quiet=true:=by
      unfold SlotOK at ho
      rw[hk] at ho
      simp[AOp.quiet,hm,←ho]
    exact quiet_ids hq hg hp
  | some k=>
    rw[hk] at hp
    intro c hc
    rcases (aprim_targets hp c hc).1 with e |⟨x,hx,_⟩
    · rw[e];exact hs k hk
    · exact bget_lt (hg _ _ hx)
section
variable {call:CallF} {meth:Meth} {base:Nat}
theorem sig_put (T:Tr) (d:Option Pth) (v:AV) (p:Pth):tget p (aput T d v)=if d=some p then v else tget p T:=by
  cases d with
  |none=>simp[aput]
  | some d=>
    rw[aput,tget_tset]
    by_cases e:p=d
    · subst e;simp
    · rw[if_neg e,if_neg (fun h=>e (Option.some.inj h).symm)]
theorem app_prim {T:Tr} {h h':Blks} {s:Stp} {d:Option Pth} {v:AV} (hd:s.dst=d) (hv:s.v=v) (hw: ∀ b,bget h' b=if b∈s.wr then s.out b else bget h b) (hl:h'.length=max h.length s.len):s.app (sig T h)=sig (aput T d v) h':=by
  unfold Stp.app sig
  simp only[Sg.mk.injEq]
  refine ⟨funext fun p=> ?_,funext fun b=> ?_,hl.symm⟩
  · rw[sig_put,hd,hv]
  · rw[hw b]
theorem bputs_length_le: ∀ (cs:List Chg) (h:Blks),h.length≤(bputs h cs).length:=fun cs _=>(bputs_length cs).1
theorem adraw_steps (hct:CallT call): ∀ (os:List AOper) (i:Nat) (recs:List ARec) (T T':Tr) (m m':Mem) (done:List Stp),adraw call meth base i os recs T m=some (T',m')→RecsIn recs m.blks.length→(∀ s∈done,RecOf recs s)→(∀ o∈os,SlotOK o)→
    ∃ ss:List Stp,ss.length=os.length∧okAll ss (sig T m.blks)∧fin ss (sig T m.blks)=sig T' m'.blks∧(∀ j s,ss[j]? =some s→s.idx=i+j∧ ∃ o,os[j]? =some o∧Info call meth base o s)∧
      (∀ s∈ss,∀ d∈done,d.idx ∉ s.after→apartM d s)∧ss.Pairwise (fun s t=>s.idx ∉ t.after→apartM s t)
  | [],i,recs,T,T',m,m',done,h,_,_,_=>by
    simp only[adraw] at h
    cases h
    exact ⟨[],rfl,trivial,rfl,fun j s hs=>(by simp at hs),fun s hs=>(by simp at hs),List.Pairwise.nil⟩
  | o :: os, i, recs,T,T',m,m',done,h,hr,hd,hso=>by
    have finish: ∀ (s:Stp) (recs':List ARec) (T1:Tr) (m1:Mem),adraw call meth base (i+1) os recs' T1 m1=some (T',m')→RecsIn recs' m1.blks.length→(∀ d∈done,RecOf recs' d)→RecOf recs' s→s.idx=i→Info call meth base o s→s.ok (sig T m.blks)→s.app (sig T m.blks)=sig T1 m1.blks→
        (∀ d∈done,d.idx ∉ s.after→apartM d s)→
        ∃ ss:List Stp,ss.length=(o::os).length∧okAll ss (sig T m.blks)∧fin ss (sig T m.blks)=sig T' m'.blks∧(∀ j s,ss[j]? =some s→s.idx=i+j∧ ∃ o',(o::os)[j]? =some o'∧Info call meth base o' s)∧
          (∀ s∈ss,∀ d∈done,d.idx ∉ s.after→apartM d s)∧ss.Pairwise (fun s t=>s.idx ∉ t.after→apartM s t):=by
      intro s recs' T1 m1 h1 h2 h3 h4 h5 h6 h7 h8 h9
      obtain ⟨ss,e1,e2,e3,e4,e5,e6⟩:=adraw_steps hct os (i+1) recs' T1 T' m1 m' (s::done) h1 h2 (fun d hd=>by
        rcases List.mem_cons.1 hd with rfl |hd
        · exact h4
        · exact h3 d hd) (fun p hp=>hso p (by simp[hp]))
      refine ⟨s::ss,by simp[e1],⟨h7,by rw[h8];exact e2⟩,by rw[fin,h8];exact e3,fun j t ht=> ?_,fun t ht d hd hn=> ?_,List.pairwise_cons.2 ⟨fun t ht hn=>e5 t ht s (by simp) hn,e6⟩⟩
      · cases j with
        |zero=>simp only[List.getElem?_cons_zero,Option.some.injEq] at ht;subst ht;exact ⟨h5,o,rfl,h6⟩
        | succ j=>
          simp only[List.getElem?_cons_succ] at ht
          obtain ⟨g1,o',g2,g3⟩:=e4 j t ht
          exact ⟨by omega,o',by simpa using g2,g3⟩
      · rcases List.mem_cons.1 ht with rfl |ht
        · exact h9 d hd hn
        · exact e5 t ht d (by simp[hd]) hn
    have free: ∀ {d:Stp} {wr:List Nat} {mk:Bool},d∈done→d.idx ∉ o.after→clash wr mk (recs.filter fun r=> !ins o.after r.idx)=false→(d.wr=[]∧(∀ b,d.dom b=false)∧d.maker=false)∨
        (∃ r∈recs.filter fun r=> !ins o.after r.idx,r.wr=d.wr∧(∀ b,r.vis b=d.dom b)∧r.maker=d.maker):=by
      intro d wr mk hd' hn hc
      rcases hd d hd' with h |⟨r,hr,e1,e2,e3,e4⟩
      · exact .inl h
      · refine .inr ⟨r,List.mem_filter.2 ⟨hr,?_⟩,e2,e3,e4⟩
        rw[e1]
        cases hi:ins o.after d.idx
        · rfl
        · exact absurd (ins_mem.1 hi) hn
    simp only[adraw] at h
    split at h
    · rename_i hw
      cases hcl:o.op.isCall <;>rw[hcl] at h <;>simp only[cond_true,cond_false] at h
      · split at h
        · rename_i v cs hp
          obtain ⟨hz,h⟩:=cond_none h
          simp only[Bool.or_eq_false_iff,Bool.not_eq_false'] at hz
          obtain ⟨hz1,hz2⟩:=hz
          have hs:=slot_lt hz1
          generalize hget:(fun b=>cond (ins (o.op.reads T) b && !ins ((recs.filter fun r=> !ins o.after r.idx).flatMap (·.wr)) b) (bget m.blks b) none)=get at hp
          have hg: ∀ b x,get b=some x→bget m.blks b=some x:=fun b x hb=>by rw[←hget] at hb;exact (cond_some hb).2
          have hgm: ∀ b,(get b).isSome=true→b ∉ (recs.filter fun r=> !ins o.after r.idx).flatMap (·.wr):=fun b hb hm=>by
            obtain ⟨x,hx⟩:=Option.isSome_iff_exists.1 hb
            rw[←hget] at hx
            have:=(cond_some hx).1
            rw[ins_mem.2 hm] at this
            simp at this
          have hids:=prim_trk hg (slot_le hz1) hp
          have tk:Trk m (m.applyAll cs):=Trk.applyAll _ _ hids
          refine finish _ _ _ _ h (fun r hr' b hb=> ?_) (fun d hd'=>(hd d hd').more _) (.inr ⟨_,List.mem_cons_self ..,rfl,rfl,fun b=>(by rw[←hget]),rfl⟩) rfl (Info.prim T i get v cs m.blks hw hcl hp hg hs) ⟨fun b hb=>rfl,fun p hp=>rfl,fun _=>rfl⟩
            (app_prim rfl rfl (fun b=> ?_) ?_) (fun d hd' hn=> ?_)
          · rcases List.mem_cons.1 hr' with rfl |hr'
            · obtain ⟨c,hc,rfl⟩:=List.mem_map.1 hb
              exact (applyAll_length cs m).2 c hc
            · exact Nat.lt_of_lt_of_le (hr r hr' b hb) tk.len
          · rw[applyAll_blks]
            simp only
            split
            · rfl
            · exact bputs_get cs (fun c hc=>(hids c hc).1) b (by assumption)
          · rw[applyAll_blks]
            simp only
            cases hm:o.op.isMaker
            · rw[(bputs_length cs).2 (makes_ids (hso o (by simp)) hm hg hs hp)]
              simp
            · have:=bputs_length_le cs m.blks
              simp only[if_true]
              omega
          · rcases free hd' hn hz2 with ⟨g1,g2,g3⟩|⟨r,hr',g1,g2,g3⟩
            · exact ⟨fun b hb=>(by rw[g1] at hb;cases hb),fun b _=>g2 b,fun b hb=>(by rw[g1] at hb;cases hb),by rw[g3];rfl⟩
            · obtain ⟨c1,c2,c3⟩:=clash_false hz2 r hr'
              refine ⟨fun b hb=> ?_,fun b hb=>(by rw[←g2 b];exact c2 b hb),fun b hb hb'=>c3 b hb' (by rw[g1];exact hb),by rw[←g3,Bool.and_comm];exact c1⟩
              cases hq:(get b).isSome
              · exact hq
              · exact absurd (List.mem_flatMap.2 ⟨r,hr',by rw[g1];exact hb⟩) (hgm b hq)
        · cases h
      · split at h
        · rename_i c vs hac
          split at h
          · rename_i v m2 hcall
            obtain ⟨hz,h⟩:=cond_none h
            have hm:=hr.msk (fun r=> !ins o.after r.idx)
            generalize hmk:(recs.filter fun r=> !ins o.after r.idx).flatMap (·.wr)=msk at h hac hcall hm
            have t:=drawcall_trk hct hm hcall
            have t2:=hct _ _ _ _ _ hcall
            obtain ⟨l,e1,e2,e3⟩:=t2.log
            simp only[List.append_nil] at e1
            subst e1
            have hlen:(mask m.blks msk).length=m.blks.length:=mask_length _ _ hm
            have hmg:=mask_get _ _ hm
            obtain ⟨u1,u2⟩:=unmask_blks msk m.blks m2 (fun b hb=>Nat.lt_of_lt_of_le (hm b hb) (by have:=t2.len;rw[←hlen];exact this))
            have hlm: ∀ b∈m2.log,b ∉ msk:=fun b hb hx=>by
              rw[←hmk] at hx
              obtain ⟨r,hr',hb'⟩:=List.mem_flatMap.1 hx
              exact (clash_false hz r hr').2.2 b hb hb'
            refine finish _ _ _ _ h (fun r hr' b hb=> ?_) (fun d hd'=>(hd d hd').more _) (.inr ⟨_,List.mem_cons_self ..,rfl,rfl,fun b=>rfl,rfl⟩) rfl (Info.call T i (mask m.blks msk) c vs v m2 hw hcl hac hcall) ⟨fun b hb=> ?_,fun p hp=>rfl,fun _=>hlen.symm⟩
              (app_prim rfl rfl (fun b=> ?_) ?_) (fun d hd' hn=> ?_)
            · rcases List.mem_cons.1 hr' with rfl |hr'
              · show b<(unmask m2 m.blks msk).blks.length
                rw[u1]
                exact e3 b hb
              · exact Nat.lt_of_lt_of_le (hr r hr' b hb) t.len
            · show bget m.blks b=bget (mask m.blks msk) b
              rw[hmg,if_neg]
              intro hx
              rcases hb with hb |hb
              · simp only at hb
                rw[hmg,if_pos hx] at hb
                cases hb
              · exact hlm b hb hx
            · simp only
              rw[u2]
              by_cases h1:b∈m2.log
              · rw[if_pos h1,if_neg (hlm b h1)]
              · rw[if_neg h1]
                split
                · rfl
                · rw[e2 b h1]
                  simp only
                  rw[hmg,if_neg (by assumption)]
            · simp only
              rw[u1]
              have:=t2.len
              simp only[hlen] at this
              omega
            · rcases free hd' hn hz with ⟨g1,g2,g3⟩|⟨r,hr',g1,g2,g3⟩
              · exact ⟨fun b hb=>(by rw[g1] at hb;cases hb),fun b _=>g2 b,fun b hb=>(by rw[g1] at hb;cases hb),by rw[g3];rfl⟩
              · obtain ⟨c1,c2,c3⟩:=clash_false hz r hr'
                refine ⟨fun b hb=> ?_,fun b hb=>(by rw[←g2 b];exact c2 b hb),fun b hb hb'=>c3 b hb' (by rw[g1];exact hb),by rw[←g3,Bool.and_comm];exact c1⟩
                show (bget (mask m.blks msk) b).isSome=false
                rw[hmg,if_pos]
                · rfl
                · rw[←hmk]
                  exact List.mem_flatMap.2 ⟨r,hr',by rw[g1];exact hb⟩
          · cases h
        · cases h
    · rename_i hw
      refine finish _ _ _ _ h hr hd (.inl ⟨rfl,fun _=>rfl,rfl⟩) rfl (Info.skip T i hw) ⟨fun b hb=> ?_,fun p hp=>rfl,fun h=>by cases h⟩ (app_prim rfl rfl (fun b=>by simp) (by simp)) (fun d hd' hn=>⟨fun b hb=>rfl,fun b hb=>(by cases hb),fun b hb hx=>(by cases hx),Bool.and_false _⟩)
      rcases hb with hb |hb
      · cases hb
      · cases hb
    · cases h
end
def frameK (K:Kp) (ρ:Rho) (h h1:Blks):Kp:={kept:=fun k=>K k∨ ∃ b x p,bget h b=some x∧bget h1 b=none∧ρ b=some p∧k=p.cb,loop:=K.loop}
section
variable {K:Kp} {w0 w w':World} {ρ ρ':Rho} {h h1 h2 h':Blks}
theorem Rel.frame (R:Rel K w0 ρ h w) (hlen:h1.length=h.length) (hsub: ∀ b x,bget h1 b=some x→bget h b=some x):Rel (frameK K ρ h h1) w ρ h1 w where
  below:=⟨rfl,rfl,rfl,Nat.le_refl _,fun k hk=>by
    rcases hk with hk |⟨b,x,p,hb,_,hp,rfl⟩
    · exact Nat.lt_of_lt_of_le (R.below.lt k hk) R.below.size
    · obtain ⟨q,hq,hB⟩:=R.blk b x hb
      have e:q=p:=Option.some.inj (hq.symm.trans hp)
      subst e
      exact hB.lt,fun _ _=>rfl⟩
  dom:=fun b hb=>R.dom b (by omega)
  blk :=fun b x hx=>by
    obtain ⟨p,hp,hB⟩:=R.blk b x (hsub b x hx)
    refine ⟨p,hp,?_⟩
    have hK:x.own=true→ ¬ frameK K ρ h h1 p.cb:=fun ho hk=>by
      rcases hk with hk |⟨c,y,q,hc,hc1,hq,e⟩
      · exact hB.own_ge ho hk
      · have hne:b≠c:=fun e=>by rw[e,hc1] at hx;cases hx
        exact R.sep b c x y p q (hsub b x hx) hc hp hq ho hne e
    cases x with
    | row own esz es=>
      obtain ⟨h1,h2,h3,h4,arr,el,fr,hg,h5,h6,h7,h8⟩:=hB
      exact ⟨h1,h2,h3,h4,arr,el,fr,hg,h5,h6,fun ho=>⟨hK ho,(h7 ho).2⟩,h8⟩
    |map ents=>exact ⟨hK rfl,hB.2⟩
    |loop l=>exact ⟨hK rfl,hB.2⟩
    |dfr=>exact ⟨hK rfl,hB.2⟩
  sep:=fun b c x y p q hx hy hp hq ho hne=>R.sep b c x y p q (hsub b x hx) (hsub c y hy) hp hq ho hne
theorem BRel.unframe {p:Pl} {x:ABlk} (hB:BRel (frameK K ρ h h1) ρ' w p x):BRel K ρ' w p x:=by
  cases x with
  | row own esz es=>
    obtain ⟨h1,h2,h3,h4,arr,el,fr,hg,h5,h6,h7,h8⟩:=hB
    exact ⟨h1,h2,h3,h4,arr,el,fr,hg,h5,h6,fun ho=>⟨fun hk=>(h7 ho).1 (.inl hk),(h7 ho).2⟩,h8⟩
  |map ents=>exact ⟨fun hk=>hB.1 (.inl hk),hB.2⟩
  |loop l=>exact ⟨fun hk=>hB.1 (.inl hk),hB.2⟩
  |dfr=>exact ⟨fun hk=>hB.1 (.inl hk),hB.2⟩
theorem Rel.unframe {log:List Nat} (R:Rel K w0 ρ h w) (R':Rel (frameK K ρ h h1) w ρ' h2 w') (hsub: ∀ b x,bget h1 b=some x→bget h b=some x) (hle:ρ.le ρ') (hlog: ∀ b,b ∉ log→bget h2 b=bget h1 b) (hown: ∀ b x,bget h2 b=some x→x.own=false→bget h1 b=some x)
    (hget: ∀ b,bget h' b=if b∈log then bget h2 b else bget h b) (hlen:h'.length=h2.length):Rel K w0 ρ' h' w':=by
  have cases': ∀ b x,bget h' b=some x→bget h2 b=some x∨(bget h b=some x∧bget h1 b=none∧b ∉ log):=fun b x hx=>by
    rw[hget] at hx
    split at hx
    · exact .inl hx
    · rename_i hn
      cases h1b:bget h1 b with
      |none=>exact .inr ⟨hx,rfl,hn⟩
      | some y=>
        have:=hsub b y h1b
        rw[hx] at this
        cases this
        exact .inl ((hlog b hn).trans h1b)
  have place: ∀ b x,bget h b=some x→ ∃ p,ρ b=some p∧ρ' b=some p∧BRel K ρ w p x:=fun b x hx=>let ⟨p,hp,hB⟩:=R.blk b x hx;⟨p,hp,hle _ _ hp,hB⟩
  refine ⟨⟨R'.below.os.trans R.below.os,R'.below.tape.trans R.below.tape,R'.below.output.trans R.below.output,Nat.le_trans R.below.size R'.below.size,R.below.lt,fun k hk=>(R'.below.block k (.inl hk)).trans (R.below.block k hk)⟩,
    fun b hb=>R'.dom b (by omega),fun b x hx=> ?_,fun b c x y p q hx hy hp hq ho hne=> ?_⟩
  · rcases cases' b x hx with h3 |⟨h3,h4,_⟩
    · obtain ⟨p,hp,hB⟩:=R'.blk b x h3
      exact ⟨p,hp,hB.unframe⟩
    · obtain ⟨p,hp,hp',hB⟩:=place b x h3
      exact ⟨p,hp',hB.keep hle (R'.below.block p.cb (.inr ⟨b,x,p,h3,h4,hp,rfl⟩))⟩
  · rcases cases' b x hx with h3 |⟨h3,h4,_⟩
    · rcases cases' c y hy with h5 |⟨h5,h6,_⟩
      · exact R'.sep b c x y p q h3 h5 hp hq ho hne
      · obtain ⟨q0,hq0,hq0',_⟩:=place c y h5
        have e:q0=q:=Option.some.inj (hq0'.symm.trans hq)
        subst e
        obtain ⟨p0,hp0,hB⟩:=R'.blk b x h3
        have e:p0=p:=Option.some.inj (hp0.symm.trans hp)
        subst e
        exact fun e=>hB.own_ge ho (.inr ⟨c,y,q0,h5,h6,hq0,e⟩)
    · obtain ⟨p0,hp0,hp0',_⟩:=place b x h3
      have e:p0=p:=Option.some.inj (hp0'.symm.trans hp)
      subst e
      rcases cases' c y hy with h5 |⟨h5,h6,_⟩
      · cases hyo:y.own
        · have h7:=hsub c y (hown c y h5 hyo)
          obtain ⟨q0,hq0,hq0',_⟩:=place c y h7
          have e:q0=q:=Option.some.inj (hq0'.symm.trans hq)
          subst e
          exact R.sep b c x y p0 q0 h3 h7 hp0 hq0 ho hne
        · obtain ⟨q0,hq0,hB⟩:=R'.blk c y h5
          have e:q0=q:=Option.some.inj (hq0.symm.trans hq)
          subst e
          exact fun e=>hB.own_ge hyo (.inr ⟨b,x,p0,h3,h4,hp0,e.symm⟩)
      · obtain ⟨q0,hq0,hq0',_⟩:=place c y h5
        have e:q0=q:=Option.some.inj (hq0'.symm.trans hq)
        subst e
        exact R.sep b c x y p0 q0 h3 h5 hp0 hq0 ho hne
end
theorem bputs_out: ∀ (cs:List Chg) {h h0:Blks},(∀ c∈cs,c.id≤h.length)→(∀ c∈cs,c.id≤h0.length)→ ∀ b∈cs.map (·.id),bget (bputs h cs) b=bget (bputs h0 cs) b
  | [],_,_,_,_,_,hb=>by cases hb
  | c ::cs,h,h0,h1,h2,b,hb=>by
    have g1:=h1 c (by simp)
    have g2:=h2 c (by simp)
    have k1: ∀ d∈cs,d.id≤(bput h c.id c.blk).length:=fun d hd=>by have:=h1 d (by simp[hd]);rw[length_bput'];omega
    have k2: ∀ d∈cs,d.id≤(bput h0 c.id c.blk).length:=fun d hd=>by have:=h2 d (by simp[hd]);rw[length_bput'];omega
    rw[bputs,bputs]
    by_cases hm:b∈cs.map (·.id)
    · exact bputs_out cs k1 k2 b hm
    · simp only[List.map_cons,List.mem_cons] at hb
      have e:b=c.id:=hb.resolve_right hm
      rw[bputs_get cs k1 b hm,bputs_get cs k2 b hm,bget_bput g1,bget_bput g2,if_pos e,if_pos e]
theorem bputs_length_eq: ∀ (cs:List Chg) {h h0:Blks},h.length=h0.length→(bputs h cs).length=(bputs h0 cs).length
  | [],_,_,e=>e
  |c::cs,h,h0,e=>bputs_length_eq cs (by rw[length_bput',length_bput',e])
section
variable {P:Program} {glob:Nat→Option AV} {main:Bool} {OK:Goroutine→World→Prop} {L:ALoop→Loop→Prop} {call:CallF} {K:Kp} {w0:World} {nt:Nat} {base:Nat}
def SEnd (K:Kp) (w0:World) (nt:Nat) (base:Nat) (ρ:Rho) (T:Tr) (h:Blks) (s:Stp) (ao:AOper) (a:Act) (b:Frame) (todo:List Item) (cs:List Frame) (g:Goroutine) (w:World):Prop:=
  ∃ a' ρ' T1 h1,g=running (b.atR a' todo) cs∧sig T1 h1=s.app (sig T h)∧St K w0 nt ρ' T1 h1 a' w∧a'.defers=a.defers∧ρ.le ρ'∧(∀ x,x<h.length→(∀ k,ao.slot=some k→x≠base+k)→ρ' x=ρ x)∧Pres h h1
theorem awanted_T {T T':Tr} {g:Option (Pth × Bool)} {op:AOp} (h: ∀ p∈lks op g,tget p T=tget p T'):awanted T g=awanted T' g:=by
  cases g with
  |none=>rfl
  |some x=>simp only[awanted,h x.1 (by simp[lks])]
theorem opnds_T {T T':Tr} {g:Option (Pth × Bool)} {op:AOp} (h: ∀ p∈lks op g,tget p T=tget p T'): ∀ x∈op.opnds,aev T x=aev T' x:=by
  intro x hx
  cases x with
  |c v=>rfl
  |t p=>exact h p (by simp only[lks,List.mem_append,List.mem_filterMap];exact .inl ⟨.t p,hx,rfl⟩)
theorem cdst_parts {o:Oper} {dst:Option Pth} (h:cdst nt o=some dst):(∀ d,o.dst=some d→d<nt)∧dst=o.dst.map Pth.ofNat:=by
  unfold cdst at h
  cases hd:o.dst with
  |none=>rw[hd] at h;cases h;exact ⟨fun d e=>(by cases e),rfl⟩
  | some d=>
    rw[hd] at h
    simp only at h
    split at h
    · rename_i hlt
      cases h
      exact ⟨fun x e=>(by cases e;exact hlt),rfl⟩
    · cases h
theorem step_sound (hOK: ∀ g w,OK g w) (hL:K.loop=L) (hcall:CallOK P glob main OK L call) (hct:CallT call) {ops:Array Oper} {s:Stp} {o:Oper} {ao:AOper} (hio:ops[s.idx]? =some o) (hco:copB P glob o=ao.op) (hgd:cguard ops o=some ao.guard) (hdst:cdst nt o=some ao.dst)
    (hinf:Info call (cmeth P) base ao s) (hso:SlotOK ao) {T:Tr} {h:Blks} {a:Act} {w:World} {ρ:Rho} (st:St K w0 nt ρ T h a w) (hg:GR glob ρ) (hok:s.ok (sig T h)) (hslot: ∀ k,ao.slot=some k→ρ (base+k)=none∧base+k<h.length)
    {b:Frame} {k:List Item} {cs:List Frame} {rest:List Nat}:
    Leads P main OK (SEnd K w0 nt base ρ T h s ao a b (.inRegion ops rest::k) cs) (running (b.atR a (.inRegion ops (s.idx::rest)::k)) cs) w:=by
  obtain ⟨hd1,hd2⟩:=cdst_parts hdst
  have hfin: ∀ v,(b.atR a (.inRegion ops (s.idx::rest)::k)).finish v=b.atR (a.put o.dst v) (.inRegion ops rest::k):=by
    intro v;rw[Frame.finish_atR,hio];rfl
  have hdfr: ∀ v,(a.put o.dst v).defers=a.defers:=fun v=>by cases o.dst <;>rfl
  have hdst': ∀ x,o.dst=some x→x<a.tmps.size:=fun x hx=>by rw[st.size];exact hd1 x hx
  obtain ⟨ok1,ok2,ok3⟩:=hok
  cases hinf with
  | skip T0 i hw=>
    have hT: ∀ p∈lks ao.op ao.guard,tget p T=tget p T0:=ok2
    rw[←awanted_T hT] at hw
    have hwd:=wanted_sound st.tr ops o hgd hw
    have hsk:((ops[i]?).map (Region.wanted · (yielded ops a.tmps))).getD false=false:=by
      simp only at hio
      rw[hio];exact hwd
    refine Leads.one hOK (fun d=>sg_op_skip hsk) fun d=> .here ⟨a.put o.dst undef,ρ,aput T ao.dst .undef,h,?_,(app_prim (d:=ao.dst) (v:= .undef) rfl rfl (fun b=>(by simp)) (by simp)).symm,⟨(st.drawnAt d).rel,?_,by rw[put_size];exact st.size⟩,hdfr _,Rho.le_refl _,fun _ _ _=>rfl,Pres.refl _⟩
    · simp only at hio
      rw[hio];rfl
    · rw[hd2]
      exact TR.put st.tr hdst' VR_undef
  | prim T0 i get v chg h0 hw hc hp hget hs=>
    simp only at hio hfin ok1 ok2 ok3
    have hT: ∀ p∈lks ao.op ao.guard,tget p T=tget p T0:=ok2
    rw[←awanted_T hT] at hw
    have hwd:=wanted_sound st.tr ops o hgd hw
    have hco:=copB_cop hco (fun e=>by rw[e] at hp;simp[aprim] at hp)
    have hnd:=cop_no_defer hco
    rw[←aprim_T (opnds_T hT)] at hp
    have hget': ∀ b x,get b=some x→bget h b=some x:=fun b x hb=>(ok1 b (.inl (by rw[hb];rfl))).trans (hget b x hb)
    have hids0:=fun (c:Chg) (hc:c∈chg)=>(aprim_targets hp c hc).1
    have hp2:aprim (bget h) (nidOf base h.length ao.slot) T ao.op=some (v,chg):=by
      refine aprim_mono hget' ?_
      cases hk:ao.slot with
      |some k=>rw[hk] at hp;exact hp
      | none=>
        rw[hk] at hp
        cases hm:ao.op.isMaker
        · have hq:ao.op.quiet=true:=by
            unfold SlotOK at hso
            rw[hk] at hso
            simp[AOp.quiet,hm,←hso]
          rw[←hp]
          exact aprim_nid hq
        · have:h.length=h0.length:=ok3 hm
          rw[←hp]
          show aprim get h.length T ao.op=aprim get h0.length T ao.op
          rw[this]
    have hnid:nidOf base h.length ao.slot≤h.length∧ρ (nidOf base h.length ao.slot)=none:=by
      cases hk:ao.slot with
      |some k=>exact ⟨Nat.le_of_lt (hslot k hk).2,(hslot k hk).1⟩
      |none=>exact ⟨Nat.le_refl _,st.rel.dom _ (Nat.le_refl _)⟩
    have hids: ∀ c∈chg,c.id≤h.length:=fun c hc=>by
      rcases (aprim_targets hp2 c hc).1 with e |⟨x,hx,_⟩
      · rw[e];exact hnid.1
      · exact Nat.le_of_lt (bget_lt hx)
    have hids0: ∀ c∈chg,c.id≤h0.length:=fun c hc=>by
      rcases hids0 c hc with e |⟨x,hx,_⟩
      · rw[e]
        cases hk:ao.slot with
        |some k=>exact Nat.le_of_lt (hs k hk)
        |none=>exact Nat.le_refl _
      · exact Nat.le_of_lt (bget_lt (hget _ _ hx))
    refine Leads.any hOK fun d=> ?_
    have st:=st.drawnAt d
    obtain ⟨nx,v',w',ρ',h1,h2,h3,h4,h5,h6⟩:=prim_sound st.rel hg st.tr hnid.1 hnid.2 hco hp2
    refine ⟨_,w',sg_op_value hio hwd hnd h1 h2,.here ⟨_,ρ',aput T ao.dst v,bputs h chg,rfl,(app_prim (d:=ao.dst) (v:=v) rfl rfl (fun b=> ?_) ?_).symm,⟨h4,?_,by rw[put_size];exact st.size⟩,hdfr _,h5,fun x hx hn=>h6 x ?_,?_⟩⟩
    · simp only
      split
      · exact bputs_out chg hids hids0 b (by assumption)
      · exact bputs_get chg hids b (by assumption)
    · simp only
      cases hm:ao.op.isMaker
      · have:=(bputs_length chg (h:=h)).2 (makes_ids hso hm (fun _ _ h=>h) (fun k hk=>(hslot k hk).2) hp2)
        rw[this]
        simp
      · rw[bputs_length_eq chg (show h.length=h0.length from ok3 hm)]
        have:=bputs_length_le chg h0
        have e:h.length=h0.length:=ok3 hm
        simp only[if_true]
        omega
    · rw[hd2]
      exact TR.put (fun p=>(st.tr p).mono h5) hdst' h3
    · intro e
      cases hk:ao.slot with
      |some k=>rw[hk] at e;exact hn k hk e
      |none=>rw[hk] at e;simp only[nidOf] at e;omega
    · refine prim_pres hnid.1 (fun e=> ?_) hp2
      obtain ⟨q,hq,_⟩:=st.rel.blk _ _ e
      rw[hnid.2] at hq
      cases hq
  | call T0 i h1 c vs v m2 hw hcl hc hv=>
    simp only at hio hfin ok1 ok2 ok3
    have hT: ∀ p∈lks ao.op ao.guard,tget p T=tget p T0:=ok2
    rw[←awanted_T hT] at hw
    have hwd:=wanted_sound st.tr ops o hgd hw
    have hco:=copB_cop hco (fun e=>by rw[e] at hcl;cases hcl)
    have hnd:=cop_no_defer hco
    rw[←acallee_T (opnds_T hT)] at hc
    have hlen:h1.length=h.length:=(ok3 trivial).symm
    have hsub: ∀ b x,bget h1 b=some x→bget h b=some x:=fun b x hb=>(ok1 b (.inl (by rw[hb];rfl))).trans hb
    have t2:=hct _ _ _ _ _ hv
    obtain ⟨l,e1,e2,e3⟩:=t2.log
    simp only[List.append_nil] at e1
    subst e1
    refine Leads.any hOK fun d=> ?_
    have st:=st.drawnAt d
    have R:=st.rel
    have RF:=R.frame hlen hsub
    obtain ⟨vs',g1,g2,g3⟩:=call_sound RF hg st.tr hco hc
    obtain ⟨nx,fr0,q1,q2,q3⟩:=hcall (frameK K ρ h h1) _ _ ρ {blks:=h1,log:=[]} m2 c vs vs' v hL hv RF hg g1 g3
    have hstep:(stepG P main (running (b.atR a (.inRegion ops (i::rest)::k)) cs) (World.drawnAt w d)).bare= .go (running fr0 (b.atR a (.inRegion ops (i::rest)::k)::cs)) (World.drawnAt w d):=by
      rw[sg_op hio hwd hnd]
      have hr:=g2.trans q1
      cases nx <;>simp only[Pushes] at q2
      · subst q2
        simp[stepG.apply,hr,running,Frame.atR]
      · subst q2
        simp[stepG.apply,hr,running,Frame.atR]
    refine ⟨_,_,hstep,(q3 _ cs).mono fun g w' e=> ?_⟩
    obtain ⟨v',ρ',e5,e6,e7,e8,e9,e10,e11⟩:=e
    have hl2:h.length≤m2.blks.length:=by rw[←hlen];exact e10
    have hll: ∀ x∈(List.range h.length).filter fun b=> !ins m2.log b,x<m2.blks.length:=fun x hx=>by
      have:=List.mem_range.1 (List.mem_filter.1 hx).1
      omega
    obtain ⟨u1,u2⟩:=unmask_blks ((List.range h.length).filter fun b=> !ins m2.log b) h m2 hll
    generalize (unmask m2 h ((List.range h.length).filter fun b=> !ins m2.log b)).blks=h' at u1 u2
    have hget: ∀ b,bget h' b=if b∈m2.log then bget m2.blks b else bget h b:=fun b=>by
      rw[u2]
      by_cases hm:b∈m2.log
      · rw[if_pos hm,if_neg]
        intro hx
        have:=(List.mem_filter.1 hx).2
        rw[ins_mem.2 hm] at this
        cases this
      · rw[if_neg hm]
        by_cases hb:b<h.length
        · rw[if_pos]
          refine List.mem_filter.2 ⟨List.mem_range.2 hb,?_⟩
          cases hi:ins m2.log b
          · rfl
          · exact absurd (ins_mem.1 hi) hm
        · rw[if_neg (fun hx=>hb (List.mem_range.1 (List.mem_filter.1 hx).1)),e2 b hm]
          simp only
          rw[bget_ge (by omega),bget_ge (by omega)]
    refine ⟨a.put o.dst v',ρ',aput T ao.dst v,h',by rw[e5,hfin],(app_prim (d:=ao.dst) (v:=v) rfl rfl hget ?_).symm,⟨R.unframe e7 hsub e8 e2 t2.own hget u1,?_,by rw[put_size];exact st.size⟩,hdfr _,e8,fun x hx _=>e9 x (by simp only;omega),⟨by omega,fun x hx=> ?_⟩⟩
    · rw[u1]
      simp only
      omega
    · rw[hd2]
      exact TR.put (fun p=>(st.tr p).mono e8) hdst' e6
    · rw[hget]
      split
      · rename_i hm
        have:=ok1 x (.inr hm)
        simp only[sig] at this
        rw[hx] at this
        exact e11 x this.symm
      · exact hx
end
section
variable {P:Program} {glob:Nat→Option AV} {nt:Nat} {ops:Array Oper}
structure OpOK (P:Program) (glob:Nat→Option AV) (nt:Nat) (ops:Array Oper) (k n i:Nat) (afters:List (List Nat)) (prev:List (Option Pth × List Pth)) (o:Oper) (ao:AOper):Prop where
  cop:copB P glob o=ao.op
  guard:cguard ops o=some ao.guard
  dst:cdst nt o=some ao.dst
  slot:SlotOK ao
  range: ∀ q,ao.slot=some q→k≤q∧q<n
  edge: ∀ e∈o.after.toList,Region.binds .any e=true→e.on<i
  after: ∀ x∈ao.after,∃ e∈o.after.toList,Region.binds .any e=true∧(e.on=x∨x∈afters.getD e.on [])
  apart: ∀ x,x<i→x ∉ ao.after→ ∃ y,prev[x]? =some y∧apartP y (ao.dst,lks ao.op ao.guard)=true
theorem copers_draw: ∀ (os:List Oper) (i k:Nat) (cl:List (List Nat)) (pv:List (Option Pth × List Pth)) (aos:List AOper) (n:Nat),copers P glob nt true ops i k cl pv os=some (aos,n)→cl.length=i→pv.length=i→
    aos.length=os.length∧k≤n∧(∀ (j:Nat) (ao:AOper),aos[j]? =some ao→ ∃ o,os[j]? =some o∧OpOK P glob nt ops k n (i+j) (cl++aos.map (·.after)) (pv++aos.map fun a=>(a.dst,lks a.op a.guard)) o ao)∧
      ∀ (j j':Nat) (ao ao':AOper),j'<j→aos[j]? =some ao→aos[j']? =some ao'→ ∀ q,ao.slot=some q→ao'.slot≠some q
  | [],i,k,cl,pv,aos,n,h,_,_=>by
    simp only[copers] at h
    cases h
    exact ⟨rfl,Nat.le_refl _,fun j ao hj=>by simp at hj,fun j j' ao ao' _ hj=>by simp at hj⟩
  | o :: os, i, k,cl,pv,aos,n,h,hcl,hpv=>by
    unfold copers at h
    simp only[Option.bind_eq_bind,Option.bind_eq_some_iff] at h
    obtain ⟨g,hgd,dst,hdst,h⟩:=h
    generalize hop:copB P glob o=op at h
    simp only[if_true] at h
    split at h
    · rename_i hcond
      simp only[Bool.and_eq_true] at hcond
      obtain ⟨hc1,hc2⟩:=hcond
      simp only[Option.pure_def,Option.bind_eq_some_iff] at h
      obtain ⟨⟨rest,n'⟩,hrest,e⟩:=h
      cases e
      obtain ⟨g1,g2,g3,g4⟩:=copers_draw os (i+1) _ _ _ rest n' hrest (by simp[hcl]) (by simp[hpv])
      have hkn:k≤n'∧(op.makes=true→k<n'):=by
        cases hm:op.makes <;>rw[hm] at g2 <;>simp at g2 ⊢ <;>omega
      have hrange: ∀ (j:Nat) (ao:AOper),rest[j]? =some ao→ ∀ q,ao.slot=some q→k≤q∧q<n'∧(op.makes=true→k<q):=fun j ao hj q hq=>by
        obtain ⟨_,_,ok⟩:=g3 j ao hj
        have:=ok.range q hq
        cases hm:op.makes <;>rw[hm] at this <;>simp at this ⊢ <;>omega
      refine ⟨by simp[g1],hkn.1,fun j ao hj=> ?_,fun j j' ao ao' hlt hj hj' q hq=> ?_⟩
      · cases j with
        | zero=>
          simp only[List.getElem?_cons_zero,Option.some.injEq] at hj
          subst hj
          have hed: ∀ e∈o.after.toList,Region.binds .any e=true→e.on<i:=fun e he hb=>by
            have:=List.all_eq_true.1 hc1 e he
            simp only[hb,Bool.not_true,Bool.false_or,decide_eq_true_eq] at this
            exact this
          refine ⟨o,rfl,hop,hgd,hdst,?_,fun q hq=> ?_,hed,fun x hx=> ?_,fun x hx hn=> ?_⟩
          · unfold SlotOK
            simp only
            cases op.makes <;>rfl
          · simp only at hq
            split at hq
            · rename_i hm
              cases hq
              exact ⟨Nat.le_refl _,hkn.2 hm⟩
            · cases hq
          · simp only[closeAfter,List.mem_filter,Bool.or_eq_true,List.any_eq_true,Bool.and_eq_true] at hx
            obtain ⟨hx1,hx2⟩:=hx
            rcases hx2 with ⟨e,he,hb,he2⟩|⟨e,he,hb,he2⟩
            · exact ⟨e,he,hb,.inl (by simpa using he2)⟩
            · refine ⟨e,he,hb,.inr ?_⟩
              have hlt:=hed e he hb
              rw[List.getD_eq_getElem?_getD,List.getElem?_append_left (by omega),←List.getD_eq_getElem?_getD]
              exact List.contains_iff_mem.1 he2
          · have:=List.all_eq_true.1 hc2 x (List.mem_range.2 hx)
            simp only[Bool.or_eq_true] at this
            rcases this with h |h
            · exact absurd (List.contains_iff_mem.1 h) hn
            · split at h
              · rename_i y hy
                exact ⟨y,by rw[List.getElem?_append_left (by simp only[Nat.add_zero] at hx;omega)];exact hy,h⟩
              · cases h
        | succ j=>
          simp only[List.getElem?_cons_succ] at hj
          obtain ⟨o',h1,ok⟩:=g3 j ao hj
          refine ⟨o',by simpa using h1,ok.cop,ok.guard,ok.dst,ok.slot,fun q hq=>⟨(hrange j ao hj q hq).1,(hrange j ao hj q hq).2.1⟩,fun e he hb=>by have:=ok.edge e he hb;omega,?_,fun x hx hn=> ?_⟩
          · have:=ok.after
            simpa[List.append_assoc] using this
          · have:=ok.apart x (by omega) hn
            simpa[List.append_assoc] using this
      · cases j with
        |zero=>omega
        | succ j=>
          simp only[List.getElem?_cons_succ] at hj
          cases j' with
          | zero=>
            simp only[List.getElem?_cons_zero,Option.some.injEq] at hj'
            subst hj'
            intro e
            simp only at e
            split at e
            · rename_i hm
              cases e
              have:=(hrange j ao hj _ hq).2.2 hm
              omega
            · cases e
          | succ j'=>
            simp only[List.getElem?_cons_succ] at hj'
            exact g4 j j' ao ao' (by omega) hj hj' q hq
    · cases h
theorem apartP_D {x y:Stp} (h:apartP (x.dst,x.looks) (y.dst,y.looks)=true):apartD x y:=by
  simp only[apartP,Bool.and_eq_true] at h
  obtain ⟨h1,h2⟩:=h
  refine ⟨fun d hd=> ?_,fun d hd=> ?_,fun d hd=> ?_⟩
  · rw[hd] at h1
    simp only[Bool.and_eq_true,bne_iff_ne] at h1
    exact h1.2
  · rw[hd] at h1
    simp only[Bool.and_eq_true] at h1
    simpa using h1.1
  · rw[hd] at h2
    simpa using h2
theorem St.congr {K:Kp} {w0 w:World} {ρ:Rho} {T T':Tr} {h h':Blks} {a:Act} (s:St K w0 nt ρ T h a w) (e:sig T h=sig T' h'):St K w0 nt ρ T' h' a w:=by
  have e1: ∀ p,tget p T'=tget p T:=fun p=>(congrFun (congrArg Sg.tv e) p).symm
  have e2: ∀ b,bget h' b=bget h b:=fun b=>(congrFun (congrArg Sg.get e) b).symm
  have e3:h'.length=h.length:=(congrArg Sg.len e).symm
  refine ⟨⟨s.rel.below,fun b hb=>s.rel.dom b (by omega),fun b x hx=>s.rel.blk b x (by rw[←e2];exact hx),fun b c x y p q hx hy=>s.rel.sep b c x y p q (by rw[←e2];exact hx) (by rw[←e2];exact hy)⟩,fun p=>by rw[e1];exact s.tr p,s.size⟩
theorem Pres.congr {h h':Blks} {T T':Tr} {g:Blks} (s:Pres g h) (e:sig T h=sig T' h'):Pres g h':=by
  have e2: ∀ b,bget h' b=bget h b:=fun b=>(congrFun (congrArg Sg.get e) b).symm
  have e3:h'.length=h.length:=(congrArg Sg.len e).symm
  exact ⟨by rw[e3];exact s.1,fun x hx=>by rw[e2];exact s.2 x hx⟩
end
def left (listed:Array Bool) (ss:List Stp):List Stp:=ss.filter fun s=> !listed.getD s.idx true
structure Reg (P:Program) (glob:Nat→Option AV) (call:CallF) (base n nt:Nat) (ops:Array Oper) (aos:List AOper) (ss:List Stp):Prop where
  size:aos.length=ops.size
  len:ss.length=ops.size
  info: ∀ j s,ss[j]? =some s→s.idx=j∧ ∃ ao,aos[j]? =some ao∧Info call (cmeth P) base ao s
  op: ∀ (j:Nat) (ao:AOper),aos[j]? =some ao→ ∃ o,ops[j]? =some o∧OpOK P glob nt ops 0 n j (aos.map (·.after)) (aos.map fun a=>(a.dst,lks a.op a.guard)) o ao
  slots: ∀ (j j':Nat) (ao ao':AOper),j'<j→aos[j]? =some ao→aos[j']? =some ao'→ ∀ q,ao.slot=some q→ao'.slot≠some q
  apart:ss.Pairwise (fun s t=>s.idx ∉ t.after→apartM s t)
section
variable {P:Program} {glob:Nat→Option AV} {main:Bool} {OK:Goroutine→World→Prop} {L:ALoop→Loop→Prop} {call:CallF} {K:Kp} {w0:World} {nt base n:Nat} {ops:Array Oper} {aos:List AOper} {ss:List Stp}
theorem Reg.pair (G:Reg P glob call base n nt ops aos ss) {j i:Nat} {y x:Stp} (hj:ss[j]? =some y) (hi:ss[i]? =some x) (hlt:j<i) (hn:j ∉ x.after):apartM y x∧apartD y x∧y.wf:=by
  obtain ⟨ij,ay,hay,iy⟩:=G.info j y hj
  obtain ⟨ii,ax,hax,ix⟩:=G.info i x hi
  obtain ⟨o,ho,ok⟩:=G.op i ax hax
  refine ⟨?_,?_,iy.wf⟩
  · have hj':=List.getElem?_eq_some_iff.1 hj
    have hi':=List.getElem?_eq_some_iff.1 hi
    have:=List.pairwise_iff_getElem.1 G.apart j i hj'.1 hi'.1 hlt
    rw[hj'.2,hi'.2,ij] at this
    exact this hn
  · obtain ⟨p1,p2,p3⟩:=iy.parts
    obtain ⟨q1,q2,q3⟩:=ix.parts
    obtain ⟨z,hz,hap⟩:=ok.apart j hlt (by rw[←q3];exact hn)
    rw[List.getElem?_map,hay] at hz
    cases hz
    refine apartP_D ?_
    rw[p1,p2,q1,q2]
    exact hap
def FEnd (K:Kp) (w0:World) (nt base:Nat) (ρ:Rho) (h:Blks) (σ:Sg) (a:Act) (b:Frame) (k:List Item) (cs:List Frame) (g:Goroutine) (w:World):Prop:=
  ∃ a' ρ' T1 h1,g=running (b.atR a' k) cs∧sig T1 h1=σ∧St K w0 nt ρ' T1 h1 a' w∧a'.defers=a.defers∧ρ.le ρ'∧(∀ x,x<base→ρ' x=ρ x)∧Pres h h1
theorem left_set {listed:Array Bool} {i:Nat} {x:Stp} (hlen: ∀ (j:Nat) (s:Stp),ss[j]? =some s→s.idx=j) (hx:ss[i]? =some x) (hl:listed.getD i true=false):
    left listed ss=left listed (ss.take i)++x::left listed (ss.drop (i+1))∧left (listed.setIfInBounds i true) ss=left listed (ss.take i)++left listed (ss.drop (i+1)):=by
  have hs:ss=ss.take i++x::ss.drop (i+1):=by
    have hi:=List.getElem?_eq_some_iff.1 hx
    rw[←hi.2,List.getElem_cons_drop,List.take_append_drop]
  have hxi:=hlen i x hx
  have key: ∀ s,s∈ss.take i∨s∈ss.drop (i+1)→(!(listed.setIfInBounds i true).getD s.idx true)= !listed.getD s.idx true:=fun s h=>by
    have hne:i≠s.idx:=by
      rcases h with h |h
      · obtain ⟨j,hj⟩:=List.getElem?_of_mem h
        rw[List.getElem?_take] at hj
        split at hj
        · have:=hlen j s hj;omega
        · cases hj
      · obtain ⟨j,hj⟩:=List.getElem?_of_mem h
        rw[List.getElem?_drop] at hj
        have:=hlen _ s hj;omega
    rw[Array.getD_eq_getD_getElem?,Array.getD_eq_getD_getElem?,Array.getElem?_setIfInBounds_ne hne]
  constructor
  · unfold left
    conv=>lhs;rw[hs]
    rw[List.filter_append,List.filter_cons_of_pos]
    rw[hxi,hl];rfl
  · unfold left
    conv=>lhs;rw[hs]
    rw[List.filter_append,List.filter_cons_of_neg]
    · congr 1
      · exact List.filter_congr fun s hs=>key s (.inl hs)
      · exact List.filter_congr fun s hs=>key s (.inr hs)
    · rw[hxi]
      have hsz:i<listed.size:=by
        rcases Nat.lt_or_ge i listed.size with h |h
        · exact h
        · rw[Array.getD_eq_getD_getElem?,Array.getElem?_eq_none h] at hl;cases hl
      simp[Array.getD_eq_getD_getElem?,hsz]
theorem mem_left {listed:Array Bool} {s:Stp}:s∈left listed ss↔s∈ss∧listed.getD s.idx true=false:=by
  unfold left
  rw[List.mem_filter]
  cases listed.getD s.idx true <;>simp
theorem sched_sound (hOK: ∀ g w,OK g w) (hL:K.loop=L) (hcall:CallOK P glob main OK L call) (hct:CallT call) (G:Reg P glob call base n nt ops aos ss) {b:Frame} {k:List Item} {cs:List Frame}:
    ∀ (fuel t:Nat) (listed:Array Bool) (T:Tr) (h:Blks) (a:Act) (w:World) (ρ:Rho),listed.size=ops.size→(left listed ss).length≤fuel→okAll (left listed ss) (sig T h)→St K w0 nt ρ T h a w→GR glob ρ→base+n≤h.length→
      (∀ s∈left listed ss,∀ ao,aos[s.idx]? =some ao→ ∀ q,ao.slot=some q→ρ (base+q)=none)→(∀ i s,ss[i]? =some s→listed.getD i true=true→ ∀ j∈s.after,listed.getD j false=true)→
      Leads P main OK (FEnd K w0 nt base ρ h (fin (left listed ss) (sig T h)) a b k cs) (running (b.atR a (.inRegion ops (Region.linearise.go .any ops fuel t listed [])::k)) cs) w:=by
  have hidx: ∀ (j:Nat) (s:Stp),ss[j]? =some s→s.idx=j:=fun j s hs=>(G.info j s hs).1
  have hend: ∀ (listed:Array Bool) (T:Tr) (h:Blks) (a:Act) (w:World) (ρ:Rho),left listed ss=[]→St K w0 nt ρ T h a w→Leads P main OK (FEnd K w0 nt base ρ h (fin (left listed ss) (sig T h)) a b k cs) (running (b.atR a (.inRegion ops []::k)) cs) w:=by
    intro listed T h a w ρ hnil st
    rw[hnil]
    exact Leads.one hOK (fun d=>sg_region_end) fun d=> .here ⟨a,ρ,T,h,rfl,rfl,st.drawnAt d,rfl,Rho.le_refl _,fun _ _=>rfl,Pres.refl _⟩
  intro fuel
  induction fuel with
  | zero=>
    intro t listed T h a w ρ _ hle _ st _ _ _ _
    simp only[Region.linearise.go,List.reverse_nil]
    exact hend listed T h a w ρ (List.eq_nil_of_length_eq_zero (Nat.le_zero.1 hle)) st
  | succ fuel ih=>
    intro t listed T h a w ρ hsz hle hok st hg hlen hsl hcl
    simp only[Region.linearise.go]
    generalize hready:((List.range ops.size).filter fun i=> !listed.getD i true && ((ops[i]?).map (·.after.all fun e=> !Region.binds .any e ||listed.getD e.on false)).getD false)=ready
    cases hi:ready[t % ready.length]? with
    | none=>
      have hnil:ready=[]:=by
        cases hr:ready with
        |nil=>rfl
        | cons x xs=>
          rw[hr] at hi
          have hlt:t % (x::xs).length<(x::xs).length:=Nat.mod_lt _ (by simp)
          simp at hi
          simp at hlt
          omega
      simp only[List.reverse_nil]
      refine hend listed T h a w ρ ?_ st
      refine Classical.byContradiction fun hne=> ?_
      have hex: ∃ i s,ss[i]? =some s∧listed.getD i true=false:=by
        cases hl:left listed ss with
        |nil=>exact absurd hl hne
        | cons s l=>
          have hm:s∈left listed ss:=by rw[hl];simp
          obtain ⟨h1,h2⟩:=mem_left.1 hm
          obtain ⟨i,hi⟩:=List.getElem?_of_mem h1
          exact ⟨i,s,hi,by rw[hidx i s hi] at h2;exact h2⟩
      have hmin: ∀ m i s,i≤m→ss[i]? =some s→listed.getD i true=false→ ∃ i s,ss[i]? =some s∧listed.getD i true=false∧ ∀ j,j<i→listed.getD j false=true:=by
        intro m
        induction m with
        |zero=>intro i s h0 h1 h2;exact ⟨i,s,h1,h2,fun j hj=>by omega⟩
        | succ m ihm=>
          intro i s h0 h1 h2
          by_cases hj: ∃ j,j<i∧listed.getD j false=false
          · obtain ⟨j,hj1,hj2⟩:=hj
            have hjl:j<ss.length:=Nat.lt_trans hj1 (List.getElem?_eq_some_iff.1 h1).1
            have hjs:j<listed.size:=by rw[hsz,←G.len];exact hjl
            exact ihm j ss[j] (by omega) (List.getElem?_eq_getElem hjl) (by rw[Array.getD_eq_getD_getElem?,Array.getElem?_eq_getElem hjs] at hj2 ⊢;exact hj2)
          · exact ⟨i,s,h1,h2,fun j hj'=>by
              cases hq:listed.getD j false with
              |true=>rfl
              |false=>exact absurd ⟨j,hj',hq⟩ hj⟩
      obtain ⟨i,s,h1,h2⟩:=hex
      obtain ⟨i,s,h1,h2,h3⟩:=hmin i i s (Nat.le_refl _) h1 h2
      obtain ⟨_,ao,hao,_⟩:=G.info i s h1
      obtain ⟨o,ho,ok⟩:=G.op i ao hao
      have:i∈ready:=by
        rw[←hready]
        refine List.mem_filter.2 ⟨List.mem_range.2 (Array.getElem?_eq_some_iff.1 ho).1,?_⟩
        rw[h2,ho]
        simp only[Bool.not_false,Bool.true_and,Option.map_some,Option.getD_some]
        rw[←Array.all_toList]
        refine List.all_eq_true.2 fun e he=> ?_
        cases hb:Region.binds .any e
        · rfl
        · have:=h3 e.on (ok.edge e he hb)
          rw[this];rfl
      rw[hnil] at this
      cases this
    | some i=>
      simp only
      rw[linearise_go_acc,List.reverse_singleton,List.singleton_append]
      have him:i∈ready:=List.mem_of_getElem? hi
      rw[←hready] at him
      obtain ⟨hir,hil⟩:=List.mem_filter.1 him
      have hir:=List.mem_range.1 hir
      simp only[Bool.and_eq_true,Bool.not_eq_true'] at hil
      obtain ⟨hl1,hl2⟩:=hil
      have hil:i<ss.length:=by rw[G.len];exact hir
      have hx:ss[i]? =some ss[i]:=List.getElem?_eq_getElem hil
      generalize ss[i]=x at hx
      obtain ⟨hxi,ao,hao,hinf⟩:=G.info i x hx
      obtain ⟨o,ho,ok⟩:=G.op i ao hao
      rw[ho] at hl2
      simp only[Option.map_some,Option.getD_some] at hl2
      rw[←Array.all_toList] at hl2
      have hedge: ∀ e∈o.after.toList,Region.binds .any e=true→listed.getD e.on false=true:=fun e he hb=>by
        have:=List.all_eq_true.1 hl2 e he
        rw[hb] at this
        simpa using this
      obtain ⟨_,_,p3⟩:=hinf.parts
      have hafter: ∀ j∈x.after,listed.getD j false=true:=fun j hj=>by
        rw[p3] at hj
        obtain ⟨e,he,hb,h1 |h1⟩:=ok.after j hj
        · rw[←h1];exact hedge e he hb
        · have hlt:=ok.edge e he hb
          have hel:e.on<ss.length:=Nat.lt_trans hlt hil
          have hxe:ss[e.on]? =some ss[e.on]:=List.getElem?_eq_getElem hel
          obtain ⟨_,ae,hae,ie⟩:=G.info e.on _ hxe
          rw[List.getD_eq_getElem?_getD,List.getElem?_map,hae] at h1
          refine hcl e.on _ hxe ?_ j (by rw[ie.parts.2.2];exact h1)
          have:=hedge e he hb
          have hls:e.on<listed.size:=by rw[hsz,←G.len];exact hel
          rw[Array.getD_eq_getD_getElem?,Array.getElem?_eq_getElem hls] at this ⊢
          exact this
      obtain ⟨s1,s2⟩:=left_set (ss:=ss) hidx hx hl1
      rw[s1] at hok
      have hmv:=okAll_move (left listed (ss.take i)) (left listed (ss.drop (i+1))) (sig T h) hok (fun y hy=>by
        obtain ⟨h1,h2⟩:=mem_left.1 hy
        obtain ⟨j,hj⟩:=List.getElem?_of_mem h1
        rw[List.getElem?_take] at hj
        split at hj
        · rename_i hji
          refine G.pair hj hx hji (fun hm=> ?_)
          have:=hafter j hm
          rw[hidx j y hj] at h2
          have hjs:j<listed.size:=by rw[hsz,←G.len];omega
          rw[Array.getD_eq_getD_getElem?,Array.getElem?_eq_getElem hjs] at this h2
          simp at this h2
          rw[this] at h2
          cases h2
        · cases hj) hinf.wf
      obtain ⟨hok1,hok2,hfin⟩:=hmv
      rw[←s2] at hok2 hfin
      rw[s1,hfin]
      have hxm:x∈left listed ss:=by rw[s1];simp
      have hslot: ∀ q,ao.slot=some q→ρ (base+q)=none∧base+q<h.length:=fun q hq=>⟨hsl x hxm ao (by rw[hxi];exact hao) q hq,by have:=(ok.range q hq).2;omega⟩
      have ho':ops[x.idx]? =some o:=by rw[hxi];exact ho
      have hrun:=step_sound (b:=b) (k:=k) (cs:=cs) (rest:=Region.linearise.go .any ops fuel (t / ready.length) (listed.setIfInBounds i true) []) hOK hL hcall hct ho' ok.cop ok.guard ok.dst hinf ok.slot st hg hok1 hslot
      rw[hxi] at hrun
      refine hrun.bind fun g w' q=> ?_
      obtain ⟨a1,ρ1,T1,h1,rfl,e1,st1,e2,e3,e4,e5⟩:=q
      rw[←e1] at hok2 ⊢
      have hlen1:=e5.1
      have hleft1:(left (listed.setIfInBounds i true) ss).length≤fuel:=by
        rw[s1] at hle
        rw[s2]
        simp only[List.length_append,List.length_cons] at hle ⊢
        omega
      refine (ih (t / ready.length) (listed.setIfInBounds i true) T1 h1 a1 w' ρ1 (by simp[hsz]) hleft1 hok2 st1 (hg.mono e3) (by omega) (fun s hs ao' hao' q hq=> ?_) (fun j s hj hlj y hy=> ?_)).mono fun g w f=> ?_
      ·
        rw[s2] at hs
        have hs':s∈left listed ss:=by
          rw[s1]
          rcases List.mem_append.1 hs with h |h
          · exact List.mem_append.2 (.inl h)
          · exact List.mem_append.2 (.inr (List.mem_cons.2 (.inr h)))
        have hsm:=(mem_left.1 hs').1
        obtain ⟨j,hj⟩:=List.getElem?_of_mem hsm
        have hji:=hidx j s hj
        obtain ⟨_,hoj⟩:=G.info j s hj
        have hne:j≠i:=by
          intro e
          subst e
          rw[←s2] at hs
          have:=(mem_left.1 hs).2
          rw[hji] at this
          have hjs:j<listed.size:=by omega
          simp[Array.getD_eq_getD_getElem?,hjs] at this
        rw[hji] at hao'
        obtain ⟨_,_,okj⟩:=G.op j ao' hao'
        have hr:=okj.range q hq
        refine (e4 (base+q) (by omega) (fun q' hq' e=> ?_)).trans (hsl s hs' ao' (by rw[hji];exact hao') q hq)
        have e:q'=q:=by omega
        subst e
        rcases Nat.lt_or_gt_of_ne hne with hlt |hlt
        · exact G.slots i j ao ao' hlt hao hao' q' hq' hq
        · exact G.slots j i ao' ao hlt hao' hao q' hq hq'
      · have hmono: ∀ z,listed.getD z false=true→(listed.setIfInBounds i true).getD z false=true:=fun z hz=>by
          by_cases e:i=z
          · subst e
            have:i<listed.size:=by omega
            simp[Array.getD_eq_getD_getElem?,this]
          · rw[Array.getD_eq_getD_getElem?,Array.getElem?_setIfInBounds_ne e,←Array.getD_eq_getD_getElem?]
            exact hz
        by_cases e:j=i
        · subst e
          rw[hx] at hj
          cases hj
          exact hmono y (hafter y hy)
        · rw[Array.getD_eq_getD_getElem?,Array.getElem?_setIfInBounds_ne (fun h=>e h.symm),←Array.getD_eq_getD_getElem?] at hlj
          exact hmono y (hcl j s hj hlj y hy)
      · obtain ⟨a2,ρ2,T2,h2,f1,f2,f3,f4,f5,f6,f7⟩:=f
        refine ⟨a2,ρ2,T2,h2,f1,f2,f3,f4.trans e2,Rho.le_trans e3 f5,fun z hz=>(f6 z hz).trans (e4 z (by omega) (fun q _ e=>by omega)),e5.trans f7⟩
theorem draw_sound (hOK: ∀ g w,OK g w) (hL:K.loop=L) (hcall:CallOK P glob main OK L call) (hct:CallT call) (hmix:P.follows .mixedOrders=true):DrawOK P glob main OK call K w0 nt:=by
  intro ops aos n id T T' m m' a w ρ b k cs hco hd st hg
  obtain ⟨c1,_,c2,c3⟩:=copers_draw ops.toList 0 0 [] [] aos n hco rfl rfl
  have hso: ∀ o∈aos,SlotOK o:=fun o ho=>by
    obtain ⟨j,hj⟩:=List.getElem?_of_mem ho
    obtain ⟨_,_,ok⟩:=c2 j o hj
    exact ok.slot
  obtain ⟨ss,e1,e2,e3,e4,_,e6⟩:=adraw_steps hct aos 0 [] T T' (m.more n) m' [] hd (fun _ h=>by cases h) (fun _ h=>by cases h) hso
  have G:Reg P glob call m.blks.length n nt ops aos ss:={
    size:=by rw[c1];simp
    len:=by rw[e1,c1];simp
    info:=fun j s hs=>by have:=e4 j s hs;simpa using this
    op:=fun j ao hj=>by
      obtain ⟨o,ho,ok⟩:=c2 j ao hj
      refine ⟨o,by simpa using ho,?_⟩
      simpa using ok
    slots:=c3
    apart:=e6}
  have hml:(m.more n).blks.length=m.blks.length+n:=bmore_length n m.blks
  have R0:Rel K w0 ρ (m.more n).blks w:=by
    have hget: ∀ b,bget (m.more n).blks b=bget m.blks b:=bmore_get n m.blks
    exact ⟨st.rel.below,fun b hb=>st.rel.dom b (by omega),fun b x hx=>st.rel.blk b x (by rw[←hget];exact hx),fun b c x y p q hx hy=>st.rel.sep b c x y p q (by rw[←hget];exact hx) (by rw[←hget];exact hy)⟩
  have hall:left (Array.replicate ops.size false) ss=ss:=by
    unfold left
    refine List.filter_eq_self.2 fun s hs=> ?_
    obtain ⟨j,hj⟩:=List.getElem?_of_mem hs
    have h1:=(G.info j s hj).1
    have h2:j<ops.size:=by rw[←G.len];exact (List.getElem?_eq_some_iff.1 hj).1
    rw[h1]
    simp[Array.getD_eq_getD_getElem?,h2]
  refine Leads.any hOK fun d=>⟨_,_,sg_region_draw,?_⟩
  have st1:St K w0 nt ρ T (m.more n).blks a {World.drawnAt w d with drawn:=d+1}:=⟨R0.drawnAt (d+1),st.tr,st.size⟩
  have hsched:=sched_sound (b:=b) (k:=k) (cs:=cs) hOK hL hcall hct G ops.size ((World.drawnAt w d).tape d (.order b.fn id)) (Array.replicate ops.size false) T (m.more n).blks a _ ρ (by simp) (by rw[hall,G.len];exact Nat.le_refl _) (by rw[hall];exact e2) st1 hg (by omega)
    (fun s _ ao _ q _=>st.rel.dom _ (by omega)) (fun i s hi hl=>by
      have h2:i<ops.size:=by rw[←G.len];exact (List.getElem?_eq_some_iff.1 hi).1
      simp[Array.getD_eq_getD_getElem?,h2] at hl)
  rw[hall,e3] at hsched
  have hs:Region.schedule (P.follows .mixedOrders) ops ((World.drawnAt w d).tape (World.drawnAt w d).drawn (.order b.fn id))=Region.linearise.go .any ops ops.size ((World.drawnAt w d).tape d (.order b.fn id)) (Array.replicate ops.size false) []:=by
    rw[hmix]
    rfl
  rw[hs]
  refine hsched.mono fun g w' f=> ?_
  obtain ⟨a2,ρ2,T2,h2,f1,f2,f3,f4,f5,f6,f7⟩:=f
  have hp:Pres m.blks (m.more n).blks:=⟨by omega,fun x hx=>by rw[show bget (m.more n).blks x=bget m.blks x from bmore_get n m.blks x];exact hx⟩
  exact ⟨a2,ρ2,f1,f3.congr f2,f4,f5,f6,hp.trans (f7.congr f2)⟩
end
theorem acall_sound {P:Program} {glob:Nat→Option AV} {main:Bool} {OK:Goroutine→World→Prop} {F:FuncId→Option AFunc} {sm:Summ} (hsd:CallD (smF sm)) (hst:CallT (smF sm)) (hsm:CallOK P glob main OK (LoopR P glob) (smF sm)) (hOK: ∀ g w,OK g w) (hF:FOK P glob F) (hmix:P.follows .mixedOrders=true):
    ∀ n,CallOK P glob main OK (LoopR P glob) (acall F (cmeth P) sm n)
  |0=>fun K w0 w ρ m m' c vs vs' v hL hc=>by simp[acall] at hc
  | n +1=>fun K w0 w ρ m m' c vs vs' v hL hc R hg hvs hy=>by
    have ih:=acall_sound (main:=main) hsd hst hsm hOK hF hmix n
    have hdraw: ∀ nt,DrawOK P glob main OK (acall F (cmeth P) sm n) K w0 nt:=fun nt=>draw_sound hOK hL ih (acall_trk F (cmeth P) hsd hst n) hmix
    have hrange: ∀ nt fuel rd,RangeOK P glob main OK (acall F (cmeth P) sm n) K w0 nt fuel rd:=fun nt fuel rd=>range_sound hOK ih (acall_dfrs F (cmeth P) hsd n) hL
    cases c with
    |fn f=>exact fn_sound hsd hsm hOK hF ih hdraw (fun nt=>hrange nt n false) hL hc R hg hvs
    | yield l=>
      obtain ⟨p,hp⟩:=hy l rfl
      exact yield_sound hsd hOK ih hdraw (fun nt=>hrange nt n true) hL hc R hg hvs hp
open Go.RowKit (Below)
theorem drawnAt_self (w:World):World.drawnAt w w.drawn=w:=rfl
theorem Leads.steps {P:Program} {OK:Goroutine→World→Prop} {Q:Goroutine→World→Prop} {g:Goroutine} {w:World} (h:Leads P true OK Q g w):
    ∀ fr cs,g=running fr cs→(∀ g w,Q g w→ ∃ fr cs,g=running fr cs)→ ∃ fr' cs' w',Q (running fr' cs') w'∧Steps P (lone fr cs w) (lone fr' cs' w'):=by
  induction h with
  | here h=>
    intro fr cs e _
    subst e
    exact ⟨_,_,_,h,Steps.refl _ _⟩
  | @step g w g' w' h0 h1 h2 h3 ih=>
    intro fr cs e hq
    subst e
    have hs:=h1 w.drawn
    rw[drawnAt_self] at hs
    have hrun: ∃ fr1 cs1,g' w.drawn=running fr1 cs1:=by
      cases h3 w.drawn with
      |here h=>exact hq _ _ h
      |step _ _ h0 _ _ _=>exact h0
    obtain ⟨fr1,cs1,e1⟩:=hrun
    rw[e1] at hs
    obtain ⟨fr2,cs2,w2,q,s⟩:=ih w.drawn fr1 cs1 e1 hq
    exact ⟨fr2,cs2,w2,q,Steps.head (step_lone_go hs) s⟩
section
variable {P:Program} {glob:Nat→Option AV} {main:Bool} {OK:Goroutine→World→Prop} {K:Kp} {w0:World} {ρ:Rho}
theorem fn_leaves {L:ALoop→Loop→Prop} {F:FuncId→Option AFunc} {sm:Summ} (hsd:CallD (smF sm)) (hOK: ∀ g w,OK g w) (hF:FOK P glob F) {n:Nat} (hcall:CallOK P glob main OK L (acall F (cmeth P) sm n)) (hdraw: ∀ nt,DrawOK P glob main OK (acall F (cmeth P) sm n) K w0 nt)
    (hrange: ∀ nt,RangeOK P glob main OK (acall F (cmeth P) sm n) K w0 nt n false) (hL:K.loop=L) {w:World} {m m':Mem} {f:FuncId} {vs:List AV} {vs':Array Value} {v:AV} (hc:acall F (cmeth P) sm (n+1) (.fn f) vs m=some (v,m')) (R:Rel K w0 ρ m.blks w) (hg:GR glob ρ) (hvs:VRs ρ vs vs'.toList) (hs:sm f vs m=none):
    (callFunc f vs').run P w= .ok (.enter f vs') w∧ ∀ cs,Leads P main OK (fun g w'=> ∃ fr v' ρ',g=running fr cs∧fr.fn=f∧fr.leaving P w' (.returned v')∧VR ρ' v v'∧Rel K w0 ρ' m'.blks w'∧ρ.le ρ') (running (Frame.enter P f vs' .normal) cs) w:=by
  simp only[acall,hs] at hc
  split at hc
  · cases hc
  · rename_i af haf
    obtain ⟨hname,fn,hfn,hcf⟩:=hF f af haf
    simp only[cfunc,Option.bind_eq_bind,Option.bind_eq_some_iff] at hcf
    obtain ⟨body,hbody,hcf⟩:=hcf
    split at hcf
    · cases hcf
    · rename_i hres
      simp only[Option.pure_def,Option.bind_eq_some_iff] at hcf
      obtain ⟨abody,hcode,e⟩:=hcf
      cases e
      simp only at hc
      cases hle:Nat.ble vs.length fn.ntmps <;>rw[hle] at hc <;>simp only[cond] at hc
      · cases hc
      · have hle':vs.length≤fn.ntmps:=Nat.le_of_ble_eq_true hle
        have hl:=hvs.length
        simp at hl
        have hbs:fn.body.isSome=true:=by rw[hbody];rfl
        refine ⟨?_,fun cs=> ?_⟩
        · have hnn:(fn.name== "runtime.NumGoroutine")=false:=by
            unfold callName at hname
            rw[hfn] at hname
            simpa using (Bool.and_eq_true_iff.1 hname).2
          simp only[callFunc,Sem.run_bind,run_program,Result.andThen_ok,hfn,hnn,Bool.false_eq_true,if_false,hbody,Option.isNone_some,Sem.run_pure]
        · have hen:Frame.enter P f vs' .normal=(Frame.enter P f vs' .normal).atR ⟨vs'++Array.replicate (fn.ntmps - vs'.size) undef,[]⟩ [.code body]:=by
            simp[Frame.enter,Frame.atR,hfn,hbody]
          have hst:St K w0 fn.ntmps ρ (tputs vs .z .e) m.blks ⟨vs'++Array.replicate (fn.ntmps - vs'.size) undef,[]⟩ w:=⟨R,TR_enter hvs,by simp;omega⟩
          have hD:DefR m.blks.length ρ m.blks [] []:=⟨⟨Nat.le_refl _,by simp⟩,List.nodup_nil,rfl,fun i b d hb=>by simp at hb⟩
          have fin: ∀ (e:AExit) (T':Tr) (m1:Mem),acode (acall F (cmeth P) sm n) (cmeth P) n false abody (tputs vs .z .e) {m with dfrs:=[]}=some (e,T',m1)→(e= .normal∨e= .ret)→ ∀ v1,ares (bget (m1.killAll m1.dfrs).blks) T' (fn.results.toList.map (cres P))=some v1→
              Leads P main OK (fun g w'=> ∃ fr v' ρ',g=running fr cs∧fr.fn=f∧fr.leaving P w' (.returned v')∧VR ρ' v1 v'∧Rel K w0 ρ' (m1.killAll m1.dfrs).blks w'∧ρ.le ρ') (running (Frame.enter P f vs' .normal) cs) w:=by
            intro e T' m1 he hend v1 hv1
            rw[hen]
            refine (code_sound hOK (acall_dfrs F (cmeth P) hsd n) hL hcall (hdraw _) (hrange _) body abody _ T' {m with dfrs:=[]} m1 e _ w ρ _ [] cs hcode he hst hg hD rfl (Array.getElem?_eq_some_iff.1 hfn).1).bind fun g w1 q=> ?_
            obtain ⟨a1,ρ1,todo,rfl,hea,s1,d1,x1⟩:=q
            have step: ∀ d,(stepG P main (running ((Frame.enter P f vs' .normal).atR a1 todo) cs) (World.drawnAt w1 d)).bare= .go (running {(Frame.enter P f vs' .normal).atR a1 todo with mode:= .returning} cs) (World.drawnAt w1 d):=by
              intro d
              rcases hend with rfl |rfl
              · have:todo=[]:=hea
                subst this
                exact sg_end rfl
              · obtain ⟨k',rfl⟩:=hea
                exact sg_ret rfl
            refine Leads.one hOK step fun d=> ?_
            refine unwind_sound hOK m1.dfrs a1.defers m1.blks _ (s1.rel.drawnAt d) d1 fun w2 R2=> ?_
            rw[killAll_blks] at hv1 ⊢
            obtain ⟨v',g1,g2⟩:=results_sound (P:=P) (a:=⟨a1.tmps,[]⟩) R2 s1.tr (fn:=fn) (by simpa using hres) hv1
            exact .here ⟨_,v',ρ1,rfl,rfl,⟨rfl,rfl,rfl,fn,hfn,g1⟩,g2,R2,x1.1⟩
          split at hc
          · rename_i T' m1 he
            split at hc
            · rename_i v1 hv1
              cases hc
              exact fin .normal T' m1 he (.inl rfl) _ hv1
            · cases hc
          · rename_i T' m1 he
            split at hc
            · rename_i v1 hv1
              cases hc
              exact fin .ret T' m1 he (.inr rfl) _ hv1
            · cases hc
          · cases hc
end
structure SumOK (P:Program) (glob:Nat→Option AV) (sm:Summ):Prop where
  dfrs:CallD (smF sm)
  trk:CallT (smF sm)
  ok:CallOK P glob true (fun _ _=>True) (LoopR P glob) (smF sm)
theorem SumOK.none {P:Program} {glob:Nat→Option AV}:SumOK P glob noSum:=
  ⟨fun c vs m v m' h=>by cases c <;>simp[smF,noSum] at h,fun c vs m v m' h=>by cases c <;>simp[smF,noSum] at h,fun K w0 w ρ m m' c vs vs' v hL h=>by cases c <;>simp[smF,noSum] at h⟩
theorem fn_calls {P:Program} {glob:Nat→Option AV} {F:FuncId→Option AFunc} {sm:Summ} (hs:SumOK P glob sm) (hF:FOK P glob F) (hmix:P.follows .mixedOrders=true) {n:Nat} {K:Kp} {w0 w:World} {ρ:Rho} {m m':Mem} {f:FuncId} {vs:List AV} {vs':Array Value} {v:AV}
    (hL:K.loop=LoopR P glob) (hc:acall F (cmeth P) sm n (.fn f) vs m=some (v,m')) (R:Rel K w0 ρ m.blks w) (hg:GR glob ρ) (hvs:VRs ρ vs vs'.toList) (hno:sm f vs m=none):
    Calls P f vs' w fun e w'=> ∃ v' ρ',e= .returned v'∧VR ρ' v v'∧Rel K w0 ρ' m'.blks w'∧ρ.le ρ':=by
  cases n with
  |zero=>simp[acall] at hc
  | succ n=>
    have hOK: ∀ (g:Goroutine) (w:World),(fun _ _=>True:Goroutine→World→Prop) g w:=fun _ _=>trivial
    have ih:=acall_sound (main:=true) hs.dfrs hs.trk hs.ok hOK hF hmix n
    have h:=fn_leaves (main:=true) hs.dfrs hOK hF ih (fun nt=>draw_sound hOK hL ih (acall_trk F (cmeth P) hs.dfrs hs.trk n) hmix) (fun nt=>range_sound hOK ih (acall_dfrs F (cmeth P) hs.dfrs n) hL) hL hc R hg hvs hno
    intro cs
    obtain ⟨fr',cs',w',⟨fr,v',ρ',e,e1,e2,e3,e4,e5⟩,s⟩:=(h.2 cs).steps _ _ rfl (fun g w ⟨_,_,_,e,_⟩=>⟨_,_,e⟩)
    cases e
    exact ⟨.returned v',w',_,⟨v',ρ',rfl,e3,e4,e5⟩,s,e1,e2⟩
open Go.RowKit (Below)
def FnOK (P:Program) (glob:Nat→Option AV) (i:Nat) (af:AFunc):Prop:=callName P i=true∧ ∃ fn,P.funcs[i]? =some fn∧cfunc P glob fn=some af
def TabOK (P:Program) (glob:Nat→Option AV):Nat→List (Option AFunc)→Prop
  |_,[]=>True
  |i,none::l=>TabOK P glob (i+1) l
  |i,some af::l=>FnOK P glob i af∧TabOK P glob (i+1) l
theorem TabOK.get {P:Program} {glob:Nat→Option AV}: ∀ (l:List (Option AFunc)) (i:Nat),TabOK P glob i l→ ∀ j af,(l[j]?).join=some af→FnOK P glob (i+j) af
  | [],_,_,j,af,hj=>by simp at hj
  | none::l,i,h,j,af,hj=>by
    cases j with
    |zero=>simp at hj
    |succ j=>have:=TabOK.get l (i+1) h j af (by simpa using hj);rwa[Nat.add_assoc,Nat.add_comm 1 j] at this
  | some x::l,i,h,j,af,hj=>by
    cases j with
    |zero=>simp at hj;subst hj;exact h.1
    |succ j=>have:=TabOK.get l (i+1) h.2 j af (by simpa using hj);rwa[Nat.add_assoc,Nat.add_comm 1 j] at this
theorem TabOK.fok {P:Program} {glob:Nat→Option AV} {l:List (Option AFunc)} (h:TabOK P glob 0 l):FOK P glob fun f=>(l[f]?).join:=fun f af hf=>by
  have:=TabOK.get l 0 h f af hf
  rw[Nat.zero_add] at this
  exact this
def litFields (rec:TypeId→DataW Unit→Option (List AV)):Nat→List (Nat × Nat × TypeId)→List (DataW Unit)→Option (List AV)
  |_,[],[]=>some []
  | o,(off,sz,t)::fs,d::ds=>
    match rec t d with
    |some as=>if off=o∧as.length=sz then (litFields rec (o+sz) fs ds).map (as++ ·) else none
    |none=>none
  |_,_,_=>none
def litC (P:Program):Nat→TypeId→DataW Unit→Option (List AV)
  |0,_,_=>none
  | n +1,t,d=>
    match P.underlying t,d with
    |some .bool,.lit (.bool b)=>some [.bool b]
    |some (.int _),.lit (.int k m)=>some [.int k m]
    |some .string,.lit (.string s)=>some [.str s]
    | some (.array k e),.agg ds=>
      match litFields (litC P n) 0 ((List.range k).map fun i=>(i*P.cellsOf e,P.cellsOf e,e)) ds with
      |some as=>if as.length=P.cellsOf t then some as else none
      |none=>none
    | some (.struct fs),.agg ds=>
      match litFields (litC P n) 0 (fs.toList.map fun f=>(f.offset,P.cellsOf f.type,f.type)) ds with
      |some as=>if as.length=P.cellsOf t then some as else none
      |none=>none
    |_,_=>none
section
variable {P:Program} {w:World} {base:Nat} {spare:Nat→Bool} {held:Bool} {enc:TypeId × Value→Unit} {ρ:Rho}
theorem litFields_sound {n fuel:Nat} {cs:List Value} (ih: ∀ (t:TypeId) (c:List Value) (x:DataW Unit × List MemPlace) (as:List AV),DataW.trod enc P w base spare held fuel t c=some x→litC P n t x.1=some as→VRs ρ as c):
    ∀ (fl:List (Nat × Nat × TypeId)) (xs:List (DataW Unit × List MemPlace)) (o:Nat) (as:List AV),litFields (litC P n) o fl (xs.map (·.1))=some as→
      (∀ (i:Nat) (f:Nat × Nat × TypeId),fl[i]? =some f→DataW.trod enc P w base spare held fuel f.2.2 ((cs.drop f.1).take f.2.1)=xs[i]?)→VRs ρ as ((cs.drop o).take as.length)
  | [],[],o,as,h,_=>by simp only[List.map_nil,litFields] at h;cases h;simp[VRs]
  | [],_::_,o,as,h,_=>by simp[litFields] at h
  |_::_,[],o,as,h,_=>by simp[litFields] at h
  | (off, sz,t)::fl,x::xs,o,as,h,hi=>by
    simp only[List.map_cons,litFields] at h
    split at h
    · rename_i a1 h1
      split at h
      · rename_i hc
        obtain ⟨rfl,hsz⟩:=hc
        simp only[Option.map_eq_some_iff] at h
        obtain ⟨a2,h2,rfl⟩:=h
        have g1:=ih t _ x a1 (hi 0 _ rfl) h1
        have g2:=litFields_sound ih fl xs (off+sz) a2 h2 (fun i f hf=>by have:=hi (i+1) f (by simpa using hf);simpa using this)
        simp only at g1
        have e:(cs.drop off).take (a1++a2).length=(cs.drop off).take sz++(cs.drop (off+sz)).take a2.length:=by
          rw[List.length_append,hsz,List.take_add,List.drop_drop]
        rw[e]
        exact g1.append g2
      · cases h
    · cases h
theorem litC_sound: ∀ (n fuel:Nat) (t:TypeId) (cs:List Value) (x:DataW Unit × List MemPlace) (as:List AV),DataW.trod enc P w base spare held fuel t cs=some x→litC P n t x.1=some as→VRs ρ as cs
  |0,_,_,_,_,_,_,h=>by simp[litC] at h
  | n + 1,fuel,t,cs,x,as,ht,h=>by
    simp only[litC] at h
    split at h
    · rename_i b hu hx
      obtain ⟨c,rfl,rfl⟩:=DataW.trod_bool hu ht
      cases hx
      cases h
      exact ⟨_,_,rfl,rfl,rfl⟩
    · rename_i k' k m hu hx
      obtain ⟨c,rfl,rfl,_⟩:=DataW.trod_int hu ht
      cases hx
      cases h
      exact ⟨_,_,rfl,rfl,rfl⟩
    · rename_i s hu hx
      obtain ⟨c,rfl,rfl,_⟩:=DataW.trod_string hu ht
      cases hx
      cases h
      exact ⟨_,_,rfl,⟨c,rfl,rfl⟩,rfl⟩
    · rename_i k e ds hu hx
      obtain ⟨xs,m,rfl,rfl,hl,hn,hel⟩:=DataW.trod_array hu ht
      simp only[DataW.agg.injEq] at hx
      subst hx
      split at h
      · rename_i as' hf
        split at h
        · rename_i hlen
          cases h
          have:=litFields_sound (ρ:=ρ) (cs:=cs) (fun t c x as h1 h2=>litC_sound n m t c x as h1 h2) _ xs 0 as hf (fun i f hi=>by
            rw[List.getElem?_map] at hi
            obtain ⟨j,hj,rfl⟩:=Option.map_eq_some_iff.1 hi
            have hj':=List.getElem?_eq_some_iff.1 hj
            simp only[List.length_range] at hj'
            obtain ⟨hlt,hij⟩:=hj'
            simp only[List.getElem_range] at hij
            subst hij
            exact hel i hlt)
          rw[List.drop_zero,hlen,←hl,List.take_length] at this
          exact this
        · cases h
      · cases h
    · rename_i fs ds hu hx
      obtain ⟨xs,m,rfl,rfl,hl,hn,hel⟩:=DataW.trod_struct hu ht
      simp only[DataW.agg.injEq] at hx
      subst hx
      split at h
      · rename_i as' hf
        split at h
        · rename_i hlen
          cases h
          have:=litFields_sound (ρ:=ρ) (cs:=cs) (fun t c x as h1 h2=>litC_sound n m t c x as h1 h2) _ xs 0 as hf (fun i f hi=>by
            rw[List.getElem?_map] at hi
            obtain ⟨g,hg,rfl⟩:=Option.map_eq_some_iff.1 hi
            exact hel i g (by simpa using hg))
          rw[List.drop_zero,hlen,←hl,List.take_length] at this
          exact this
        · cases h
      · cases h
    · cases h
theorem laid_cells {l:List (String × DataW Unit)} {ps:List MemPlace} (h:DataW.LaidVars P w l ps) {nm:String} {d:DataW Unit} (hm:(nm,d)∈l) {g t:Nat} (hg:P.globalNamed nm=some g) (ht:(P.globals[g]?).map (·.type)=some t) {n:Nat} {as:List AV} (hl:litC P n t d=some as):
    ∀ (k:Nat) (a:AV),as[k]? =some a→ ∃ v,w.cell? ⟨g,k,none⟩=some v∧VR ρ a v:=by
  induction l generalizing ps with
  |nil=>cases hm
  | cons y r ih=>
    obtain ⟨nm',d'⟩:=y
    obtain ⟨g',t',cs,fuel,p,q,e1,e2,e3,e4,e5,e6⟩:=h
    rcases List.mem_cons.1 hm with e |hm
    · cases e
      have eg:g'=g:=Option.some.inj (e1.symm.trans hg)
      subst eg
      have et:t'=t:=Option.some.inj (e2.symm.trans ht)
      subst et
      have hv:=litC_sound (ρ:=ρ) n fuel t' cs.toList _ as e4 hl
      intro k a hk
      obtain ⟨v,h1,h2⟩:=hv.get hk
      exact ⟨v,by rw[World.var?_cell e1 e3 k];simpa using h1,h2⟩
    · exact ih e5 hm
end
abbrev Tabs:=List (Nat × Nat × List (List AV))
def blksOf:Tabs→Blks→Blks
  | [],h=>h
  |(_,e,es)::l,h=>blksOf l (bput h h.length (some (.row false e es)))
def globOf:Tabs→Nat→Nat→Option AV
  | [],_,_=>none
  |(g,_,_)::l,b,k=>if k=g then some (.ptr b 0 0) else globOf l (b+1) k
def rhoOf:Tabs→Nat→Rho
  | [],_,_=>none
  |(g,e,es)::l,b,k=>if k=b then some ⟨g,0,e,es.length⟩ else rhoOf l (b+1) k
structure TabAt (w:World) (x:Nat × Nat × List (List AV)):Prop where
  pos:0<x.2.1
  ne:x.2.2.flatten≠ []
  all: ∀ e∈x.2.2,e.length=x.2.1
  sc: ∀ a∈x.2.2.flatten,a.scalar=true
  cell: ∀ (ρ:Rho) (k:Nat) (a:AV),x.2.2.flatten[k]? =some a→ ∃ v,w.cell? ⟨x.1,k,none⟩=some v∧VR ρ a v
def keepK (P:Program) (glob:Nat→Option AV) (w:World):Kp:={kept:=fun k=>k<w.heap.size,loop:=LoopR P glob}
theorem blksOf_spec: ∀ (l:Tabs) (h:Blks),(blksOf l h).length=h.length+l.length∧ ∀ b,bget (blksOf l h) b=if b<h.length then bget h b else (l[b - h.length]?).map fun x=> .row false x.2.1 x.2.2
  | [],h=>⟨rfl,fun b=>by
    simp only[blksOf]
    split
    · rfl
    · rw[bget_ge (by omega)];simp⟩
  | (g, e,es)::l,h=>by
    have hl:(bput h h.length (some (.row false e es))).length=h.length+1:=by rw[length_bput'];omega
    obtain ⟨h1,h2⟩:=blksOf_spec l (bput h h.length (some (.row false e es)))
    refine ⟨by rw[blksOf,h1,hl];simp;omega,fun b=> ?_⟩
    rw[blksOf,h2,hl,bget_bput (Nat.le_refl _)]
    by_cases hb:b<h.length
    · rw[if_pos (by omega),if_neg (by omega),if_pos hb]
    · rw[if_neg hb]
      by_cases hb2:b=h.length
      · subst hb2
        simp
      · rw[if_neg (by omega)]
        have:b - h.length=(b - (h.length+1))+1:=by omega
        rw[this]
        simp
theorem rhoOf_spec: ∀ (l:Tabs) (b k:Nat),rhoOf l b k=if b≤k then (l[k - b]?).map fun x=>⟨x.1,0,x.2.1,x.2.2.length⟩ else none
  | [],b,k=>by simp[rhoOf]
  | (g, e,es)::l,b,k=>by
    rw[rhoOf,rhoOf_spec l (b+1) k]
    by_cases h:k=b
    · subst h;simp
    · rw[if_neg h]
      by_cases h2:b≤k
      · rw[if_pos (by omega),if_pos h2]
        have:k - b=(k - (b+1))+1:=by omega
        rw[this]
        simp
      · rw[if_neg (by omega),if_neg h2]
theorem start_glob: ∀ (l:Tabs) (b g:Nat) (v:AV),globOf l b g=some v→VR (rhoOf l b) v (.pointer (some ⟨g,0,none⟩)):=by
  intro l b g v h
  have key: ∀ (l':Tabs) (b':Nat),globOf l' b' g=some v→(∀ k,b'≤k→rhoOf l b k=(l'[k - b']?).map fun x=>⟨x.1,0,x.2.1,x.2.2.length⟩)→VR (rhoOf l b) v (.pointer (some ⟨g,0,none⟩)):=by
    intro l'
    induction l' with
    |nil=>intro b' h;simp[globOf] at h
    | cons x l' ih=>
      obtain ⟨g',e,es⟩:=x
      intro b' h hr
      simp only[globOf] at h
      split at h
      · rename_i hg
        subst hg
        cases h
        refine ⟨⟨g,0,e,es.length⟩,(hr b' (Nat.le_refl _)).trans (by simp),?_⟩
        simp[Pl.at_]
      · refine ih (b'+1) h fun k hk=> ?_
        rw[hr k (by omega)]
        have:k - b'=(k - (b'+1))+1:=by omega
        rw[this]
        simp
  exact key l b h fun k hk=>by rw[rhoOf_spec,if_pos hk]
theorem flat_length {es:List (List AV)} {n:Nat} (h: ∀ e∈es,e.length=n):es.flatten.length=es.length*n:=by
  induction es with
  |nil=>simp
  | cons e es ih=>
    rw[List.flatten_cons,List.length_append,ih (fun x hx=>h x (by simp[hx])),h e (by simp),List.length_cons,Nat.succ_mul,Nat.add_comm]
theorem start_rel {P:Program} {glob:Nat→Option AV} {w:World} (l:Tabs) (hl: ∀ x∈l,TabAt w x):Rel (keepK P glob w) w (rhoOf l 0) (blksOf l ⟨0,.e⟩) w:=by
  obtain ⟨h1,h2⟩:=blksOf_spec l ⟨0,.e⟩
  simp only[Nat.zero_add,Nat.not_lt_zero,if_false,Nat.sub_zero] at h1 h2
  refine ⟨⟨rfl,rfl,rfl,Nat.le_refl _,fun k hk=>hk,fun _ _=>rfl⟩,fun b hb=> ?_,fun b x hx=> ?_,fun b c x y p q hx hy hp hq ho=> ?_⟩
  · rw[rhoOf_spec,if_pos (Nat.zero_le _),Nat.sub_zero,List.getElem?_eq_none (by omega)];rfl
  · rw[h2] at hx
    obtain ⟨y,hy,rfl⟩:=Option.map_eq_some_iff.1 hx
    obtain ⟨g,e,es⟩:=y
    have T:=hl _ (List.mem_of_getElem? hy)
    refine ⟨⟨g,0,e,es.length⟩,by rw[rhoOf_spec,if_pos (Nat.zero_le _),Nat.sub_zero,hy];rfl,?_⟩
    have hpos:=T.pos
    have hall:=T.all
    simp only at hpos hall
    have hne:es.flatten≠ []:=T.ne
    have hlen:=flat_length hall
    have hcells: ∃ arr el fr,w.heap[g]? =some (.cells arr el fr)∧ ∀ k v,w.cell? ⟨g,k,none⟩=some v→arr[k]? =some v:=by
      cases hf:es.flatten with
      |nil=>exact absurd hf hne
      | cons a0 r=>
        obtain ⟨v,hv,_⟩:=T.cell (fun _=>none) 0 a0 (by simp only;rw[hf];rfl)
        simp only[World.cell?] at hv
        split at hv
        · rename_i c el fr hh
          refine ⟨c,el,fr,hh,fun k v hv=> ?_⟩
          simp only[World.cell?,hh] at hv
          simpa using hv
        · cases hv
    obtain ⟨arr,el,fr,hh,hc⟩:=hcells
    refine ⟨rfl,hpos,hall,Nat.le_refl _,arr,el,fr,hh,?_,fun k a ha=> ?_,fun h=>(by cases h),T.sc⟩
    · simp only[Nat.zero_add]
      rw[←hlen]
      rcases Nat.eq_zero_or_pos es.flatten.length with h0 |h0
      · omega
      · have hk:es.flatten[es.flatten.length - 1]? =some (es.flatten[es.flatten.length - 1]'(by omega)):=List.getElem?_eq_getElem (by omega)
        obtain ⟨v,hv,_⟩:=T.cell (fun _=>none) _ _ hk
        have:=(Array.getElem?_eq_some_iff.1 (hc _ _ hv)).1
        omega
    · obtain ⟨v,hv,hr⟩:=T.cell (rhoOf l 0) k a ha
      exact ⟨v,by rw[Nat.zero_add];exact hc k v hv,hr⟩
  · rw[h2] at hx
    obtain ⟨z,hz,rfl⟩:=Option.map_eq_some_iff.1 hx
    cases ho
theorem Kept.below {P:Program} {glob:Nat→Option AV} {w w':World} (h:Kept (keepK P glob w) w w'):Below w.heap.size w w':=⟨h.os,h.tape,h.output,h.size,fun k hk=>h.block k hk⟩
theorem keptBut_of_below {w w':World} (h:Below w.heap.size w w') (may:MemPlace→Prop):w.keptBut w' may:=by
  refine ⟨h.os,h.output,fun i hi=> ?_⟩
  rw[h.block i hi]
  cases hw:w.heap[i]? with
  |none=>simp
  |some o=>cases o <;>simp
theorem run_calls {P:Program} {l:Tabs} {F:FuncId→Option AFunc} (hF:FOK P (globOf l 0) F) (hmix:P.follows .mixedOrders=true) {n:Nat} {w:World} {m':Mem} {f:FuncId} (hl: ∀ x∈l,TabAt w x)
    (hc:acall F (cmeth P) noSum n (.fn f) [] {blks:=blksOf l ⟨0,.e⟩}=some (.bool true,m')):Calls P f #[] w fun e w'=>e= .returned (.bool true)∧Below w.heap.size w w':=by
  refine (fn_calls SumOK.none hF hmix (K:=keepK P (globOf l 0) w) (w0:=w) (ρ:=rhoOf l 0) rfl hc (start_rel l hl) (start_glob l 0) (vs':= #[]) rfl rfl).mono fun e w' h=> ?_
  obtain ⟨v',ρ',rfl,hv,R,_⟩:=h
  have hv:v'= .bool true:=hv
  subst hv
  exact ⟨rfl,R.below.below⟩
open Go.RowKit (Below)
structure RowAt (w:World) (p:Pl) (es:List (List AV)):Prop where
  pos:0<p.esz
  all: ∀ e∈es,e.length=p.esz
  lim:es.length≤p.lim
  sc: ∀ a∈es.flatten,a.scalar=true
  cell: ∃ arr el fr,w.heap[p.cb]? =some (.cells arr el fr)∧p.base+p.lim*p.esz≤arr.size∧ ∀ (ρ:Rho) (k:Nat) (a:AV),es.flatten[k]? =some a→ ∃ v,arr[p.base+k]? =some v∧VR ρ a v
abbrev RowsL:=List (Pl × List (List AV))
def rowsB:RowsL→Blks→Blks
  | [],h=>h
  |(p,es)::l,h=>rowsB l (bput h h.length (some (.row false p.esz es)))
def rowsR (l:RowsL):Rho:=fun k=>(l[k]?).map (·.1)
theorem rowsB_spec: ∀ (l:RowsL) (h:Blks),(rowsB l h).length=h.length+l.length∧ ∀ b,bget (rowsB l h) b=if b<h.length then bget h b else (l[b - h.length]?).map fun x=> .row false x.1.esz x.2
  | [],h=>⟨rfl,fun b=>by
    simp only[rowsB]
    split
    · rfl
    · rw[bget_ge (by omega)];simp⟩
  | (p, es)::l,h=>by
    have hl:(bput h h.length (some (.row false p.esz es))).length=h.length+1:=by rw[length_bput'];omega
    obtain ⟨h1,h2⟩:=rowsB_spec l (bput h h.length (some (.row false p.esz es)))
    refine ⟨by rw[rowsB,h1,hl];simp;omega,fun b=> ?_⟩
    rw[rowsB,h2,hl,bget_bput (Nat.le_refl _)]
    by_cases hb:b<h.length
    · rw[if_pos (by omega),if_neg (by omega),if_pos hb]
    · rw[if_neg hb]
      by_cases hb2:b=h.length
      · subst hb2
        simp
      · rw[if_neg (by omega)]
        have:b - h.length=(b - (h.length+1))+1:=by omega
        rw[this]
        simp
theorem rows_get (l:RowsL) (b:Nat):bget (rowsB l ⟨0,.e⟩) b=(l[b]?).map fun x=> .row false x.1.esz x.2:=by
  have:=(rowsB_spec l ⟨0,.e⟩).2 b
  simpa using this
theorem rows_rel {P:Program} {glob:Nat→Option AV} {w:World} (l:RowsL) (hl: ∀ x∈l,RowAt w x.1 x.2):Rel (keepK P glob w) w (rowsR l) (rowsB l ⟨0,.e⟩) w:=by
  have h1:=(rowsB_spec l ⟨0,.e⟩).1
  simp only[Nat.zero_add] at h1
  refine ⟨⟨rfl,rfl,rfl,Nat.le_refl _,fun k hk=>hk,fun _ _=>rfl⟩,fun b hb=> ?_,fun b x hx=> ?_,fun b c x y p q hx hy hp hq ho=> ?_⟩
  · show (l[b]?).map _=none
    rw[List.getElem?_eq_none (by omega)];rfl
  · rw[rows_get] at hx
    obtain ⟨y,hy,rfl⟩:=Option.map_eq_some_iff.1 hx
    have T:=hl _ (List.mem_of_getElem? hy)
    obtain ⟨arr,el,fr,hh,hsz,hc⟩:=T.cell
    exact ⟨y.1,by show (l[b]?).map _=_;rw[hy];rfl,rfl,T.pos,T.all,T.lim,arr,el,fr,hh,hsz,hc (rowsR l),fun h=>(by cases h),T.sc⟩
  · rw[rows_get] at hx
    obtain ⟨z,hz,rfl⟩:=Option.map_eq_some_iff.1 hx
    cases ho
theorem TabAt.block {w:World} {g e:Nat} {es:List (List AV)} (T:TabAt w (g,e,es)): ∃ arr el fr,w.heap[g]? =some (.cells arr el fr)∧es.length*e≤arr.size∧ ∀ (ρ:Rho) (k:Nat) (a:AV),es.flatten[k]? =some a→ ∃ v,arr[k]? =some v∧VR ρ a v:=by
  have hall:=T.all
  have hne:=T.ne
  simp only at hall hne
  have hlen:=flat_length hall
  have hcells: ∃ arr el fr,w.heap[g]? =some (.cells arr el fr)∧ ∀ k v,w.cell? ⟨g,k,none⟩=some v→arr[k]? =some v:=by
    cases hf:es.flatten with
    |nil=>exact absurd hf hne
    | cons a0 r=>
      obtain ⟨v,hv,_⟩:=T.cell (fun _=>none) 0 a0 (by simp only;rw[hf];rfl)
      simp only[World.cell?] at hv
      split at hv
      · rename_i c el fr hh
        refine ⟨c,el,fr,hh,fun k v hv=> ?_⟩
        simp only[World.cell?,hh] at hv
        simpa using hv
      · cases hv
  obtain ⟨arr,el,fr,hh,hc⟩:=hcells
  refine ⟨arr,el,fr,hh,?_,fun ρ k a ha=> ?_⟩
  · rw[←hlen]
    rcases Nat.eq_zero_or_pos es.flatten.length with h0 |h0
    · omega
    · have hk:es.flatten[es.flatten.length - 1]? =some (es.flatten[es.flatten.length - 1]'(by omega)):=List.getElem?_eq_getElem (by omega)
      obtain ⟨v,hv,_⟩:=T.cell (fun _=>none) _ _ hk
      have:=(Array.getElem?_eq_some_iff.1 (hc _ _ hv)).1
      omega
  · obtain ⟨v,hv,hr⟩:=T.cell ρ k a ha
    exact ⟨v,hc k v hv,hr⟩
theorem TabAt.row {w:World} {g e:Nat} {es:List (List AV)} (T:TabAt w (g,e,es)):RowAt w ⟨g,0,e,es.length⟩ es:=by
  obtain ⟨arr,el,fr,hh,hsz,hc⟩:=T.block
  exact ⟨T.pos,T.all,Nat.le_refl _,T.sc,arr,el,fr,hh,by simpa using hsz,fun ρ k a ha=>by rw[Nat.zero_add];exact hc ρ k a ha⟩
def tabRows (l:Tabs):RowsL:=l.map fun x=>(⟨x.1,0,x.2.1,x.2.2.length⟩,x.2.2)
theorem tabs_glob (l:Tabs) (r:RowsL):GR (globOf l 0) (rowsR (tabRows l++r)):=by
  intro g v h
  have key: ∀ (l':Tabs) (b:Nat),globOf l' b g=some v→(∀ k,k<l'.length→rowsR (tabRows l++r) (b+k)=(l'[k]?).map fun x=>⟨x.1,0,x.2.1,x.2.2.length⟩)→VR (rowsR (tabRows l++r)) v (.pointer (some ⟨g,0,none⟩)):=by
    intro l'
    induction l' with
    |nil=>intro b h;simp[globOf] at h
    | cons x l' ih=>
      obtain ⟨g',e,es⟩:=x
      intro b h hr
      simp only[globOf] at h
      split at h
      · rename_i hg
        subst hg
        cases h
        refine ⟨⟨g,0,e,es.length⟩,(hr 0 (by simp)).trans (by simp),?_⟩
        simp[Pl.at_]
      · refine ih (b+1) h fun k hk=> ?_
        have:=hr (k+1) (by simp;omega)
        rw[Nat.add_assoc,Nat.add_comm 1 k]
        simpa using this
  refine key l 0 h fun k hk=> ?_
  rw[Nat.zero_add]
  show ((tabRows l++r)[k]?).map (·.1)=_
  rw[List.getElem?_append_left (by simp[tabRows];exact hk)]
  simp[tabRows,List.getElem?_map]
  cases l[k]? <;>rfl
def AV.plain:AV→Bool
  | .bool _ | .int _ _ | .str _ | .opq | .osl _=>true
  |_=>false
theorem VR.plain {ρ ρ':Rho} {a:AV} {v:Value} (h:VR ρ a v) (hp:a.plain=true):VR ρ' a v:=by
  cases a <;>simp only[AV.plain] at hp <;>first |(cases hp;done)|exact h
def TabsIn (l:Tabs) (m:Mem):Prop:= ∀ b x,l[b]? =some x→bget m.blks b=some (.row false x.2.1 x.2.2)
open Classical in
noncomputable def sumOf (l:Tabs) (f0:FuncId) (v:AV):Summ:=fun f vs m=>if f=f0∧vs=[]∧TabsIn l m then some (v,m) else none
theorem sumOf_some {l:Tabs} {f0 f:FuncId} {v:AV} {vs:List AV} {m:Mem} {r:AV × Mem} (h:sumOf l f0 v f vs m=some r):f=f0∧vs=[]∧TabsIn l m∧r=(v,m):=by
  unfold sumOf at h
  split at h
  · rename_i hc
    cases h
    exact ⟨hc.1,hc.2.1,hc.2.2,rfl⟩
  · cases h
theorem tabs_at {P:Program} {l:Tabs} {K:Kp} {w0 w:World} {ρ:Rho} {m:Mem} (hpl: ∀ x∈l,0<x.2.1∧x.2.2.flatten≠ []∧ ∀ a∈x.2.2.flatten,a.plain=true) (hnd:(l.map (·.1)).Nodup) (R:Rel K w0 ρ m.blks w) (hg:GR (globOf l 0) ρ) (hT:TabsIn l m): ∀ x∈l,TabAt w x:=by
  intro x hx
  obtain ⟨b,hb⟩:=List.getElem?_of_mem hx
  obtain ⟨g,e,es⟩:=x
  obtain ⟨h1,h2,h3⟩:=hpl _ hx
  have hglob: ∀ (l':Tabs) (b0 b:Nat),l'[b]? =some (g,e,es)→(l'.map (·.1)).Nodup→globOf l' b0 g=some (.ptr (b0+b) 0 0):=by
    intro l'
    induction l' with
    |nil=>intro b0 b hb;simp at hb
    | cons y l' ih=>
      obtain ⟨g',e',es'⟩:=y
      intro b0 b hb hn
      simp only[List.map_cons,List.nodup_cons] at hn
      cases b with
      | zero=>
        simp only[List.getElem?_cons_zero,Option.some.injEq,Prod.mk.injEq] at hb
        obtain ⟨rfl,_⟩:=hb
        simp[globOf]
      | succ b=>
        simp only[List.getElem?_cons_succ] at hb
        have hne:g≠g':=fun e1=>hn.1 (by rw[←e1];exact List.mem_map.2 ⟨_,List.mem_of_getElem? hb,rfl⟩)
        simp only[globOf,if_neg hne]
        rw[ih (b0+1) b hb hn.2]
        congr 2
        omega
  have hv:=hg g _ (hglob l 0 b hb hnd)
  rw[Nat.zero_add] at hv
  obtain ⟨p,hp,e1⟩:=hv
  have hrow:=hT b _ hb
  obtain ⟨q,hq,hB⟩:=R.blk b _ hrow
  have eqp:q=p:=Option.some.inj (hq.symm.trans hp)
  subst eqp
  obtain ⟨b1,b2,b3,b4,arr,el,fr,hh,hsz,hc,_,hsc⟩:=hB
  simp only[Value.pointer.injEq,Option.some.injEq,Pl.at_,Nat.zero_mul,Nat.add_zero,Addr.mk.injEq] at e1
  obtain ⟨e1,e2,_⟩:=e1
  refine ⟨h1,h2,b3,hsc,fun ρ' k a ha=> ?_⟩
  obtain ⟨v,hv,hr⟩:=hc k a ha
  refine ⟨v,?_,hr.plain (h3 a (List.mem_of_getElem? ha))⟩
  simp only[World.cell?]
  rw[e1,hh]
  rw[←e2,Nat.zero_add] at hv
  simpa using hv
theorem sum_ok {P:Program} {l:Tabs} {F:FuncId→Option AFunc} (hF:FOK P (globOf l 0) F) (hmix:P.follows .mixedOrders=true) (hpl: ∀ x∈l,0<x.2.1∧x.2.2.flatten≠ []∧ ∀ a∈x.2.2.flatten,a.plain=true) (hnd:(l.map (·.1)).Nodup) {n:Nat} {f0:FuncId} {m1:Mem} {b:Bool}
    (hc:acall F (cmeth P) noSum n (.fn f0) [] {blks:=blksOf l ⟨0,.e⟩}=some (.bool b,m1)):SumOK P (globOf l 0) (sumOf l f0 (.bool b)):=by
  refine ⟨fun c vs m v m' h=> ?_,fun c vs m v m' h=> ?_,fun K w0 w ρ m m' c vs vs' v hL h R hg hvs _=> ?_⟩
  · cases c with
    |fn f=>obtain ⟨_,_,_,e⟩:=sumOf_some h;cases e;rfl
    |yield l=>cases h
  · cases c with
    |fn f=>obtain ⟨_,_,_,e⟩:=sumOf_some h;cases e;exact Trk.refl _
    |yield l=>cases h
  · cases c with
    |yield l=>cases h
    | fn f=>
      obtain ⟨rfl,rfl,hT,e⟩:=sumOf_some h
      cases e
      have hvs0:vs'.toList=[]:=hvs
      have hT2:=tabs_at (P:=P) hpl hnd R hg hT
      have hOK: ∀ (g:Goroutine) (w:World),(fun _ _=>True:Goroutine→World→Prop) g w:=fun _ _=>trivial
      have ih:=acall_sound (sm:=noSum) (main:=true) (SumOK.none (P:=P) (glob:=globOf l 0)).dfrs (SumOK.none (P:=P) (glob:=globOf l 0)).trk (SumOK.none (P:=P) (glob:=globOf l 0)).ok hOK hF hmix n
      obtain ⟨nx,fr0,q1,q2,q3⟩:=ih (keepK P (globOf l 0) w) w w (rhoOf l 0) {blks:=blksOf l ⟨0,.e⟩} m1 (.fn f) [] vs' (.bool b) rfl hc (start_rel l hT2) (start_glob l 0) (by rw[hvs0];rfl) (fun l e=>by cases e)
      refine ⟨nx,fr0,q1,q2,fun fr cs=>(q3 fr cs).mono fun g w' he=> ?_⟩
      obtain ⟨v',ρ',e1,e2,e3,_⟩:=he
      exact ⟨v',ρ,e1,e2,R.grow e3.below.below,Rho.le_refl _,fun _ _=>rfl,Nat.le_refl _,fun _ h=>h⟩
def flatF (rec:TypeId→Bool):Nat→List (Nat × Nat × TypeId)→Option Nat
  |o,[]=>some o
  |o,(off,sz,t)::fs=>if off=o∧rec t then flatF rec (o+sz) fs else none
def flatT (P:Program):Nat→TypeId→Bool
  |0,_=>false
  | n+1,t=>
    match P.underlying t with
    |some (.struct fs)=>flatF (flatT P n) 0 (fs.toList.map fun f=>(f.offset,P.cellsOf f.type,f.type))==some (P.cellsOf t)
    |some (.array k e)=>flatT P n e && P.cellsOf t==k*P.cellsOf e
    |some _=>true
    |none=>false
section
variable {H:Type} {P:Program} {w:World} {base:Nat} {spare:Nat→Bool} {held:Bool} {enc:TypeId × Value→H}
theorem flatF_sound {n fuel:Nat} {cs:List Value} (ih: ∀ (t:TypeId) (c:List Value) (x:DataW H × List MemPlace),flatT P n t=true→DataW.trod enc P w base spare held fuel t c=some x→ ∀ v∈c,v.oneCell'=true):
    ∀ (fl:List (Nat × Nat × TypeId)) (o k:Nat),flatF (flatT P n) o fl=some k→(∀ f∈fl,∃ x,DataW.trod enc P w base spare held fuel f.2.2 ((cs.drop f.1).take f.2.1)=some x)→ ∀ j,o≤j→j<k→ ∀ v,cs[j]? =some v→v.oneCell'=true
  | [],o,k,h,_,j,h1,h2,v,hv=>by simp only[flatF,Option.some.injEq] at h;omega
  | (off,sz,t)::fl,o,k,h,hi,j,h1,h2,v,hv=>by
    simp only[flatF] at h
    split at h
    · rename_i hc
      obtain ⟨rfl,hr⟩:=hc
      by_cases hj:j<off+sz
      · obtain ⟨x,hx⟩:=hi _ (List.mem_cons_self ..)
        refine ih t _ x hr hx v ?_
        refine List.mem_of_getElem? (i:=j - off) ?_
        rw[List.getElem?_take,if_pos (by simp only;omega),List.getElem?_drop]
        simp only
        rw[←hv]
        congr 1
        omega
      · exact flatF_sound ih fl (off+sz) k h (fun f hf=>hi f (List.mem_cons_of_mem _ hf)) j (by omega) h2 v hv
    · cases h
theorem flat_sound: ∀ (n fuel:Nat) (t:TypeId) (cs:List Value) (x:DataW H × List MemPlace),flatT P n t=true→DataW.trod enc P w base spare held fuel t cs=some x→ ∀ v∈cs,v.oneCell'=true
  |0,_,_,_,_,h,_=>by simp[flatT] at h
  |n+1,0,t,cs,x,h,hx=>by simp[DataW.trod] at hx
  | n + 1,fuel+1,t,cs,x,h,hx=>by
    simp only[flatT] at h
    have hx0:=hx
    rw[DataW.trod_step] at hx
    unfold DataW.trodStep at hx
    split at hx
    case h_9 cs fs hu=>
      rw[hu] at h
      simp only[beq_iff_eq] at h
      obtain ⟨xs,m,e,rfl,hl,hn,hel⟩:=DataW.trod_struct hu hx0
      cases e
      intro v hv
      obtain ⟨j,hj⟩:=List.getElem?_of_mem hv
      have hjl:=(List.getElem?_eq_some_iff.1 hj).1
      refine flatF_sound (fun t c x h1 h2=>flat_sound n fuel t c x h1 h2) _ 0 _ h (fun f hf=> ?_) j (Nat.zero_le _) (by omega) v hj
      obtain ⟨g,hg,rfl⟩:=List.mem_map.1 hf
      obtain ⟨i,hi⟩:=List.getElem?_of_mem hg
      have hi':fs[i]? =some g:=by simpa using hi
      have:=hel i g hi'
      have hlt:i<xs.length:=by rw[hn];exact (Array.getElem?_eq_some_iff.1 hi').1
      rw[List.getElem?_eq_getElem hlt] at this
      exact ⟨_,this⟩
    case h_10 cs k e hu=>
      rw[hu] at h
      simp only[Bool.and_eq_true,beq_iff_eq] at h
      obtain ⟨xs,m,e',rfl,hl,hn,hel⟩:=DataW.trod_array hu hx0
      cases e'
      intro v hv
      obtain ⟨j,hj⟩:=List.getElem?_of_mem hv
      have hjl:=(List.getElem?_eq_some_iff.1 hj).1
      have hpos:0<P.cellsOf e:=by
        rcases Nat.eq_zero_or_pos (P.cellsOf e) with h0 |h0
        · rw[h0] at h;omega
        · exact h0
      have hq:j / P.cellsOf e<k:=by
        rw[Nat.div_lt_iff_lt_mul hpos]
        omega
      have:=hel (j / P.cellsOf e) hq
      rw[List.getElem?_eq_getElem (by omega)] at this
      refine flat_sound n fuel e _ _ h.1 this v (List.mem_of_getElem? (i:=j % P.cellsOf e) ?_)
      have hm:=Nat.mod_lt j hpos
      rw[List.getElem?_take,if_pos hm,List.getElem?_drop,←hj]
      congr 1
      rw[Nat.mul_comm]
      exact Nat.div_add_mod j (P.cellsOf e)
    all_goals first
      |(cases hx;done)
      |(intro v hv;rw[List.mem_singleton] at hv;subst hv;rfl)
end
theorem mapM_get {α β:Type} {f:α→Option β}: ∀ {l:List α} {r:List β},l.mapM f=some r→l.length=r.length∧ ∀ (i:Nat) (x:α),l[i]? =some x→f x=r[i]?
  | [],r,h=>by
    simp only[List.mapM_nil,Option.pure_def,Option.some.injEq] at h
    subst h
    exact ⟨rfl,fun i x hx=>by simp at hx⟩
  | a::l,r,h=>by
    rw[List.mapM_cons] at h
    simp only[Option.pure_def,Option.bind_eq_bind,Option.bind_eq_some_iff] at h
    obtain ⟨b,hb,bs,hbs,e⟩:=h
    cases e
    obtain ⟨h1,h2⟩:=mapM_get hbs
    refine ⟨by simp[h1],fun i x hx=> ?_⟩
    cases i with
    |zero=>simp at hx;subst hx;simpa using hb
    |succ i=>simp at hx;simpa using h2 i x hx
theorem cells_get {w:World} {base n:Nat} {a:Addr} {cs:List Value} (h:w.cells? base a n=some cs):cs.length=n∧ ∀ i,i<n→w.cell? (a.add i)=cs[i]? :=by
  unfold World.cells? at h
  split at h
  · obtain ⟨h1,h2⟩:=mapM_get h
    simp only[List.length_range] at h1
    exact ⟨h1.symm,fun i hi=>h2 i i (by simp[hi])⟩
  · cases h
theorem add_none (b o k:Nat):(⟨b,o,none⟩:Addr).add k=⟨b,o+k,none⟩:=by
  unfold Addr.add
  split
  · rename_i h;subst h;rfl
  · rfl
section
variable {H:Type} {P:Program} {w:World} {held:Bool} {enc:TypeId × Value→H}
theorem slice_read {fuel t e:Nat} {c:Value} {x:DataW H × List MemPlace} {E:Nat→List AV} (hu:P.underlying t=some (.slice e)) (hpos:0<P.cellsOf e) (hlen: ∀ k,(E k).length=P.cellsOf e) (hsc: ∀ k,∀ a∈E k,a.scalar=true)
    (hE: ∀ (fuel:Nat) (cs:List Value) (x:DataW H × List MemPlace),DataW.trod enc P w 0 (fun _=>true) held fuel e cs=some x→ ∃ k,∀ ρ,VRs ρ (E k) cs) (h:DataW.trod enc P w 0 (fun _=>true) held fuel t [c]=some x):
    (∃ a cap,c= .slice a 0 cap)∨ ∃ (p:Pl) (ks:List Nat) (cap:Nat),RowAt w p (ks.map E)∧p.esz=P.cellsOf e∧p.lim=cap∧ks.length≤cap∧cap≤maxLen∧c= .slice (some (p.at_ 0 0)) ks.length cap:=by
  rcases DataW.trod_slice hu h with ⟨hc,_⟩|⟨a,len,cap,elems,rest,n,_,hc,_,_,hle,hmax,hel,hrd,hsp,_⟩
  · simp only[List.cons.injEq,and_true] at hc
    exact .inl ⟨none,0,hc⟩
  · simp only[List.cons.injEq,and_true] at hc
    obtain ⟨hsp1,hsp2⟩:=hsp rfl
    rcases Nat.eq_zero_or_pos len with h0 |h0
    · subst h0
      exact .inl ⟨some a,cap,hc⟩
    · right
      have hcells: ∀ i,i<len→ ∃ cs x,w.cells? 0 (a.add (i*P.cellsOf e)) (P.cellsOf e)=some cs∧DataW.trod enc P w 0 (fun _=>true) held n e cs=some x:=fun i hi=>by
        have:=hrd i hi
        rw[List.getElem?_eq_getElem (by omega)] at this
        obtain ⟨cs,h1,h2⟩:=Option.bind_eq_some_iff.1 this
        exact ⟨cs,_,h1,h2⟩
      have hall: ∀ i,i<cap→ ∃ cs,w.cells? 0 (a.add (i*P.cellsOf e)) (P.cellsOf e)=some cs:=fun i hi=>by
        rcases Nat.lt_or_ge i len with hlt |hge
        · obtain ⟨cs,_,h1,_⟩:=hcells i hlt
          exact ⟨cs,h1⟩
        · have:=hsp2 (i - len) (by omega)
          rw[List.getElem?_eq_getElem (by omega),show len+(i - len)=i by omega] at this
          obtain ⟨cs,h1,_⟩:=Option.bind_eq_some_iff.1 this
          exact ⟨cs,h1⟩
      obtain ⟨cs0,_,h1,_⟩:=hcells 0 h0
      obtain ⟨l0,g0⟩:=cells_get h1
      have hc0:=g0 0 hpos
      rw[List.getElem?_eq_getElem (by omega)] at hc0
      have hblk:a.spot=none∧ ∃ arr el fr,w.heap[a.block]? =some (.cells arr el fr):=by
        have e0:(a.add (0*P.cellsOf e)).add 0=a:=by simp[Addr.add]
        rw[e0] at hc0
        simp only[World.cell?] at hc0
        split at hc0
        · rename_i arr el fr hh
          split at hc0
          · cases hc0
          · rename_i hs
            exact ⟨by simpa using hs,arr,el,fr,hh⟩
        · cases hc0
      obtain ⟨hspot,arr,el,fr,hh⟩:=hblk
      obtain ⟨bb,oo,ss⟩:=a
      simp only at hspot hh
      subst hspot
      simp only[add_none] at hcells hall
      have hcell: ∀ k v,w.cell? ⟨bb,oo+k,none⟩=some v→arr[oo+k]? =some v:=fun k v hv=>by
        simp only[World.cell?,hh] at hv
        simpa using hv
      have hat: ∀ i cs,w.cells? 0 ⟨bb,oo+i*P.cellsOf e,none⟩ (P.cellsOf e)=some cs→ ∀ j v,cs[j]? =some v→arr[oo+(i*P.cellsOf e+j)]? =some v:=fun i cs hcs j v hv=>by
        obtain ⟨l1,g1⟩:=cells_get hcs
        have hj:j<P.cellsOf e:=by rw[←l1];exact (List.getElem?_eq_some_iff.1 hv).1
        have:=(g1 j hj).trans hv
        refine hcell _ _ ?_
        rw[←this,add_none,Nat.add_assoc]
      have hk: ∀ i,∃ k,i<len→ ∀ (ρ:Rho) (j:Nat) (b:AV),(E k)[j]? =some b→ ∃ v,arr[oo+(i*P.cellsOf e+j)]? =some v∧VR ρ b v:=fun i=>by
        rcases Nat.lt_or_ge i len with hlt |hge
        · obtain ⟨cs,x,hcs,hx⟩:=hcells i hlt
          obtain ⟨k,hk⟩:=hE n cs x hx
          refine ⟨k,fun _ ρ j b hb=> ?_⟩
          obtain ⟨v,hv,hr⟩:=(hk ρ).get hb
          exact ⟨v,hat i cs hcs j v hv,hr⟩
        · exact ⟨0,fun h=>absurd h (by omega)⟩
      obtain ⟨kf,hkf⟩:=Classical.axiomOfChoice hk
      have hll:((List.range len).map kf).length=len:=by simp
      refine ⟨⟨bb,oo,P.cellsOf e,cap⟩,(List.range len).map kf,cap,⟨hpos,fun x hx=> ?_,by simp only[List.length_map,hll];exact hle,fun b hb=> ?_,arr,el,fr,hh,?_,fun ρ q b hb=> ?_⟩,rfl,rfl,by omega,hmax,?_⟩
      · obtain ⟨k,_,rfl⟩:=List.mem_map.1 hx
        exact hlen k
      · obtain ⟨l,hl,hbl⟩:=List.mem_flatten.1 hb
        obtain ⟨k,_,rfl⟩:=List.mem_map.1 hl
        exact hsc k b hbl
      · obtain ⟨cs,hcs⟩:=hall (cap - 1) (by omega)
        obtain ⟨l1,_⟩:=cells_get hcs
        have hv:cs[P.cellsOf e - 1]? =some (cs[P.cellsOf e - 1]'(by omega)):=List.getElem?_eq_getElem (by omega)
        have:=(Array.getElem?_eq_some_iff.1 (hat _ cs hcs _ _ hv)).1
        have hm:(cap - 1)*P.cellsOf e+P.cellsOf e=cap*P.cellsOf e:=by
          rw[←Nat.succ_mul]
          congr 1
          omega
        simp only
        omega
      · have hall': ∀ x∈((List.range len).map kf).map E,x.length=P.cellsOf e:=fun x hx=>by
          obtain ⟨k,_,rfl⟩:=List.mem_map.1 hx
          exact hlen k
        rw[flatten_at hpos _ _ hall'] at hb
        obtain ⟨es,he,hb⟩:=Option.bind_eq_some_iff.1 hb
        rw[List.map_map,List.getElem?_map] at he
        obtain ⟨i,hi,rfl⟩:=Option.map_eq_some_iff.1 he
        have hi':=List.getElem?_eq_some_iff.1 hi
        simp only[List.length_range,List.getElem_range] at hi'
        obtain ⟨hlt,hii⟩:=hi'
        obtain ⟨v,hv,hr⟩:=hkf i (by omega) ρ _ b hb
        refine ⟨v,?_,hr⟩
        rw[←hv]
        congr 2
        rw[←hii,Nat.mul_comm]
        exact (Nat.div_add_mod q (P.cellsOf e)).symm
      · rw[hc,hll]
        simp[Pl.at_]
end
structure Keep (m m':Mem):Prop where
  len:m.blks.length≤m'.blks.length
  get: ∀ b,b<m.blks.length→bget m'.blks b=bget m.blks b
  dfrs:m'.dfrs=m.dfrs
  log: ∃ l,m'.log=l++m.log∧ ∀ b∈l,m.blks.length≤b
theorem Keep.refl (m:Mem):Keep m m:=⟨Nat.le_refl _,fun _ _=>rfl,rfl,[],rfl,fun _ h=>by cases h⟩
theorem Keep.trans {a b c:Mem} (h:Keep a b) (k:Keep b c):Keep a c where
  len:=Nat.le_trans h.len k.len
  get:=fun x hx=>(k.get x (Nat.lt_of_lt_of_le hx h.len)).trans (h.get x hx)
  dfrs:=k.dfrs.trans h.dfrs
  log:=by
    obtain ⟨l,e,hl⟩:=h.log
    obtain ⟨l',e',hl'⟩:=k.log
    refine ⟨l'++l,by rw[e',e,List.append_assoc],fun b hb=> ?_⟩
    rcases List.mem_append.1 hb with hb |hb
    · exact Nat.le_trans h.len (hl' b hb)
    · exact hl b hb
theorem Keep.new {m m':Mem} (h:Keep m m') {b:Nat} {x:Option ABlk} (hb:m.blks.length≤b) (hb2:b≤m'.blks.length) (r:List Nat):Keep m (m'.apply ⟨b,x,r⟩) where
  len:=by rw[apply_blks,length_bput'];have:=h.len;omega
  get:=fun c hc=>by rw[apply_blks,bget_bput hb2,if_neg (by omega)];exact h.get c hc
  dfrs:=h.dfrs
  log:=by
    obtain ⟨l,e,hl⟩:=h.log
    refine ⟨b::l,by show b::m'.log=_;rw[e];rfl,fun c hc=> ?_⟩
    rcases List.mem_cons.1 hc with rfl |hc
    · exact hb
    · exact hl c hc
theorem Keep.sub {m m':Mem} (h:Keep m m') {d:List Nat}:Keep {m with dfrs:=d} {m' with dfrs:=d}:=⟨h.len,h.get,rfl,h.log⟩
theorem bget_new (h:Blks) (x:Option ABlk):bget (bput h h.length x) h.length=x:=by rw[bget_bput (Nat.le_refl _),if_pos rfl]
theorem len_new (h:Blks) (x:Option ABlk):(bput h h.length x).length=h.length+1:=by rw[length_bput'];omega
theorem bget_new2 (h:Blks) (x y:Option ABlk):bget (bput (bput h h.length x) h.length y) h.length=y:=by rw[bget_bput (by rw[len_new];omega),if_pos rfl]
theorem bget_old {h:Blks} {x:Option ABlk} {b:Nat} (hb:b<h.length):bget (bput h h.length x) b=bget h b:=by rw[bget_bput (Nat.le_refl _),if_neg (by omega)]
def ListAt (m:Mem) (b esz:Nat) (c:Option Nat) (E:Nat→List AV) (ks:List Nat) (X:AV):Prop:=
  (X= .osl 0∧ks=[])∨(X= .slice b 0 ks.length c∧bget m.blks b=some (.row false esz (ks.map E)))
theorem ListAt.keep {m m':Mem} {b esz:Nat} {c:Option Nat} {E:Nat→List AV} {ks:List Nat} {X:AV} (h:ListAt m b esz c E ks X) (k:Keep m m'):ListAt m' b esz c E ks X:=
  h.imp id fun ⟨h1,h2⟩=>⟨h1,(k.get b (bget_lt h2)).trans h2⟩
theorem ListAt.scalar {m:Mem} {b esz:Nat} {c:Option Nat} {E:Nat→List AV} {ks:List Nat} {X:AV} (h:ListAt m b esz c E ks X):X.scalar=true:=by
  rcases h with ⟨rfl,_⟩|⟨rfl,_⟩ <;>rfl
theorem len_eq {get:Nat→Option ABlk} {nid:Nat} {T:Tr} {x:AOpnd} {n:Nat} (h:aev T x= .osl n∨ ∃ b i c,aev T x= .slice b i n c):aprim get nid T (.len .slice x)=some (.int .i64 n,[]):=by
  rcases h with h |⟨b,i,c,h⟩ <;>simp[aprim,h]
theorem ListAt.shape {m:Mem} {b esz:Nat} {c:Option Nat} {E:Nat→List AV} {ks:List Nat} {X:AV} (h:ListAt m b esz c E ks X):X= .osl ks.length∨ ∃ b i c,X= .slice b i ks.length c:=by
  rcases h with ⟨rfl,rfl⟩|⟨rfl,_⟩
  · exact .inl rfl
  · exact .inr ⟨_,_,_,rfl⟩
theorem ins_self (x:Nat) (l:List Nat):ins (x::l) x=true:=ins_mem.2 (by simp)
theorem ins_far {l:List Nat} {x n:Nat} (h: ∀ b∈l,n≤b) (hx:x<n):ins l x=false:=by
  cases hi:ins l x
  · rfl
  · have:=h x (ins_mem.1 hi);omega
theorem elem_VRs {E:List AV} {cs:List Value} {j k cap:Nat} {a:Option Addr} (hl:E.length=cs.length) (hflat: ∀ v∈cs,v.oneCell'=true) (hj:cs[j]? =some (.slice a k cap)) (hE: ∀ i x,E[i]? =some x→(i=j∧x= .osl k)∨x= .opq): ∀ ρ,VRs ρ E cs:=fun ρ=>by
  refine (VRs_iff ρ _ _).2 ⟨hl,fun i x v hx hv=> ?_⟩
  rcases hE i x hx with ⟨rfl,rfl⟩|rfl
  · rw[hj] at hv
    cases hv
    exact ⟨a,cap,rfl⟩
  · exact hflat v (List.mem_of_getElem? hv)
theorem list_read {w:World} {esz:Nat} {c:Value} {E:Nat→List AV} (h:(∃ a cap,c= .slice a 0 cap)∨ ∃ (p:Pl) (ks:List Nat) (cap:Nat),RowAt w p (ks.map E)∧p.esz=esz∧p.lim=cap∧ks.length≤cap∧cap≤maxLen∧c= .slice (some (p.at_ 0 0)) ks.length cap):
    ∃ (l:RowsL) (ks:List Nat) (cc:Option Nat) (X:Nat→AV),(∀ x∈l,RowAt w x.1 x.2)∧ ∀ (pre post:RowsL),ListAt {blks:=rowsB (pre++(l++post)) ⟨0,.e⟩} pre.length esz cc E ks (X pre.length)∧VR (rowsR (pre++(l++post))) (X pre.length) c:=by
  rcases h with ⟨a,cap,rfl⟩|⟨p,ks,cap,hR,he,hlim,hle,hmax,rfl⟩
  · exact ⟨[],[],none,fun _=> .osl 0,fun x hx=>(by cases hx),fun pre post=>⟨.inl ⟨rfl,rfl⟩,a,cap,rfl⟩⟩
  · refine ⟨[(p,ks.map E)],ks,some cap,fun b=> .slice b 0 ks.length (some cap),fun x hx=> ?_,fun pre post=>⟨.inr ⟨rfl,?_⟩,?_⟩⟩
    · rw[List.mem_singleton] at hx
      subst hx
      exact hR
    · show bget (rowsB _ _) _=_
      rw[rows_get,List.getElem?_append_right (Nat.le_refl _),Nat.sub_self]
      simp[he]
    · refine ⟨p,p.at_ 0 0,cap,?_,rfl,hle,.inr ⟨rfl,by omega⟩,fun m hm=>(by cases hm;rfl),fun hm=>(by cases hm),hmax⟩
      show ((pre++_)[pre.length]?).map _=_
      rw[List.getElem?_append_right (Nat.le_refl _),Nat.sub_self]
      rfl
end Go.Abs
end
