/- Functions of the program on symbolic values: part f.
   Conditions: none. -/
import Derived.Test.YtjpnemidlgcmmaaGreatDoorPe
set_option linter.unusedSimpArgs false
set_option linter.unusedVariables false
set_option maxRecDepth 100000
set_option maxHeartbeats 16000000
noncomputable section
namespace Go.Abs
section
variable {F:FuncId→Option AFunc} {meth:Meth} {sm:Summ}
theorem cmpI_ne {a b:Int}:cmpI a b≠0↔a≠b:=by rw[cmpI];(repeat' split) <;>omega
theorem cmpI_lt {a b:Int}:cmpI a b<0↔a<b:=by rw[cmpI];(repeat' split) <;>omega
theorem cmpD_lt {a b:IdD}:cmpD a b<0↔(a.n<b.n∨(a.n=b.n∧(a.s<b.s∨(a.s=b.s∧a.o<b.o)))):=by
  rw[cmpD]
  by_cases h1:cmpI a.n b.n≠0
  · have h:=cmpI_ne.1 h1
    rw[if_pos h1,cmpI_lt];omega
  · rw[if_neg h1]
    have h1:a.n=b.n:=Classical.byContradiction fun h=>h1 (cmpI_ne.2 h)
    by_cases h2:cmpI a.s b.s≠0
    · have h:=cmpI_ne.1 h2
      rw[if_pos h2,cmpI_lt];omega
    · rw[if_neg h2,cmpI_lt]
      have h2:a.s=b.s:=Classical.byContradiction fun h=>h2 (cmpI_ne.2 h)
      omega
theorem cmpD_trans {a b c:IdD} (h1:cmpD a b<0) (h2:cmpD b c<0):cmpD a c<0:=by
  rw[cmpD_lt] at*;omega
theorem cmpD_eq {a b:IdD}:cmpD a b=0↔a=b:=by
  constructor
  · intro h
    have:a.n=b.n∧a.s=b.s∧a.o=b.o:=by
      simp only[cmpD,cmpI] at h
      (repeat' split at h) <;>omega
    exact (idD_eq a b).1 this
  · rintro rfl
    simp[cmpD,cmpI]
def bsS (c:Nat→Bool) (s:Nat × Nat):Nat × Nat:=if s.2≤s.1 then s else if c ((s.1+s.2) / 2)=true then ((s.1+s.2) / 2+1,s.2) else (s.1,(s.1+s.2) / 2)
def bsR (c:Nat→Bool) (s:Nat × Nat):Nat→Nat × Nat
  |0=>s
  |r+1=>bsS c (bsR c s r)
theorem bsR_succ (c:Nat→Bool) (s:Nat × Nat): ∀ r,bsR c s (r+1)=bsR c (bsS c s) r
  |0=>rfl
  |r+1=>by rw[bsR,bsR_succ c s r];rfl
theorem bs_ex (c:Nat→Bool): ∀ (d:Nat) (s:Nat × Nat),s.2 - s.1≤d→s.1≤s.2→ ∃ N,N≤d∧(∀ r,r<N→(bsR c s r).1<(bsR c s r).2)∧(bsR c s N).1=(bsR c s N).2
  |0,s,h1,h2=>⟨0,by omega,fun r hr=>by omega,by show s.1=s.2;omega⟩
  | d + 1,s,h1,h2=>by
    rcases Nat.lt_or_ge s.1 s.2 with h3 |h3
    · have h4:(bsS c s).2 - (bsS c s).1≤d∧(bsS c s).1≤(bsS c s).2:=by rw[bsS,if_neg (by omega)];split <;>simp only <;>omega
      obtain ⟨N,n1,n2,n3⟩:=bs_ex c d (bsS c s) h4.1 h4.2
      refine ⟨N+1,by omega,fun r hr=> ?_,?_⟩
      · cases r with
        |zero=>exact h3
        |succ r=>rw[bsR_succ];exact n2 r (by omega)
      · rw[bsR_succ];exact n3
    · exact ⟨0,by omega,fun r hr=>by omega,by show s.1=s.2;omega⟩
theorem bs_inv {c:Nat→Bool} {n:Nat} (mono: ∀ a b,a≤b→b<n→c b=true→c a=true): ∀ r,(∀ q,q<r→(bsR c (0,n) q).1<(bsR c (0,n) q).2)→
    (bsR c (0,n) r).1≤(bsR c (0,n) r).2∧(bsR c (0,n) r).2≤n∧(∀ k,k<(bsR c (0,n) r).1→c k=true)∧(∀ k,(bsR c (0,n) r).2≤k→k<n→ ¬ c k=true)
  |0,_=>⟨Nat.zero_le _,Nat.le_refl _,fun k hk=>absurd hk (Nat.not_lt_zero k),fun k h1 h2=>absurd h2 (by show ¬ k<n;have:n≤k:=h1;omega)⟩
  | r +1,h=>by
    have ih:=bs_inv mono r fun q hq=>h q (by omega)
    have h0:=h r (by omega)
    rw[bsR]
    generalize bsR c (0,n) r=s at ih h0 ⊢
    obtain ⟨i1,i2,i3,i4⟩:=ih
    rw[bsS,if_neg (by omega)]
    split
    · rename_i hc
      refine ⟨by simp only;omega,i2,fun k hk=> ?_,i4⟩
      simp only at hk
      exact mono k _ (by omega) (by omega) hc
    · rename_i hc
      refine ⟨by simp only;omega,by simp only;omega,i3,fun k h1 h2=> ?_⟩
      simp only at h1
      exact fun hk=>hc (mono _ k (by omega) h2 hk)
theorem bs_stay {c:Nat→Bool} {s:Nat × Nat} {N:Nat} (h:(bsR c s N).1=(bsR c s N).2): ∀ k,bsR c s (N+k)=bsR c s N
  |0=>rfl
  | k+1=>by
    show bsS c (bsR c s (N+k))=_
    rw[bs_stay h k,bsS,if_pos (by omega)]
def hasM (l:List MarkD) (x:IdD):Bool:=l.any fun m=>decide (m.id=x)
theorem marks_asc {l:List MarkD} (h:first (markBad l) l.length=0): ∀ i,i<l.length→ ∀ j,j<i→cmpD (gt l j).id (gt l i).id<0
  |0,_,j,hj=>by omega
  | i + 1,hi,j,hj=>by
    have h0:=(ffrom_zero l.length 0).1 h (i+1) (by omega) (by omega)
    rw[markBad] at h0
    have h1:cmpD (gt l i).id (gt l (i+1)).id<0:=by
      split at h0
      · omega
      · split at h0
        · omega
        · rename_i q
          rw[Nat.add_sub_cancel] at q
          omega
    rcases Nat.lt_or_ge j i with h2 |h2
    · exact cmpD_trans (marks_asc h i (by omega) j h2) h1
    · rw[show j=i by omega];exact h1
theorem hasM_iff {l:List MarkD} {x:IdD} {i:Nat} (h1: ∀ k,k<i→cmpD (gt l k).id x<0) (h2: ∀ k,i≤k→k<l.length→ ¬ cmpD (gt l k).id x<0) (ha: ∀ i,i<l.length→ ∀ j,j<i→cmpD (gt l j).id (gt l i).id<0):
    hasM l x=true↔(i<l.length∧(gt l i).id=x):=by
  rw[hasM,List.any_eq_true]
  constructor
  · rintro ⟨m,hm,he⟩
    have he:=of_decide_eq_true he
    obtain ⟨k,hk,e⟩:=List.getElem_of_mem hm
    have e2:gt l k=m:=by rw[gt_eq hk,e]
    have h3: ¬ k<i:=fun hlt=>by
      have:=h1 k hlt
      rw[e2,he,cmpD_eq.2 rfl] at this
      omega
    have h4: ¬ i<k:=fun hlt=>by
      have q1:=h2 i (by omega) (by omega)
      have q2:=ha k hk i hlt
      rw[e2,he] at q2
      exact q1 q2
    have:i=k:=by omega
    rw[this,e2]
    exact ⟨hk,he⟩
  · rintro ⟨h3,h4⟩
    exact ⟨gt l i,gt_mem h3,decide_eq_true h4⟩
def ltM (l:List MarkD) (x:IdD) (k:Nat):Bool:=decide (cmpD (gt l k).id x<0)
def posM (l:List MarkD) (x:IdD):Nat:=(bsR (ltM l x) (0,l.length) l.length).1
def H145 (sm:Summ):Prop:= ∀ (y:MarkD) (x:IdD) (m:Mem),sm 145 [.agg [],.agg (markC y),.agg (idC x)] m=some (.int .i64 (cmpD y.id x),m)
theorem e145 (hF:F 145=some AF145) (hs: ∀ vs m,sm 145 vs m=none) (n:Nat) (h:Blks) (lg d:List Nat) (h93:H93 sm) {y:MarkD} {x:IdD}:Ev F meth sm (n+2000) 145 [.agg [],.agg (markC y),.agg (idC x)] ⟨h,lg,d⟩ (.int .i64 (cmpD y.id x)):=by
  refine Ev.ofW ?_
  have g:=h93 y.id x
  unfold idC at g
  simp+contextual -implicitDefEqProofs (maxSteps:=1000000) (maxDischargeDepth:=20) only[go_sem,simprocAttr,hs,hF,AF145,markC,idC,g]
def H146 (sm:Summ):Prop:= ∀ (l:List MarkD) (v:AV) (x:IdD) (m:Mem),SlAt m.blks 4 v (l.map markC)→l.length≤1000→first (markBad l) l.length=0→sm 146 [v,.agg (idC x),.func 145 [.agg []] []] m=some (.tuple [.int .i64 (posM l x),.bool (decide (hasM l x=true))],m)
theorem e146 (hF:F 146=some AF146) (hs: ∀ vs m,sm 146 vs m=none) (n:Nat) (h:Blks) (lg d:List Nat) (h145:H145 sm) {l:List MarkD} {v:AV} {x:IdD} (hv:SlAt h 4 v (l.map markC)) (hw:l.length≤1000) (hz:first (markBad l) l.length=0):Ev F meth sm (n+2000) 146 [v,.agg (idC x),.func 145 [.agg []] []] ⟨h,lg,d⟩ (.tuple [.int .i64 (posM l x),.bool (decide (hasM l x=true))]):=by
  refine Ev.ofW ?_
  have lv:=hv.len
  have ha:=marks_asc hz
  have mono: ∀ a b,a≤b→b<l.length→ltM l x b=true→ltM l x a=true:=fun a b h1 h2 h3=>by
    rcases Nat.lt_or_ge a b with h4 |h4
    · exact decide_eq_true (cmpD_trans (ha b h2 a h4) (of_decide_eq_true h3))
    · rw[show a=b by omega];exact h3
  obtain ⟨N,n1,n2,n3⟩:=bs_ex (ltM l x) l.length (0,l.length) (by simp) (Nat.zero_le _)
  have inv:=fun r (hr:r≤N)=>bs_inv mono r fun q hq=>n2 q (by omega)
  have ep:posM l x=(bsR (ltM l x) (0,l.length) N).1:=by
    have:=bs_stay n3 (l.length - N)
    rw[show N+(l.length - N)=l.length by omega] at this
    rw[posM,this]
  simp+contextual -implicitDefEqProofs (maxSteps:=1000000) (maxDischargeDepth:=20) only[go_sem,simprocAttr,hs,hF,AF146,idC,lv,List.length_map]
  refine WloopK N [X9,X10] (fun r=> [.int .i64 (bsR (ltM l x) (0,l.length) r).1,.int .i64 (bsR (ltM l x) (0,l.length) r).2]) (fun _=>True) (by omega) (by repeat first |apply Cl_b |apply Cl_q |apply Cl_r) ⟨rfl,trivial⟩ (fun r h' lg' g hi hP hK=> ?_) (fun h' lg' g hP hK=> ?_)
  · have a:=hK.all (lg:=lg) (d:=d) (by repeat first |exact LogOK.nil |apply LogOK.cons)
    have q:=inv r (by omega)
    have q2:=n2 r hi
    have es:bsR (ltM l x) (0,l.length) (r+1)=bsS (ltM l x) (bsR (ltM l x) (0,l.length) r):=rfl
    rw[bsS,if_neg (by omega)] at es
    rw[es]
    generalize bsR (ltM l x) (0,l.length) r=s at q q2 ⊢
    have mi:(s.1+s.2) / 2<l.length:=by omega
    have e:=(hK.sl hv).el mi
    have g1:=h145 (gt l ((s.1+s.2) / 2)) x
    have w0:((s.1:Int)<(s.2:Int))=True:=by simp;omega
    have w1:IntKind.i64.wrap ((s.1:Int)+(s.2:Int))=((s.1+s.2:Nat):Int):=by rw[wrapI (by omega) (by omega)];omega
    have w2:IntKind.u64.wrap ((s.1+s.2:Nat):Int)=((s.1+s.2:Nat):Int):=wrapU (by omega) (by omega)
    have w3:IntKind.i64.wrap (((s.1+s.2) / 2:Nat):Int)=(((s.1+s.2) / 2:Nat):Int):=wrapI (by omega) (by omega)
    have w4:IntKind.i64.wrap ((((s.1+s.2) / 2:Nat):Int)+1)=(((s.1+s.2) / 2+1:Nat):Int):=by rw[wrapI (by omega) (by omega)];omega
    have w5:Int.fdiv ((s.1+s.2:Nat):Int) (2 ^ min 1 64)=(((s.1+s.2) / 2:Nat):Int):=by
      rw[show (2:Int) ^ min 1 64=2 from rfl,Int.fdiv_eq_ediv_of_nonneg _ (by omega)]
      omega
    have lt:ltM l x ((s.1+s.2) / 2)=decide (cmpD (gt l ((s.1+s.2) / 2)).id x<0):=rfl
    unfold markC at e
    unfold markC idC at g1
    simp+contextual -implicitDefEqProofs (maxSteps:=1000000) (maxDischargeDepth:=20) only[go_sem,simprocAttr,a,e,g1,w0,w1,w2,w3,w4,w5]
    rw[lt]
    refine ⟨fun q=> ?_,fun q=> ?_⟩
    · rw[if_pos (decide_eq_true q)];exact ⟨rfl,rfl⟩
    · rw[if_neg (by simp[q])];exact ⟨rfl,rfl⟩
  · have a:=hK.all (lg:=lg) (d:=d) (by repeat first |exact LogOK.nil |apply LogOK.cons)
    have q:=inv N (Nat.le_refl _)
    rw[ep]
    generalize bsR (ltM l x) (0,l.length) N=s at q n3 ⊢
    have w0:((s.1:Int)<(s.2:Int))=False:=by simp;omega
    have hi:=hasM_iff (l:=l) (x:=x) (i:=s.1) (fun k hk=>of_decide_eq_true (q.2.2.1 k hk)) (fun k h1 h2 h3=>q.2.2.2 k (by omega) h2 (decide_eq_true h3)) ha
    rcases Nat.lt_or_ge s.1 l.length with h1 |h1
    · have e:=(hK.sl hv).el h1
      have g1:=h145 (gt l s.1) x
      have w1:((s.1:Int)<(l.length:Int))=True:=by simp;omega
      have hd:decide (hasM l x=true)=decide (cmpD (gt l s.1).id x=0):=decide_eq_decide.2 (hi.trans (by rw[cmpD_eq];exact ⟨fun h=>h.2,fun h=>⟨h1,h⟩⟩))
      rw[hd]
      unfold markC at e
      unfold markC idC at g1
      simp+contextual -implicitDefEqProofs (maxSteps:=1000000) (maxDischargeDepth:=20) only[go_sem,simprocAttr,a,e,g1,w0,w1]
    · have w1:((s.1:Int)<(l.length:Int))=False:=by simp;omega
      have hd:decide (hasM l x=true)=false:=decide_eq_false fun h=>by have:=(hi.1 h).1;omega
      rw[hd]
      simp+contextual -implicitDefEqProofs (maxSteps:=1000000) (maxDischargeDepth:=20) only[go_sem,simprocAttr,a,w0,w1]
end
section
variable {F:FuncId→Option AFunc} {meth:Meth} {sm:Summ}
def H109 (sm:Summ):Prop:= ∀ (l:List MarkD) (v:AV) (x:IdD) (m:Mem),SlAt m.blks 4 v (l.map markC)→l.length≤1000→first (markBad l) l.length=0→sm 109 [v,.agg (idC x)] m=some (.tuple [.int .i64 (posM l x),.bool (decide (hasM l x=true))],m)
theorem e109 (hF:F 109=some AF109) (hs: ∀ vs m,sm 109 vs m=none) (n:Nat) (h:Blks) (lg d:List Nat) (h146:H146 sm) {l:List MarkD} {v:AV} {x:IdD} (hv:SlAt h 4 v (l.map markC)) (hw:l.length≤1000) (hz:first (markBad l) l.length=0):Ev F meth sm (n+2000) 109 [v,.agg (idC x)] ⟨h,lg,d⟩ (.tuple [.int .i64 (posM l x),.bool (decide (hasM l x=true))]):=by
  refine Ev.ofW ?_
  have g1:=fun l' lg d=>h146 l v x ⟨bxt h l',lg,d⟩ (hv.bx l') hw hz
  unfold idC at g1
  simp+contextual -implicitDefEqProofs (maxSteps:=1000000) (maxDischargeDepth:=20) only[go_sem,simprocAttr,hs,hF,AF109,idC,g1]
def hasE (l:List MarkD) (x:IdD):Bool × Int:=if first (markBad l) l.length≠0 then (false,first (markBad l) l.length) else (hasM l x,0)
def H65 (sm:Summ):Prop:= ∀ (l:List MarkD) (v:AV) (x:IdD) (m:Mem),SlAt m.blks 4 v (l.map markC)→l.length≤1000→sm 65 [v,.agg (idC x)] m=some (.tuple [.bool (decide ((hasE l x).1=true)),.int .i64 (hasE l x).2],m)
theorem e65 (hF:F 65=some AF65) (hs: ∀ vs m,sm 65 vs m=none) (n:Nat) (h:Blks) (lg d:List Nat) (h94:H94 sm) (h109:H109 sm) {l:List MarkD} {v:AV} {x:IdD} (hv:SlAt h 4 v (l.map markC)) (hw:l.length≤1000):Ev F meth sm (n+2000) 65 [v,.agg (idC x)] ⟨h,lg,d⟩ (.tuple [.bool (decide ((hasE l x).1=true)),.int .i64 (hasE l x).2]):=by
  refine Ev.ofW ?_
  have g1:=fun l' lg d=>h94 l v ⟨bxt h l',lg,d⟩ (hv.bx l') hw
  have g2:=fun l' lg d (hz:first (markBad l) l.length=0)=>h109 l v x ⟨bxt h l',lg,d⟩ (hv.bx l') hw hz
  unfold idC at g2
  simp+contextual -implicitDefEqProofs (maxSteps:=1000000) (maxDischargeDepth:=20) only[go_sem,simprocAttr,hs,hF,AF65,idC,g1,g2]
  refine ⟨fun q=> ?_,fun q=> ?_⟩
  · rw[hasE,if_pos q];exact ⟨rfl,rfl⟩
  · rw[hasE,if_neg (by simpa using q)];exact ⟨rfl,rfl⟩
def lead (c:Nat→Bool):Nat→Nat→Nat
  |0,i=>i
  |f+1,i=>if c i=true then lead c f (i+1) else i
theorem lead_spec (c:Nat→Bool): ∀ f i,i≤lead c f i∧lead c f i≤i+f∧(∀ k,i≤k→k<lead c f i→c k=true)∧(lead c f i<i+f→ ¬ c (lead c f i)=true)
  |0,i=>⟨Nat.le_refl _,Nat.le_refl _,fun k h1 h2=>by have:k<i:=h2;omega,fun h=>by have:i<i+0:=h;omega⟩
  | f +1,i=>by
    rw[lead]
    split
    · rename_i hc
      obtain ⟨h1,h2,h3,h4⟩:=lead_spec c f (i+1)
      refine ⟨by omega,by omega,fun k q1 q2=> ?_,fun q=>h4 (by omega)⟩
      rcases Nat.eq_or_lt_of_le q1 with rfl |q1
      · exact hc
      · exact h3 k q1 q2
    · rename_i hc
      exact ⟨Nat.le_refl _,by omega,fun k q1 q2=>by omega,fun _=>hc⟩
def H148 (sm:Summ):Prop:= ∀ (l:List MarkD) (v:AV) (x:IdD) (m:Mem),SlAt m.blks 4 v (l.map markC)→l.length≤1000→first (markBad l) l.length=0→sm 148 [v,.agg (idC x)] m=some (.tuple [.int .i64 (lead (ltM l x) l.length 0),.bool (decide (hasM l x=true))],m)
theorem e148 (hF:F 148=some AF148) (hs: ∀ vs m,sm 148 vs m=none) (n:Nat) (h:Blks) (lg d:List Nat) (h101:H101 sm) {l:List MarkD} {v:AV} {x:IdD} (hv:SlAt h 4 v (l.map markC)) (hw:l.length≤1000) (hz:first (markBad l) l.length=0):Ev F meth sm (n+2000) 148 [v,.agg (idC x)] ⟨h,lg,d⟩ (.tuple [.int .i64 (lead (ltM l x) l.length 0),.bool (decide (hasM l x=true))]):=by
  refine Ev.ofW ?_
  have lv:=hv.len
  have ha:=marks_asc hz
  have sp:=lead_spec (ltM l x) l.length 0
  generalize lead (ltM l x) l.length 0=N at sp ⊢
  simp+contextual -implicitDefEqProofs (maxSteps:=1000000) (maxDischargeDepth:=20) only[go_sem,simprocAttr,hs,hF,AF148,idC,lv,List.length_map]
  refine WloopK N [X6] (fun i=> [.int .i64 i]) (fun _=>True) (by omega) (by repeat first |apply Cl_b |apply Cl_q |apply Cl_r) ⟨rfl,trivial⟩ (fun i h' lg' g hi hP hK=> ?_) (fun h' lg' g hP hK=> ?_)
  · have a:=hK.all (lg:=lg) (d:=d) (by repeat first |exact LogOK.nil |apply LogOK.cons)
    have hi':i<l.length:=by omega
    have e:=(hK.sl hv).el hi'
    have r:=rnd hi' (by omega)
    have g1:=h101 (gt l i).id x
    have w0:(cmpD (gt l i).id x<0)=True:=by simp;exact of_decide_eq_true (sp.2.2.1 i (by omega) hi)
    unfold markC at e
    unfold idC at g1
    simp+contextual -implicitDefEqProofs (maxSteps:=1000000) (maxDischargeDepth:=20) only[go_sem,simprocAttr,a,e,r,g1,lv,List.length_map,w0]
  · have a:=hK.all (lg:=lg) (d:=d) (by repeat first |exact LogOK.nil |apply LogOK.cons)
    have below: ∀ k,k<N→cmpD (gt l k).id x<0:=fun k hk=>of_decide_eq_true (sp.2.2.1 k (by omega) hk)
    have above: ∀ k,N≤k→k<l.length→ ¬ cmpD (gt l k).id x<0:=fun k h1 h2 h3=>by
      have h4:=sp.2.2.2 (by omega)
      apply h4
      rcases Nat.eq_or_lt_of_le h1 with rfl |h5
      · exact decide_eq_true h3
      · exact decide_eq_true (cmpD_trans (ha k h2 N h5) h3)
    have hi:=hasM_iff (l:=l) (x:=x) (i:=N) below above ha
    rcases Nat.lt_or_ge N l.length with h1 |h1
    · have e:=(hK.sl hv).el h1
      have g1:=h101 (gt l N).id x
      have w1:((N:Int)<(l.length:Int))=True:=by simp;omega
      have w0:(cmpD (gt l N).id x<0)=False:=by simpa using above N (Nat.le_refl _) h1
      have hd:decide (hasM l x=true)=decide ((gt l N).id=x):=decide_eq_decide.2 (hi.trans ⟨fun h=>h.2,fun h=>⟨h1,h⟩⟩)
      rw[hd]
      unfold markC at e
      unfold idC at g1
      simp+contextual -implicitDefEqProofs (maxSteps:=1000000) (maxDischargeDepth:=20) only[go_sem,simprocAttr,a,e,g1,lv,List.length_map,w1,w0]
      simp only[idD_eq]
    · have w1:((N:Int)<(l.length:Int))=False:=by simp;omega
      have hd:decide (hasM l x=true)=false:=decide_eq_false fun h=>by have:=(hi.1 h).1;omega
      rw[hd]
      simp+contextual -implicitDefEqProofs (maxSteps:=1000000) (maxDischargeDepth:=20) only[go_sem,simprocAttr,a,w1,lv,List.length_map]
def H113 (sm:Summ):Prop:= ∀ (l:List MarkD) (v:AV) (x:IdD) (m:Mem),SlAt m.blks 4 v (l.map markC)→l.length≤1000→sm 113 [v,.agg (idC x)] m=some (.tuple [.bool (decide ((hasE l x).1=true)),.int .i64 (hasE l x).2],m)
theorem e113 (hF:F 113=some AF113) (hs: ∀ vs m,sm 113 vs m=none) (n:Nat) (h:Blks) (lg d:List Nat) (h102:H102 sm) (h148:H148 sm) {l:List MarkD} {v:AV} {x:IdD} (hv:SlAt h 4 v (l.map markC)) (hw:l.length≤1000):Ev F meth sm (n+2000) 113 [v,.agg (idC x)] ⟨h,lg,d⟩ (.tuple [.bool (decide ((hasE l x).1=true)),.int .i64 (hasE l x).2]):=by
  refine Ev.ofW ?_
  have g1:=fun l' lg d=>h102 l v ⟨bxt h l',lg,d⟩ (hv.bx l') hw
  have g2:=fun l' lg d (hz:first (markBad l) l.length=0)=>h148 l v x ⟨bxt h l',lg,d⟩ (hv.bx l') hw hz
  unfold idC at g2
  simp+contextual -implicitDefEqProofs (maxSteps:=1000000) (maxDischargeDepth:=20) only[go_sem,simprocAttr,hs,hF,AF113,idC,g1,g2]
  refine ⟨fun q=> ?_,fun q=> ?_⟩
  · rw[hasE,if_pos q];exact ⟨rfl,rfl⟩
  · rw[hasE,if_neg (by simpa using q)];exact ⟨rfl,rfl⟩
end
section
variable {F:FuncId→Option AFunc} {meth:Meth} {sm:Summ}
theorem bunD_eq (a b:BunD):(a.id.n=b.id.n∧a.id.s=b.id.s∧a.id.o=b.id.o∧a.dest=b.dest∧a.prio=b.prio∧a.born=b.born∧a.life=b.life∧a.total=b.total∧a.data=b.data)↔a=b:=by
  constructor
  · obtain ⟨⟨n1,s1,o1⟩,d1,p1,b1,l1,t1,x1⟩:=a
    obtain ⟨⟨n2,s2,o2⟩,d2,p2,b2,l2,t2,x2⟩:=b
    rintro ⟨h1,h2,h3,h4,h5,h6,h7,h8,h9⟩
    simp only at h1 h2 h3 h4 h5 h6 h7 h8 h9
    subst h1 h2 h3 h4 h5 h6 h7 h8 h9
    rfl
  · rintro rfl;exact ⟨rfl,rfl,rfl,rfl,rfl,rfl,rfl,rfl,rfl⟩
def H112 (sm:Summ):Prop:= ∀ (l:List BunD) (v:AV) (x:BunD) (m:Mem),SlAt m.blks 9 v (l.map bunC)→l.length≤1000→sm 112 [v,.agg (bunC x)] m=some (.int .i64 (idxF (fun y=>decide (x=y)) 0 l),m)
theorem e112 (hF:F 112=some AF112) (hs: ∀ vs m,sm 112 vs m=none) (n:Nat) (h:Blks) (lg d:List Nat) {l:List BunD} {v:AV} {x:BunD} (hv:SlAt h 9 v (l.map bunC)) (hw:l.length≤1000):Ev F meth sm (n+2000) 112 [v,.agg (bunC x)] ⟨h,lg,d⟩ (.int .i64 (idxF (fun y=>decide (x=y)) 0 l)):=by
  refine Ev.ofW ?_
  have lv:=hv.len
  simp+contextual -implicitDefEqProofs (maxSteps:=1000000) (maxDischargeDepth:=20) only[go_sem,simprocAttr,hs,hF,AF112,bunC,lv,List.length_map]
  refine WloopK l.length [X8] (fun i=> [.int .i64 i]) (fun i=>idxF (fun y=>decide (x=y)) 0 l=idxF (fun y=>decide (x=y)) i (l.drop i)) (by omega) (by repeat first |apply Cl_b |apply Cl_q |apply Cl_r) ⟨rfl,rfl⟩ (fun i h' lg' g hi hP hK=> ?_) (fun h' lg' g hP hK=> ?_)
  · have a:=hK.all (lg:=lg) (d:=d) (by repeat first |exact LogOK.nil |apply LogOK.cons)
    have e:=(hK.sl hv).el hi
    have r:=rnd hi (by omega)
    unfold bunC at e
    rw[List.drop_eq_getElem_cons hi,idxF,←gt_eq hi] at hP
    simp+contextual -implicitDefEqProofs (maxSteps:=1000000) (maxDischargeDepth:=20) only[go_sem,simprocAttr,a,e,r,bunD_eq]
    exact ⟨fun c=>by rw[←c,hP,if_pos (decide_eq_true c)],fun c=>by rw[hP,if_neg (fun q=>c (of_decide_eq_true q))]⟩
  · have a:=hK.all (lg:=lg) (d:=d) (by repeat first |exact LogOK.nil |apply LogOK.cons)
    have r:=rndl l.length
    simp+contextual -implicitDefEqProofs (maxSteps:=1000000) (maxDischargeDepth:=20) only[go_sem,simprocAttr,a,r]
    rw[hP,List.drop_length]
    rfl
def knownB (l:List BunD) (x:BunD):Bool:=l.any fun y=>decide (x=y)
def H67 (sm:Summ):Prop:= ∀ (l:List BunD) (v:AV) (x:BunD) (m:Mem),SlAt m.blks 9 v (l.map bunC)→l.length≤1000→sm 67 [v,.agg (bunC x)] m=some (.bool (decide (knownB l x=true)),m)
theorem e67 (hF:F 67=some AF67) (hs: ∀ vs m,sm 67 vs m=none) (n:Nat) (h:Blks) (lg d:List Nat) (h112:H112 sm) {l:List BunD} {v:AV} {x:BunD} (hv:SlAt h 9 v (l.map bunC)) (hw:l.length≤1000):Ev F meth sm (n+2000) 67 [v,.agg (bunC x)] ⟨h,lg,d⟩ (.bool (decide (knownB l x=true))):=by
  refine Ev.ofW ?_
  have g1:=fun l' lg d=>h112 l v x ⟨bxt h l',lg,d⟩ (hv.bx l') hw
  unfold bunC at g1
  simp+contextual -implicitDefEqProofs (maxSteps:=1000000) (maxDischargeDepth:=20) only[go_sem,simprocAttr,hs,hF,AF67,bunC,g1]
  exact decide_eq_decide.2 (idxF_any _ _ _)
def H71 (sm:Summ):Prop:= ∀ (l:List BunD) (v:AV) (x:BunD) (m:Mem),SlAt m.blks 9 v (l.map bunC)→l.length≤1000→sm 71 [v,.agg (bunC x)] m=some (.bool (decide (knownB l x=true)),m)
theorem e71 (hF:F 71=some AF71) (hs: ∀ vs m,sm 71 vs m=none) (n:Nat) (h:Blks) (lg d:List Nat) {l:List BunD} {v:AV} {x:BunD} (hv:SlAt h 9 v (l.map bunC)) (hw:l.length≤1000):Ev F meth sm (n+2000) 71 [v,.agg (bunC x)] ⟨h,lg,d⟩ (.bool (decide (knownB l x=true))):=by
  refine Ev.ofW ?_
  have lv:=hv.len
  simp+contextual -implicitDefEqProofs (maxSteps:=1000000) (maxDischargeDepth:=20) only[go_sem,simprocAttr,hs,hF,AF71,bunC,lv,List.length_map]
  refine WloopK l.length [X5] (fun i=> [.int .i64 i]) (fun i=>knownB l x=knownB (l.drop i) x) (by omega) (by repeat first |apply Cl_b |apply Cl_q |apply Cl_r) ⟨rfl,rfl⟩ (fun i h' lg' g hi hP hK=> ?_) (fun h' lg' g hP hK=> ?_)
  · have a:=hK.all (lg:=lg) (d:=d) (by repeat first |exact LogOK.nil |apply LogOK.cons)
    have e:=(hK.sl hv).el hi
    have r:=rnd hi (by omega)
    unfold bunC at e
    rw[List.drop_eq_getElem_cons hi,knownB,knownB,List.any_cons,←gt_eq hi] at hP
    simp+contextual -implicitDefEqProofs (maxSteps:=1000000) (maxDischargeDepth:=20) only[go_sem,simprocAttr,a,e,r,lv,List.length_map,bunD_eq]
    refine ⟨fun c=> ?_,fun c=> ?_⟩
    · symm;apply decide_eq_true
      rw[knownB,hP,decide_eq_true c.symm];rfl
    · rw[knownB,hP,decide_eq_false (fun q=>c q.symm)];rfl
  · have a:=hK.all (lg:=lg) (d:=d) (by repeat first |exact LogOK.nil |apply LogOK.cons)
    have r:=rndl l.length
    simp+contextual -implicitDefEqProofs (maxSteps:=1000000) (maxDischargeDepth:=20) only[go_sem,simprocAttr,a,r,lv,List.length_map]
    rw[hP,List.drop_length]
    rfl
def H111 (sm:Summ):Prop:= ∀ (y:BunD) (x:IdD) (b:Nat) (own:Bool) (m:Mem),bget m.blks b=some (.row own 3 [idC x])→sm 111 [.agg (bunC y),.ptr b 0 0] m=some (.bool (decide (y.id=x)),m)
theorem e111 (hF:F 111=some AF111) (hs: ∀ vs m,sm 111 vs m=none) (n:Nat) (h:Blks) (lg d:List Nat) {y:BunD} {x:IdD} {b:Nat} {own:Bool} (hb:bget h b=some (.row own 3 [idC x])):Ev F meth sm (n+2000) 111 [.agg (bunC y),.ptr b 0 0] ⟨h,lg,d⟩ (.bool (decide (y.id=x))):=by
  refine Ev.ofW ?_
  have hb':=fun l=>(bxt_old l h b (bget_lt hb)).trans hb
  unfold idC at hb'
  simp+contextual -implicitDefEqProofs (maxSteps:=1000000) (maxDischargeDepth:=20) only[go_sem,simprocAttr,hs,hF,AF111,bunC,hb',o_ldg,idD_eq]
def H147 (sm:Summ):Prop:= ∀ (l:List BunD) (v:AV) (x:IdD) (b:Nat) (own:Bool) (m:Mem),SlAt m.blks 9 v (l.map bunC)→l.length≤1000→bget m.blks b=some (.row own 3 [idC x])→sm 147 [v,.func 111 [] [.ptr b 0 0]] m=some (.int .i64 (idxF (fun y=>decide (y.id=x)) 0 l),m)
theorem e147 (hF:F 147=some AF147) (hs: ∀ vs m,sm 147 vs m=none) (n:Nat) (h:Blks) (lg d:List Nat) (h111:H111 sm) {l:List BunD} {v:AV} {x:IdD} {b:Nat} {own:Bool} (hv:SlAt h 9 v (l.map bunC)) (hw:l.length≤1000) (hb:bget h b=some (.row own 3 [idC x])):Ev F meth sm (n+2000) 147 [v,.func 111 [] [.ptr b 0 0]] ⟨h,lg,d⟩ (.int .i64 (idxF (fun y=>decide (y.id=x)) 0 l)):=by
  refine Ev.ofW ?_
  have lv:=hv.len
  simp+contextual -implicitDefEqProofs (maxSteps:=1000000) (maxDischargeDepth:=20) only[go_sem,simprocAttr,hs,hF,AF147,lv,List.length_map]
  refine WloopK l.length [X8] (fun i=> [.int .i64 i]) (fun i=>idxF (fun y=>decide (y.id=x)) 0 l=idxF (fun y=>decide (y.id=x)) i (l.drop i)) (by omega) (by repeat first |apply Cl_b |apply Cl_q |apply Cl_r) ⟨rfl,rfl⟩ (fun i h' lg' g hi hP hK=> ?_) (fun h' lg' g hP hK=> ?_)
  · have a:=hK.all (lg:=lg) (d:=d) (by repeat first |exact LogOK.nil |apply LogOK.cons)
    have e:=(hK.sl hv).el hi
    have r:=rnd hi (by omega)
    have g1:=fun l' lg d=>h111 (gt l i) x b own ⟨bxt h' l',lg,d⟩ ((bxt_old l' h' b (Nat.lt_of_lt_of_le (bget_lt hb) hK.len)).trans ((hK.get b (bget_lt hb)).trans hb))
    unfold bunC at e g1
    rw[List.drop_eq_getElem_cons hi,idxF,←gt_eq hi] at hP
    simp+contextual -implicitDefEqProofs (maxSteps:=1000000) (maxDischargeDepth:=20) only[go_sem,simprocAttr,a,e,r,g1]
    exact ⟨fun c=>by rw[hP,if_pos (decide_eq_true c)],fun c=>by rw[hP,if_neg (fun q=>c (of_decide_eq_true q))]⟩
  · have a:=hK.all (lg:=lg) (d:=d) (by repeat first |exact LogOK.nil |apply LogOK.cons)
    have r:=rndl l.length
    simp+contextual -implicitDefEqProofs (maxSteps:=1000000) (maxDischargeDepth:=20) only[go_sem,simprocAttr,a,r]
    rw[hP,List.drop_length]
    rfl
def hasB (l:List BunD) (x:IdD):Bool:=l.any fun y=>decide (y.id=x)
def H110 (sm:Summ):Prop:= ∀ (l:List BunD) (v:AV) (x:IdD) (b:Nat) (own:Bool) (m:Mem),SlAt m.blks 9 v (l.map bunC)→l.length≤1000→bget m.blks b=some (.row own 3 [idC x])→sm 110 [v,.func 111 [] [.ptr b 0 0]] m=some (.bool (decide (hasB l x=true)),m)
theorem e110 (hF:F 110=some AF110) (hs: ∀ vs m,sm 110 vs m=none) (n:Nat) (h:Blks) (lg d:List Nat) (h147:H147 sm) {l:List BunD} {v:AV} {x:IdD} {b:Nat} {own:Bool} (hv:SlAt h 9 v (l.map bunC)) (hw:l.length≤1000) (hb:bget h b=some (.row own 3 [idC x])):Ev F meth sm (n+2000) 110 [v,.func 111 [] [.ptr b 0 0]] ⟨h,lg,d⟩ (.bool (decide (hasB l x=true))):=by
  refine Ev.ofW ?_
  have g1:=fun l' lg d=>h147 l v x b own ⟨bxt h l',lg,d⟩ (hv.bx l') hw ((bxt_old l' h b (bget_lt hb)).trans hb)
  simp+contextual -implicitDefEqProofs (maxSteps:=1000000) (maxDischargeDepth:=20) only[go_sem,simprocAttr,hs,hF,AF110,g1]
  exact decide_eq_decide.2 (idxF_any _ _ _)
def delivD (l:List ViewD) (b:BunD):Bool:=
  match l.find? fun v=>decide (v.cfg.node=b.dest) with
  |some v=>(hasE v.st.seen b.id).1
  |none=>false
def H70 (sm:Summ):Prop:= ∀ (s:SnapX) (b:BunD) (m:Mem),SnapAt m.blks s→sm 70 [.agg (snapC s),.agg (bunC b)] m=some (.bool (decide (delivD s.d.nodes b=true)),m)
theorem e70 (hF:F 70=some AF70) (hs: ∀ vs m,sm 70 vs m=none) (n:Nat) (h:Blks) (lg d:List Nat) (h113:H113 sm) {s:SnapX} {b:BunD} (H:SnapAt h s):Ev F meth sm (n+2000) 70 [.agg (snapC s),.agg (bunC b)] ⟨h,lg,d⟩ (.bool (decide (delivD s.d.nodes b=true))):=by
  refine Ev.ofW ?_
  have c1:=H.v.sc
  have c2:=H.l.sc
  have l1:=H.v.len
  have n1:s.d.nodes.length=s.vs.length:=by simp[SnapX.d]
  simp+contextual -implicitDefEqProofs (maxSteps:=1000000) (maxDischargeDepth:=20) only[go_sem,simprocAttr,hs,hF,AF70,snapC,bunC,c1,c2,l1,List.length_map]
  refine WloopK s.vs.length [X5] (fun i=> [.int .i64 i]) (fun i=>delivD s.d.nodes b=delivD (s.d.nodes.drop i) b) (by have:=H.w1;omega) (by repeat first |apply Cl_b |apply Cl_q |apply Cl_r) ⟨rfl,rfl⟩ (fun i h' lg' g hi hP hK=> ?_) (fun h' lg' g hP hK=> ?_)
  · have a:=hK.all (lg:=lg) (d:=d) (by repeat first |exact LogOK.nil |apply LogOK.cons)
    have hv:=hK.sn H
    have e:=hv.v.el hi
    have r:=rnd hi (by have:=H.w1;omega)
    have hx:=hv.va _ (gt_mem hi)
    have g1:=fun l lg d=>h113 (gt s.vs i).v.st.seen (gt s.vs i).m b.id ⟨bxt h' l,lg,d⟩ (hx.s.m.bx l) hx.s.w2
    have hx':i<s.d.nodes.length:=by omega
    have x1:gt s.d.nodes i=(gt s.vs i).v:=gt_mapV hi
    have d1:=hx.s.b.sc
    have d2:=hx.s.m.sc
    have d3:=hx.s.p.v.sc
    have d4:=hx.q.v.sc
    rw[List.drop_eq_getElem_cons hx',delivD,delivD,List.find?_cons,←gt_eq hx',x1] at hP
    unfold viewC at e
    unfold idC at g1
    simp+contextual -implicitDefEqProofs (maxSteps:=1000000) (maxDischargeDepth:=20) only[go_sem,simprocAttr,a,e,r,g1,l1,d1,d2,d3,d4,List.length_map]
    refine ⟨fun c=> ?_,fun c=> ?_⟩
    · rw[decide_eq_true c] at hP
      rw[delivD,hP]
    · rw[decide_eq_false c] at hP
      rw[delivD,hP];rfl
  · have a:=hK.all (lg:=lg) (d:=d) (by repeat first |exact LogOK.nil |apply LogOK.cons)
    have r:=rndl s.vs.length
    simp+contextual -implicitDefEqProofs (maxSteps:=1000000) (maxDischargeDepth:=20) only[go_sem,simprocAttr,a,r,l1,List.length_map]
    rw[hP,←n1,List.drop_length]
    rfl
end
section
variable {F:FuncId→Option AFunc} {meth:Meth} {sm:Summ}
def hold1 (l:List ViewD) (x:IdD):List Int:=l.filterMap fun v=>if hasB v.st.held x=true then some v.cfg.node else none
theorem hold1_take {l:List ViewD} {x:IdD} {i:Nat} (hi:i<l.length):hold1 (l.take (i+1)) x=hold1 (l.take i) x++(if hasB (gt l i).st.held x=true then [(gt l i).cfg.node] else []):=by
  rw[hold1,hold1,List.take_add_one,List.getElem?_eq_getElem hi,Option.toList_some,List.filterMap_append,gt_eq hi]
  congr 1
  rw[List.filterMap_cons,List.filterMap_nil]
  split
  · rename_i h;split at h
    · cases h
    · rename_i q;rw[if_neg q]
  · rename_i h;split at h
    · rename_i q;cases h;rw[if_pos q]
    · cases h
theorem fB (n:Nat):(n+1≤n)=False:=by simp
theorem e66 (hF:F 66=some AF66) (hs: ∀ vs m,sm 66 vs m=none) (n:Nat) (h:Blks) (lg d:List Nat) (h110:H110 sm) {s:SnapX} {wv:AV} {x:IdD} (H:SnapAt h s) (hw:wv.scalar=true):Wa F meth sm (n+2000) (.fn 66) [.agg (snapC s++ [wv]),.agg (idC x)] ⟨bxt h [],lg,d⟩ (Qk ⟨h,lg,d⟩ fun w h'=>SlAt h' 1 w ((hold1 s.d.nodes x).map i64C)):=by
  have c1:=H.v.sc
  have c2:=H.l.sc
  have l1:=H.v.len
  have n1:s.d.nodes.length=s.vs.length:=by simp[SnapX.d]
  simp+contextual -implicitDefEqProofs (maxSteps:=1000000) (maxDischargeDepth:=20) only[go_sem,simprocAttr,hs,hF,AF66,snapC,idC,c1,c2,hw,l1,List.length_map,q_k]
  refine WloopE (α:=AV) s.vs.length [X12,X5] (fun i a=> [.int .i64 i,a]) (fun i a m'=>Keep ⟨h,lg,[]⟩ m'∧bget m'.blks (nb h 1)=some (.row true 3 [[.int .i64 x.n,.int .u64 x.s,.int .i64 x.o]])∧OutAt h.length m'.blks 1 a ((hold1 (s.d.nodes.take i) x).map i64C)) (by have:=H.w1;omega) (by repeat first |apply Cl_b |apply Cl_q |apply Cl_r) ⟨.nilslice,rfl,keep_bx (by repeat first |exact LogOK.nil |apply LogOK.cons),nb_get,.nil rfl rfl⟩ (fun i a m' g hi hP=> ?_) (fun a m' g hP=> ?_)
  · obtain ⟨h',lg',d'⟩:=m'
    obtain ⟨k,b1,ho⟩:=hP
    obtain rfl:d'=[]:=k.dfrs
    simp only at b1 ho
    have hs':SnapAt h' s:=SnapAt.keep (m:=⟨h,lg,[]⟩) (m':=⟨h',lg',[]⟩) H k
    have e:=hs'.v.el hi
    have r:=rnd hi (by have:=H.w1;omega)
    have hx:=hs'.va _ (gt_mem hi)
    have g1:=fun l lg d=>h110 (gt s.vs i).v.st.held (gt s.vs i).b x (nb h 1) true ⟨bxt h' l,lg,d⟩ (hx.s.b.bx l) hx.s.w1 ((bxt_old l h' _ (bget_lt b1)).trans b1)
    have hx':i<s.d.nodes.length:=by omega
    have x1:gt s.d.nodes i=(gt s.vs i).v:=gt_mapV hi
    have ht:=hold1_take (x:=x) hx'
    rw[x1] at ht
    have d1:=hx.s.b.sc
    have d2:=hx.s.m.sc
    have d3:=hx.s.p.v.sc
    have d4:=hx.q.v.sc
    have len1:(hold1 (s.d.nodes.take i) x).length≤1000:=by
      have h1:(hold1 (s.d.nodes.take i) x).length≤(s.d.nodes.take i).length:=List.length_filterMap_le _ _
      rw[List.length_take] at h1
      have:=H.w1;omega
    unfold viewC at e
    refine Wc_bx ?_
    rcases ho with ⟨hn,rfl⟩|⟨b0,rfl,hk,hb⟩
    · simp+contextual -implicitDefEqProofs (maxSteps:=1000000) (maxDischargeDepth:=20) only[go_sem,simprocAttr,e,r,g1,d1,d2,d3,d4,e_n,e_e,e_r]
      refine ⟨fun c=>⟨_,rfl,k.trans (keep_bx (by repeat first |exact LogOK.nil |apply LogOK.cons)),(bxt_old _ h' _ (bget_lt b1)).trans b1,?_⟩,fun c=>⟨_,rfl,k.trans (keep_bx (by repeat first |exact LogOK.nil |apply LogOK.cons)),(bxt_old _ h' _ (bget_lt b1)).trans b1,?_⟩⟩
      · rw[ht,if_pos c,List.map_append,hn]
        exact .some (nb h' 2) rfl (Nat.le_trans k.len nb_ge) nb_get
      · rw[ht,if_neg c,List.append_nil]
        exact .nil hn rfl
    · have o:=old_blk (bget_lt hb)
      have hb': ∀ l,bget (bxt h' l) b0=_:=fun l=>(bxt_old l h' _ (bget_lt hb)).trans hb
      have n1:nb h 1≠b0:=fun q=>by rw[q,hb] at b1;cases b1
      have fA:(1000000000000<((hold1 (s.d.nodes.take i) x).length+1)*8)=False:=by simp;omega
      have fC:List.take (hold1 (s.d.nodes.take i) x).length ((hold1 (s.d.nodes.take i) x).map i64C)=(hold1 (s.d.nodes.take i) x).map i64C:=List.take_of_length_le (by simp)
      rw[List.length_map]
      simp+contextual -implicitDefEqProofs (maxSteps:=1000000) (maxDischargeDepth:=20) only[go_sem,simprocAttr,e,r,g1,d1,d2,d3,d4,e_n,e_e,e_r,o,hb',List.length_map,fA,fB,fC]
      refine ⟨fun c=>⟨_,rfl,k.own hk (bget_lt hb) _ _ (LgG.ok (by repeat first |exact LgG.nil |refine LgG.cons (by first |exact nb_ge |exact Nat.le_trans (k.len) nb_ge |assumption) ?_)),(old_get (bget_lt hb) (bget_lt b1) n1 _ _).trans b1,?_⟩,fun c=>⟨_,rfl,k.trans (keep_bx (by repeat first |exact LogOK.nil |apply LogOK.cons)),(bxt_old _ h' _ (bget_lt b1)).trans b1,?_⟩⟩
      · rw[ht,if_pos c,List.map_append]
        exact .some (nb h' 2) (by simp) (Nat.le_trans k.len nb_ge) (o.2.1 _ _ _)
      · rw[ht,if_neg c,List.append_nil]
        exact .some b0 (by rw[List.length_map]) hk ((bxt_old _ h' _ (bget_lt hb)).trans hb)
  · obtain ⟨h',lg',d'⟩:=m'
    obtain ⟨k,b1,ho⟩:=hP
    obtain rfl:d'=[]:=k.dfrs
    have r:=rndl s.vs.length
    rw[←n1,List.take_length] at ho
    refine Wc_bx ?_
    simp+contextual -implicitDefEqProofs (maxSteps:=1000000) (maxDischargeDepth:=20) only[go_sem,simprocAttr,r,q_k]
    exact ⟨k.sub (d:=d),ho.sl⟩
end
section
variable {F:FuncId→Option AFunc} {meth:Meth} {sm:Summ}
def cpN (l:List BunD) (n:Int) (x:IdD):List Int:=l.filterMap fun b=>if b.id=x then some n else none
def hold2 (l:List ViewD) (x:IdD):List Int:=l.flatMap fun v=>cpN v.st.held v.cfg.node x
theorem cpN_take {l:List BunD} {n:Int} {x:IdD} {i:Nat} (hi:i<l.length):cpN (l.take (i+1)) n x=cpN (l.take i) n x++(if (gt l i).id=x then [n] else []):=by
  rw[cpN,cpN,List.take_add_one,List.getElem?_eq_getElem hi,Option.toList_some,List.filterMap_append,gt_eq hi]
  congr 1
  rw[List.filterMap_cons,List.filterMap_nil]
  split
  · rename_i h;split at h
    · cases h
    · rename_i q;rw[if_neg q]
  · rename_i h;split at h
    · rename_i q;cases h;rw[if_pos q]
    · cases h
theorem hold2_take {l:List ViewD} {x:IdD} {i:Nat} (hi:i<l.length):hold2 (l.take (i+1)) x=hold2 (l.take i) x++cpN (gt l i).st.held (gt l i).cfg.node x:=by
  rw[hold2,hold2,List.take_add_one,List.getElem?_eq_getElem hi,Option.toList_some,List.flatMap_append,gt_eq hi]
  simp
theorem cpN_len (l:List BunD) (n:Int) (x:IdD):(cpN l n x).length≤l.length:=List.length_filterMap_le _ _
theorem hold2_len {l:List ViewD} {x:IdD} (h: ∀ v∈l,v.st.held.length≤1000):(hold2 l x).length≤l.length*1000:=by
  induction l with
  |nil=>simp[hold2]
  | cons v l ih=>
    have h1:=cpN_len v.st.held v.cfg.node x
    have h2:=h v (by simp)
    have h3:=ih fun w hw=>h w (by simp[hw])
    simp only[hold2,List.flatMap_cons,List.length_append,List.length_cons] at h3 ⊢
    omega
theorem cpN_nil {l:List BunD} {n:Int} {x:IdD}:cpN l n x=[]↔ ¬ hasB l x=true:=by
  rw[cpN,List.filterMap_eq_nil_iff,hasB,List.any_eq_true]
  constructor
  · rintro h ⟨b,hb,hc⟩
    have:=h b hb
    rw[if_pos (of_decide_eq_true hc)] at this
    cases this
  · intro h b hb
    rw[if_neg (fun hc=>h ⟨b,hb,decide_eq_true hc⟩)]
theorem hold_iff {l:List ViewD} {x:IdD}:hold1 l x=[]↔hold2 l x=[]:=by
  rw[hold1,hold2,List.filterMap_eq_nil_iff,List.flatMap_eq_nil_iff]
  constructor
  · intro h v hv
    rw[cpN_nil]
    intro hc
    have:=h v hv
    rw[if_pos hc] at this
    cases this
  · intro h v hv
    rw[if_neg (cpN_nil.1 (h v hv))]
theorem Cl_e {α:Type} {live:List Pth} {V:α→List AV} {P:α→Mem→Prop} {E:AExit→Tr→Mem→Prop} (hE:Cl E):Cl (Ke live V P E):=fun e T T' m q h=>by
  cases e with
  | normal=>
    obtain ⟨a,h1,h2⟩:=h
    exact ⟨a,by rw[←h1];exact List.map_congr_left fun p _=>(q p).symm,h2⟩
  |exit j=>exact hE _ _ _ _ q h
  |ret=>exact hE _ _ _ _ q h
theorem e69 (hF:F 69=some AF69) (hs: ∀ vs m,sm 69 vs m=none) (n:Nat) (h:Blks) (lg d:List Nat) {s:SnapX} {x:IdD} (H:SnapAt h s):Wa F meth sm (n+2000) (.fn 69) [.agg (snapC s),.agg (idC x)] ⟨bxt h [],lg,d⟩ (Qk ⟨h,lg,d⟩ fun w h'=>SlAt h' 1 w ((hold2 s.d.nodes x).map i64C)):=by
  have c1:=H.v.sc
  have c2:=H.l.sc
  have l1:=H.v.len
  have n1:s.d.nodes.length=s.vs.length:=by simp[SnapX.d]
  have hh: ∀ v∈s.d.nodes,v.st.held.length≤1000:=fun v hv=>by
    obtain ⟨y,hy,rfl⟩:=List.mem_map.1 hv
    exact (H.va y hy).s.w1
  simp+contextual -implicitDefEqProofs (maxSteps:=1000000) (maxDischargeDepth:=20) only[go_sem,simprocAttr,hs,hF,AF69,snapC,idC,c1,c2,l1,List.length_map,q_k]
  refine WloopE (α:=AV) s.vs.length [X6,X5] (fun i a=> [.int .i64 i,a]) (fun i a m'=>Keep ⟨h,lg,[]⟩ m'∧bget m'.blks (nb h 0)=some (.row true 3 [[.int .i64 s.now,s.nv,s.lv]])∧bget m'.blks (nb h 1)=some (.row true 3 [[.int .i64 x.n,.int .u64 x.s,.int .i64 x.o]])∧OutAt h.length m'.blks 1 a ((hold2 (s.d.nodes.take i) x).map i64C)) (by have:=H.w1;omega) (by repeat first |apply Cl_b |apply Cl_q |apply Cl_r) ⟨.nilslice,rfl,keep_bx (by repeat first |exact LogOK.nil |apply LogOK.cons),nb_get,nb_get,.nil rfl rfl⟩ (fun i a m' g hi hP=> ?_) (fun a m' g hP=> ?_)
  · obtain ⟨h',lg',d'⟩:=m'
    obtain ⟨k,b0,b1,ho⟩:=hP
    obtain rfl:d'=[]:=k.dfrs
    simp only at b0 b1 ho
    have hs':SnapAt h' s:=SnapAt.keep (m:=⟨h,lg,[]⟩) (m':=⟨h',lg',[]⟩) H k
    have e:=hs'.v.el hi
    have r:=rnd hi (by have:=H.w1;omega)
    have l1':=hs'.v.len
    have hx:=hs'.va _ (gt_mem hi)
    have hx':i<s.d.nodes.length:=by omega
    have x1:gt s.d.nodes i=(gt s.vs i).v:=gt_mapV hi
    have d1:=hx.s.b.sc
    have d2:=hx.s.m.sc
    have d3:=hx.s.p.v.sc
    have d4:=hx.q.v.sc
    have b0': ∀ l,bget (bxt h' l) (nb h 0)=_:=fun l=>(bxt_old l h' _ (bget_lt b0)).trans b0
    unfold viewC at e
    refine Wc_bx ?_
    simp+contextual -implicitDefEqProofs (maxSteps:=1000000) (maxDischargeDepth:=20) only[go_sem,simprocAttr,e,r,b0',l1',d1,d2,d3,d4,List.length_map,e_n,e_e,e_r]
    refine WloopE (α:=AV) (gt s.vs i).v.st.held.length [X8,X5] (fun j a=> [.int .i64 j,a]) (fun j a m'=>Keep ⟨h,lg,[]⟩ m'∧bget m'.blks (nb h 0)=some (.row true 3 [[.int .i64 s.now,s.nv,s.lv]])∧bget m'.blks (nb h 1)=some (.row true 3 [[.int .i64 x.n,.int .u64 x.s,.int .i64 x.o]])∧OutAt h.length m'.blks 1 a ((hold2 (s.d.nodes.take i) x++cpN ((gt s.vs i).v.st.held.take j) (gt s.vs i).v.cfg.node x).map i64C)) (by have:=hx.s.w1;omega) (by repeat first |apply Cl_b |apply Cl_q |apply Cl_r |apply Cl_e) ⟨a,rfl,k,b0,b1,by rw[show cpN ((gt s.vs i).v.st.held.take 0) (gt s.vs i).v.cfg.node x=[] from rfl,List.append_nil];exact ho⟩ (fun j a m' g hj hP=> ?_) (fun a m' g hP=> ?_)
    · obtain ⟨h3,lg3,d3⟩:=m'
      obtain ⟨k,b0,b1,ho⟩:=hP
      obtain rfl:d3=[]:=k.dfrs
      simp only at b0 b1 ho
      have hs':SnapAt h3 s:=SnapAt.keep (m:=⟨h,lg,[]⟩) (m':=⟨h3,lg3,[]⟩) H k
      have e:=hs'.v.el hi
      have l1':=hs'.v.len
      have hx:=hs'.va _ (gt_mem hi)
      have e2:=hx.s.b.el hj
      have l2':=hx.s.b.len
      have r:=rnd hj (by have:=hx.s.w1;omega)
      have b0': ∀ l,bget (bxt h3 l) (nb h 0)=_:=fun l=>(bxt_old l h3 _ (bget_lt b0)).trans b0
      have b1': ∀ l,bget (bxt h3 l) (nb h 1)=_:=fun l=>(bxt_old l h3 _ (bget_lt b1)).trans b1
      have ht:=cpN_take (x:=x) (n:=(gt s.vs i).v.cfg.node) hj
      have len1:(hold2 (s.d.nodes.take i) x++cpN ((gt s.vs i).v.st.held.take j) (gt s.vs i).v.cfg.node x).length≤2000000:=by
        have h1:=hold2_len (x:=x) (l:=s.d.nodes.take i) fun v hv=>hh v (List.mem_of_mem_take hv)
        have h2:=cpN_len ((gt s.vs i).v.st.held.take j) (gt s.vs i).v.cfg.node x
        rw[List.length_take] at h1 h2
        have:=H.w1
        have:=hx.s.w1
        rw[List.length_append]
        have:(min i s.d.nodes.length)≤1000:=by omega
        omega
      generalize hL:hold2 (s.d.nodes.take i) x++cpN ((gt s.vs i).v.st.held.take j) (gt s.vs i).v.cfg.node x=L at ho len1
      have ht2:hold2 (s.d.nodes.take i) x++cpN ((gt s.vs i).v.st.held.take (j+1)) (gt s.vs i).v.cfg.node x=L++(if (gt (gt s.vs i).v.st.held j).id=x then [(gt s.vs i).v.cfg.node] else []):=by rw[ht,←List.append_assoc,hL]
      rw[ht2]
      unfold viewC at e
      unfold bunC at e2
      refine Wc_bx ?_
      rcases ho with ⟨hn,rfl⟩|⟨bo,rfl,hk,hb⟩
      · simp+contextual -implicitDefEqProofs (maxSteps:=1000000) (maxDischargeDepth:=20) only[go_sem,simprocAttr,e,e2,r,b0',b1',l1',l2',List.length_map,e_n,e_e,e_r,idD_eq]
        refine ⟨fun c=>⟨_,rfl,k.trans (keep_bx (by repeat first |exact LogOK.nil |apply LogOK.cons)),?_⟩,fun c=>⟨_,rfl,k.trans (keep_bx (by repeat first |exact LogOK.nil |apply LogOK.cons)),.nil hn rfl⟩⟩
        rw[List.map_append,hn]
        exact .some (nb h3 1) rfl (Nat.le_trans k.len nb_ge) nb_get
      · have o:=old_blk (bget_lt hb)
        have hb': ∀ l,bget (bxt h3 l) bo=_:=fun l=>(bxt_old l h3 _ (bget_lt hb)).trans hb
        have n0:nb h 0≠bo:=fun q=>by rw[q,hb] at b0;cases b0
        have n1:nb h 1≠bo:=fun q=>by rw[q,hb] at b1;cases b1
        have fA:(1000000000000<(L.length+1)*8)=False:=by simp;omega
        have fC:List.take L.length (L.map i64C)=L.map i64C:=List.take_of_length_le (by simp)
        rw[List.length_map]
        simp+contextual -implicitDefEqProofs (maxSteps:=1000000) (maxDischargeDepth:=20) only[go_sem,simprocAttr,e,e2,r,b0',b1',l1',l2',List.length_map,e_n,e_e,e_r,idD_eq,o,hb',fA,fB,fC]
        refine ⟨fun c=>⟨_,rfl,k.own hk (bget_lt hb) _ _ (LgG.ok (by repeat first |exact LgG.nil |refine LgG.cons (by first |exact nb_ge |exact Nat.le_trans (k.len) nb_ge |assumption) ?_)),(old_get (bget_lt hb) (bget_lt b0) n0 _ _).trans b0,(old_get (bget_lt hb) (bget_lt b1) n1 _ _).trans b1,?_⟩,fun c=>⟨_,rfl,k.trans (keep_bx (by repeat first |exact LogOK.nil |apply LogOK.cons)),?_⟩⟩
        · rw[List.map_append]
          exact .some (nb h3 1) (by simp) (Nat.le_trans k.len nb_ge) (o.2.1 _ _ _)
        · exact .some bo (by rw[List.length_map]) hk ((bxt_old _ h3 _ (bget_lt hb)).trans hb)
    · obtain ⟨h3,lg3,d3⟩:=m'
      obtain ⟨k,b0,b1,ho⟩:=hP
      obtain rfl:d3=[]:=k.dfrs
      simp only at b0 b1 ho
      have hs':SnapAt h3 s:=SnapAt.keep (m:=⟨h,lg,[]⟩) (m':=⟨h3,lg3,[]⟩) H k
      have l2':=(hs'.va _ (gt_mem hi)).s.b.len
      have r2:=rndl (gt s.vs i).v.st.held.length
      have ht:=hold2_take (x:=x) hx'
      rw[x1] at ht
      rw[List.take_length,←ht] at ho
      refine Wc_bx ?_
      simp+contextual -implicitDefEqProofs (maxSteps:=1000000) (maxDischargeDepth:=20) only[go_sem,simprocAttr,r,r2,l2',List.length_map,e_n,e_e,e_r]
      exact ⟨_,rfl,k,b0,b1,ho⟩
  · obtain ⟨h',lg',d'⟩:=m'
    obtain ⟨k,b0,b1,ho⟩:=hP
    obtain rfl:d'=[]:=k.dfrs
    simp only at b0 b1 ho
    have hs':SnapAt h' s:=SnapAt.keep (m:=⟨h,lg,[]⟩) (m':=⟨h',lg',[]⟩) H k
    have l1':=hs'.v.len
    have r:=rndl s.vs.length
    have b0': ∀ l,bget (bxt h' l) (nb h 0)=_:=fun l=>(bxt_old l h' _ (bget_lt b0)).trans b0
    rw[←n1,List.take_length] at ho
    refine Wc_bx ?_
    simp+contextual -implicitDefEqProofs (maxSteps:=1000000) (maxDischargeDepth:=20) only[go_sem,simprocAttr,r,q_k,b0',l1',List.length_map]
    exact ⟨k.sub (d:=d),ho.sl⟩
end
section
variable {F:FuncId→Option AFunc} {meth:Meth} {sm:Summ}
def dupBad (l:List BunD) (i:Nat):Int:=if hasB (l.take i) (gt l i).id=true then 9 else 0
def bBad (l:List BunD) (i:Nat):Int:=bunE (gt l i)
def listE (l:List BunD):Int:=if 1000<(l.length:Int) then 5 else if first (bBad l) l.length≠0 then first (bBad l) l.length else first (dupBad l) l.length
def idEnt (l:List BunD):List (AV × AV):=l.map fun b=>(.agg (idC b.id),.bool true)
theorem peq_id (x y:IdD):peq true [.i,.i,.i] (.agg (idC x)) (.agg (idC y))=some (decide (x=y)):=by
  show some ((x.n==y.n) && ((x.s==y.s) && ((x.o==y.o) && true)))=_
  congr 1
  rw[Bool.eq_iff_iff]
  simp only[Bool.and_true,Bool.and_eq_true,beq_iff_eq,decide_eq_true_iff]
  exact idD_eq x y
theorem find_id (x:IdD): ∀ l:List BunD,findE true [.i,.i,.i] (.agg (idC x)) (idEnt l)=some (if hasB l x=true then some (.bool true) else none)
  | []=>rfl
  | b ::l=>by
    have ih:=find_id x l
    show (match peq true [.i,.i,.i] (.agg (idC x)) (.agg (idC b.id)) with |some true=>_ |some false=>_ |none=>_)=_
    rw[peq_id,hasB,List.any_cons]
    by_cases h:b.id=x
    · rw[decide_eq_true h,decide_eq_true h.symm];rfl
    · rw[decide_eq_false h,decide_eq_false (fun q=>h q.symm)]
      simp only[Bool.false_or]
      exact ih
theorem set_id (x:IdD): ∀ l:List BunD,¬ hasB l x=true→setE true [.i,.i,.i] (.agg (idC x)) (.bool true) (idEnt l)=some (idEnt l++ [(.agg (idC x),.bool true)])
  | [],_=>rfl
  | b::l,h=>by
    rw[hasB,List.any_cons] at h
    have h1: ¬ b.id=x:=fun q=>h (by rw[decide_eq_true q];rfl)
    rw[decide_eq_false h1,Bool.false_or] at h
    have ih:=set_id x l h
    show (match peq true [.i,.i,.i] (.agg (idC x)) (.agg (idC b.id)) with |some true=>_ |some false=>(setE true [.i,.i,.i] (.agg (idC x)) (.bool true) (idEnt l)).map _ |none=>_)=_
    rw[peq_id,decide_eq_false (fun q=>h1 q.symm),ih]
    rfl
theorem idEnt_take {l:List BunD} {i:Nat} (hi:i<l.length):idEnt (l.take (i+1))=idEnt (l.take i)++ [(.agg (idC (gt l i).id),.bool true)]:=by
  rw[idEnt,idEnt,List.take_add_one,List.getElem?_eq_getElem hi,Option.toList_some,List.map_append,gt_eq hi];rfl
theorem e40 (hF:F 40=some AF40) (hs: ∀ vs m,sm 40 vs m=none) (n:Nat) (h:Blks) (lg d:List Nat) (h63:H63 sm) {l:List BunD} {v:AV} (hv:SlAt h 9 v (l.map bunC)) (hw:l.length≤10000) (hd: ∀ x∈l,x.data.length≤1000000∧I x.total):Ev F meth sm (n+2000) 40 [v] ⟨h,lg,d⟩ (.int .i64 (listE l)):=by
  refine Ev.ofW ?_
  have lv:=hv.len
  simp+contextual -implicitDefEqProofs (maxSteps:=1000000) (maxDischargeDepth:=20) only[go_sem,simprocAttr,hs,hF,AF40,lv,List.length_map]
  refine ⟨fun e1=>by rw[listE,if_pos e1],fun e1=> ?_⟩
  have e0:listE l=if first (bBad l) l.length≠0 then first (bBad l) l.length else first (dupBad l) l.length:=by rw[listE,if_neg e1]
  refine WloopK l.length [X14] (fun i=> [.int .i64 i]) (FP (bBad l) l.length) (by omega) (by repeat first |apply Cl_b |apply Cl_q |apply Cl_r) ⟨rfl,FP.zero _ _⟩ (fun i h' lg' g hi hP hK=> ?_) (fun h' lg' g hP hK=> ?_)
  · have a:=hK.all (lg:=lg) (d:=d) (by repeat first |exact LogOK.nil |apply LogOK.cons)
    have e:=(hK.sl hv).el hi
    have r:=rnd hi (by omega)
    have u:=hd _ (gt_mem hi)
    have g1:=fun m=>h63 (gt l i) m u.1 u.2
    unfold bunC at e g1
    simp+contextual -implicitDefEqProofs (maxSteps:=1000000) (maxDischargeDepth:=20) only[go_sem,simprocAttr,a,e,r,g1]
    refine ⟨fun c=> ?_,fun c=>hP.next hi c⟩
    have:=hP.s1 hi (x:=bunE (gt l i)) ⟨rfl,c⟩
    rw[e0,if_pos (by rw[←this];exact c)]
    exact this
  · have a:=hK.all (lg:=lg) (d:=d) (by repeat first |exact LogOK.nil |apply LogOK.cons)
    have r:=rndl l.length
    have hz:=hP.last.1
    have hv':=hK.sl hv
    have lv':=hv'.len
    simp+contextual -implicitDefEqProofs (maxSteps:=1000000) (maxDischargeDepth:=20) only[go_sem,simprocAttr,a,r,lv',List.length_map]
    have e2:listE l=first (dupBad l) l.length:=by rw[e0,if_neg (by omega)]
    have k0:Keep ⟨h,lg,[]⟩ ⟨bxt h' [some (.map [])],nb h' 0::lg',[]⟩:=hK.trans (keep_bx (by repeat first |exact LogOK.nil |apply LogOK.cons))
    refine WloopV l.length [X27] (fun i=> [.int .i64 i]) (fun i m'=>Keep ⟨h,lg,[]⟩ m'∧bget m'.blks (nb h' 0)=some (.map (idEnt (l.take i)))∧FP (dupBad l) l.length i) (by omega) (by repeat first |apply Cl_b |apply Cl_q |apply Cl_r) ⟨rfl,k0,nb_get,FP.zero _ _⟩ (fun i m' g hi hP=> ?_) (fun m' g hP=> ?_)
    · obtain ⟨h3,lg3,d3⟩:=m'
      obtain ⟨k,b0,hp⟩:=hP
      obtain rfl:d3=[]:=k.dfrs
      simp only at b0
      have hv3:SlAt h3 9 v (l.map bunC):=SlAt.keep (m:=⟨h,lg,[]⟩) (m':=⟨h3,lg3,[]⟩) hv k
      have e:=hv3.el hi
      have r:=rnd hi (by omega)
      have b0': ∀ q,bget (bxt h3 q) (nb h' 0)=_:=fun q=>(bxt_old q h3 _ (bget_lt b0)).trans b0
      have o:=old_blk (bget_lt b0)
      have f1:=find_id (gt l i).id (l.take i)
      have p1:=peq_id (gt l i).id (gt l i).id
      have f2:=set_id (gt l i).id (l.take i)
      have it:=idEnt_take hi
      unfold bunC at e
      unfold idC at f1 f2 p1
      rw[decide_eq_true rfl] at p1
      refine Wc_bx ?_
      by_cases hc:hasB (l.take i) (gt l i).id=true
      · rw[if_pos hc] at f1
        simp+contextual -implicitDefEqProofs (maxSteps:=1000000) (maxDischargeDepth:=20) only[go_sem,simprocAttr,e,r,b0',f1,p1]
        rw[e2]
        exact ⟨hp.s1 hi ⟨by rw[dupBad,if_pos hc],by omega⟩,(k.sub (d:=d)).trans (keep_bx (by repeat first |exact LogOK.nil |apply LogOK.cons))⟩
      · rw[if_neg hc] at f1
        have f2:=f2 hc
        simp+contextual -implicitDefEqProofs (maxSteps:=1000000) (maxDischargeDepth:=20) only[go_sem,simprocAttr,e,r,b0',f1,f2,p1,o]
        have q1:(bxt h []).length≤h'.length:=hK.len
        have q2:h'.length≤nb h' 0:=nb_ge
        have hle:h.length≤nb h' 0:=Nat.le_trans q1 q2
        exact ⟨k.own (b:=nb h' 0) hle (bget_lt b0) _ _ (LgG.ok (by repeat first |exact LgG.nil |refine LgG.cons (by first |exact nb_ge |exact Nat.le_trans (k.len) nb_ge |assumption) ?_)),by rw[it];rfl,hp.next hi (by rw[dupBad,if_neg hc])⟩
    · obtain ⟨h3,lg3,d3⟩:=m'
      obtain ⟨k,b0,hp⟩:=hP
      obtain rfl:d3=[]:=k.dfrs
      refine Wc_bx ?_
      simp+contextual -implicitDefEqProofs (maxSteps:=1000000) (maxDischargeDepth:=20) only[go_sem,simprocAttr,r]
      rw[e2]
      exact ⟨hp.last.1.symm,k.sub⟩
def H40 (sm:Summ):Prop:= ∀ (l:List BunD) (v:AV) (m:Mem),SlAt m.blks 9 v (l.map bunC)→l.length≤10000→(∀ x∈l,x.data.length≤1000000∧I x.total)→sm 40 [v] m=some (.int .i64 (listE l),m)
def H42 (sm:Summ):Prop:= ∀ (l:List BunD) (v:AV) (m:Mem),SlAt m.blks 9 v (l.map bunC)→l.length≤10000→(∀ x∈l,x.data.length≤1000000∧I x.total)→sm 42 [v] m=some (.int .i64 (listE l),m)
theorem hasB_take {l:List BunD} {x:IdD} {k:Nat} (hk:k<l.length):hasB (l.take (k+1)) x=(hasB (l.take k) x ||decide ((gt l k).id=x)):=by
  rw[hasB,hasB,List.take_add_one,List.getElem?_eq_getElem hk,Option.toList_some,List.any_append,gt_eq hk]
  simp
theorem Cl_v {live:List Pth} {vs:List AV} {P:Mem→Prop} {E:AExit→Tr→Mem→Prop} (hE:Cl E):Cl (Kv live vs P E):=fun e T T' m q h=>by
  cases e with
  |normal=>exact ⟨by rw[←h.1];exact List.map_congr_left fun p _=>(q p).symm,h.2⟩
  |exit j=>exact hE _ _ _ _ q h
  |ret=>exact hE _ _ _ _ q h
theorem e42 (hF:F 42=some AF42) (hs: ∀ vs m,sm 42 vs m=none) (n:Nat) (h:Blks) (lg d:List Nat) (h68:H68 sm) {l:List BunD} {v:AV} (hv:SlAt h 9 v (l.map bunC)) (hw:l.length≤10000) (hd: ∀ x∈l,x.data.length≤1000000∧I x.total):Ev F meth sm (n+2000) 42 [v] ⟨h,lg,d⟩ (.int .i64 (listE l)):=by
  refine Ev.ofW ?_
  have lv:=hv.len
  simp+contextual -implicitDefEqProofs (maxSteps:=1000000) (maxDischargeDepth:=20) only[go_sem,simprocAttr,hs,hF,AF42,lv,List.length_map]
  refine ⟨fun e1=>by rw[listE,if_pos e1],fun e1=> ?_⟩
  have e0:listE l=if first (bBad l) l.length≠0 then first (bBad l) l.length else first (dupBad l) l.length:=by rw[listE,if_neg e1]
  refine WloopK l.length [X3] (fun i=> [.int .i64 i]) (FP (bBad l) l.length) (by omega) (by repeat first |apply Cl_b |apply Cl_q |apply Cl_r) ⟨rfl,FP.zero _ _⟩ (fun i h' lg' g hi hP hK=> ?_) (fun h' lg' g hP hK=> ?_)
  · have a:=hK.all (lg:=lg) (d:=d) (by repeat first |exact LogOK.nil |apply LogOK.cons)
    have e:=(hK.sl hv).el hi
    have r:=rnd hi (by omega)
    have u:=hd _ (gt_mem hi)
    have g1:=fun m=>h68 (gt l i) m u.1 u.2
    unfold bunC at e g1
    simp+contextual -implicitDefEqProofs (maxSteps:=1000000) (maxDischargeDepth:=20) only[go_sem,simprocAttr,a,e,r,g1,lv,List.length_map]
    refine ⟨fun c=> ?_,fun c=>hP.next hi c⟩
    have:=hP.s1 hi (x:=bunE (gt l i)) ⟨rfl,c⟩
    rw[e0,if_pos (by rw[←this];exact c)]
    exact this
  · have a:=hK.all (lg:=lg) (d:=d) (by repeat first |exact LogOK.nil |apply LogOK.cons)
    have r:=rndl l.length
    have hz:=hP.last.1
    simp+contextual -implicitDefEqProofs (maxSteps:=1000000) (maxDischargeDepth:=20) only[go_sem,simprocAttr,a,r,lv,List.length_map]
    have e2:listE l=first (dupBad l) l.length:=by rw[e0,if_neg (by omega)]
    refine WloopK l.length [X5] (fun i=> [.int .i64 i]) (FP (dupBad l) l.length) (by omega) (by repeat first |apply Cl_b |apply Cl_q |apply Cl_r) ⟨rfl,FP.zero _ _⟩ (fun i h2 lg2 g2 hi hP2 hK2=> ?_) (fun h2 lg2 g2 hP2 hK2=> ?_)
    · have a2:=hK2.all (lg:=lg') (d:=d) (by repeat first |exact LogOK.nil |apply LogOK.cons)
      have a:=Keep.all (lg:=lg) (d:=d) (hK.trans hK2) (by repeat first |exact LogOK.nil |apply LogOK.cons)
      have r:=rnd hi (by omega)
      simp+contextual -implicitDefEqProofs (maxSteps:=1000000) (maxDischargeDepth:=20) only[go_sem,simprocAttr,a,a2,r,lv,List.length_map]
      refine WloopK i [X6] (fun k=> [.int .i64 k]) (fun k=> ¬ hasB (l.take k) (gt l i).id=true) (by omega) (by repeat first |apply Cl_b |apply Cl_q |apply Cl_r |apply Cl_v |apply Cl_e) ⟨rfl,by simp[hasB]⟩ (fun k h3 lg3 g3 hk hP3 hK3=> ?_) (fun h3 lg3 g3 hP3 hK3=> ?_)
      · have kk:=(hK.trans hK2).trans hK3
        have a:=Keep.all (lg:=lg) (d:=d) kk (by repeat first |exact LogOK.nil |apply LogOK.cons)
        have sl:=kk.sl hv
        have e:=sl.el hi
        have e3:=sl.el (i:=k) (by omega)
        have r3:=rnd hk (by omega)
        have ht:=hasB_take (l:=l) (x:=(gt l i).id) (k:=k) (by omega)
        unfold bunC at e e3
        simp+contextual -implicitDefEqProofs (maxSteps:=1000000) (maxDischargeDepth:=20) only[go_sem,simprocAttr,a,e,e3,r3,lv,List.length_map]
        refine ⟨fun c=> ?_,fun c=>⟨hK3,?_⟩⟩
        · rw[e2]
          refine hP2.s1 hi ⟨?_,by omega⟩
          have hh:hasB (l.take i) (gt l i).id=true:=by
            rw[hasB,List.any_eq_true]
            refine ⟨gt l k,?_,decide_eq_true ((idD_eq _ _).1 c).symm⟩
            rw[gt_eq (show k<l.length by omega)]
            exact List.mem_take_iff_getElem.2 ⟨k,by omega,rfl⟩
          rw[dupBad,if_pos hh]
        · rw[ht]
          intro hq
          rcases Bool.or_eq_true_iff.1 hq with h1 |h1
          · exact hP3 h1
          · exact c ((idD_eq _ _).2 (of_decide_eq_true h1).symm)
      · have kk:=(hK.trans hK2).trans hK3
        have a:=Keep.all (lg:=lg) (d:=d) kk (by repeat first |exact LogOK.nil |apply LogOK.cons)
        have r3:=rndl i
        simp+contextual -implicitDefEqProofs (maxSteps:=1000000) (maxDischargeDepth:=20) only[go_sem,simprocAttr,a,r3,r]
        exact ⟨hK2.trans hK3,hP2.next hi (by rw[dupBad,if_neg hP3])⟩
    · have a2:=hK2.all (lg:=lg') (d:=d) (by repeat first |exact LogOK.nil |apply LogOK.cons)
      have a:=Keep.all (lg:=lg) (d:=d) (hK.trans hK2) (by repeat first |exact LogOK.nil |apply LogOK.cons)
      have r:=rndl l.length
      simp+contextual -implicitDefEqProofs (maxSteps:=1000000) (maxDischargeDepth:=20) only[go_sem,simprocAttr,a,a2,r,lv,List.length_map]
      rw[e2]
      exact hP2.last.1.symm
end
section
variable {F:FuncId→Option AFunc} {meth:Meth} {sm:Summ}
theorem snap_nodes {D:SnapD} (h:snapE D=0):D.nodes.length≤16∧ ∀ i,i<D.nodes.length→cfgE (gt D.nodes i).cfg=0∧viewE (gt D.nodes i)=0∧(0<i→(gt D.nodes (i - 1)).cfg.node<(gt D.nodes i).cfg.node):=by
  rw[snapE] at h
  split at h
  · omega
  · split at h
    · omega
    · rename_i q1 q2
      split at h
      · omega
      · rename_i q3
        refine ⟨by omega,fun i hi=> ?_⟩
        have hz := (ffrom_zero D.nodes.length 0).1 (show ffrom _ 0 _ = 0 by have:first (nodeBad D.nodes) D.nodes.length=0:=by omega
                                                                            exact this) i (by omega) (by omega)
        rw[nodeBad] at hz
        split at hz
        · omega
        · split at hz
          · omega
          · exact ⟨by omega,hz,fun h=>by omega⟩
theorem snap_asc {D:SnapD} (h:snapE D=0): ∀ i,i<D.nodes.length→ ∀ j,j<i→(gt D.nodes j).cfg.node<(gt D.nodes i).cfg.node
  |0,_,j,hj=>by omega
  | i +1,hi,j,hj=>by
    have h1:=((snap_nodes h).2 (i+1) hi).2.2 (by omega)
    rw[Nat.add_sub_cancel] at h1
    rcases Nat.lt_or_ge j i with h2 |h2
    · have:=snap_asc h i (by omega) j h2
      omega
    · rw[show j=i by omega];exact h1
theorem cfg_node {c:CfgD} (h:cfgE c=0):1≤c.node∧c.node≤16∧1≤c.quota∧c.quota≤1099511627776:=by
  rw[cfgE] at h
  split at h
  · rename_i q;exact ⟨q.1.1,q.1.2,q.2.1.1,q.2.1.2⟩
  · omega
theorem view_ok {v:ViewD} (h:viewE v=0):stateE v.st=0∧v.st.node=v.cfg.node∧1≤v.st.boot∧first (vPeerBad v.cfg.node v.peers) v.peers.length=0:=by
  rw[viewE] at h
  split at h
  · omega
  · split at h
    · omega
    · exact ⟨by omega,by omega,by omega,h⟩
def vEnt (nv:AV) (l:List VX):Nat→List (AV × AV)
  |0=> []
  |k+1=>vEnt nv l k++ [(.int .i64 (gt l k).v.cfg.node,.ptr (sb nv) (si nv+k) 0)]
theorem findE_app (agg:Bool) (sh:List CK) (k:AV) (b:List (AV × AV)): ∀ a:List (AV × AV),findE agg sh k a=some none→findE agg sh k (a++b)=findE agg sh k b
  | [],_=>rfl
  | (k',v)::a,h=>by
    rw[List.cons_append,findE]
    rw[findE] at h
    cases hp:peq agg sh k k' with
    |none=>rw[hp] at h;cases h
    | some x=>
      rw[hp] at h
      cases x with
      |true=>cases h
      |false=>exact findE_app agg sh k b a h
theorem findE_app2 (agg:Bool) (sh:List CK) (k:AV) (b:List (AV × AV)) (v:AV): ∀ a:List (AV × AV),findE agg sh k a=some (some v)→findE agg sh k (a++b)=some (some v)
  | [],h=>by cases h
  | (k',w)::a,h=>by
    rw[List.cons_append,findE]
    rw[findE] at h
    cases hp:peq agg sh k k' with
    |none=>rw[hp] at h;cases h
    | some x=>
      rw[hp] at h
      cases x with
      |true=>exact h
      |false=>exact findE_app2 agg sh k b v a h
theorem setE_new (agg:Bool) (sh:List CK) (k v:AV): ∀ a:List (AV × AV),findE agg sh k a=some none→setE agg sh k v a=some (a++ [(k,v)])
  | [],_=>rfl
  | (k',w)::a,h=>by
    rw[setE]
    rw[findE] at h
    cases hp:peq agg sh k k' with
    |none=>rw[hp] at h;cases h
    | some x=>
      rw[hp] at h
      cases x with
      |true=>cases h
      |false=>rw[show setE agg sh k v a=_ from setE_new agg sh k v a h];rfl
theorem findE_one (x y:Int) (v:AV):findE false [.i] (.int .i64 x) [(.int .i64 y,v)]=some (if x=y then some v else none):=by
  show (match some (x==y) with |some true=>some (some v)|some false=>some none |none=>none)=_
  by_cases h:x=y
  · rw[if_pos h,show (x==y)=true from by simp[h]]
  · rw[if_neg h,show (x==y)=false from by simp[h]]
theorem find_v (nv:AV) (l:List VX) (x:Int): ∀ k,(∀ j,j<k→(gt l j).v.cfg.node≠x)→findE false [.i] (.int .i64 x) (vEnt nv l k)=some none
  |0,_=>rfl
  | k+1,h=>by
    rw[vEnt,findE_app _ _ _ _ _ (find_v nv l x k fun j hj=>h j (by omega)),findE_one,if_neg (fun q=>h k (by omega) q.symm)]
theorem find_v2 (nv:AV) (l:List VX) (x:Int) {i:Nat} (hx:(gt l i).v.cfg.node=x) (hn: ∀ j,j<i→(gt l j).v.cfg.node≠x): ∀ k,i<k→findE false [.i] (.int .i64 x) (vEnt nv l k)=some (some (.ptr (sb nv) (si nv+i) 0))
  |0,h=>by omega
  | k +1,h=>by
    rw[vEnt]
    rcases Nat.lt_or_ge i k with h1 |h1
    · exact findE_app2 _ _ _ _ _ _ (find_v2 nv l x hx hn k h1)
    · obtain rfl:i=k:=by omega
      rw[findE_app _ _ _ _ _ (find_v nv l x i hn),findE_one,if_pos hx.symm]
structure Lk (h:Blks) (lg:List Nat) (s:SnapX) (c:Nat) (m:Mem):Prop where
  k:Keep ⟨h,lg,[]⟩ m
  b0:bget m.blks (nb h 0)=some (.row true 3 [[.int .i64 s.now,s.nv,s.lv]])
  b1:bget m.blks (nb h 1)=some (.row true 4 [[.int .i64 0,.nilslice,.nilslice,.nilmap]])
  b2:bget m.blks (nb h 2)=some (.map (vEnt s.nv s.vs c))
  b3:bget m.blks (nb h 3)=some (.row true 4 [[.int .i64 s.now,s.nv,s.lv,.map (nb h 2)]])
theorem e29 (hF:F 29=some AF29) (hs: ∀ vs m,sm 29 vs m=none) (n:Nat) (h:Blks) (lg d:List Nat) (h13:H13 sm) {s:SnapX} (H:SnapAt h s):Wa F meth sm (n+2000) (.fn 29) [.agg (snapC s)] ⟨bxt h [],lg,d⟩ (Qk ⟨h,lg,d⟩ fun w h'=>if snapE s.d=0 then ∃ b,w= .tuple [.agg (snapC s++ [.map b]),.int .i64 0]∧bget h' b=some (.map (vEnt s.nv s.vs s.vs.length)) else w= .tuple [.agg [.int .i64 0,.nilslice,.nilslice,.nilmap],.int .i64 (snapE s.d)]):=by
  have c1:=H.v.sc
  have c2:=H.l.sc
  have l1:=H.v.len
  have n1:s.d.nodes.length=s.vs.length:=by simp[SnapX.d]
  have g1:=fun q lg d=>h13 s ⟨bxt h q,lg,d⟩ (H.bx q)
  unfold snapC at g1
  by_cases hz:snapE s.d=0
  · simp only[if_pos hz]
    rw[hz] at g1
    simp+contextual -implicitDefEqProofs (maxSteps:=1000000) (maxDischargeDepth:=20) only[go_sem,simprocAttr,hs,hF,AF29,snapC,c1,c2,l1,g1,List.length_map,q_k]
    refine WloopV s.vs.length [X19] (fun i=> [.int .i64 i]) (Lk h lg s) (by have:=H.w1;omega) (by repeat first |apply Cl_b |apply Cl_q |apply Cl_r) ⟨rfl,keep_bx (by repeat first |exact LogOK.nil |apply LogOK.cons),nb_get,nb_get,nb_get,nb_get⟩ (fun i m' g hi hP=> ?_) (fun m' g hP=> ?_)
    · obtain ⟨h',lg',d'⟩:=m'
      obtain ⟨k,b0,b1,b2,b3⟩:=hP
      obtain rfl:d'=[]:=k.dfrs
      simp only at b0 b1 b2 b3
      have hs':SnapAt h' s:=SnapAt.keep (m:=⟨h,lg,[]⟩) (m':=⟨h',lg',[]⟩) H k
      have e:=hs'.v.el hi
      have r:=rnd hi (by have:=H.w1;omega)
      have b0': ∀ l,bget (bxt h' l) (nb h 0)=_:=fun l=>(bxt_old l h' _ (bget_lt b0)).trans b0
      have b2': ∀ l,bget (bxt h' l) (nb h 2)=_:=fun l=>(bxt_old l h' _ (bget_lt b2)).trans b2
      have b3': ∀ l,bget (bxt h' l) (nb h 3)=_:=fun l=>(bxt_old l h' _ (bget_lt b3)).trans b3
      have o:=old_blk (bget_lt b2)
      have fr: ∀ j,j<i→(gt s.vs j).v.cfg.node≠(gt s.vs i).v.cfg.node:=fun j hj=>by
        have:=snap_asc hz i (by omega) j hj
        rw[show gt s.d.nodes i=(gt s.vs i).v from gt_mapV hi,show gt s.d.nodes j=(gt s.vs j).v from gt_mapV (by omega)] at this
        omega
      have f1:=setE_new false [.i] (.int .i64 (gt s.vs i).v.cfg.node) (.ptr (sb s.nv) (si s.nv+i) 0) _ (find_v s.nv s.vs _ i fr)
      have p1:peq false [.i] (.int .i64 (gt s.vs i).v.cfg.node) (.int .i64 (gt s.vs i).v.cfg.node)=some true:=by
        show some ((gt s.vs i).v.cfg.node==(gt s.vs i).v.cfg.node)=_
        simp
      unfold viewC at e
      refine Wc_bx ?_
      simp+contextual -implicitDefEqProofs (maxSteps:=1000000) (maxDischargeDepth:=20) only[go_sem,simprocAttr,e,r,b0',b2',b3',o,f1,p1,r_vc,r_vp,mskO,Mem.more,bmore,nb_more,List.filter_nil,List.flatMap_nil,List.filter_cons,List.flatMap_cons,List.map_nil,List.map_cons,mask,unmask,AOp.reads,AOpnd.top,top_p,top_s,top_m,top_i,top_b,top_t,top_a,top_u,top_ns,top_s0,top_d,top_f,nb_beq,nb_blt,nb_add,nidOf,slotIn,Nat.beq_refl,clash,Bool.or_self,List.any_nil,List.any_cons,AOp.isMaker]
      have q: ∀ {j c},bget h' (nb h j)=some c→j≠2→ ∀ l x,bget (bxt (bput h' (nb h 2) x) l) (nb h j)=some c:=fun hj h1 l x=>(old_get (bget_lt b2) (bget_lt hj) (by rw[ne_eq,nb_inj];exact h1) l x).trans hj
      exact ⟨k.own nb_ge (bget_lt b2) _ _ (LgG.ok (by repeat first |exact LgG.nil |refine LgG.cons (by first |exact nb_ge |exact Nat.le_trans (k.len) nb_ge |assumption) ?_)),q b0 (by omega) _ _,q b1 (by omega) _ _,o.2.2.2.2.1 _ _,q b3 (by omega) _ _⟩
    · obtain ⟨h',lg',d'⟩:=m'
      obtain ⟨k,b0,b1,b2,b3⟩:=hP
      obtain rfl:d'=[]:=k.dfrs
      simp only at b0 b1 b2 b3
      have r:=rndl s.vs.length
      have o:=old_blk (bget_lt b1)
      have b1': ∀ l,bget (bxt h' l) (nb h 1)=_:=fun l=>(bxt_old l h' _ (bget_lt b1)).trans b1
      have b3': ∀ l,bget (bxt h' l) (nb h 3)=_:=fun l=>(bxt_old l h' _ (bget_lt b3)).trans b3
      refine Wc_bx ?_
      simp+contextual -implicitDefEqProofs (maxSteps:=1000000) (maxDischargeDepth:=20) only[go_sem,simprocAttr,r,b1',b3',o,c1,c2,q_k]
      exact ⟨(k.sub (d:=d)).own nb_ge (bget_lt b1) _ _ (LgG.ok (by repeat first |exact LgG.nil |refine LgG.cons (by first |exact nb_ge |exact Nat.le_trans (k.len) nb_ge |assumption) ?_)),nb h 2,rfl,(old_get (bget_lt b1) (bget_lt b2) (by rw[ne_eq,nb_inj];omega) _ _).trans b2⟩
  · simp only[if_neg hz]
    simp+contextual -implicitDefEqProofs (maxSteps:=1000000) (maxDischargeDepth:=20) only[go_sem,simprocAttr,hs,hF,AF29,snapC,c1,c2,l1,g1,hz,List.length_map,q_k]
end
section
variable {F:FuncId→Option AFunc} {meth:Meth} {sm:Summ}
def peersOf (x:VX):List PX:=if x.v.up=true then x.lq else x.lp
def blankX (o:Int):PX:=⟨⟨o,0,false,0,⟨0,0,0,[]⟩,⟨0,0,0,[],[]⟩⟩,.nilslice,.nilslice,.nilslice⟩
def pickX (l:List PX) (o:Int):PX:=(l.find? fun p=>decide (p.p.node=o)).getD (blankX o)
def peerX (x:VX) (o:Int):PX:=pickX (peersOf x) o
theorem pickX_drop {l:List PX} {o:Int} {i:Nat} (hi:i<l.length):pickX (l.drop i) o=if (gt l i).p.node=o then gt l i else pickX (l.drop (i+1)) o:=by
  rw[pickX,List.drop_eq_getElem_cons hi,List.find?_cons,←gt_eq hi]
  by_cases h:(gt l i).p.node=o
  · rw[if_pos h,decide_eq_true h];rfl
  · rw[if_neg h,decide_eq_false h];rfl
theorem pickX_at {h:Blks} {l:List PX} {o:Int} (H: ∀ x∈l,PeerAt h x.p x.s x.t x.k):PeerAt h (pickX l o).p (pickX l o).s (pickX l o).t (pickX l o).k:=by
  rw[pickX]
  cases hf:l.find? fun p=>decide (p.p.node=o) with
  |none=>exact ⟨⟨.none rfl (.inl rfl),Int.le_refl 0,Int.le_refl 0,show (0:Int)≤_ by omega,show (0:Int)≤_ by omega,fun x hx=>by cases hx⟩,⟨.none rfl (.inl rfl),.none rfl (.inl rfl),Int.le_refl 0,show (0:Int)≤_ by omega⟩⟩
  |some x=>exact H x (List.mem_of_find?_eq_some hf)
def H52 (sm:Summ):Prop:= ∀ (s:SnapX) (b:Nat) (i:Nat) (o:Int) (m:Mem),SnapAt m.blks s→snapE s.d=0→bget m.blks b=some (.map (vEnt s.nv s.vs s.vs.length))→i<s.vs.length→sm 52 [.agg (snapC s++ [.map b]),.int .i64 (gt s.vs i).v.cfg.node,.int .i64 o] m=some (.agg (pxC (peerX (gt s.vs i) o)),m)
theorem e52 (hF:F 52=some AF52) (hs: ∀ vs m,sm 52 vs m=none) (n:Nat) (h:Blks) (lg d:List Nat) {s:SnapX} {b i:Nat} {o:Int} (H:SnapAt h s) (hz:snapE s.d=0) (hb:bget h b=some (.map (vEnt s.nv s.vs s.vs.length))) (hi:i<s.vs.length):Ev F meth sm (n+2000) 52 [.agg (snapC s++ [.map b]),.int .i64 (gt s.vs i).v.cfg.node,.int .i64 o] ⟨h,lg,d⟩ (.agg (pxC (peerX (gt s.vs i) o))):=by
  refine Ev.ofW ?_
  have c1:=H.v.sc
  have c2:=H.l.sc
  have n1:s.d.nodes.length=s.vs.length:=by simp[SnapX.d]
  have e:=H.v.el hi
  have hx:=H.va _ (gt_mem hi)
  have fr: ∀ j,j<i→(gt s.vs j).v.cfg.node≠(gt s.vs i).v.cfg.node:=fun j hj=>by
    have:=snap_asc hz i (by omega) j hj
    rw[show gt s.d.nodes i=(gt s.vs i).v from gt_mapV hi,show gt s.d.nodes j=(gt s.vs j).v from gt_mapV (by omega)] at this
    omega
  have f1:=find_v2 s.nv s.vs _ rfl fr s.vs.length hi
  have p1:peq false [.i] (.int .i64 (gt s.vs i).v.cfg.node) (.int .i64 (gt s.vs i).v.cfg.node)=some true:=by
    show some ((gt s.vs i).v.cfg.node==(gt s.vs i).v.cfg.node)=_
    simp
  have hb': ∀ l,bget (bxt h l) b=_:=fun l=>(bxt_old l h _ (bget_lt hb)).trans hb
  have d1:=hx.s.b.sc
  have d2:=hx.s.m.sc
  have d3:=hx.s.p.v.sc
  have d4:=hx.q.v.sc
  have lp:=hx.s.p.v.len
  have lq:=hx.q.v.len
  unfold viewC at e
  simp+contextual -implicitDefEqProofs (maxSteps:=1000000) (maxDischargeDepth:=20) only[go_sem,simprocAttr,hs,hF,AF52,snapC,c1,c2,e,f1,p1,hb',d1,d2,d3,d4,lp,lq,List.length_map]
  refine ⟨fun hu=> ?_,fun hu=> ?_⟩
  · have ep:peerX (gt s.vs i) o=pickX (gt s.vs i).lq o:=by rw[peerX,peersOf,if_pos hu]
    have hw:(gt s.vs i).lq.length≤1000:=hx.w
    rw[ep]
    refine WloopK (gt s.vs i).lq.length [X30] (fun k=> [.int .i64 k]) (fun k=>pickX (gt s.vs i).lq o=pickX ((gt s.vs i).lq.drop k) o) (by omega) (by repeat first |apply Cl_b |apply Cl_q |apply Cl_r) ⟨rfl,rfl⟩ (fun k h' lg' g hk hP hK=> ?_) (fun h' lg' g hP hK=> ?_)
    · have a:=hK.all (lg:=lg) (d:=d) (by repeat first |exact LogOK.nil |apply LogOK.cons)
      have hp:=hK.ps hx.q
      have e:=hp.v.el hk
      have r:=rnd hk (by omega)
      have hy:=hp.p _ (gt_mem hk)
      have d1:=hy.s.s.sc
      have d2:=hy.r.t.sc
      have d3:=hy.r.k.sc
      have l1:nb h 1<h'.length:=bget_lt (h:=h') (a.1 [] 1 (by simp only[blen];omega))
      have ob:=old_blk l1
      rw[pickX_drop hk] at hP
      unfold pxC peerC at e
      simp+contextual -implicitDefEqProofs (maxSteps:=1000000) (maxDischargeDepth:=20) only[go_sem,simprocAttr,a,e,r,d1,d2,d3,ob]
      have k0:Keep ⟨h,lg,d⟩ ⟨h',lg',d⟩:=a.2.2 [] lg' (by repeat first |exact LogOK.nil |apply LogOK.cons)
      refine ⟨fun c=>⟨?_,k0.own nb_ge l1 _ _ (LgG.ok (by repeat first |exact LgG.nil |refine LgG.cons (by first |exact nb_ge |exact Nat.le_trans (k0.len) nb_ge |assumption) ?_))⟩,fun c=> ?_⟩
      · subst c
        rw[hP,if_pos rfl];rfl
      · rw[hP,if_neg c]
    · have a:=hK.all (lg:=lg) (d:=d) (by repeat first |exact LogOK.nil |apply LogOK.cons)
      have r:=rndl (gt s.vs i).lq.length
      have l1:nb h 1<h'.length:=bget_lt (h:=h') (a.1 [] 1 (by simp only[blen];omega))
      have ob:=old_blk l1
      rw[List.drop_length] at hP
      simp+contextual -implicitDefEqProofs (maxSteps:=1000000) (maxDischargeDepth:=20) only[go_sem,simprocAttr,a,r,ob]
      have k0:Keep ⟨h,lg,d⟩ ⟨h',lg',d⟩:=a.2.2 [] lg' (by repeat first |exact LogOK.nil |apply LogOK.cons)
      refine ⟨?_,k0.own nb_ge l1 _ _ (LgG.ok (by repeat first |exact LgG.nil |refine LgG.cons (by first |exact nb_ge |exact Nat.le_trans (k0.len) nb_ge |assumption) ?_))⟩
      rw[hP];rfl
  · have ep:peerX (gt s.vs i) o=pickX (gt s.vs i).lp o:=by rw[peerX,peersOf,if_neg hu]
    have hw:(gt s.vs i).lp.length≤1000:=hx.s.w3
    rw[ep]
    refine WloopK (gt s.vs i).lp.length [X30] (fun k=> [.int .i64 k]) (fun k=>pickX (gt s.vs i).lp o=pickX ((gt s.vs i).lp.drop k) o) (by omega) (by repeat first |apply Cl_b |apply Cl_q |apply Cl_r) ⟨rfl,rfl⟩ (fun k h' lg' g hk hP hK=> ?_) (fun h' lg' g hP hK=> ?_)
    · have a:=hK.all (lg:=lg) (d:=d) (by repeat first |exact LogOK.nil |apply LogOK.cons)
      have hp:=hK.ps hx.s.p
      have e:=hp.v.el hk
      have r:=rnd hk (by omega)
      have hy:=hp.p _ (gt_mem hk)
      have d1:=hy.s.s.sc
      have d2:=hy.r.t.sc
      have d3:=hy.r.k.sc
      have l1:nb h 1<h'.length:=bget_lt (h:=h') (a.1 [] 1 (by simp only[blen];omega))
      have ob:=old_blk l1
      rw[pickX_drop hk] at hP
      unfold pxC peerC at e
      simp+contextual -implicitDefEqProofs (maxSteps:=1000000) (maxDischargeDepth:=20) only[go_sem,simprocAttr,a,e,r,d1,d2,d3,ob]
      have k0:Keep ⟨h,lg,d⟩ ⟨h',lg',d⟩:=a.2.2 [] lg' (by repeat first |exact LogOK.nil |apply LogOK.cons)
      refine ⟨fun c=>⟨?_,k0.own nb_ge l1 _ _ (LgG.ok (by repeat first |exact LgG.nil |refine LgG.cons (by first |exact nb_ge |exact Nat.le_trans (k0.len) nb_ge |assumption) ?_))⟩,fun c=> ?_⟩
      · subst c
        rw[hP,if_pos rfl];rfl
      · rw[hP,if_neg c]
    · have a:=hK.all (lg:=lg) (d:=d) (by repeat first |exact LogOK.nil |apply LogOK.cons)
      have r:=rndl (gt s.vs i).lp.length
      have l1:nb h 1<h'.length:=bget_lt (h:=h') (a.1 [] 1 (by simp only[blen];omega))
      have ob:=old_blk l1
      rw[List.drop_length] at hP
      simp+contextual -implicitDefEqProofs (maxSteps:=1000000) (maxDischargeDepth:=20) only[go_sem,simprocAttr,a,r,ob]
      have k0:Keep ⟨h,lg,d⟩ ⟨h',lg',d⟩:=a.2.2 [] lg' (by repeat first |exact LogOK.nil |apply LogOK.cons)
      refine ⟨?_,k0.own nb_ge l1 _ _ (LgG.ok (by repeat first |exact LgG.nil |refine LgG.cons (by first |exact nb_ge |exact Nat.le_trans (k0.len) nb_ge |assumption) ?_))⟩
      rw[hP];rfl
def H54 (sm:Summ):Prop:= ∀ (x:VX) (o:Int) (m:Mem),ViewAt m.blks x→sm 54 [.agg (viewC x),.int .i64 o] m=some (.agg (pxC (peerX x o)),m)
theorem e54 (hF:F 54=some AF54) (hs: ∀ vs m,sm 54 vs m=none) (n:Nat) (h:Blks) (lg d:List Nat) {x:VX} {o:Int} (H:ViewAt h x):Ev F meth sm (n+2000) 54 [.agg (viewC x),.int .i64 o] ⟨h,lg,d⟩ (.agg (pxC (peerX x o))):=by
  refine Ev.ofW ?_
  have d1:=H.s.b.sc
  have d2:=H.s.m.sc
  have d3:=H.s.p.v.sc
  have d4:=H.q.v.sc
  simp+contextual -implicitDefEqProofs (maxSteps:=1000000) (maxDischargeDepth:=20) only[go_sem,simprocAttr,hs,hF,AF54,viewC,d1,d2,d3,d4]
  refine ⟨fun hu=> ?_,fun hu=> ?_⟩
  · have ep:peerX x o=pickX x.lq o:=by rw[peerX,peersOf,if_pos hu]
    have hw:x.lq.length≤1000:=H.w
    rw[ep]
    refine WloopK x.lq.length [X6] (fun k=> [.int .i64 k]) (fun k=>pickX x.lq o=pickX (x.lq.drop k) o) (by omega) (by repeat first |apply Cl_b |apply Cl_q |apply Cl_r) ⟨rfl,rfl⟩ (fun k h' lg' g hk hP hK=> ?_) (fun h' lg' g hP hK=> ?_)
    · have a:=hK.all (lg:=lg) (d:=d) (by repeat first |exact LogOK.nil |apply LogOK.cons)
      have hp:=hK.ps H.q
      have e:=hp.v.el hk
      have le:=hp.v.len
      have r:=rnd hk (by omega)
      have hy:=hp.p _ (gt_mem hk)
      have d1:=hy.s.s.sc
      have d2:=hy.r.t.sc
      have d3:=hy.r.k.sc
      have l1:nb h 1<h'.length:=bget_lt (h:=h') (a.1 [] 1 (by simp only[blen];omega))
      have ob:=old_blk l1
      rw[pickX_drop hk] at hP
      unfold pxC peerC at e
      simp+contextual -implicitDefEqProofs (maxSteps:=1000000) (maxDischargeDepth:=20) only[go_sem,simprocAttr,a,e,r,d1,d2,d3,ob,le,List.length_map]
      have k0:Keep ⟨h,lg,d⟩ ⟨h',lg',d⟩:=a.2.2 [] lg' (by repeat first |exact LogOK.nil |apply LogOK.cons)
      refine ⟨fun c=>⟨?_,k0.own nb_ge l1 _ _ (LgG.ok (by repeat first |exact LgG.nil |refine LgG.cons (by first |exact nb_ge |exact Nat.le_trans (k0.len) nb_ge |assumption) ?_))⟩,fun c=> ?_⟩
      · subst c
        rw[hP,if_pos rfl];rfl
      · rw[hP,if_neg c]
    · have a:=hK.all (lg:=lg) (d:=d) (by repeat first |exact LogOK.nil |apply LogOK.cons)
      have r:=rndl x.lq.length
      have hp:=hK.ps H.q
      have le:=hp.v.len
      have l1:nb h 1<h'.length:=bget_lt (h:=h') (a.1 [] 1 (by simp only[blen];omega))
      have ob:=old_blk l1
      rw[List.drop_length] at hP
      simp+contextual -implicitDefEqProofs (maxSteps:=1000000) (maxDischargeDepth:=20) only[go_sem,simprocAttr,a,r,ob,le,List.length_map]
      have k0:Keep ⟨h,lg,d⟩ ⟨h',lg',d⟩:=a.2.2 [] lg' (by repeat first |exact LogOK.nil |apply LogOK.cons)
      refine ⟨?_,k0.own nb_ge l1 _ _ (LgG.ok (by repeat first |exact LgG.nil |refine LgG.cons (by first |exact nb_ge |exact Nat.le_trans (k0.len) nb_ge |assumption) ?_))⟩
      rw[hP];rfl
  · have ep:peerX x o=pickX x.lp o:=by rw[peerX,peersOf,if_neg hu]
    have hw:x.lp.length≤1000:=H.s.w3
    rw[ep]
    refine WloopK x.lp.length [X6] (fun k=> [.int .i64 k]) (fun k=>pickX x.lp o=pickX (x.lp.drop k) o) (by omega) (by repeat first |apply Cl_b |apply Cl_q |apply Cl_r) ⟨rfl,rfl⟩ (fun k h' lg' g hk hP hK=> ?_) (fun h' lg' g hP hK=> ?_)
    · have a:=hK.all (lg:=lg) (d:=d) (by repeat first |exact LogOK.nil |apply LogOK.cons)
      have hp:=hK.ps H.s.p
      have e:=hp.v.el hk
      have le:=hp.v.len
      have r:=rnd hk (by omega)
      have hy:=hp.p _ (gt_mem hk)
      have d1:=hy.s.s.sc
      have d2:=hy.r.t.sc
      have d3:=hy.r.k.sc
      have l1:nb h 1<h'.length:=bget_lt (h:=h') (a.1 [] 1 (by simp only[blen];omega))
      have ob:=old_blk l1
      rw[pickX_drop hk] at hP
      unfold pxC peerC at e
      simp+contextual -implicitDefEqProofs (maxSteps:=1000000) (maxDischargeDepth:=20) only[go_sem,simprocAttr,a,e,r,d1,d2,d3,ob,le,List.length_map]
      have k0:Keep ⟨h,lg,d⟩ ⟨h',lg',d⟩:=a.2.2 [] lg' (by repeat first |exact LogOK.nil |apply LogOK.cons)
      refine ⟨fun c=>⟨?_,k0.own nb_ge l1 _ _ (LgG.ok (by repeat first |exact LgG.nil |refine LgG.cons (by first |exact nb_ge |exact Nat.le_trans (k0.len) nb_ge |assumption) ?_))⟩,fun c=> ?_⟩
      · subst c
        rw[hP,if_pos rfl];rfl
      · rw[hP,if_neg c]
    · have a:=hK.all (lg:=lg) (d:=d) (by repeat first |exact LogOK.nil |apply LogOK.cons)
      have r:=rndl x.lp.length
      have hp:=hK.ps H.s.p
      have le:=hp.v.len
      have l1:nb h 1<h'.length:=bget_lt (h:=h') (a.1 [] 1 (by simp only[blen];omega))
      have ob:=old_blk l1
      rw[List.drop_length] at hP
      simp+contextual -implicitDefEqProofs (maxSteps:=1000000) (maxDischargeDepth:=20) only[go_sem,simprocAttr,a,r,ob,le,List.length_map]
      have k0:Keep ⟨h,lg,d⟩ ⟨h',lg',d⟩:=a.2.2 [] lg' (by repeat first |exact LogOK.nil |apply LogOK.cons)
      refine ⟨?_,k0.own nb_ge l1 _ _ (LgG.ok (by repeat first |exact LgG.nil |refine LgG.cons (by first |exact nb_ge |exact Nat.le_trans (k0.len) nb_ge |assumption) ?_))⟩
      rw[hP];rfl
end
section
variable {F:FuncId→Option AFunc} {meth:Meth} {sm:Summ}
structure SnapN (s:SnapX):Prop where
  q: ∀ x∈s.vs,0≤x.v.cfg.quota
  h: ∀ x∈s.vs,∀ b∈x.v.st.held,0≤b.id.s
  p: ∀ x∈s.vs,∀ y∈x.lp,PN y.p
  r: ∀ x∈s.vs,∀ y∈x.lq,PN y.p
def PO (x:PX):Prop:=NoOsl x.s∧NoOsl x.t∧NoOsl x.k
structure SnapO (s:SnapX):Prop where
  p: ∀ x∈s.vs,∀ y∈x.lp,PO y
  r: ∀ x∈s.vs,∀ y∈x.lq,PO y
def W49 (F:FuncId→Option AFunc) (meth:Meth) (sm:Summ):Prop:= ∀ (n:Nat) (h:Blks) (lg d:List Nat) (own:Bool) (S:StateD) (b ms v:AV) (l:List PX) (q:Int),bget h 0=some (.row own 1 headsR)→StateAt h S b ms v l→0≤q→(∀ x∈S.held,0≤x.id.s)→(∀ x∈l,NoOsl x.t∧NoOsl x.k∧PN x.p)→
  Wa F meth sm (n+2000) (.fn 49) [.agg (stateC S b ms v),.int .u64 q] ⟨bxt h [],lg,d⟩ (Qk ⟨h,lg,d⟩ fun w _=> ∃ x y z,z.scalar=true∧w= .tuple [.agg [.int .u64 x,.int .u64 y,z],.int .i64 (spaceE S q)])
def spacesV (l:List ViewD):List VioD:=l.filterMap fun v=>if spaceE v.st v.cfg.quota≠0 then some ⟨1,v.cfg.node,0,⟨0,0,0⟩⟩ else none
theorem spacesV_take {l:List ViewD} {i:Nat} (hi:i<l.length):spacesV (l.take (i+1))=spacesV (l.take i)++(if spaceE (gt l i).st (gt l i).cfg.quota≠0 then [⟨1,(gt l i).cfg.node,0,⟨0,0,0⟩⟩] else []):=by
  rw[spacesV,spacesV,List.take_add_one,List.getElem?_eq_getElem hi,Option.toList_some,List.filterMap_append,gt_eq hi]
  congr 1
  rw[List.filterMap_cons,List.filterMap_nil]
  split
  · rename_i h;split at h
    · cases h
    · rename_i q;rw[if_neg q]
  · rename_i h;split at h
    · rename_i q;cases h;rw[if_pos q]
    · cases h
theorem e30 (hF:F 30=some AF30) (hs: ∀ vs m,sm 30 vs m=none) (n:Nat) (h:Blks) (lg d:List Nat) (g49:W49 F meth sm) {s:SnapX} {wv:AV} {own:Bool} (hg:bget h 0=some (.row own 1 headsR)) (H:SnapAt h s) (hN:SnapN s) (hO:SnapO s) (hw:wv.scalar=true):Wa F meth sm (n+3000) (.fn 30) [.agg (snapC s++ [wv])] ⟨bxt h [],lg,d⟩ (Qk ⟨h,lg,d⟩ fun w h'=>OutAt h.length h' 6 w ((spacesV s.d.nodes).map vioC)):=by
  have c1:=H.v.sc
  have c2:=H.l.sc
  have l1:=H.v.len
  have n1:s.d.nodes.length=s.vs.length:=by simp[SnapX.d]
  simp+contextual -implicitDefEqProofs (maxSteps:=1000000) (maxDischargeDepth:=20) only[go_sem,simprocAttr,hs,hF,AF30,snapC,c1,c2,hw,l1,List.length_map,q_k]
  refine WloopE (α:=AV) s.vs.length [X12,X3] (fun i a=> [.int .i64 i,a]) (fun i a m'=>Keep ⟨h,lg,[]⟩ m'∧OutAt h.length m'.blks 6 a ((spacesV (s.d.nodes.take i)).map vioC)) (by have:=H.w1;omega) (by repeat first |apply Cl_b |apply Cl_q |apply Cl_r) ⟨.nilslice,rfl,keep_bx (by repeat first |exact LogOK.nil |apply LogOK.cons),.nil rfl rfl⟩ (fun i a m' g hi hP=> ?_) (fun a m' g hP=> ?_)
  · obtain ⟨h',lg',d'⟩:=m'
    obtain ⟨k,ho⟩:=hP
    obtain rfl:d'=[]:=k.dfrs
    simp only at ho
    have hs':SnapAt h' s:=SnapAt.keep (m:=⟨h,lg,[]⟩) (m':=⟨h',lg',[]⟩) H k
    have e:=hs'.v.el hi
    have r:=rnd hi (by have:=H.w1;omega)
    have hx:=hs'.va _ (gt_mem hi)
    have d1:=hx.s.b.sc
    have d2:=hx.s.m.sc
    have d3:=hx.s.p.v.sc
    have d4:=hx.q.v.sc
    unfold viewC at e
    refine Wc_bx ?_
    simp+contextual -implicitDefEqProofs (maxSteps:=1000000) (maxDischargeDepth:=20) only[go_sem,simprocAttr,e,r,d1,d2,d3,d4]
    rw[←w_a]
    have hv:=hN.h _ (gt_mem hi)
    have hpp: ∀ y∈(gt s.vs i).lp,NoOsl y.t∧NoOsl y.k∧PN y.p:=fun y hy=>⟨(hO.p _ (gt_mem hi) y hy).2.1,(hO.p _ (gt_mem hi) y hy).2.2,hN.p _ (gt_mem hi) y hy⟩
    have hg': ∀ l,bget (bxt h' l) 0=some (.row own 1 headsR):=fun l=>(bxt_old l h' 0 (Nat.lt_of_lt_of_le (bget_lt hg) k.len)).trans ((k.get 0 (bget_lt hg)).trans hg)
    refine Wa_k (g49 (n+999) (bxt h' [some (.row true 1 ((viewC (gt s.vs i)).map fun c=> [c]))]) _ _ own (gt s.vs i).v.st (gt s.vs i).b (gt s.vs i).m (gt s.vs i).p (gt s.vs i).lp (gt s.vs i).v.cfg.quota (hg' _) (hx.s.bx _) (hN.q _ (gt_mem hi)) hv hpp) (fun w h2 lg2 k2 hw2=> ?_)
    obtain ⟨x,y,z,sz,rfl⟩:=hw2
    have z0:bget h2 (nb h' 0)=some (.row true 1 ((viewC (gt s.vs i)).map fun c=> [c])):=(k2.get _ (by rw[bxt_len];simp[nb])).trans nb_get
    have b0: ∀ l,bget (bxt h2 l) (nb h' 0)=some (.row true 1 ((viewC (gt s.vs i)).map fun c=> [c])):=fun l=>(bxt_old l h2 _ (bget_lt z0)).trans z0
    have kk:Keep ⟨h,lg,[]⟩ ⟨h2,lg2,[]⟩:=(k.trans (keep_bx (by repeat first |exact LogOK.nil |apply LogOK.cons))).trans k2
    have ho2:OutAt h.length h2 6 a ((spacesV (s.d.nodes.take i)).map vioC):=OutAt.keep (m:=⟨h',lg',[]⟩) (m':=⟨h2,lg2,[]⟩) ho ((keep_bx (by repeat first |exact LogOK.nil |apply LogOK.cons)).trans k2)
    have hx':i<s.d.nodes.length:=by omega
    have ht:=spacesV_take hx'
    rw[show gt s.d.nodes i=(gt s.vs i).v from gt_mapV hi] at ht
    have len1:(spacesV (s.d.nodes.take i)).length≤1000:=by
      have h1:(spacesV (s.d.nodes.take i)).length≤(s.d.nodes.take i).length:=List.length_filterMap_le _ _
      rw[List.length_take] at h1
      have:=H.w1;omega
    generalize spacesV (s.d.nodes.take i)=L at ho2 ht len1
    unfold viewC at b0
    simp only[List.map_cons,List.map_nil] at b0
    rcases ho2 with ⟨hn,rfl⟩|⟨bo,rfl,hk,hb⟩
    · simp+contextual -implicitDefEqProofs (maxSteps:=1000000) (maxDischargeDepth:=20) only[go_sem,simprocAttr,r,b0,sz,e_n,e_e,e_r]
      refine ⟨fun c=>⟨_,rfl,kk.trans (keep_bx (by repeat first |exact LogOK.nil |apply LogOK.cons)),?_⟩,fun c=>⟨_,rfl,kk.trans (keep_bx (by repeat first |exact LogOK.nil |apply LogOK.cons)),?_⟩⟩
      · rw[ht,if_pos c,List.map_append,hn]
        exact .some (nb h2 2) rfl (Nat.le_trans kk.len nb_ge) nb_get
      · rw[ht,if_neg (fun q=>q c),List.append_nil]
        exact .nil hn rfl
    · have o:=old_blk (bget_lt hb)
      have hb': ∀ l,bget (bxt h2 l) bo=_:=fun l=>(bxt_old l h2 _ (bget_lt hb)).trans hb
      have fA:(1000000000000<(L.length+1)*48)=False:=by simp;omega
      have fC:List.take L.length (L.map vioC)=L.map vioC:=List.take_of_length_le (by simp)
      rw[List.length_map]
      simp+contextual -implicitDefEqProofs (maxSteps:=1000000) (maxDischargeDepth:=20) only[go_sem,simprocAttr,r,b0,sz,e_n,e_e,e_r,o,hb',List.length_map,fA,fB,fC]
      refine ⟨fun c=>⟨_,rfl,kk.own hk (bget_lt hb) _ _ (LgG.ok (by repeat first |exact LgG.nil |refine LgG.cons (by first |exact nb_ge |exact Nat.le_trans (kk.len) nb_ge |assumption) ?_)),?_⟩,fun c=>⟨_,rfl,kk.trans (keep_bx (by repeat first |exact LogOK.nil |apply LogOK.cons)),?_⟩⟩
      · rw[ht,if_pos c,List.map_append]
        exact .some (nb h2 2) (by simp) (Nat.le_trans kk.len nb_ge) (o.2.1 _ _ _)
      · rw[ht,if_neg (fun q=>q c),List.append_nil]
        exact .some bo (by rw[List.length_map]) hk ((bxt_old _ h2 _ (bget_lt hb)).trans hb)
  · obtain ⟨h',lg',d'⟩:=m'
    obtain ⟨k,ho⟩:=hP
    obtain rfl:d'=[]:=k.dfrs
    have r:=rndl s.vs.length
    rw[←n1,List.take_length] at ho
    refine Wc_bx ?_
    simp+contextual -implicitDefEqProofs (maxSteps:=1000000) (maxDischargeDepth:=20) only[go_sem,simprocAttr,r,q_k]
    exact ⟨k.sub (d:=d),ho⟩
end
section
variable {F:FuncId→Option AFunc} {meth:Meth} {sm:Summ}
def W50 (F:FuncId→Option AFunc) (meth:Meth) (sm:Summ):Prop:= ∀ (n:Nat) (h:Blks) (lg d:List Nat) (S:StateD) (b ms v:AV) (l:List PX) (q:Int),StateAt h S b ms v l→0≤q→(∀ x∈S.held,0≤x.id.s)→(∀ x∈l,PN x.p)→
  Wa F meth sm (n+2000) (.fn 50) [.agg (stateC S b ms v),.int .u64 q] ⟨bxt h [],lg,d⟩ (Qk ⟨h,lg,d⟩ fun w _=> ∃ x y z,z.scalar=true∧w= .tuple [.agg [.int .u64 x,.int .u64 y,z],.int .i64 (spaceE S q)])
theorem e31 (hF:F 31=some AF31) (hs: ∀ vs m,sm 31 vs m=none) (n:Nat) (h:Blks) (lg d:List Nat) (g50:W50 F meth sm) {s:SnapX} (H:SnapAt h s) (hN:SnapN s):Wa F meth sm (n+3000) (.fn 31) [.agg (snapC s)] ⟨bxt h [],lg,d⟩ (Qk ⟨h,lg,d⟩ fun w h'=>OutAt h.length h' 6 w ((spacesV s.d.nodes).map vioC)):=by
  have c1:=H.v.sc
  have c2:=H.l.sc
  have l1:=H.v.len
  have n1:s.d.nodes.length=s.vs.length:=by simp[SnapX.d]
  simp+contextual -implicitDefEqProofs (maxSteps:=1000000) (maxDischargeDepth:=20) only[go_sem,simprocAttr,hs,hF,AF31,snapC,c1,c2,l1,List.length_map,q_k]
  refine WloopE (α:=AV) s.vs.length [X4,X3] (fun i a=> [.int .i64 i,a]) (fun i a m'=>Keep ⟨h,lg,[]⟩ m'∧bget m'.blks (nb h 0)=some (.row true 3 [[.int .i64 s.now,s.nv,s.lv]])∧OutAt h.length m'.blks 6 a ((spacesV (s.d.nodes.take i)).map vioC)) (by have:=H.w1;omega) (by repeat first |apply Cl_b |apply Cl_q |apply Cl_r) ⟨.nilslice,rfl,keep_bx (by repeat first |exact LogOK.nil |apply LogOK.cons),nb_get,.nil rfl rfl⟩ (fun i a m' g hi hP=> ?_) (fun a m' g hP=> ?_)
  · obtain ⟨h',lg',d'⟩:=m'
    obtain ⟨k,b0,ho⟩:=hP
    obtain rfl:d'=[]:=k.dfrs
    simp only at ho b0
    have hs':SnapAt h' s:=SnapAt.keep (m:=⟨h,lg,[]⟩) (m':=⟨h',lg',[]⟩) H k
    have e:=hs'.v.el hi
    have l1':=hs'.v.len
    have r:=rnd hi (by have:=H.w1;omega)
    have hx:=hs'.va _ (gt_mem hi)
    have d1:=hx.s.b.sc
    have d2:=hx.s.m.sc
    have d3:=hx.s.p.v.sc
    have d4:=hx.q.v.sc
    have b0': ∀ l,bget (bxt h' l) (nb h 0)=_:=fun l=>(bxt_old l h' _ (bget_lt b0)).trans b0
    unfold viewC at e
    refine Wc_bx ?_
    simp+contextual -implicitDefEqProofs (maxSteps:=1000000) (maxDischargeDepth:=20) only[go_sem,simprocAttr,e,r,d1,d2,d3,d4,b0',l1',List.length_map,r_vc,r_vp,mskO,Mem.more,bmore,nb_more,List.filter_nil,List.flatMap_nil,List.filter_cons,List.flatMap_cons,List.map_nil,List.map_cons,mask,unmask,AOp.reads,AOpnd.top,top_p,top_s,top_m,top_i,top_b,top_t,top_a,top_u,top_ns,top_s0,top_d,top_f,nb_beq,nb_blt,nb_add,nidOf,slotIn,Nat.beq_refl,clash,Bool.or_self,List.any_nil,List.any_cons,AOp.isMaker]
    rw[←w_a]
    have hv:=hN.h _ (gt_mem hi)
    refine Wa_k (g50 (n+999) (bxt h' [none]) [] [] (gt s.vs i).v.st (gt s.vs i).b (gt s.vs i).m (gt s.vs i).p (gt s.vs i).lp (gt s.vs i).v.cfg.quota (hx.s.bx _) (hN.q _ (gt_mem hi)) hv (hN.p _ (gt_mem hi))) (fun w h2 lg2 k2 hw2=> ?_)
    obtain ⟨x,y,z,sz,rfl⟩:=hw2
    have i2:ins lg2 (nb h' 0)=false:=k2.ins0 (by simp)
    have hlt:nb h' 0<h2.length:=by have:=k2.len;rw[bxt_len] at this;simp only[List.length_cons,List.length_nil] at this;simp only[nb];omega
    have kk:Keep ⟨h,lg,[]⟩ ⟨h2,lg2++lg',[]⟩:=(k.trans (keep_bx (l:=[none]) (by repeat first |exact LogOK.nil |apply LogOK.cons))).trans (k2.lg lg' [])
    have hs2:SnapAt h2 s:=SnapAt.keep (m:=⟨h,lg,[]⟩) (m':=⟨h2,lg2++lg',[]⟩) H kk
    have hr: ∀ c∈s.nv.refs,c≠nb h' 0:=fun c hc=>by
      have q1:=H.v.refs c hc
      have q2:h.length≤h'.length:=k.len
      simp only[nb];omega
    have e3:=fun y=>SlAt.el (show SlAt (bput h2 (nb h' 0) y) 26 s.nv _ from hs2.v.own hlt hr y []) hi
    have q1:=hs'.v.sbn (by rw[List.length_map];exact hi) 0
    have q2:=hs'.v.top 0
    have q3:Nat.beq (nb h 0) (nb h' 0)=false:=nb_beq_ne (bget_lt b0)
    have l0:nb h 0<h2.length:=Nat.lt_of_lt_of_le (bget_lt b0) (by have:=k2.len;rw[bxt_len] at this;exact Nat.le_trans (Nat.le_add_right _ _) this)
    have z0:bget h2 (nb h 0)=some (.row true 3 [[.int .i64 s.now,s.nv,s.lv]]):=(k2.get _ (by rw[bxt_len];exact Nat.lt_of_lt_of_le (bget_lt b0) (Nat.le_add_right _ _))).trans (b0' _)
    have n0:nb h 0≠nb h' 0:=fun q=>by have:=bget_lt b0;rw[q] at this;simp only[nb] at this;omega
    have b02: ∀ l y,bget (bxt (bput h2 (nb h' 0) y) l) (nb h 0)=_:=fun l y=>(old_get hlt l0 n0 l y).trans z0
    have ho2:OutAt h.length h2 6 a ((spacesV (s.d.nodes.take i)).map vioC):=OutAt.keep (m:=⟨bxt h' [none],[],[]⟩) (m':=⟨h2,lg2,[]⟩) (ho.bx _) k2
    have hx':i<s.d.nodes.length:=by omega
    have ht:=spacesV_take hx'
    rw[show gt s.d.nodes i=(gt s.vs i).v from gt_mapV hi] at ht
    have len1:(spacesV (s.d.nodes.take i)).length≤1000:=by
      have h1:(spacesV (s.d.nodes.take i)).length≤(s.d.nodes.take i).length:=List.length_filterMap_le _ _
      rw[List.length_take] at h1
      have:=H.w1;omega
    generalize spacesV (s.d.nodes.take i)=L at ho2 ht len1
    have o:=let o:=old_blk hlt;And.intro o.1 (And.intro o.2.1 (And.intro o.2.2.1 o.2.2.2.2))
    unfold viewC at e3
    have q4:Nat.blt (nb h' 0) (nb h2 0)=true:=by rw[Nat.blt_eq];simp only[nb] at hlt ⊢;omega
    have hge:h.length≤nb h' 0:=Nat.le_trans k.len nb_ge
    have kb:=fun y=>kk.own hge hlt y [] (lg2:=nb h' 0::nb h' 0::(lg2++lg')) (LgG.ok (.cons hge (.cons hge .nil)))
    rcases ho2 with ⟨hn,rfl⟩|⟨bo,rfl,hk,hb⟩
    · simp+contextual -implicitDefEqProofs (maxSteps:=1000000) (maxDischargeDepth:=20) only[go_sem,simprocAttr,r,sz,e_n,e_e,e_r,o,i2,q1,q2,q3,q4,b02,e3,r_vc,r_vp,mskO,Mem.more,bmore,nb_more,List.filter_nil,List.flatMap_nil,List.filter_cons,List.flatMap_cons,List.map_nil,List.map_cons,mask,unmask,AOp.reads,AOpnd.top,top_p,top_s,top_m,top_i,top_b,top_t,top_a,top_u,top_ns,top_s0,top_d,top_f,nb_beq,nb_blt,nb_add,nidOf,slotIn,Nat.beq_refl,clash,Bool.or_self,List.any_nil,List.any_cons,AOp.isMaker]
      refine ⟨fun c=>⟨_,rfl,(kb _).trans (keep_bx (by repeat first |exact LogOK.nil |apply LogOK.cons)),?_⟩,fun c=>⟨_,rfl,(kb _).trans (keep_bx (by repeat first |exact LogOK.nil |apply LogOK.cons)),?_⟩⟩
      · rw[ht,if_pos c,List.map_append,hn]
        exact .some _ rfl (Nat.le_trans (kb _).len nb_ge) nb_get
      · rw[ht,if_neg (fun q=>q c),List.append_nil]
        exact .nil hn rfl
    · have hne:bo≠nb h' 0:=fun q=>by
        have h1:=k2.get (nb h' 0) (by rw[nb_len];simp only[nb,blen];omega)
        have h2:bget (bxt h' [none]) (nb h' 0)=none:=nb_get
        rw[q] at hb
        simp only at h1
        rw[h1,h2] at hb
        cases hb
      have l2: ∀ y,bo<(bput h2 (nb h' 0) y).length:=fun y=>by rw[bput_len_eq hlt];exact bget_lt hb
      have hb': ∀ l y,bget (bxt (bput h2 (nb h' 0) y) l) bo=_:=fun l y=>(old_get hlt (bget_lt hb) hne l y).trans hb
      have o2:=fun y=>let o:=old_blk (l2 y);And.intro o.1 (And.intro o.2.1 (And.intro o.2.2.1 o.2.2.2.2))
      have fA:(1000000000000<(L.length+1)*48)=False:=by simp;omega
      have fC:List.take L.length (L.map vioC)=L.map vioC:=List.take_of_length_le (by simp)
      rw[List.length_map]
      simp+contextual -implicitDefEqProofs (maxSteps:=1000000) (maxDischargeDepth:=20) only[go_sem,simprocAttr,r,sz,e_n,e_e,e_r,o,i2,q1,q2,q3,q4,b02,e3,r_vc,r_vp,mskO,Mem.more,bmore,nb_more,List.filter_nil,List.flatMap_nil,List.filter_cons,List.flatMap_cons,List.map_nil,List.map_cons,mask,unmask,AOp.reads,AOpnd.top,top_p,top_s,top_m,top_i,top_b,top_t,top_a,top_u,top_ns,top_s0,top_d,top_f,nb_beq,nb_blt,nb_add,nidOf,slotIn,Nat.beq_refl,clash,Bool.or_self,List.any_nil,List.any_cons,AOp.isMaker,o2,hb',List.length_map,fA,fB,fC]
      have n1:nb h 0≠bo:=fun q=>by rw[q,hb] at z0;cases z0
      have l02: ∀ y,nb h 0<(bput h2 (nb h' 0) y).length:=fun y=>by rw[bput_len_eq hlt];exact l0
      refine ⟨fun c=>⟨_,rfl,(kb _).own hk (l2 _) _ _ (LgG.ok (by repeat first |exact LgG.nil |refine LgG.cons (by first |exact nb_ge |exact Nat.le_trans ((kb _).len) nb_ge |assumption) ?_)),(old_get (l2 _) (l02 _) n1 _ _).trans (b02 [] _),?_⟩,fun c=>⟨_,rfl,(kb _).trans (keep_bx (by repeat first |exact LogOK.nil |apply LogOK.cons)),?_⟩⟩
      · rw[ht,if_pos c,List.map_append]
        exact .some (nb (bput h2 (nb h' 0) (some (.row true 3 [[.int .u64 x,.int .u64 y,z]]))) 1) (by simp) (Nat.le_trans (kb _).len nb_ge) ((o2 _).2.1 _ _ _)
      · rw[ht,if_neg (fun q=>q c),List.append_nil]
        exact .some bo (by rw[List.length_map]) hk (hb' _ _)
  · obtain ⟨h',lg',d'⟩:=m'
    obtain ⟨k,b0,ho⟩:=hP
    obtain rfl:d'=[]:=k.dfrs
    simp only at ho b0
    have hs':SnapAt h' s:=SnapAt.keep (m:=⟨h,lg,[]⟩) (m':=⟨h',lg',[]⟩) H k
    have l1':=hs'.v.len
    have b0': ∀ l,bget (bxt h' l) (nb h 0)=_:=fun l=>(bxt_old l h' _ (bget_lt b0)).trans b0
    have r:=rndl s.vs.length
    rw[←n1,List.take_length] at ho
    refine Wc_bx ?_
    simp+contextual -implicitDefEqProofs (maxSteps:=1000000) (maxDischargeDepth:=20) only[go_sem,simprocAttr,r,q_k,b0',l1',List.length_map]
    exact ⟨k.sub (d:=d),ho⟩
end
end Go.Abs
end
