/- Contacts, capacities, rounds, queues, orders: plain laws.
   Conditions: none. -/
import Derived.Test.YtdmofemokgboeaaGreatDoorW
import Derived.WalkKit
set_option linter.unusedSimpArgs false
set_option linter.unusedVariables false
set_option maxRecDepth 100000
noncomputable section
namespace Go.Abs
structure ConD where
  f:Int
  t:Int
  s:Int
  e:Int
  r:Int
  d:Int
  deriving DecidableEq,Inhabited
def conOK (c:ConD):Prop:=(1≤c.f∧c.f≤16)∧(1≤c.t∧c.t≤16)∧c.f≠c.t∧0≤c.s∧c.s<c.e∧c.e≤1099511627776∧1≤c.r∧c.r≤1048576∧0≤c.d∧c.d≤1048576
def posC (c:ConD) (x:Int):Int:=if x≤c.s then 0 else c.r*(min x c.e - c.s)
def volC (c:ConD):Int:=c.r*(c.e - c.s)
def hopO (c:ConD) (z x:Int):Option Int:=if x<0∨1099511627776<x∨volC c<posC c x+z then none else some (c.s+(posC c x+z+c.r - 1) / c.r+c.d)
theorem posC_mono {c:ConD} (h:conOK c) {x y:Int} (q:x≤y):posC c x≤posC c y:=by
  obtain ⟨_,_,_,_,h5,_,h7,_⟩:=h
  unfold posC
  by_cases a:x≤c.s
  · rw[if_pos a]
    by_cases b:y≤c.s
    · rw[if_pos b];omega
    · rw[if_neg b];exact Int.mul_nonneg (by omega) (by omega)
  · rw[if_neg a,if_neg (by omega)]
    exact Int.mul_le_mul_of_nonneg_left (by omega) (by omega)
theorem hop_mono {c:ConD} (h:conOK c) {z x y t:Int} (h0:0≤x) (q:x≤y) (e:hopO c z y=some t): ∃ t',hopO c z x=some t'∧t'≤t:=by
  have p:=posC_mono h q
  unfold hopO at e ⊢
  split at e
  · cases e
  · rename_i n
    rw[if_neg (by omega)]
    refine ⟨_,rfl,?_⟩
    cases e
    have:=Int.ediv_le_ediv (a:=posC c x+z+c.r - 1) (b:=posC c y+z+c.r - 1) (c:=c.r) (by have:=h.2.2.2.2.2.2.1;omega) (by omega)
    omega
theorem hop_gt {c:ConD} (h:conOK c) {z x t:Int} (hz:1≤z) (e:hopO c z x=some t):x<t:=by
  obtain ⟨_,_,_,_,h5,_,h7,_,h9,_⟩:=h
  unfold hopO at e
  split at e
  · cases e
  · rename_i n
    cases e
    unfold posC at n ⊢
    by_cases a:x≤c.s
    · rw[if_pos a]
      have:1≤(0+z+c.r - 1) / c.r:=by rw[Int.le_ediv_iff_mul_le (by omega)];omega
      omega
    · rw[if_neg a] at n ⊢
      by_cases b:x<c.e
      · rw[Int.min_eq_left (by omega)]
        have e1:c.r*(x - c.s)+z+c.r - 1=(z+c.r - 1)+c.r*(x - c.s):=by omega
        rw[e1,Int.add_mul_ediv_left _ _ (by omega)]
        have:1≤(z+c.r - 1) / c.r:=by rw[Int.le_ediv_iff_mul_le (by omega)];omega
        omega
      · rw[Int.min_eq_right (by omega)] at n
        unfold volC at n
        omega
def rk (out:Nat→Int) (x:Int):Nat:=((List.range 17).filter fun m=>decide (0≤out m∧out m<x)).length
theorem filter_lt {l:List Nat} {p q:Nat→Bool} (h: ∀ m∈l,p m=true→q m=true) {k:Nat} (hk:k∈l) (hp:p k=false) (hq:q k=true):(l.filter p).length+1≤(l.filter q).length:=by
  induction l with
  |nil=>cases hk
  | cons a l ih=>
    have hle: ∀ (l:List Nat),(∀ m∈l,p m=true→q m=true)→(l.filter p).length≤(l.filter q).length:=fun l=>by
      induction l with
      |nil=>intro _;simp
      | cons b l ih=>
        intro g
        have i:=ih fun m hm=>g m (List.mem_cons_of_mem _ hm)
        have gb:=g b (List.mem_cons_self ..)
        rw[List.filter_cons,List.filter_cons]
        cases hpb:p b
        · cases q b <;>simp <;>omega
        · rw[gb hpb];simp;exact i
    rw[List.filter_cons,List.filter_cons]
    rcases List.mem_cons.1 hk with rfl |hk
    · rw[hp,hq]
      have:=hle l fun m hm=>h m (List.mem_cons_of_mem _ hm)
      simp;omega
    · have i:=ih (fun m hm=>h m (List.mem_cons_of_mem _ hm)) hk
      have ga:=h a (List.mem_cons_self ..)
      cases hpa:p a
      · cases q a <;>simp <;>omega
      · rw[ga hpa];simp;exact i
theorem rk_lt {out:Nat→Int} {x:Int} {k:Nat} (hk:k<17) (h0:0≤out k) (hx:out k<x):rk out (out k)+1≤rk out x:=
  filter_lt (fun m _ hm=>by simp only[decide_eq_true_eq] at hm ⊢;omega) (List.mem_range.2 hk) (by simp) (by simp[h0,hx])
section
variable {l:List ConD} {z a:Int} {s:Nat}
structure Rounds (l:List ConD) (z a:Int) (s:Nat) (R:Nat→Nat→Int):Prop where
  z0: ∀ n,n<17→R 0 n=if n=s then a else -1
  m: ∀ h n,n<17→0≤R h n→0≤R (h+1) n∧R (h+1) n≤R h n
  r: ∀ h c t,c∈l→0≤R h c.f.toNat→hopO c z (R h c.f.toNat)=some t→0≤R (h+1) c.t.toNat∧R (h+1) c.t.toNat≤t
  w: ∀ h n,n<17→0≤R (h+1) n→(0≤R h n∧R (h+1) n=R h n)∨ ∃ c∈l,c.t.toNat=n∧0≤R h c.f.toNat∧hopO c z (R h c.f.toNat)=some (R (h+1) n)
structure Closed (l:List ConD) (z a:Int) (s:Nat) (out:Nat→Int):Prop where
  z0:out s=a
  c: ∀ c t,c∈l→0≤out c.f.toNat→hopO c z (out c.f.toNat)=some t→0≤out c.t.toNat∧out c.t.toNat≤t
  w: ∀ n,n<17→0≤out n→n=s∨ ∃ c∈l,c.t.toNat=n∧0≤out c.f.toNat∧ ∃ x,out c.f.toNat≤x∧hopO c z x=some (out n)
theorem rounds_le {R:Nat→Nat→Int} {out:Nat→Int} (hv: ∀ c∈l,conOK c) (H:Rounds l z a s R) (G:Closed l z a s out) (ha:0≤a): ∀ h n,n<17→0≤R h n→0≤out n∧out n≤R h n
  | 0,n,hn,q=>by
    rw[H.z0 n hn] at q ⊢
    split at q
    · rename_i e
      subst e
      rw[if_pos rfl,G.z0]
      omega
    · omega
  | h +1,n,hn,q=>by
    rcases H.w h n hn q with ⟨q1,q2⟩|⟨c,hc,rfl,q1,q2⟩
    · rw[q2];exact rounds_le hv H G ha h n hn q1
    · have v:=hv c hc
      have i:=rounds_le hv H G ha h c.f.toNat (by have:=v.1;omega) q1
      obtain ⟨t',e,le⟩:=hop_mono v i.1 i.2 q2
      have k:=G.c c t' hc i.1 e
      omega
theorem rounds_mono {R:Nat→Nat→Int} (H:Rounds l z a s R) {n:Nat} (hn:n<17) {i:Nat} (q:0≤R i n): ∀ j,i≤j→0≤R j n∧R j n≤R i n
  |0,h=>by rw[Nat.le_zero.1 h] at q ⊢;exact ⟨q,Int.le_refl _⟩
  | j +1,h=>by
    rcases Nat.lt_or_ge i (j+1) with g |g
    · have k:=rounds_mono H hn q j (by omega)
      have m:=H.m j n hn k.1
      omega
    · rw[show j+1=i by omega];exact ⟨q,Int.le_refl _⟩
theorem rounds_ge {R:Nat→Nat→Int} {out:Nat→Int} (hv: ∀ c∈l,conOK c) (hz:1≤z) (hs:s<17) (H:Rounds l z a s R) (G:Closed l z a s out) (ha:0≤a):
    ∀ (k:Nat) (n:Nat),n<17→0≤out n→(out n).toNat≤k→0≤R (rk out (out n)) n∧R (rk out (out n)) n≤out n:=by
  intro k
  induction k with
  | zero=>
    intro n hn q hk
    rcases G.w n hn q with rfl |⟨c,hc,rfl,q1,x,q2,q3⟩
    · have e:=H.z0 n hn
      rw[if_pos rfl] at e
      have m:=rounds_mono H hn (i:=0) (by omega) (rk out (out n)) (Nat.zero_le _)
      rw[G.z0] at*
      omega
    · have g:=hop_gt (hv c hc) hz q3
      omega
  | succ k ih=>
    intro n hn q hk
    rcases G.w n hn q with rfl |⟨c,hc,rfl,q1,x,q2,q3⟩
    · have e:=H.z0 n hn
      rw[if_pos rfl] at e
      have m:=rounds_mono H hn (i:=0) (by omega) (rk out (out n)) (Nat.zero_le _)
      rw[G.z0] at*
      omega
    · have v:=hv c hc
      have g:=hop_gt v hz q3
      have hf:c.f.toNat<17:=by have:=v.1;omega
      have i:=ih c.f.toNat hf q1 (by omega)
      have r1:=rk_lt hf q1 (show out c.f.toNat<out c.t.toNat by omega)
      obtain ⟨t',e,le⟩:=hop_mono v i.1 (by omega:R (rk out (out c.f.toNat)) c.f.toNat≤x) q3
      have w:=H.r _ c t' hc i.1 e
      have m:=rounds_mono H hn w.1 (rk out (out c.t.toNat)) r1
      omega
theorem rk_le {out:Nat→Int} {n:Nat} (hn:n<17) (q:0≤out n):rk out (out n)≤16:=by
  have:=filter_lt (l:=List.range 17) (p:=fun m=>decide (0≤out m∧out m<out n)) (q:=fun _=>true) (fun _ _ _=>rfl) (List.mem_range.2 hn) (by simp) rfl
  rw[List.filter_eq_self.2 (fun _ _=>rfl),List.length_range] at this
  unfold rk
  omega
theorem reach_iff {R:Nat→Nat→Int} {out:Nat→Int} (hv: ∀ c∈l,conOK c) (hz:1≤z) (hs:s<17) (H:Rounds l z a s R) (G:Closed l z a s out) (ha:0≤a) {n:Nat} (hn:n<17):0≤out n↔0≤R 16 n:=by
  refine ⟨fun q=> ?_,fun q=>(rounds_le hv H G ha 16 n hn q).1⟩
  have g:=rounds_ge hv hz hs H G ha (out n).toNat n hn q (Nat.le_refl _)
  exact (rounds_mono H hn g.1 16 (rk_le hn q)).1
end
def conC (c:ConD):List AV:=[.int .i64 c.f,.int .i64 c.t,.int .i64 c.s,.int .i64 c.e,.int .i64 c.r,.int .i64 c.d]
instance (c:ConD):Decidable (conOK c):=by unfold conOK;infer_instance
def befC (a b:ConD):Prop:=a.s<b.s∨a.s=b.s∧(a.f<b.f∨a.f=b.f∧a.t<b.t)
instance (a b:ConD):Decidable (befC a b):=by unfold befC;infer_instance
def overC (l:List ConD) (i:Nat):Bool:=(l.take i).any fun k=>decide (k.f=(gt l i).f∧k.t=(gt l i).t∧(gt l i).s<k.e)
def conBad (l:List ConD) (i:Nat):Int:=if ¬ conOK (gt l i) then 2 else if 0<i∧ ¬ befC (gt l (i - 1)) (gt l i) then 19 else if overC l i=true then 12 else 0
def lastE (l:List ConD) (f t:Int):Nat→Int
  |0=>0
  |i+1=>if (gt l i).f=f∧(gt l i).t=t then (gt l i).e else lastE l f t i
theorem lastE_ge {l:List ConD} {n:Nat} (hn:n≤l.length) (hb: ∀ i,i<n→conBad l i=0) (f t:Int): ∀ i,i≤n→ ∀ k,k<i→(gt l k).f=f→(gt l k).t=t→(gt l k).e≤lastE l f t i
  |0,_,k,hk,_,_=>absurd hk (by omega)
  | i + 1,hi,k,hk,e1,e2=>by
    have b:=hb i (by omega)
    unfold conBad at b
    have ok:conOK (gt l i):=by
      by_cases q:conOK (gt l i)
      · exact q
      · rw[if_pos q] at b;omega
    have ov:overC l i=false:=by
      rw[if_neg (by simpa using ok)] at b
      split at b
      · omega
      · split at b
        · omega
        · rename_i q;simpa using q
    rw[lastE]
    by_cases q:(gt l i).f=f∧(gt l i).t=t
    · rw[if_pos q]
      rcases Nat.lt_or_ge k i with g |g
      · unfold overC at ov
        rw[List.any_eq_false] at ov
        have m:gt l k∈l.take i:=by
          rw[gt_eq (show k<l.length by omega)]
          exact List.mem_take_iff_getElem.2 ⟨k,by omega,rfl⟩
        have:=ov _ m
        simp only[decide_eq_true_eq] at this
        have v:=ok.2.2.2.2.1
        rcases Int.lt_or_le (gt l i).s (gt l k).e with c |c
        · exact absurd ⟨by omega,by omega,c⟩ this
        · omega
      · rw[show k=i by omega];exact Int.le_refl _
    · rw[if_neg q]
      rcases Nat.lt_or_ge k i with g |g
      · exact lastE_ge hn hb f t i (by omega) k g e1 e2
      · rw[show k=i by omega] at e1 e2;exact absurd ⟨e1,e2⟩ q
theorem lastE_mem (l:List ConD) (f t:Int): ∀ i,lastE l f t i=0∨ ∃ k,k<i∧(gt l k).f=f∧(gt l k).t=t∧(gt l k).e=lastE l f t i
  |0=> .inl rfl
  | i +1=>by
    rw[lastE]
    by_cases q:(gt l i).f=f∧(gt l i).t=t
    · rw[if_pos q];exact .inr ⟨i,by omega,q.1,q.2,rfl⟩
    · rw[if_neg q]
      rcases lastE_mem l f t i with h |⟨k,h1,h2⟩
      · exact .inl h
      · exact .inr ⟨k,by omega,h2⟩
theorem over_iff {l:List ConD} {i:Nat} (hi:i<l.length) (hb: ∀ k,k<i→conBad l k=0) (ok:0≤(gt l i).s):overC l i=true↔(gt l i).s<lastE l (gt l i).f (gt l i).t i:=by
  unfold overC
  rw[List.any_eq_true]
  constructor
  · rintro ⟨x,hx,q⟩
    obtain ⟨k,hk,rfl⟩:=List.mem_take_iff_getElem.1 hx
    simp only[decide_eq_true_eq] at q
    have hk':k<i:=by omega
    have e:l[k]'(by omega)=gt l k:=(gt_eq (by omega)).symm
    rw[e] at q
    have:=lastE_ge (by omega) hb (gt l i).f (gt l i).t i (Nat.le_refl _) k hk' q.1 q.2.1
    omega
  · intro q
    rcases lastE_mem l (gt l i).f (gt l i).t i with h |⟨k,h1,h2,h3,h4⟩
    · omega
    · refine ⟨gt l k,?_,?_⟩
      · rw[gt_eq (show k<l.length by omega)]
        exact List.mem_take_iff_getElem.2 ⟨k,by omega,rfl⟩
      · simp only[decide_eq_true_eq];exact ⟨h2,h3,by omega⟩
def ends (l:List ConD):Nat→List ((Int × Int) × Int)
  |0=> []
  |i+1=>upd ((gt l i).f,(gt l i).t) (gt l i).e (ends l i)
where
  upd (k:Int × Int) (v:Int):List ((Int × Int) × Int)→List ((Int × Int) × Int)
    | []=> [(k,v)]
    |x::m=>if x.1=k then (k,v)::m else x::upd k v m
def lookP (k:Int × Int):List ((Int × Int) × Int)→Option Int
  | []=>none
  |x::m=>if x.1=k then some x.2 else lookP k m
theorem look_upd (k k':Int × Int) (v:Int): ∀ m,lookP k (ends.upd k' v m)=if k=k' then some v else lookP k m
  | []=>by
    rw[ends.upd,lookP,lookP]
    by_cases h:k'=k
    · rw[if_pos h,if_pos h.symm]
    · rw[if_neg h,if_neg (fun q=>h q.symm)];rfl
  | x ::m=>by
    rw[ends.upd]
    by_cases hx:x.1=k'
    · simp only[if_pos hx,lookP]
      by_cases h:k=k'
      · rw[if_pos h,if_pos h.symm]
      · rw[if_neg h,if_neg (fun q=>h q.symm),if_neg (fun q=>h (by rw[←q,hx]))]
    · simp only[if_neg hx,lookP,look_upd k k' v m]
      by_cases h:k=k'
      · subst h;simp[hx]
      · simp[h]
theorem look_ends (l:List ConD) (f t:Int): ∀ i,(lookP (f,t) (ends l i)).getD 0=lastE l f t i
  |0=>rfl
  | i+1=>by
    rw[ends,look_upd,lastE]
    by_cases h:(gt l i).f=f∧(gt l i).t=t
    · rw[if_pos (by rw[h.1,h.2]),if_pos h];rfl
    · rw[if_neg (fun q=>h ⟨(congrArg Prod.fst q).symm,(congrArg Prod.snd q).symm⟩),if_neg h,look_ends l f t i]
def pEnt (m:List ((Int × Int) × Int)):List (AV × AV):=m.map fun x=>(.agg [.int .i64 x.1.1,.int .i64 x.1.2],.int .i64 x.2)
theorem peq_p (x y:Int × Int):peq true [.i,.i] (.agg [.int .i64 x.1,.int .i64 x.2]) (.agg [.int .i64 y.1,.int .i64 y.2])=some (decide (x=y)):=by
  show some ((x.1==y.1) && ((x.2==y.2) && true))=_
  congr 1
  rw[Bool.eq_iff_iff]
  simp only[Bool.and_true,Bool.and_eq_true,beq_iff_eq,decide_eq_true_iff]
  exact ⟨fun h=>Prod.ext h.1 h.2,fun h=>by rw[h];exact ⟨rfl,rfl⟩⟩
theorem find_p (k:Int × Int): ∀ m,findE true [.i,.i] (.agg [.int .i64 k.1,.int .i64 k.2]) (pEnt m)=some ((lookP k m).map fun v=> .int .i64 v)
  | []=>rfl
  | x ::m=>by
    have ih:=find_p k m
    show (match peq true [.i,.i] (.agg [.int .i64 k.1,.int .i64 k.2]) (.agg [.int .i64 x.1.1,.int .i64 x.1.2]) with |some true=>_ |some false=>_ |none=>_)=_
    rw[peq_p,lookP]
    by_cases h:x.1=k
    · rw[decide_eq_true h.symm,if_pos h];rfl
    · rw[decide_eq_false (fun q=>h q.symm),if_neg h]
      exact ih
theorem set_p (k:Int × Int) (v:Int): ∀ m,setE true [.i,.i] (.agg [.int .i64 k.1,.int .i64 k.2]) (.int .i64 v) (pEnt m)=some (pEnt (ends.upd k v m))
  | []=>rfl
  | x ::m=>by
    have ih:=set_p k v m
    show (match peq true [.i,.i] (.agg [.int .i64 k.1,.int .i64 k.2]) (.agg [.int .i64 x.1.1,.int .i64 x.1.2]) with |some true=>_ |some false=>(setE true [.i,.i] (.agg [.int .i64 k.1,.int .i64 k.2]) (.int .i64 v) (pEnt m)).map _ |none=>_)=_
    rw[peq_p,ends.upd]
    by_cases h:x.1=k
    · rw[decide_eq_true h.symm,if_pos h];rfl
    · rw[decide_eq_false (fun q=>h q.symm),if_neg h,ih]
      rfl
theorem gt_set {α:Type} [Inhabited α] {l:List α} {j k:Nat} {x:α} (hj:j<l.length):gt (l.set j x) k=if k=j then x else gt l k:=by
  unfold gt
  simp only[List.getD_eq_getElem?_getD,List.getElem?_set]
  by_cases h:k=j
  · subst h;simp[hj]
  · rw[if_neg (fun q=>h q.symm),if_neg h]
def swp {α:Type} [Inhabited α] (l:List α) (j:Nat):List α:=(l.set j (gt l (j - 1))).set (j - 1) (gt l j)
theorem swp_len {α:Type} [Inhabited α] (l:List α) (j:Nat):(swp l j).length=l.length:=by simp[swp]
theorem gt_swp {α:Type} [Inhabited α] {l:List α} {j k:Nat} (hj:j<l.length):gt (swp l j) k=if k=j - 1 then gt l j else if k=j then gt l (j - 1) else gt l k:=by
  unfold swp
  rw[gt_set (by simp;omega),gt_set hj]
theorem swp_perm {α:Type} [Inhabited α] {l:List α} {j:Nat} (hj:j<l.length):(swp l j).Perm l:=by
  unfold swp
  rw[gt_eq (show j - 1<l.length by omega),gt_eq hj]
  exact List.set_set_perm hj (by omega)
def sink {α:Type} [Inhabited α] (K:α→Int):Nat→List α→List α
  |0,l=>l
  |j+1,l=>if K (gt l (j+1))<K (gt l j) then sink K j (swp l (j+1)) else l
def isort {α:Type} [Inhabited α] (K:α→Int):Nat→List α→List α
  |0,l=>l
  |i+1,l=>sink K (i+1) (isort K i l)
section
variable {α:Type} [Inhabited α] {K:α→Int}
theorem sink_len: ∀ (j:Nat) (l:List α),(sink K j l).length=l.length
  |0,l=>rfl
  | j+1,l=>by
    rw[sink]
    split
    · rw[sink_len j,swp_len]
    · rfl
theorem sink_perm: ∀ (j:Nat) (l:List α),j<l.length→(sink K j l).Perm l
  |0,l,_=> .refl l
  | j+1,l,h=>by
    rw[sink]
    split
    · exact (sink_perm j _ (by rw[swp_len];omega)).trans (swp_perm h)
    · exact .refl l
theorem isort_len: ∀ (i:Nat) (l:List α),(isort K i l).length=l.length
  |0,l=>rfl
  |i+1,l=>by rw[isort,sink_len,isort_len i]
theorem isort_perm: ∀ (i:Nat) (l:List α),i<l.length→(isort K i l).Perm l
  |0,l,_=> .refl l
  | i+1,l,h=>by
    rw[isort]
    exact (sink_perm _ _ (by rw[isort_len];exact h)).trans (isort_perm i l (by omega))
def SInv (K:α→Int) (n j:Nat) (l:List α):Prop:=(∀ a b,a<b→b<n→a≠j→b≠j→K (gt l a)≤K (gt l b))∧ ∀ b,j<b→b<n→K (gt l j)≤K (gt l b)
def Asc (K:α→Int) (n:Nat) (l:List α):Prop:= ∀ a b,a<b→b<n→K (gt l a)≤K (gt l b)
theorem sink_asc {n:Nat}: ∀ (j:Nat) (l:List α),j<n→n≤l.length→SInv K n j l→Asc K n (sink K j l)
  | 0,l,_,_,h=>fun a b hab hb=>by
    rw[sink]
    by_cases q:a=0
    · rw[q];exact h.2 b (by omega) hb
    · exact h.1 a b hab hb q (by omega)
  | j + 1,l,hj,hn,h=>by
    rw[sink]
    by_cases c:K (gt l (j+1))<K (gt l j)
    · rw[if_pos c]
      have hs: ∀ k,gt (swp l (j+1)) k=if k=j then gt l (j+1) else if k=j+1 then gt l j else gt l k:=fun k=>by
        have:=gt_swp (l:=l) (j:=j+1) (k:=k) (by omega)
        simpa using this
      refine sink_asc j _ (by omega) (by rw[swp_len];exact hn) ⟨fun a b hab hb ha hb'=> ?_,fun b hjb hb=> ?_⟩
      · rw[hs a,hs b,if_neg ha,if_neg hb']
        by_cases q1:a=j+1
        · rw[if_pos q1,if_neg (by omega)]
          exact h.1 j b (by omega) hb (by omega) (by omega)
        · rw[if_neg q1]
          by_cases q2:b=j+1
          · rw[if_pos q2]
            exact h.1 a j (by omega) (by omega) (by omega) (by omega)
          · rw[if_neg q2]
            exact h.1 a b hab hb q1 q2
      · rw[hs j,hs b,if_pos rfl,if_neg (by omega)]
        by_cases q:b=j+1
        · rw[if_pos q];omega
        · rw[if_neg q];exact h.2 b (by omega) hb
    · rw[if_neg c]
      intro a b hab hb
      by_cases q1:a=j+1
      · rw[q1];exact h.2 b (by omega) hb
      · by_cases q2:b=j+1
        · rw[q2]
          by_cases q3:a=j
          · rw[q3];omega
          · have:=h.1 a j (by omega) (by omega) q1 (by omega)
            omega
        · exact h.1 a b hab hb q1 q2
theorem isort_asc: ∀ (i:Nat) (l:List α),i<l.length→Asc K (i+1) (isort K i l)
  |0,l,_=>fun a b hab hb=>by omega
  | i+1,l,h=>by
    rw[isort]
    have ih:=isort_asc i l (by omega)
    exact sink_asc (n:=i+2) (i+1) _ (by omega) (by rw[isort_len];exact h) ⟨fun a b hab hb ha hb'=>ih a b hab (by omega),fun b h1 h2=>by omega⟩
end
theorem asc_eq: ∀ {l m:List Int},l.Pairwise (· < ·)→m.Pairwise (· < ·)→(∀ x,x∈l↔x∈m)→l=m
  | [],[],_,_,_=>rfl
  | [],x::m,_,_,h=>by have:=(h x).2 (List.mem_cons_self ..);cases this
  |x::l,[],_,_,h=>by have:=(h x).1 (List.mem_cons_self ..);cases this
  | x ::l,y::m,hl,hm,h=>by
    rw[List.pairwise_cons] at hl hm
    have e:x=y:=by
      have h1:=(h x).1 (List.mem_cons_self ..)
      have h2:=(h y).2 (List.mem_cons_self ..)
      rcases List.mem_cons.1 h1 with q |q
      · exact q
      · rcases List.mem_cons.1 h2 with r |r
        · exact r.symm
        · have:=hl.1 y r
          have:=hm.1 x q
          omega
    subst e
    rw[asc_eq hl.2 hm.2 fun z=>⟨fun hz=> ?_,fun hz=> ?_⟩]
    · rcases List.mem_cons.1 ((h z).1 (List.mem_cons_of_mem _ hz)) with q |q
      · have:=hl.1 z hz;omega
      · exact q
    · rcases List.mem_cons.1 ((h z).2 (List.mem_cons_of_mem _ hz)) with q |q
      · have:=hm.1 z hz;omega
      · exact q
abbrev hopT:Int:=2199024304128
theorem hop_le {c:ConD} (h:conOK c) {z x t:Int} (hz:1≤z) (e:hopO c z x=some t):0≤t∧t≤hopT:=by
  obtain ⟨_,_,_,h4,h5,h6,h7,h8,h9,h10⟩:=h
  unfold hopO at e
  split at e
  · cases e
  · rename_i n
    cases e
    have hp:0≤posC c x:=by
      unfold posC
      split
      · omega
      · exact Int.mul_nonneg (by omega) (by omega)
    have e1:(posC c x+z+c.r - 1) / c.r≤(volC c+(c.r - 1)) / c.r:=Int.ediv_le_ediv (by omega) (by omega)
    have e2:volC c+(c.r - 1)=(c.r - 1)+c.r*(c.e - c.s):=by unfold volC;omega
    rw[e2,Int.add_mul_ediv_left _ _ (by omega),Int.ediv_eq_zero_of_lt (a:=c.r - 1) (b:=c.r) (by omega) (by omega)] at e1
    have e3:0≤(posC c x+z+c.r - 1) / c.r:=Int.ediv_nonneg (by omega) (by omega)
    unfold hopT
    omega
def relaxC (z:Int) (now next:List Int) (c:ConD):List Int:=
  if gt now c.f.toNat<0 then next else match hopO c z (gt now c.f.toNat) with
    |none=>next
    |some t=>if gt next c.t.toNat<0∨t<gt next c.t.toNat then next.set c.t.toNat t else next
def roundC (l:List ConD) (z:Int) (now:List Int):Nat→List Int
  |0=>now
  |i+1=>relaxC z now (roundC l z now i) (gt l i)
def roundsC (l:List ConD) (z a:Int) (s:Nat):Nat→List Int
  |0=>(List.replicate 17 (-1)).set s a
  |h+1=>roundC l z (roundsC l z a s h) l.length
theorem relax_len (z:Int) (now next:List Int) (c:ConD):(relaxC z now next c).length=next.length:=by
  unfold relaxC
  split
  · rfl
  · split
    · rfl
    · split
      · rw[List.length_set]
      · rfl
theorem round_len (l:List ConD) (z:Int) (now:List Int): ∀ i,(roundC l z now i).length=now.length
  |0=>rfl
  |i+1=>by rw[roundC,relax_len,round_len l z now i]
theorem rounds_len (l:List ConD) (z a:Int) (s:Nat): ∀ h,(roundsC l z a s h).length=17
  |0=>by rw[roundsC,List.length_set,List.length_replicate]
  |h+1=>by rw[roundsC,round_len,rounds_len l z a s h]
section
variable {l:List ConD} {z a:Int} {s:Nat}
theorem round_inv {now:List Int} (hv: ∀ c∈l,conOK c) (hz:1≤z) (hn:now.length=17): ∀ i,i≤l.length→
    (∀ n,n<17→0≤gt now n→0≤gt (roundC l z now i) n∧gt (roundC l z now i) n≤gt now n)∧
    (∀ k,k<i→ ∀ t,0≤gt now (gt l k).f.toNat→hopO (gt l k) z (gt now (gt l k).f.toNat)=some t→0≤gt (roundC l z now i) (gt l k).t.toNat∧gt (roundC l z now i) (gt l k).t.toNat≤t)∧
    (∀ n,n<17→0≤gt (roundC l z now i) n→(0≤gt now n∧gt (roundC l z now i) n=gt now n)∨ ∃ c∈l,c.t.toNat=n∧0≤gt now c.f.toNat∧hopO c z (gt now c.f.toNat)=some (gt (roundC l z now i) n))
  |0,_=>⟨fun n _ h=>⟨h,Int.le_refl _⟩,fun k hk=>absurd hk (by omega),fun n _ h=> .inl ⟨h,rfl⟩⟩
  | i + 1, hi =>by
    obtain ⟨p,q,r⟩:=round_inv hv hz hn i (by omega)
    have hm:gt l i∈l:=by rw[gt_eq (show i<l.length by omega)];exact List.getElem_mem _
    have v:=hv _ hm
    have hl:(roundC l z now i).length=17:=by rw[round_len,hn]
    have ht:(gt l i).t.toNat<17:=by have:=v.2.1;omega
    rw[roundC]
    generalize roundC l z now i=nx at*
    unfold relaxC
    by_cases c1:gt now (gt l i).f.toNat<0
    · rw[if_pos c1]
      refine ⟨p,fun k hk t h0 e=> ?_,r⟩
      rcases Nat.lt_or_ge k i with g |g
      · exact q k g t h0 e
      · rw[show k=i by omega] at h0;omega
    · rw[if_neg c1]
      cases e:hopO (gt l i) z (gt now (gt l i).f.toNat) with
      | none=>
        refine ⟨p,fun k hk t h0 e'=> ?_,r⟩
        rcases Nat.lt_or_ge k i with g |g
        · exact q k g t h0 e'
        · rw[show k=i by omega,e] at e';cases e'
      | some t=>
        have le:=hop_le v hz e
        simp only
        by_cases c2:gt nx (gt l i).t.toNat<0∨t<gt nx (gt l i).t.toNat
        · rw[if_pos c2]
          have gs: ∀ n,gt (nx.set (gt l i).t.toNat t) n=if n=(gt l i).t.toNat then t else gt nx n:=fun n=>gt_set (by omega)
          refine ⟨fun n h17 h0=> ?_,fun k hk t' h0 e'=> ?_,fun n h17 h0=> ?_⟩
          · have:=p n h17 h0
            rw[gs n]
            by_cases c3:n=(gt l i).t.toNat
            · rw[if_pos c3]
              rw[←c3] at c2
              omega
            · rw[if_neg c3];exact this
          · rw[gs _]
            rcases Nat.lt_or_ge k i with g |g
            · have:=q k g t' h0 e'
              by_cases c3:(gt l k).t.toNat=(gt l i).t.toNat
              · rw[if_pos c3]
                rw[←c3] at c2
                omega
              · rw[if_neg c3];exact this
            · have hk':k=i:=by omega
              subst hk'
              rw[e] at e'
              cases e'
              rw[if_pos rfl]
              omega
          · rw[gs n] at h0 ⊢
            by_cases c3:n=(gt l i).t.toNat
            · rw[if_pos c3]
              exact .inr ⟨_,hm,c3.symm,by omega,e⟩
            · rw[if_neg c3] at h0 ⊢
              exact r n h17 h0
        · rw[if_neg c2]
          refine ⟨p,fun k hk t' h0 e'=> ?_,r⟩
          rcases Nat.lt_or_ge k i with g |g
          · exact q k g t' h0 e'
          · have hk':k=i:=by omega
            subst hk'
            rw[e] at e'
            cases e'
            omega
theorem rounds_ok (hv: ∀ c∈l,conOK c) (hz:1≤z) (hs:s<17) (ha:0≤a):Rounds l z a s (fun h n=>gt (roundsC l z a s h) n) where
  z0:=fun n hn=>by
    show gt (roundsC l z a s 0) n=_
    rw[roundsC,gt_set (by simp;exact hs)]
    by_cases e:n=s
    · rw[if_pos e,if_pos e]
    · rw[if_neg e,if_neg e,gt,List.getD_eq_getElem?_getD,List.getElem?_replicate,if_pos hn];rfl
  m:=fun h n hn q=>(round_inv hv hz (rounds_len l z a s h) l.length (Nat.le_refl _)).1 n hn q
  r :=fun h c t hc q e=>by
    obtain ⟨k,hk,rfl⟩:=List.getElem_of_mem hc
    rw[←gt_eq hk] at q e ⊢
    exact (round_inv hv hz (rounds_len l z a s h) l.length (Nat.le_refl _)).2.1 k hk t q e
  w:=fun h n hn q=>(round_inv hv hz (rounds_len l z a s h) l.length (Nat.le_refl _)).2.2 n hn q
def doneC (l:List ConD) (z:Int) (out:List Int) (u k:Nat):Prop:= ∀ j,j<k→(gt l j).f.toNat=u→ ∀ t,hopO (gt l j) z (gt out u)=some t→0≤gt out (gt l j).t.toNat∧gt out (gt l j).t.toNat≤t
structure Dij (l:List ConD) (z a:Int) (s:Nat) (out:List Int) (Q:List (Int × Int)) (u k:Nat):Prop where
  len:out.length=17
  z0:gt out s=a
  q: ∀ x∈Q,(1≤x.1∧x.1≤16)∧0≤gt out x.1.toNat∧gt out x.1.toNat≤x.2∧x.2≤hopT
  c: ∀ n,n<17→0≤gt out n→(∃ x∈Q,x.1.toNat=n∧x.2=gt out n)∨doneC l z out n l.length∨(n=u∧doneC l z out n k)
  w: ∀ n,n<17→0≤gt out n→n=s∨ ∃ c∈l,c.t.toNat=n∧0≤gt out c.f.toNat∧ ∃ x,gt out c.f.toNat≤x∧hopO c z x=some (gt out n)
  b: ∀ n,n<17→ -1≤gt out n∧gt out n≤hopT
  g: ∀ n,n<17→0≤gt out n→a≤gt out n
theorem Dij.skip {out:List Int} {Q:List (Int × Int)} {u k:Nat} (D:Dij l z a s out Q u k) (h:(gt l k).f.toNat=u→ ∀ t,hopO (gt l k) z (gt out u)=some t→0≤gt out (gt l k).t.toNat∧gt out (gt l k).t.toNat≤t):Dij l z a s out Q u (k+1):=
  ⟨D.len,D.z0,D.q,fun n hn h0=>by
    rcases D.c n hn h0 with c |c |⟨rfl,c⟩
    · exact .inl c
    · exact .inr (.inl c)
    · refine .inr (.inr ⟨rfl,fun j hj e=> ?_⟩)
      rcases Nat.lt_or_ge j k with g |g
      · exact c j g e
      · rw[show j=k by omega] at e ⊢;exact h e,D.w,D.b,D.g⟩
theorem Dij.put {out:List Int} {Q:List (Int × Int)} {u k:Nat} (hv: ∀ c∈l,conOK c) (hz:1≤z) (D:Dij l z a s out Q u k) (hk:k<l.length) (hu:(gt l k).f.toNat=u) (h0:0≤gt out u) (ha:0≤a) {t:Int} (e:hopO (gt l k) z (gt out u)=some t) (h:gt out (gt l k).t.toNat<0∨t<gt out (gt l k).t.toNat):
    Dij l z a s (out.set (gt l k).t.toNat t) (((gt l k).t,t)::Q) u (k+1):=by
  have hm:gt l k∈l:=by rw[gt_eq hk];exact List.getElem_mem _
  have v:=hv _ hm
  have le:=hop_le v hz e
  have g1:=hop_gt v hz e
  have ht:(gt l k).t.toNat<17:=by have:=v.2.1;omega
  have hs:a≤gt out u:=D.g u (by have:=v.1;omega) h0
  have gs: ∀ n,gt (out.set (gt l k).t.toNat t) n=if n=(gt l k).t.toNat then t else gt out n:=fun n=>gt_set (by rw[D.len];exact ht)
  have le2: ∀ n,0≤gt out n→0≤gt (out.set (gt l k).t.toNat t) n∧gt (out.set (gt l k).t.toNat t) n≤gt out n:=fun n h0=>by
    rw[gs]
    by_cases c:n=(gt l k).t.toNat
    · rw[if_pos c];rw[←c] at h;omega
    · rw[if_neg c];omega
  have ne:u≠(gt l k).t.toNat:=fun q=>by have:=v.2.2.1;have:=v.1;have:=v.2.1;omega
  have dn: ∀ n k',n≠(gt l k).t.toNat→doneC l z out n k'→doneC l z (out.set (gt l k).t.toNat t) n k':=fun n k' hn d j hj e' t' et=>by
    rw[gs n,if_neg hn] at et
    have:=d j hj e' t' et
    have:=le2 _ this.1
    omega
  refine ⟨by rw[List.length_set];exact D.len,?_,fun x hx=> ?_,fun n hn q=> ?_,fun n hn q=> ?_,fun n hn=> ?_,fun n hn q=> ?_⟩
  · rw[gs]
    by_cases c:s=(gt l k).t.toNat
    · rw[←c,D.z0] at h;omega
    · rw[if_neg c];exact D.z0
  · rcases List.mem_cons.1 hx with rfl |hx
    · refine ⟨v.2.1,?_⟩
      rw[gs,if_pos rfl];omega
    · have:=D.q x hx
      have:=le2 _ this.2.1
      omega
  · by_cases c:n=(gt l k).t.toNat
    · exact .inl ⟨_,List.mem_cons_self ..,c.symm,by rw[gs,if_pos c]⟩
    · rw[gs,if_neg c] at q
      rcases D.c n hn q with ⟨x,hx,e1,e2⟩|d |⟨rfl,d⟩
      · exact .inl ⟨x,List.mem_cons_of_mem _ hx,e1,by rw[gs,if_neg c];exact e2⟩
      · exact .inr (.inl (dn n _ c d))
      · refine .inr (.inr ⟨rfl,fun j hj e' t' et=> ?_⟩)
        rcases Nat.lt_or_ge j k with g |g
        · exact dn n k c d j g e' t' et
        · have hj':j=k:=by omega
          subst hj'
          rw[gs,if_neg c,e] at et
          cases et
          rw[gs,if_pos rfl];omega
  · rw[gs] at q ⊢
    by_cases c:n=(gt l k).t.toNat
    · rw[if_pos c]
      refine .inr ⟨_,hm,c.symm,?_,gt out u,?_,e⟩
      · rw[hu,gs,if_neg ne];exact h0
      · rw[hu,gs,if_neg ne];exact Int.le_refl _
    · rw[if_neg c] at q ⊢
      rcases D.w n hn q with rfl |⟨c',hc',e1,e2,x,e3,e4⟩
      · exact .inl rfl
      · have:=le2 _ e2
        exact .inr ⟨c',hc',e1,this.1,x,by omega,e4⟩
  · rw[gs]
    by_cases c:n=(gt l k).t.toNat
    · rw[if_pos c];omega
    · rw[if_neg c];exact D.b n hn
  · rw[gs] at q ⊢
    by_cases c:n=(gt l k).t.toNat
    · rw[if_pos c];omega
    · rw[if_neg c] at q ⊢;exact D.g n hn q
theorem Dij.done {out:List Int} {Q:List (Int × Int)} {u v:Nat} (D:Dij l z a s out Q u l.length):Dij l z a s out Q v 0:=
  ⟨D.len,D.z0,D.q,fun n hn h0=>by
    rcases D.c n hn h0 with c |c |⟨_,c⟩
    · exact .inl c
    · exact .inr (.inl c)
    · exact .inr (.inl c),D.w,D.b,D.g⟩
theorem Dij.pop {out:List Int} {Q Q':List (Int × Int)} {x:Int × Int} {u:Nat} (D:Dij l z a s out Q u 0) (hQ: ∀ y,y∈Q↔y=x∨y∈Q') (hx:x∈Q) (h17:u=17):(gt out x.1.toNat<x.2→Dij l z a s out Q' 17 0)∧(¬ gt out x.1.toNat<x.2→gt out x.1.toNat=x.2∧Dij l z a s out Q' x.1.toNat 0):=by
  have hq:=D.q x hx
  refine ⟨fun h=>⟨D.len,D.z0,fun y hy=>D.q y ((hQ y).2 (.inr hy)),fun n hn h0=> ?_,D.w,D.b,D.g⟩,fun h=>⟨by omega,D.len,D.z0,fun y hy=>D.q y ((hQ y).2 (.inr hy)),fun n hn h0=> ?_,D.w,D.b,D.g⟩⟩
  · rcases D.c n hn h0 with ⟨y,hy,e1,e2⟩|c |⟨c1,c2⟩
    · rcases (hQ y).1 hy with rfl |hy
      · rw[e1] at h;omega
      · exact .inl ⟨y,hy,e1,e2⟩
    · exact .inr (.inl c)
    · omega
  · rcases D.c n hn h0 with ⟨y,hy,e1,e2⟩|c |⟨c1,c2⟩
    · rcases (hQ y).1 hy with rfl |hy
      · exact .inr (.inr ⟨e1.symm,fun j hj=>absurd hj (by omega)⟩)
      · exact .inl ⟨y,hy,e1,e2⟩
    · exact .inr (.inl c)
    · omega
theorem Dij.closed {out:List Int} (hv: ∀ c∈l,conOK c) (D:Dij l z a s out [] 17 0):Closed l z a s (gt out) where
  z0:=D.z0
  c :=fun c t hc q e=>by
    have v:=hv c hc
    have hf:c.f.toNat<17:=by have:=v.1;omega
    obtain ⟨k,hk,rfl⟩:=List.getElem_of_mem hc
    rw[←gt_eq hk] at*
    rcases D.c _ hf q with ⟨y,hy,_⟩|d |⟨c1,_⟩
    · cases hy
    · exact d k hk rfl t e
    · omega
  w:=D.w
def phi (x:Int):Nat:=if x<0 then 2199024304129 else x.toNat
def pot (out:List Int):Nat:=(out.map phi).sum
theorem pot_set: ∀ (out:List Int) (i:Nat) (t:Int),i<out.length→phi t<phi (gt out i)→pot (out.set i t)+1≤pot out
  | [],i,t,h,_=>absurd h (by simp)
  | x::out,0,t,_,h=>by
    simp only[pot,List.set_cons_zero,List.map_cons,List.sum_cons]
    have:gt (x::out) 0=x:=rfl
    rw[this] at h
    omega
  | x::out,i+1,t,h,g=>by
    have ih:=pot_set out i t (by simpa using h) g
    simp only[pot,List.set_cons_succ,List.map_cons,List.sum_cons] at ih ⊢
    omega
theorem phi_lt {t x:Int} (ht:0≤t∧t≤hopT) (h:x<0∨t<x):phi t<phi x:=by
  unfold phi hopT at*
  rw[if_neg (by omega)]
  split <;>omega
end
theorem bef_trans {a b c:ConD} (h:befC a b) (k:befC b c):befC a c:=by unfold befC at*;omega
theorem bef_all {l:List ConD} (hb: ∀ i,i<l.length→conBad l i=0): ∀ j i,i<j→j<l.length→befC (gt l i) (gt l j)
  |0,i,h,_=>absurd h (by omega)
  | j + 1,i,h,hj=>by
    have b:=hb (j+1) hj
    unfold conBad at b
    have q:befC (gt l j) (gt l (j+1)):=by
      split at b
      · omega
      · split at b
        · omega
        · rename_i q
          simp only[Nat.add_sub_cancel] at q
          by_cases c:befC (gt l j) (gt l (j+1))
          · exact c
          · exact absurd ⟨by omega,c⟩ q
    rcases Nat.lt_or_ge i j with g |g
    · exact bef_trans (bef_all hb j i g (by omega)) q
    · rw[show i=j by omega];exact q
theorem con_ok {l:List ConD} {i:Nat} (hb:conBad l i=0):conOK (gt l i):=by
  unfold conBad at hb
  by_cases q:conOK (gt l i)
  · exact q
  · rw[if_pos q] at hb;omega
def kp (x:Int × Int):Int:=x.1*32+x.2
theorem sub_len: ∀ {l m:List Int},l.Nodup→(∀ x∈l,x∈m)→l.length≤m.length
  | [],_,_,_=>Nat.zero_le _
  | x::l,m,hn,h=>by
    rw[List.nodup_cons] at hn
    have hx:=h x (List.mem_cons_self ..)
    have ih:=sub_len (m:=m.erase x) hn.2 fun y hy=>(List.mem_erase_of_ne (fun q=>hn.1 (by rw[←q];exact hy))).2 (h y (List.mem_cons_of_mem _ hy))
    rw[List.length_erase_of_mem hx] at ih
    have:0<m.length:=List.length_pos_of_mem hx
    rw[List.length_cons]
    omega
section
variable (l:List ConD) (st:Nat→Bool)
def inI (a b:Int):Nat→List (Int × Int)
  |0=> []
  |i+1=>inI a b i++if st i=true∧(gt l i).f=a∧(gt l i).t=b then [(a,b)] else []
def inB (a:Int):Nat→List (Int × Int)
  |0=> []
  |b+1=>inB a b++inI l st a ((b+1:Nat):Int) l.length
def inA:Nat→List (Int × Int)
  |0=> []
  |a+1=>inA a++inB l st ((a+1:Nat):Int) 16
def opI:Nat→List Int
  |0=> []
  |i+1=>opI i++if st i=true then [(i:Int)] else []
variable {l st}
theorem inI_mem {a b:Int}: ∀ {i:Nat} {x:Int × Int},x∈inI l st a b i↔x=(a,b)∧ ∃ j,j<i∧st j=true∧(gt l j).f=a∧(gt l j).t=b
  |0,x=>by simp[inI]
  | i + 1,x=>by
    rw[inI,List.mem_append,inI_mem]
    constructor
    · rintro (⟨e,j,hj,h⟩|h)
      · exact ⟨e,j,by omega,h⟩
      · split at h
        · rename_i c
          exact ⟨List.mem_singleton.1 h,i,by omega,c⟩
        · cases h
    · rintro ⟨e,j,hj,h⟩
      rcases Nat.lt_or_ge j i with g |g
      · exact .inl ⟨e,j,g,h⟩
      · rw[show j=i by omega] at h
        exact .inr (by rw[if_pos h];exact List.mem_singleton.2 e)
theorem inB_mem {a:Int}: ∀ {b:Nat} {x:Int × Int},x∈inB l st a b↔x.1=a∧1≤x.2∧x.2≤b∧ ∃ j,j<l.length∧st j=true∧(gt l j).f=x.1∧(gt l j).t=x.2
  | 0,x=>by
    simp only[inB,List.not_mem_nil,false_iff]
    rintro ⟨_,h1,h2,_⟩
    omega
  | b + 1,x=>by
    rw[inB,List.mem_append,inB_mem,inI_mem]
    constructor
    · rintro (⟨e,h1,h2,h⟩|⟨e,j,hj,h⟩)
      · exact ⟨e,h1,by omega,h⟩
      · subst e
        exact ⟨rfl,by simp only;omega,by simp only;omega,j,hj,h⟩
    · rintro ⟨e,h1,h2,j,hj,h⟩
      rcases Int.lt_or_le b x.2 with g |g
      · have e2:x.2=((b+1:Nat):Int):=by omega
        exact .inr ⟨Prod.ext e e2,j,hj,by rw[←e2,←e];exact h⟩
      · exact .inl ⟨e,h1,g,j,hj,h⟩
theorem inA_mem: ∀ {a:Nat} {x:Int × Int},x∈inA l st a↔(1≤x.1∧x.1≤a)∧(1≤x.2∧x.2≤16)∧ ∃ j,j<l.length∧st j=true∧(gt l j).f=x.1∧(gt l j).t=x.2
  | 0,x=>by
    simp only[inA,List.not_mem_nil,false_iff]
    rintro ⟨⟨h1,h2⟩,_⟩
    omega
  | a +1,x=>by
    rw[inA,List.mem_append,inA_mem,inB_mem]
    constructor
    · rintro (⟨⟨h1,h2⟩,h⟩|⟨e,h1,h2,h⟩)
      · exact ⟨⟨h1,by omega⟩,h⟩
      · exact ⟨⟨by omega,by omega⟩,⟨h1,h2⟩,h⟩
    · rintro ⟨⟨h1,h2⟩,h3,h⟩
      rcases Int.lt_or_le a x.1 with g |g
      · exact .inr ⟨by omega,h3.1,h3.2,h⟩
      · exact .inl ⟨⟨h1,g⟩,h3,h⟩
def One0 (l:List ConD) (st:Nat→Bool):Prop:= ∀ i j,i<l.length→j<l.length→st i=true→st j=true→(gt l i).f=(gt l j).f→(gt l i).t=(gt l j).t→i=j
theorem inI_pw (U:One0 l st) (a b:Int): ∀ i,i≤l.length→((inI l st a b i).map kp).Pairwise (· < ·)
  |0,_=>by simp[inI]
  | i + 1,hi=>by
    rw[inI,List.map_append,List.pairwise_append]
    refine ⟨inI_pw U a b i (by omega),?_,fun x hx y hy=> ?_⟩
    · split <;>simp
    · split at hy
      · rename_i c
        obtain ⟨p,hp,rfl⟩:=List.mem_map.1 hx
        obtain ⟨_,j,hj,h⟩:=inI_mem.1 hp
        have:=U j i (by omega) (by omega) h.1 c.1 (by rw[h.2.1,c.2.1]) (by rw[h.2.2,c.2.2])
        omega
      · cases hy
theorem inB_pw (U:One0 l st) (a:Int): ∀ b,((inB l st a b).map kp).Pairwise (· < ·)
  |0=>by simp[inB]
  | b+1=>by
    rw[inB,List.map_append,List.pairwise_append]
    refine ⟨inB_pw U a b,inI_pw U _ _ _ (Nat.le_refl _),fun x hx y hy=> ?_⟩
    obtain ⟨p,hp,rfl⟩:=List.mem_map.1 hx
    obtain ⟨q,hq,rfl⟩:=List.mem_map.1 hy
    obtain ⟨e1,_,h2,_⟩:=inB_mem.1 hp
    obtain ⟨e2,_⟩:=inI_mem.1 hq
    subst e2
    unfold kp
    simp only
    omega
theorem inA_pw (U:One0 l st): ∀ a,((inA l st a).map kp).Pairwise (· < ·)
  |0=>by simp[inA]
  | a+1=>by
    rw[inA,List.map_append,List.pairwise_append]
    refine ⟨inA_pw U a,inB_pw U _ 16,fun x hx y hy=> ?_⟩
    obtain ⟨p,hp,rfl⟩:=List.mem_map.1 hx
    obtain ⟨q,hq,rfl⟩:=List.mem_map.1 hy
    obtain ⟨⟨_,h1⟩,⟨_,h2⟩,_⟩:=inA_mem.1 hp
    obtain ⟨e,h3,_⟩:=inB_mem.1 hq
    unfold kp
    omega
theorem opI_mem: ∀ {i:Nat} {x:Int},x∈opI st i↔0≤x∧x<i∧st x.toNat=true
  | 0,x=>by
    simp only[opI,List.not_mem_nil,false_iff]
    rintro ⟨h1,h2,_⟩
    omega
  | i + 1,x=>by
    rw[opI,List.mem_append,opI_mem]
    constructor
    · rintro (⟨h1,h2,h⟩|h)
      · exact ⟨h1,by omega,h⟩
      · split at h
        · rename_i c
          have:=List.mem_singleton.1 h
          subst this
          exact ⟨by omega,by omega,by simpa using c⟩
        · cases h
    · rintro ⟨h1,h2,h⟩
      rcases Int.lt_or_le x i with g |g
      · exact .inl ⟨h1,g,h⟩
      · have e:x=i:=by omega
        subst e
        exact .inr (by rw[if_pos (by simpa using h)];exact List.mem_singleton.2 rfl)
theorem opI_pw: ∀ i,(opI st i).Pairwise (· < ·)
  |0=>by simp[opI]
  | i+1=>by
    rw[opI,List.pairwise_append]
    refine ⟨opI_pw i,by split <;>simp,fun x hx y hy=> ?_⟩
    have:=opI_mem.1 hx
    split at hy
    · have:=List.mem_singleton.1 hy;omega
    · cases hy
def cP (l:List ConD) (i:Int):Int × Int:=((gt l i.toNat).f,(gt l i.toNat).t)
theorem kp_inj {x y:Int × Int} (h1:1≤x.2∧x.2≤16) (h2:1≤y.2∧y.2≤16) (h:kp x=kp y):x=y:=by
  unfold kp at h
  exact Prod.ext (by omega) (by omega)
theorem map_inj {l m:List (Int × Int)} (h1: ∀ x∈l,1≤x.2∧x.2≤16) (h2: ∀ x∈m,1≤x.2∧x.2≤16) (h:l.map kp=m.map kp):l=m:=by
  induction l generalizing m with
  | nil=>cases m with
    |nil=>rfl
    |cons y m=>cases h
  | cons x l ih=>cases m with
    |nil=>cases h
    | cons y m=>
      rw[List.map_cons,List.map_cons,List.cons.injEq] at h
      rw[kp_inj (h1 x (List.mem_cons_self ..)) (h2 y (List.mem_cons_self ..)) h.1,ih (fun z hz=>h1 z (List.mem_cons_of_mem _ hz)) (fun z hz=>h2 z (List.mem_cons_of_mem _ hz)) h.2]
theorem asc_pw {K:Int→Int} {l:List Int} (h:Asc K l.length l) (hd:(l.map K).Nodup):(l.map K).Pairwise (· < ·):=by
  rw[List.pairwise_iff_getElem]
  intro i j hi hj hij
  rw[List.length_map] at hi hj
  have a:=h i j hij hj
  rw[gt_eq hi,gt_eq hj] at a
  rw[List.getElem_map,List.getElem_map]
  have d:=List.pairwise_iff_getElem.1 hd i j (by rw[List.length_map];exact hi) (by rw[List.length_map];exact hj) hij
  rw[List.getElem_map,List.getElem_map] at d
  omega
theorem open_eq (hb: ∀ i,i<l.length→conBad l i=0) (U:One0 l st) {m:List Int} (hm:m.Perm (opI st l.length)) (ha:Asc (fun i=>kp (cP l i)) m.length m):m.map (cP l)=inA l st 16:=by
  have hr: ∀ x∈m,∃ j,j<l.length∧x=(j:Int)∧st j=true:=fun x hx=>by
    have:=opI_mem.1 (hm.mem_iff.1 hx)
    exact ⟨x.toNat,by omega,by omega,this.2.2⟩
  have hc: ∀ j,j<l.length→cP l (j:Int)=((gt l j).f,(gt l j).t):=fun j _=>by rw[cP,Int.toNat_natCast]
  have hv: ∀ j,j<l.length→conOK (gt l j):=fun j hj=>con_ok (hb j hj)
  have nd:(m.map fun i=>kp (cP l i)).Nodup:=by
    have n0:m.Nodup:=hm.nodup_iff.2 ((opI_pw l.length).imp fun h=>by omega)
    rw[List.nodup_iff_pairwise_ne,List.pairwise_map]
    refine List.Pairwise.imp_of_mem (fun {x y} hx hy hne e=> ?_) n0
    obtain ⟨i,hi,rfl,si⟩:=hr x hx
    obtain ⟨j,hj,rfl,sj⟩:=hr y hy
    rw[hc i hi,hc j hj] at e
    have vi:=hv i hi
    have vj:=hv j hj
    have:=kp_inj (x:=((gt l i).f,(gt l i).t)) (y:=((gt l j).f,(gt l j).t)) vi.2.1 vj.2.1 e
    have u:=U i j hi hj si sj (congrArg Prod.fst this) (congrArg Prod.snd this)
    exact hne (by rw[u])
  have p1:=asc_pw ha nd
  refine map_inj (fun x hx=> ?_) (fun x hx=>(inA_mem.1 hx).2.1) ?_
  · obtain ⟨y,hy,rfl⟩:=List.mem_map.1 hx
    obtain ⟨j,hj,rfl,_⟩:=hr y hy
    rw[hc j hj]
    exact (hv j hj).2.1
  rw[List.map_map]
  refine asc_eq p1 (inA_pw U 16) fun k=> ?_
  rw[List.mem_map,List.mem_map]
  constructor
  · rintro ⟨x,hx,rfl⟩
    obtain ⟨j,hj,rfl,sj⟩:=hr x hx
    have v:=hv j hj
    exact ⟨((gt l j).f,(gt l j).t),inA_mem.2 ⟨v.1,v.2.1,j,hj,sj,rfl,rfl⟩,by rw[Function.comp,hc j hj]⟩
  · rintro ⟨x,hx,rfl⟩
    obtain ⟨_,_,j,hj,sj,e1,e2⟩:=inA_mem.1 hx
    refine ⟨(j:Int),hm.mem_iff.2 (opI_mem.2 ⟨by omega,by omega,by rw[Int.toNat_natCast];exact sj⟩),?_⟩
    rw[Function.comp,hc j hj,e1,e2]
theorem one0 (hb: ∀ i,i<l.length→conBad l i=0) (h0: ∀ i,i<l.length→st i=true→(gt l i).s=0):One0 l st:=fun i j hi hj si sj e1 e2=>by
  have a:=h0 i hi si
  have b:=h0 j hj sj
  rcases Nat.lt_trichotomy i j with g |g |g
  · have:=bef_all hb j i g hj;unfold befC at this;omega
  · exact g
  · have:=bef_all hb i j g hi;unfold befC at this;omega
theorem open_le (hb: ∀ i,i<l.length→conBad l i=0) (U:One0 l st) {N:List Int} (hN:N.length≤4) (hs: ∀ i,i<l.length→st i=true→(gt l i).f∈N∧(gt l i).t∈N):(opI st l.length).length≤12:=by
  let PP:List Int:=N.flatMap fun a=>(N.erase a).map fun b=>kp (a,b)
  have hP:PP.length≤12:=by
    have h1: ∀ M:List Int,(∀ a∈M,a∈N)→(M.flatMap fun a=>(N.erase a).map fun b=>kp (a,b)).length≤M.length*3:=fun M=>by
      induction M with
      |nil=>intro _;simp
      | cons a M ih=>
        intro h
        have i:=ih fun b hb=>h b (List.mem_cons_of_mem _ hb)
        have e:=List.length_erase_of_mem (h a (List.mem_cons_self ..))
        rw[List.flatMap_cons,List.length_append,List.length_map,List.length_cons,e]
        omega
    have:=h1 N fun a h=>h
    show (N.flatMap _).length≤12
    omega
  have nd:((opI st l.length).map fun i=>kp (cP l i)).Nodup:=by
    rw[List.nodup_iff_pairwise_ne,List.pairwise_map]
    refine List.Pairwise.imp_of_mem (fun {x y} hx hy hne e=> ?_) (opI_pw l.length)
    have a:=opI_mem.1 hx
    have b:=opI_mem.1 hy
    have vx:=con_ok (hb x.toNat (by omega))
    have vy:=con_ok (hb y.toNat (by omega))
    have:=kp_inj (x:=cP l x) (y:=cP l y) vx.2.1 vy.2.1 e
    have u:=U x.toNat y.toNat (by omega) (by omega) a.2.2 b.2.2 (congrArg Prod.fst this) (congrArg Prod.snd this)
    omega
  have:=sub_len (m:=PP) nd fun k hk=>by
    obtain ⟨x,hx,rfl⟩:=List.mem_map.1 hk
    have a:=opI_mem.1 hx
    have v:=con_ok (hb x.toNat (by omega))
    have s:=hs x.toNat (by omega) a.2.2
    exact List.mem_flatMap.2 ⟨_,s.1,List.mem_map.2 ⟨_,(List.mem_erase_of_ne (fun q=>v.2.2.1 q.symm)).2 s.2,rfl⟩⟩
  rw[List.length_map] at this
  omega
end
def rateP (l:List ConD):Nat→Int
  |0=>1
  |i+1=>if i=0 then (gt l 0).r else min (rateP l i) (gt l i).r
def delayP (l:List ConD):Nat→Int
  |0=>0
  |i+1=>max (delayP l i) (gt l i).d
theorem rateP_ok {l:List ConD} (hv: ∀ i,i<l.length→conOK (gt l i)): ∀ i,i≤l.length→1≤rateP l i∧rateP l i≤1048576
  |0,_=>by simp[rateP]
  | i+1,hi=>by
    have ih:=rateP_ok hv i (by omega)
    have v:=hv i (by omega)
    obtain ⟨_,_,_,_,_,_,h7,h8,_,_⟩:=v
    rw[rateP]
    split
    · rename_i q;subst q;omega
    · omega
theorem delayP_ok {l:List ConD} (hv: ∀ i,i<l.length→conOK (gt l i)): ∀ i,i≤l.length→0≤delayP l i∧delayP l i≤1048576
  |0,_=>by simp[delayP]
  | i+1,hi=>by
    have ih:=delayP_ok hv i (by omega)
    have v:=hv i (by omega)
    obtain ⟨_,_,_,_,_,_,_,_,h9,h10⟩:=v
    rw[delayP]
    omega
def waitP (r:Int):Int:=1199 / r+2
theorem wait_eq {r:Int} (h:1≤r):(1200+r - 1) / r+1=waitP r:=by
  unfold waitP
  have e:(1200+r - 1)=1199+r*1:=by omega
  rw[e,Int.add_mul_ediv_left _ _ (by omega)]
  omega
theorem waitP_ok {r:Int} (h:1≤r):2≤waitP r∧waitP r≤1201:=by
  unfold waitP
  have h1:0≤1199 / r:=Int.ediv_nonneg (by omega) (by omega)
  have h2:1199 / r≤1199:=Int.ediv_le_self _ (by omega)
  omega
def boundP (nodes cmds:Nat) (l:List ConD):Int:=10+cmds*nodes*(waitP (rateP l l.length)+2)
def reachP (nodes cmds:Nat) (l:List ConD):Int:=boundP nodes cmds l+nodes*(waitP (rateP l l.length)+delayP l l.length+2)
def sw {α:Type} [Inhabited α] (l:List α) (i j:Nat):List α:=(l.set i (gt l j)).set j (gt l i)
theorem sw_len {α:Type} [Inhabited α] (l:List α) (i j:Nat):(sw l i j).length=l.length:=by simp[sw]
theorem gt_sw {α:Type} [Inhabited α] {l:List α} {i j k:Nat} (hi:i<l.length) (hj:j<l.length):gt (sw l i j) k=if k=j then gt l i else if k=i then gt l j else gt l k:=by
  unfold sw
  rw[gt_set (by simp;omega),gt_set hi]
theorem sw_perm {α:Type} [Inhabited α] {l:List α} {i j:Nat} (hi:i<l.length) (hj:j<l.length):(sw l i j).Perm l:=by
  unfold sw
  rw[gt_eq hi,gt_eq hj]
  exact List.set_set_perm hi hj
section
variable {α:Type} [Inhabited α] {K:α→Int}
def Heap (K:α→Int) (n:Nat) (l:List α):Prop:= ∀ k,1≤k→k<n→K (gt l ((k - 1) / 2))≤K (gt l k)
def UpI (K:α→Int) (l:List α) (j:Nat):Prop:=(∀ k,1≤k→k<l.length→k≠j→K (gt l ((k - 1) / 2))≤K (gt l k))∧(∀ k,1≤k→k<l.length→(k - 1) / 2=j→1≤j→K (gt l ((j - 1) / 2))≤K (gt l k))
def DnI (K:α→Int) (n:Nat) (l:List α) (i:Nat):Prop:=(∀ k,1≤k→k<n→(k - 1) / 2≠i→K (gt l ((k - 1) / 2))≤K (gt l k))∧(∀ k,1≤k→k<n→(k - 1) / 2=i→1≤i→K (gt l ((i - 1) / 2))≤K (gt l k))
theorem heap_min {n:Nat} {l:List α} (h:Heap K n l): ∀ k,k<n→K (gt l 0)≤K (gt l k):=by
  intro k
  induction k using Nat.strongRecOn with
  | _ k ih=>
    intro hk
    rcases Nat.eq_zero_or_pos k with rfl |h0
    · exact Int.le_refl _
    · have a:=ih ((k - 1) / 2) (by omega) (by omega)
      have b:=h k h0 hk
      omega
theorem up_push {l:List α} (h:Heap K l.length l) (x:α):UpI K (l++ [x]) l.length:=by
  have g: ∀ k,k<l.length→gt (l++ [x]) k=gt l k:=fun k hk=>by
    rw[gt_eq (show k<(l++ [x]).length by simp;omega),gt_eq hk,List.getElem_append_left hk]
  refine ⟨fun k h1 h2 h3=> ?_,fun k h1 h2 h3=> ?_⟩
  · rw[List.length_append,List.length_singleton] at h2
    rw[g _ (by omega),g _ (by omega)]
    exact h k h1 (by omega)
  · rw[List.length_append,List.length_singleton] at h2
    omega
theorem up_step {l:List α} {j:Nat} (h:UpI K l j) (h0:1≤j) (hj:j<l.length) (c:K (gt l j)<K (gt l ((j - 1) / 2))):UpI K (sw l ((j - 1) / 2) j) ((j - 1) / 2):=by
  have hp:(j - 1) / 2<l.length:=by omega
  have g: ∀ k,gt (sw l ((j - 1) / 2) j) k=if k=j then gt l ((j - 1) / 2) else if k=(j - 1) / 2 then gt l j else gt l k:=fun k=>gt_sw hp hj
  refine ⟨fun k h1 h2 h3=> ?_,fun k h1 h2 h3 h4=> ?_⟩
  · rw[sw_len] at h2
    rw[g,g]
    by_cases e:k=j
    · subst e
      rw[if_pos rfl,if_neg (by omega),if_pos rfl];omega
    · rw[if_neg e,if_neg h3]
      by_cases e2:(k - 1) / 2=j
      · rw[if_pos e2]
        exact h.2 k h1 h2 e2 h0
      · rw[if_neg e2]
        by_cases e3:(k - 1) / 2=(j - 1) / 2
        · rw[if_pos e3]
          have:=h.1 k h1 h2 e
          rw[e3] at this
          omega
        · rw[if_neg e3]
          exact h.1 k h1 h2 e
  · rw[sw_len] at h2
    have q:=h.1 ((j - 1) / 2) h4 (by omega) (by omega)
    rw[g,g,if_neg (by omega),if_neg (by omega)]
    by_cases e:k=j
    · rw[if_pos e];exact q
    · rw[if_neg e,if_neg (by omega)]
      have:=h.1 k h1 h2 e
      rw[h3] at this
      omega
theorem up_end {l:List α} {j:Nat} (h:UpI K l j) (c:j=0∨ ¬ K (gt l j)<K (gt l ((j - 1) / 2))):Heap K l.length l:=fun k h1 h2=>by
  by_cases e:k=j
  · subst e;omega
  · exact h.1 k h1 h2 e
theorem dn_pop {l:List α} (h:Heap K l.length l) (h0:1≤l.length):DnI K (l.length - 1) (sw l 0 (l.length - 1)) 0:=by
  refine ⟨fun k h1 h2 h3=> ?_,fun k h1 h2 h3 h4=>by omega⟩
  rw[gt_sw (by omega) (by omega),gt_sw (by omega) (by omega),if_neg (by omega),if_neg (by omega),if_neg (by omega),if_neg (by omega)]
  exact h k h1 (by omega)
theorem dn_step {l:List α} {n i j:Nat} (h:DnI K n l i) (hn:n≤l.length) (hj:j<n) (hij:(j - 1) / 2=i) (hj1:1≤j) (c:K (gt l j)<K (gt l i)) (hm: ∀ k,1≤k→k<n→(k - 1) / 2=i→K (gt l j)≤K (gt l k)):DnI K n (sw l i j) j:=by
  have hi:i<l.length:=by omega
  have g: ∀ k,gt (sw l i j) k=if k=j then gt l i else if k=i then gt l j else gt l k:=fun k=>gt_sw hi (by omega)
  refine ⟨fun k h1 h2 h3=> ?_,fun k h1 h2 h3 h4=> ?_⟩
  · rw[g,g,if_neg h3]
    by_cases e:k=j
    · subst e
      rw[if_pos hij,if_pos rfl];omega
    · rw[if_neg e]
      by_cases e2:(k - 1) / 2=i
      · rw[if_pos e2,if_neg (by omega)]
        exact hm k h1 h2 e2
      · rw[if_neg e2]
        by_cases e3:k=i
        · rw[if_pos e3]
          subst e3
          exact h.2 j hj1 hj hij h1
        · rw[if_neg e3]
          exact h.1 k h1 h2 e2
  · rw[g,g,if_neg (by omega),if_pos hij,if_neg (by omega),if_neg (by omega)]
    have:=h.1 k h1 h2 (by omega)
    rw[h3] at this
    exact this
theorem dn_end {l:List α} {n i:Nat} (h:DnI K n l i) (c: ∀ k,1≤k→k<n→(k - 1) / 2=i→K (gt l i)≤K (gt l k)):Heap K n l:=fun k h1 h2=>by
  by_cases e:(k - 1) / 2=i
  · rw[e];exact c k h1 h2 e
  · exact h.1 k h1 h2 e
end
structure Mon (out:List Int) (Q:List (Int × Int)) (cur:Int) (S:List Int):Prop where
  q: ∀ x∈Q,cur≤x.2
  nd:Q.Nodup
  sn:S.Nodup
  s: ∀ u∈S,(1≤u∧u≤16)∧0≤gt out u.toNat∧gt out u.toNat≤cur∧ ∀ x∈Q,x.1=u→x.2≠gt out u.toNat
theorem Mon.le {out:List Int} {Q:List (Int × Int)} {cur:Int} {S:List Int} (M:Mon out Q cur S):S.length≤16:=by
  have h:=sub_len (m:=[1,2,3,4,5,6,7,8,9,10,11,12,13,14,15,16]) M.sn fun u hu=>by
    have:=(M.s u hu).1
    simp only[List.mem_cons,List.not_mem_nil,or_false]
    omega
  simpa using h
theorem Mon.perm {out:List Int} {Q Q':List (Int × Int)} {cur:Int} {S:List Int} (M:Mon out Q cur S) (h:Q'.Perm Q):Mon out Q' cur S:=
  ⟨fun x hx=>M.q x (h.mem_iff.1 hx),h.nodup_iff.2 M.nd,M.sn,fun u hu=>⟨(M.s u hu).1,(M.s u hu).2.1,(M.s u hu).2.2.1,fun x hx=>(M.s u hu).2.2.2 x (h.mem_iff.1 hx)⟩⟩
section
variable {l:List ConD} {z a:Int} {s:Nat}
theorem Mon.late {out:List Int} {Q:List (Int × Int)} {x:Int × Int} {cur:Int} {S:List Int} (M:Mon out (x::Q) cur S) (hm: ∀ y∈Q,x.2≤y.2):Mon out Q x.2 S:=by
  have n:=List.nodup_cons.1 M.nd
  refine ⟨hm,n.2,M.sn,fun u hu=> ?_⟩
  have h:=M.s u hu
  have k:=M.q x (List.mem_cons_self ..)
  exact ⟨h.1,h.2.1,by omega,fun y hy=>h.2.2.2 y (List.mem_cons_of_mem _ hy)⟩
theorem Mon.take {out:List Int} {Q:List (Int × Int)} {x:Int × Int} {cur:Int} {S:List Int} (M:Mon out (x::Q) cur S) (hm: ∀ y∈Q,x.2≤y.2) (hx:1≤x.1∧x.1≤16) (h0:0≤gt out x.1.toNat) (e:gt out x.1.toNat=x.2):Mon out Q x.2 (x.1::S):=by
  have n:=List.nodup_cons.1 M.nd
  have L:=M.late hm
  refine ⟨hm,n.2,List.nodup_cons.2 ⟨fun q=> ?_,M.sn⟩,fun u hu=> ?_⟩
  · exact (M.s x.1 q).2.2.2 x (List.mem_cons_self ..) rfl e.symm
  · rcases List.mem_cons.1 hu with rfl |hu
    · refine ⟨hx,h0,by omega,fun y hy e1 e2=> ?_⟩
      exact n.1 (by rw[show x=y from Prod.ext e1.symm (by omega)];exact hy)
    · exact L.s u hu
theorem Mon.put {out:List Int} {Q:List (Int × Int)} {cur:Int} {S:List Int} (M:Mon out Q cur S) {c t:Int} (hc:1≤c∧c≤16) (hl:out.length=17) (hq: ∀ x∈Q,1≤x.1∧0≤gt out x.1.toNat∧gt out x.1.toNat≤x.2) (ht:cur<t) (h:gt out c.toNat<0∨t<gt out c.toNat):Mon (out.set c.toNat t) ((c,t)::Q) cur S:=by
  have gs: ∀ n,gt (out.set c.toNat t) n=if n=c.toNat then t else gt out n:=fun n=>gt_set (by rw[hl];omega)
  refine ⟨fun x hx=> ?_,List.nodup_cons.2 ⟨fun q=> ?_,M.nd⟩,M.sn,fun u hu=> ?_⟩
  · rcases List.mem_cons.1 hx with rfl |hx
    · simp only;omega
    · exact M.q x hx
  · have:=hq _ q
    simp only at this
    omega
  · have k:=M.s u hu
    have ne:u≠c:=fun e=>by subst e;omega
    rw[gs,if_neg (by omega)]
    refine ⟨k.1,k.2.1,k.2.2.1,fun x hx e=> ?_⟩
    rcases List.mem_cons.1 hx with rfl |hx
    · exact absurd e.symm ne
    · exact k.2.2.2 x hx e
end
structure CmdD where
  kind:Int
  node:Int
  other:Int
  n:Int
  pos:Int
  by_:Int
  b:BunD
  deriving DecidableEq,Inhabited
def cmdC (c:CmdD):List AV:=[.int .i64 c.kind,.int .i64 c.node,.int .i64 c.other,.int .i64 c.n,.int .i64 c.pos,.int .i64 c.by_,.int .i64 c.b.id.n,.int .u64 c.b.id.s,.int .i64 c.b.id.o,.int .i64 c.b.dest,.int .i64 c.b.prio,.int .i64 c.b.born,.int .i64 c.b.life,.int .i64 c.b.total,.str c.b.data]
structure ScX where
  cf:List CfgD
  cv:AV
  pl:List ConD
  pv:AV
  cm:List CmdD
  mv:AV
def scC (s:ScX):List AV:=[s.cv,s.pv,s.mv]
structure ScAt (h:Blks) (s:ScX):Prop where
  c:SlAt h 16 s.cv (s.cf.map cfgC)
  p:SlAt h 6 s.pv (s.pl.map conC)
  m:SlAt h 15 s.mv (s.cm.map cmdC)
structure ScN (s:ScX):Prop where
  c: ∀ x∈s.cf,U x.quota∧U x.window∧U x.low
  p: ∀ x∈s.pl,I x.s∧I x.e∧I x.r∧I x.d
  m: ∀ x∈s.cm,0≤x.b.id.s∧I x.b.total
structure ScF (s:ScX):Prop where
  c:s.cf.length≤4
  p:s.pl.length≤20
  m:s.cm.length≤410
  d: ∀ x∈s.cm,x.b.data.length≤300
theorem ScAt.keep {m m':Mem} {s:ScX} (H:ScAt m.blks s) (k:Keep m m'):ScAt m'.blks s:=⟨SlAt.keep H.c k,SlAt.keep H.p k,SlAt.keep H.m k⟩
end Go.Abs
end
