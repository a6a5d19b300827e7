/- Plain laws
   Conditions: none. -/
import Derived.Test.YteeknodhjojhhaaGreatDoorW
import Derived.WalkKit
set_option linter.unusedSimpArgs false
set_option linter.unusedVariables false
set_option maxRecDepth 100000
set_option maxHeartbeats 16000000
noncomputable section
namespace Go.Abs
open List Option IntKind
structure bF where
 f:Int
 t:Int
 s:Int
 e:Int
 r:Int
 d:Int
 deriving DecidableEq,Inhabited
def cF(c:bF):Prop:=(1<=c.f/\c.f<=16)/\(1<=c.t/\c.t<=16)/\c.f≠c.t/\0<=c.s/\c.s<c.e/\c.e<=1099511627776/\1<=c.r/\c.r<=1048576/\0<=c.d/\c.d<=1048576
def fx(c:bF)(x:Int):Int:=if x<=c.s then 0 else c.r*(min x c.e-c.s)
def ku(c:bF):Int:=c.r*(c.e-c.s)
def gE(c:bF)(z x:Int):Option Int:=if x<0\/1099511627776<x\/ku c<fx c x+z then none else some (c.s+(fx c x+z+c.r-1)/c.r+c.d)
theorem Mh{c:bF}(h:cF c){x y:Int}(q:x<=y):fx c x<=fx c y:=by
 obtain⟨_,_,_,_,h5,_,h7,_⟩:=h;unfold fx;by_cases a:x<=c.s
 .rw[aG a];by_cases b:y<=c.s
  .rw[aG b];omega
  .rw[aq b];exact Int.mul_nonneg Z Z
 .rw[aq a,aq Z];exact Int.mul_le_mul_of_nonneg_left Z Z
theorem sj{c:bF}(h:cF c){z x y t:Int}(h0:0<=x)(q:x<=y)(e:gE c z y=some t):∃t',gE c z x=some t'/\t'<=t:=by
 have p:=Mh h q;unfold gE at e|-;split at e
 .cases e
 .rename_i n;rw[aq Z];refine⟨_,rfl,?_⟩;cases e;have:=Int.ediv_le_ediv (a:=fx c x+z+c.r-1) (b:=fx c y+z+c.r-1) (c:=c.r) (by have:=h.2.2.2.2.2.2.1;omega) Z;omega
theorem pN{c:bF}(h:cF c){z x t:Int}(hz:1<=z)(e:gE c z x=some t):x<t:=by
 obtain⟨_,_,_,_,h5,_,h7,_,h9,_⟩:=h;unfold gE at e;split at e
 .cases e
 .rename_i n;cases e;unfold fx at n|-;by_cases a:x<=c.s
  .rw[aG a];have:1<=(0+z+c.r-1)/c.r:=by rw[Int.le_ediv_iff_mul_le Z];omega
   omega
  .rw[aq a]at n|-;by_cases b:x<c.e
   .rw[Int.min_eq_left Z];have e1:c.r*(x-c.s)+z+c.r-1=(z+c.r-1)+c.r*(x-c.s):=Z;rw[e1,Int.add_mul_ediv_left _ _ Z];have:1<=(z+c.r-1)/c.r:=by rw[Int.le_ediv_iff_mul_le Z];omega
    omega
   .rw[Int.min_eq_right Z]at n;unfold ku at n;omega
def rk(cg:Nat->Int)(x:Int):Nat:=((List.range 17).filter λm=>decide (0<=cg m/\cg m<x)).length
theorem filter_lt{l:List Nat}{p q:Nat->Bool}(h:∀m∈l,p m=true->q m=true){k:Nat}(hk:k∈l)(hp:p k=false)(hq:q k=true):(l.filter p).length+1<=(l.filter q).length:=by
 induction l with
 |nil=>cases hk
 |cons a l ih=>
  have oT:∀(l:List Nat),(∀m∈l,p m=true->q m=true)->(l.filter p).length<=(l.filter q).length:=λl=>by
   induction l with
   |nil=>intro _;simp
   |cons b l ih=>
    intro g;have i:=ih λm hm=>g m (mem_cons_of_mem _ hm)
    have gb:=g b (mem_cons_self ..);rw[filter_cons,filter_cons];cases hpb:p b
    .cases q b<;>simp<;>omega
    .rw[gb hpb];simp;exact i
  rw[filter_cons,filter_cons];rcases mem_cons.1 hk with rfl|hk
  .rw[hp,hq];have:=oT l λm hm=>h m (mem_cons_of_mem _ hm)
   simp;omega
  .have i:=ih (λm hm=>h m (mem_cons_of_mem _ hm)) hk;have ga:=h a (mem_cons_self ..);cases Ft:p a
   .cases q a<;>simp<;>omega
   .rw[ga Ft];simp;exact i
theorem Afm{cg:Nat->Int}{x:Int}{k:Nat}(hk:k<17)(h0:0<=cg k)(hx:cg k<x):rk cg (cg k)+1<=rk cg x:=
 filter_lt (λm _ hm=>by simp only[decide_eq_true_eq]at hm|-;omega) (mem_range.2 hk) (by simp) (by simp[h0,hx])
section
variable{l:List bF}{z a:Int}{s:Nat}
structure xn(l:List bF)(z a:Int)(s:Nat)(R:Nat->Nat->Int):Prop where
 z0:∀n,n<17->R 0 n=if n=s then a else-1
 m:∀h n,n<17->0<=R h n->0<=R (h+1) n/\R (h+1) n<=R h n
 r:∀h c t,c∈l->0<=R h c.f.toNat->gE c z (R h c.f.toNat)=some t->0<=R (h+1) c.t.toNat/\R (h+1) c.t.toNat<=t
 w:∀h n,n<17->0<=R (h+1) n->(0<=R h n/\R (h+1) n=R h n)\/∃c∈l,c.t.toNat=n/\0<=R h c.f.toNat/\gE c z (R h c.f.toNat)=some (R (h+1) n)
structure n8(l:List bF)(z a:Int)(s:Nat)(cg:Nat->Int):Prop where
 z0:cg s=a
 c:∀c t,c∈l->0<=cg c.f.toNat->gE c z (cg c.f.toNat)=some t->0<=cg c.t.toNat/\cg c.t.toNat<=t
 w:∀n,n<17->0<=cg n->n=s\/∃c∈l,c.t.toNat=n/\0<=cg c.f.toNat/\∃x,cg c.f.toNat<=x/\gE c z x=some (cg n)
theorem oW{R:Nat->Nat->Int}{cg:Nat->Int}(hv:∀c∈l,cF c)(H:xn l z a s R)(G:n8 l z a s cg)(ha:0<=a):∀h n,n<17->0<=R h n->0<=cg n/\cg n<=R h n
 |0,n,hn,q=>by
  rw[H.z0 n hn]at q|-;split at q
  .rename_i e;subst e;rw[aG rfl,G.z0];omega
  .omega
 |h+1,n,hn,q=>by
  rcases H.w h n hn q with⟨q1,q2⟩|⟨c,hc,rfl,q1,q2⟩
  .rw[q2];exact oW hv H G ha h n hn q1
  .have v:=hv c hc;have i:=oW hv H G ha h c.f.toNat (by have:=v.1;omega) q1;obtain⟨t',e,le⟩:=sj v i.1 i.2 q2;have k:=G.c c t' hc i.1 e;omega
theorem jJ{R:Nat->Nat->Int}(H:xn l z a s R){n:Nat}(hn:n<17){i:Nat}(q:0<=R i n):∀j,i<=j->0<=R j n/\R j n<=R i n
 |0,h=>by rw[Nat.le_zero.1 h]at q|-;exact⟨q,Int.le_refl _⟩
 |j+1,h=>by
  rcases Nat.lt_or_ge i (j+1)with g|g
  .have k:=jJ H hn q j Z;have m:=H.m j n hn k.1;omega
  .rw[show j+1=i by omega];exact⟨q,Int.le_refl _⟩
theorem zF{R:Nat->Nat->Int}{cg:Nat->Int}(hv:∀c∈l,cF c)(hz:1<=z)(hs:s<17)(H:xn l z a s R)(G:n8 l z a s cg)(ha:0<=a):
 ∀(k:Nat) (n:Nat),n<17->0<=cg n->(cg n).toNat<=k->0<=R (rk cg (cg n)) n/\R (rk cg (cg n)) n<=cg n:=by
 intro k;induction k with
 |zero=>
  intro n hn q hk;rcases G.w n hn q with rfl|⟨c,hc,rfl,q1,x,q2,q3⟩
  .have e:=H.z0 n hn;rw[aG rfl]at e;have m:=jJ H hn (i:=0) Z (rk cg (cg n)) (Nat.zero_le _);rw[G.z0]at*;omega
  .have g:=pN (hv c hc) hz q3;omega
 |succ k ih=>
  intro n hn q hk;rcases G.w n hn q with rfl|⟨c,hc,rfl,q1,x,q2,q3⟩
  .have e:=H.z0 n hn;rw[aG rfl]at e;have m:=jJ H hn (i:=0) Z (rk cg (cg n)) (Nat.zero_le _);rw[G.z0]at*;omega
  .have v:=hv c hc;have g:=pN v hz q3;have hf:c.f.toNat<17:=by have:=v.1;omega
   have i:=ih c.f.toNat hf q1 Z;have r1:=Afm hf q1 (show cg c.f.toNat<cg c.t.toNat by omega);obtain⟨t',e,le⟩:=sj v i.1 (by omega:R (rk cg (cg c.f.toNat)) c.f.toNat<=x) q3;have w:=H.r _ c t' hc i.1 e;have m:=jJ H hn w.1 (rk cg (cg c.t.toNat)) r1;omega
theorem Pj{cg:Nat->Int}{n:Nat}(hn:n<17)(q:0<=cg n):rk cg (cg n)<=16:=by
 have:=filter_lt (l:=List.range 17) (p:=λm=>decide (0<=cg m/\cg m<cg n)) (q:=λ_=>true) (λ_ _ _=>rfl) (mem_range.2 hn) (by simp) rfl;rw[filter_eq_self.2 (λ_ _=>rfl),length_range]at this;unfold rk;omega
theorem DP{R:Nat->Nat->Int}{cg:Nat->Int}(hv:∀c∈l,cF c)(hz:1<=z)(hs:s<17)(H:xn l z a s R)(G:n8 l z a s cg)(ha:0<=a){n:Nat}(hn:n<17):0<=cg n↔0<=R 16 n:=by
 refine⟨λq=>?_,λq=>(oW hv H G ha 16 n hn q).1⟩;have g:=zF hv hz hs H G ha (cg n).toNat n hn q cB;exact(jJ H hn g.1 16 (Pj hn q)).1
end
def bY(c:bF):List AV:=[.int .i64 c.f,.int .i64 c.t,.int .i64 c.s,.int .i64 c.e,.int .i64 c.r,.int .i64 c.d]
instance(c:bF):Decidable (cF c):=by unfold cF;infer_instance
def m7(a b:bF):Prop:=a.s<b.s\/a.s=b.s/\(a.f<b.f\/a.f=b.f/\a.t<b.t)
instance(a b:bF):Decidable (m7 a b):=by unfold m7;infer_instance
def qB(l:List bF)(i:Nat):Bool:=(l.take i).any λk=>decide (k.f=(gt l i).f/\k.t=(gt l i).t/\(gt l i).s<k.e)
def fO(l:List bF)(i:Nat):Int:=if¬cF (gt l i)then 2 else if 0<i/\¬m7 (gt l (i-1)) (gt l i)then 19 else if qB l i=true then 12 else 0
def yj(l:List bF)(f t:Int):Nat->Int
 |0=>0
 |i+1=>if(gt l i).f=f/\(gt l i).t=t then(gt l i).e else yj l f t i
theorem Gr{l:List bF}{n:Nat}(hn:n<=l.length)(hb:∀i,i<n->fO l i=0)(f t:Int):∀i,i<=n->∀k,k<i->(gt l k).f=f->(gt l k).t=t->(gt l k).e<=yj l f t i
 |0,_,k,hk,_,_=>absurd hk Z
 |i+1,hi,k,hk,e1,e2=>by
  have b:=hb i Z;unfold fO at b;have ok:cF (gt l i):=by
   by_cases q:cF (gt l i)
   .exact q
   .rw[aG q]at b;omega
  have ov:qB l i=false:=by
   rw[aq (by simpa using ok)]at b;split at b
   .omega
   .split at b
    .omega
    .rename_i q;simpa using q
  rw[yj];by_cases q:(gt l i).f=f/\(gt l i).t=t
  .rw[aG q];rcases Nat.lt_or_ge k i with g|g
   .unfold qB at ov;rw[List.any_eq_false]at ov;have m:gt l k∈l.take i:=by
     rw[bB (show k<l.length by omega)];exact mem_take_iff_getElem.2 ⟨k,Z,rfl⟩
    have:=ov _ m;simp only[decide_eq_true_eq]at this;have v:=ok.2.2.2.2.1;rcases Int.lt_or_le (gt l i).s (gt l k).e with c|c
    .exact absurd ⟨Z,Z,c⟩ this
    .omega
   .rw[show k=i by omega];exact Int.le_refl _
  .rw[aq q];rcases Nat.lt_or_ge k i with g|g
   .exact Gr hn hb f t i Z k g e1 e2
   .rw[show k=i by omega]at e1 e2;exact absurd ⟨e1,e2⟩ q
theorem DQ(l:List bF)(f t:Int):∀i,yj l f t i=0\/∃k,k<i/\(gt l k).f=f/\(gt l k).t=t/\(gt l k).e=yj l f t i
 |0=>.inl rfl
 |i+1=>by
  rw[yj];by_cases q:(gt l i).f=f/\(gt l i).t=t
  .rw[aG q];exact .inr ⟨i,Z,q.1,q.2,rfl⟩
  .rw[aq q];rcases DQ l f t i with h|⟨k,h1,h2⟩
   .exact .inl h
   .exact .inr ⟨k,Z,h2⟩
theorem Gs{l:List bF}{i:Nat}(hi:i<l.length)(hb:∀k,k<i->fO l k=0)(ok:0<=(gt l i).s):qB l i=true↔(gt l i).s<yj l (gt l i).f (gt l i).t i:=by
 unfold qB;rw[List.any_eq_true];constructor
 .rintro ⟨x,hx,q⟩;obtain⟨k,hk,rfl⟩:=mem_take_iff_getElem.1 hx;simp only[decide_eq_true_eq]at q;have F1:k<i:=Z;have e:l[k]'Z=gt l k:=(bB Z).symm;rw[e]at q;have:=Gr Z hb (gt l i).f (gt l i).t i cB k F1 q.1 q.2.1;omega
 .intro q;rcases DQ l (gt l i).f (gt l i).t i with h|⟨k,h1,h2,h3,h4⟩
  .omega
  .refine⟨gt l k,?_,?_⟩
   .rw[bB (show k<l.length by omega)];exact mem_take_iff_getElem.2 ⟨k,Z,rfl⟩
   .simp only[decide_eq_true_eq];exact⟨h2,h3,Z⟩
def AI(l:List bF):Nat->List ((Int×Int)×Int)
 |0=>[]
 |i+1=>W7 ((gt l i).f,(gt l i).t) (gt l i).e (AI l i)
where
 W7 (k:Int×Int) (v:Int):List ((Int×Int)×Int)->List ((Int×Int)×Int)
  |[]=>[(k,v)]
  |x::m=>if x.1=k then(k,v)::m else x::W7 k v m
def u5(k:Int×Int):List ((Int×Int)×Int)->Option Int
 |[]=>none
 |x::m=>if x.1=k then some x.2 else u5 k m
theorem Gt(k k':Int×Int)(v:Int):∀m,u5 k (AI.W7 k' v m)=if k=k' then some v else u5 k m
 |[]=>by
  rw[AI.W7,u5,u5];by_cases h:k'=k
  .rw[aG h,aG h.symm]
  .rw[aq h,aq (λq=>h q.symm)];rfl
 |x::m=>by
  rw[AI.W7];by_cases hx:x.1=k'
  .simp only[aG hx,u5];by_cases h:k=k'
   .rw[aG h,aG h.symm]
   .rw[aq h,aq (λq=>h q.symm),aq (λq=>h (by rw[<-q,hx]))]
  .simp only[aq hx,u5,Gt k k' v m];by_cases h:k=k'
   .subst h;simp[hx]
   .simp[h]
theorem DR(l:List bF)(f t:Int):∀i,(u5 (f,t) (AI l i)).getD 0=yj l f t i
 |0=>rfl
 |i+1=>by
  rw[AI,Gt,yj];by_cases h:(gt l i).f=f/\(gt l i).t=t
  .rw[aG (by rw[h.1,h.2]),aG h];rfl
  .rw[aq (λq=>h ⟨(congrArg Prod.fst q).symm,(congrArg Prod.snd q).symm⟩),aq h,DR l f t i]
def Pm(m:List ((Int×Int)×Int)):List (AV×AV):=m.map λx=>(.agg [.int .i64 x.1.1,.int .i64 x.1.2],.int .i64 x.2)
theorem Pn(x y:Int×Int):uv true [.i,.i] (.agg [.int .i64 x.1,.int .i64 x.2]) (.agg [.int .i64 y.1,.int .i64 y.2])=some (decide (x=y)):=by
 show some ((x.1==y.1)&&((x.2==y.2)&&true))=_;congr 1;rw[Bool.eq_iff_iff];simp only[Bool.and_true,Bool.and_eq_true,beq_iff_eq,decide_eq_true_iff];exact⟨λh=>Prod.ext h.1 h.2,λh=>by rw[h];exact⟨rfl,rfl⟩⟩
theorem Pp(k:Int×Int):∀m,gR true [.i,.i] (.agg [.int .i64 k.1,.int .i64 k.2]) (Pm m)=some ((u5 k m).map λv=>.int .i64 v)
 |[]=>rfl
 |x::m=>by
  have ih:=Pp k m;show(match uv true [.i,.i] (.agg [.int .i64 k.1,.int .i64 k.2]) (.agg [.int .i64 x.1.1,.int .i64 x.1.2])with|some true=>_|some false=>_|none=>_)=_;rw[Pn,u5];by_cases h:x.1=k
  .rw[decide_eq_true h.symm,aG h];rfl
  .rw[decide_eq_false (λq=>h q.symm),aq h];exact ih
theorem Uy(k:Int×Int)(v:Int):∀m,wV true [.i,.i] (.agg [.int .i64 k.1,.int .i64 k.2]) (.int .i64 v) (Pm m)=some (Pm (AI.W7 k v m))
 |[]=>rfl
 |x::m=>by
  have ih:=Uy k v m;show(match uv true [.i,.i] (.agg [.int .i64 k.1,.int .i64 k.2]) (.agg [.int .i64 x.1.1,.int .i64 x.1.2])with|some true=>_|some false=>(wV true [.i,.i] (.agg [.int .i64 k.1,.int .i64 k.2]) (.int .i64 v) (Pm m)).map _|none=>_)=_;rw[Pn,AI.W7];by_cases h:x.1=k
  .rw[decide_eq_true h.symm,aG h];rfl
  .rw[decide_eq_false (λq=>h q.symm),aq h,ih];rfl
theorem ju{α:Type}[Inhabited α]{l:List α}{j k:Nat}{x:α}(hj:j<l.length):gt (l.set j x) k=if k=j then x else gt l k:=by
 unfold gt;simp only[getD_eq_getElem?_getD,getElem?_set];by_cases h:k=j
 .subst h;simp[hj]
 .rw[aq (λq=>h q.symm),aq h]
section
variable{α:Type}[Inhabited α]{K:α->Int}
end
abbrev kv:Int:=2199024304128
theorem qU{c:bF}(h:cF c){z x t:Int}(hz:1<=z)(e:gE c z x=some t):0<=t/\t<=kv:=by
 obtain⟨_,_,_,h4,h5,h6,h7,h8,h9,Mi⟩:=h;unfold gE at e;split at e
 .cases e
 .rename_i n;cases e;have hp:0<=fx c x:=by
   unfold fx;split
   .omega
   .exact Int.mul_nonneg Z Z
  have e1:(fx c x+z+c.r-1)/c.r<=(ku c+(c.r-1))/c.r:=Int.ediv_le_ediv Z Z;have e2:ku c+(c.r-1)=(c.r-1)+c.r*(c.e-c.s):=by unfold ku;omega
  rw[e2,Int.add_mul_ediv_left _ _ Z,Int.ediv_eq_zero_of_lt (a:=c.r-1) (b:=c.r) Z Z]at e1;have e3:0<=(fx c x+z+c.r-1)/c.r:=Int.ediv_nonneg Z Z;unfold kv;omega
def mM(z:Int)(cA next:List Int)(c:bF):List Int:=
 if gt cA c.f.toNat<0 then next else match gE c z (gt cA c.f.toNat)with
  |none=>next
  |some t=>if gt next c.t.toNat<0\/t<gt next c.t.toNat then next.set c.t.toNat t else next
def ib(l:List bF)(z:Int)(cA:List Int):Nat->List Int
 |0=>cA
 |i+1=>mM z cA (ib l z cA i) (gt l i)
def dA(l:List bF)(z a:Int)(s:Nat):Nat->List Int
 |0=>(replicate 17 (-1)).set s a
 |h+1=>ib l z (dA l z a s h) l.length
theorem Mj(z:Int)(cA next:List Int)(c:bF):(mM z cA next c).length=next.length:=by
 unfold mM;split
 .rfl
 .split
  .rfl
  .split
   .rw[length_set]
   .rfl
theorem oY(l:List bF)(z:Int)(cA:List Int):∀i,(ib l z cA i).length=cA.length
 |0=>rfl
 |i+1=>by rw[ib,Mj,oY l z cA i]
theorem fo(l:List bF)(z a:Int)(s:Nat):∀h,(dA l z a s h).length=17
 |0=>by rw[dA,length_set,length_replicate]
 |h+1=>by rw[dA,oY,fo l z a s h]
section
variable{l:List bF}{z a:Int}{s:Nat}
theorem vN{cA:List Int}(hv:∀c∈l,cF c)(hz:1<=z)(hn:cA.length=17):∀i,i<=l.length->
 (∀n,n<17->0<=gt cA n->0<=gt (ib l z cA i) n/\gt (ib l z cA i) n<=gt cA n)/\
 (∀k,k<i->∀t,0<=gt cA (gt l k).f.toNat->gE (gt l k) z (gt cA (gt l k).f.toNat)=some t->0<=gt (ib l z cA i) (gt l k).t.toNat/\gt (ib l z cA i) (gt l k).t.toNat<=t)/\
 (∀n,n<17->0<=gt (ib l z cA i) n->(0<=gt cA n/\gt (ib l z cA i) n=gt cA n)\/∃c∈l,c.t.toNat=n/\0<=gt cA c.f.toNat/\gE c z (gt cA c.f.toNat)=some (gt (ib l z cA i) n))
 |0,_=>⟨λn _ h=>⟨h,Int.le_refl _⟩,λk hk=>absurd hk Z,λn _ h=>.inl ⟨h,rfl⟩⟩
 |i+1,hi=>by
  obtain⟨p,q,r⟩:=vN hv hz hn i Z;have hm:gt l i∈l:=by rw[bB (show i<l.length by omega)];exact getElem_mem _
  have v:=hv _ hm;have hl:(ib l z cA i).length=17:=by rw[oY,hn]
  have ht:(gt l i).t.toNat<17:=by have:=v.2.1;omega
  rw[ib];generalize ib l z cA i=nx at*;unfold mM;by_cases c1:gt cA (gt l i).f.toNat<0
  .rw[aG c1];refine⟨p,λk hk t h0 e=>?_,r⟩;rcases Nat.lt_or_ge k i with g|g
   .exact q k g t h0 e
   .rw[show k=i by omega]at h0;omega
  .rw[aq c1];cases e:gE (gt l i) z (gt cA (gt l i).f.toNat)with
   |none=>
    refine⟨p,λk hk t h0 e'=>?_,r⟩;rcases Nat.lt_or_ge k i with g|g
    .exact q k g t h0 e'
    .rw[show k=i by omega,e]at e';cases e'
   |some t=>
    have le:=qU v hz e;simp only;by_cases c2:gt nx (gt l i).t.toNat<0\/t<gt nx (gt l i).t.toNat
    .rw[aG c2];have gs:∀n,gt (nx.set (gt l i).t.toNat t) n=if n=(gt l i).t.toNat then t else gt nx n:=λn=>ju Z
     refine⟨λn Hs h0=>?_,λk hk t' h0 e'=>?_,λn Hs h0=>?_⟩
     .have:=p n Hs h0;rw[gs n];by_cases c3:n=(gt l i).t.toNat
      .rw[aG c3];rw[<-c3]at c2;omega
      .rw[aq c3];exact this
     .rw[gs _];rcases Nat.lt_or_ge k i with g|g
      .have:=q k g t' h0 e';by_cases c3:(gt l k).t.toNat=(gt l i).t.toNat
       .rw[aG c3];rw[<-c3]at c2;omega
       .rw[aq c3];exact this
      .have F1:k=i:=Z;subst F1;rw[e]at e';cases e';rw[aG rfl];omega
     .rw[gs n]at h0|-;by_cases c3:n=(gt l i).t.toNat
      .rw[aG c3];exact .inr ⟨_,hm,c3.symm,Z,e⟩
      .rw[aq c3]at h0|-;exact r n Hs h0
    .rw[aq c2];refine⟨p,λk hk t' h0 e'=>?_,r⟩;rcases Nat.lt_or_ge k i with g|g
     .exact q k g t' h0 e'
     .have F1:k=i:=Z;subst F1;rw[e]at e';cases e';omega
theorem oZ(hv:∀c∈l,cF c)(hz:1<=z)(hs:s<17)(ha:0<=a):xn l z a s (λh n=>gt (dA l z a s h) n)where
 z0:=λn hn=>by
  show gt (dA l z a s 0) n=_;rw[dA,ju (by simp;exact hs)];by_cases e:n=s
  .rw[aG e,aG e]
  .rw[aq e,aq e,gt,getD_eq_getElem?_getD,getElem?_replicate,aG hn];rfl
 m:=λh n hn q=>(vN hv hz (fo l z a s h) l.length cB).1 n hn q
 r:=λh c t hc q e=>by
  obtain⟨k,hk,rfl⟩:=getElem_of_mem hc;rw[<-bB hk]at q e|-;exact(vN hv hz (fo l z a s h) l.length cB).2.1 k hk t q e
 w:=λh n hn q=>(vN hv hz (fo l z a s h) l.length cB).2.2 n hn q
def JZ(l:List bF)(z:Int)(cg:List Int)(u k:Nat):Prop:=∀j,j<k->(gt l j).f.toNat=u->∀t,gE (gt l j) z (gt cg u)=some t->0<=gt cg (gt l j).t.toNat/\gt cg (gt l j).t.toNat<=t
structure DS(l:List bF)(z a:Int)(s:Nat)(cg:List Int)(Q:List (Int×Int))(u k:Nat):Prop where
 len:cg.length=17
 z0:gt cg s=a
 q:∀x∈Q,(1<=x.1/\x.1<=16)/\0<=gt cg x.1.toNat/\gt cg x.1.toNat<=x.2/\x.2<=kv
 c:∀n,n<17->0<=gt cg n->(∃x∈Q,x.1.toNat=n/\x.2=gt cg n)\/JZ l z cg n l.length\/(n=u/\JZ l z cg n k)
 w:∀n,n<17->0<=gt cg n->n=s\/∃c∈l,c.t.toNat=n/\0<=gt cg c.f.toNat/\∃x,gt cg c.f.toNat<=x/\gE c z x=some (gt cg n)
 b:∀n,n<17->-1<=gt cg n/\gt cg n<=kv
 g:∀n,n<17->0<=gt cg n->a<=gt cg n
theorem DS.skip{cg:List Int}{Q:List (Int×Int)}{u k:Nat}(D:DS l z a s cg Q u k)(h:(gt l k).f.toNat=u->∀t,gE (gt l k) z (gt cg u)=some t->0<=gt cg (gt l k).t.toNat/\gt cg (gt l k).t.toNat<=t):DS l z a s cg Q u (k+1):=
 ⟨D.len,D.z0,D.q,λn hn h0=>by
  rcases D.c n hn h0 with c|c|⟨rfl,c⟩
  .exact .inl c
  .exact .inr (.inl c)
  .refine .inr (.inr ⟨rfl,λj hj e=>?_⟩);rcases Nat.lt_or_ge j k with g|g
   .exact c j g e
   .rw[show j=k by omega]at e|-;exact h e,D.w,D.b,D.g⟩
theorem DS.put{cg:List Int}{Q:List (Int×Int)}{u k:Nat}(hv:∀c∈l,cF c)(hz:1<=z)(D:DS l z a s cg Q u k)(hk:k<l.length)(hu:(gt l k).f.toNat=u)(h0:0<=gt cg u)(ha:0<=a){t:Int}(e:gE (gt l k) z (gt cg u)=some t)(h:gt cg (gt l k).t.toNat<0\/t<gt cg (gt l k).t.toNat):
 DS l z a s (cg.set (gt l k).t.toNat t) (((gt l k).t,t)::Q) u (k+1):=by
 have hm:gt l k∈l:=by rw[bB hk];exact getElem_mem _
 have v:=hv _ hm;have le:=qU v hz e;have g1:=pN v hz e;have ht:(gt l k).t.toNat<17:=by have:=v.2.1;omega
 have hs:a<=gt cg u:=D.g u (by have:=v.1;omega) h0;have gs:∀n,gt (cg.set (gt l k).t.toNat t) n=if n=(gt l k).t.toNat then t else gt cg n:=λn=>ju (by rw[D.len];exact ht)
 have Fu:∀n,0<=gt cg n->0<=gt (cg.set (gt l k).t.toNat t) n/\gt (cg.set (gt l k).t.toNat t) n<=gt cg n:=λn h0=>by
  rw[gs];by_cases c:n=(gt l k).t.toNat
  .rw[aG c];rw[<-c]at h;omega
  .rw[aq c];omega
 have ne:u≠(gt l k).t.toNat:=λq=>by have:=v.2.2.1;have:=v.1;have:=v.2.1;omega
 have dn:∀n k',n≠(gt l k).t.toNat->JZ l z cg n k'->JZ l z (cg.set (gt l k).t.toNat t) n k':=λn k' hn d j hj e' t' et=>by
  rw[gs n,aq hn]at et;have:=d j hj e' t' et;have:=Fu _ this.1;omega
 refine⟨by rw[length_set];exact D.len,?_,λx hx=>?_,λn hn q=>?_,λn hn q=>?_,λn hn=>?_,λn hn q=>?_⟩
 .rw[gs];by_cases c:s=(gt l k).t.toNat
  .rw[<-c,D.z0]at h;omega
  .rw[aq c];exact D.z0
 .rcases mem_cons.1 hx with rfl|hx
  .refine⟨v.2.1,?_⟩;rw[gs,aG rfl];omega
  .have:=D.q x hx;have:=Fu _ this.2.1;omega
 .by_cases c:n=(gt l k).t.toNat
  .exact .inl ⟨_,mem_cons_self ..,c.symm,by rw[gs,aG c]⟩
  .rw[gs,aq c]at q;rcases D.c n hn q with⟨x,hx,e1,e2⟩|d|⟨rfl,d⟩
   .exact .inl ⟨x,mem_cons_of_mem _ hx,e1,by rw[gs,aq c];exact e2⟩
   .exact .inr (.inl (dn n _ c d))
   .refine .inr (.inr ⟨rfl,λj hj e' t' et=>?_⟩);rcases Nat.lt_or_ge j k with g|g
    .exact dn n k c d j g e' t' et
    .have DH:j=k:=Z;subst DH;rw[gs,aq c,e]at et;cases et;rw[gs,aG rfl];omega
 .rw[gs]at q|-;by_cases c:n=(gt l k).t.toNat
  .rw[aG c];refine .inr ⟨_,hm,c.symm,?_,gt cg u,?_,e⟩
   .rw[hu,gs,aq ne];exact h0
   .rw[hu,gs,aq ne];exact Int.le_refl _
  .rw[aq c]at q|-;rcases D.w n hn q with rfl|⟨c',EP,e1,e2,x,e3,e4⟩
   .exact .inl rfl
   .have:=Fu _ e2;exact .inr ⟨c',EP,e1,this.1,x,Z,e4⟩
 .rw[gs];by_cases c:n=(gt l k).t.toNat
  .rw[aG c];omega
  .rw[aq c];exact D.b n hn
 .rw[gs]at q|-;by_cases c:n=(gt l k).t.toNat
  .rw[aG c];omega
  .rw[aq c]at q|-;exact D.g n hn q
theorem DS.done{cg:List Int}{Q:List (Int×Int)}{u v:Nat}(D:DS l z a s cg Q u l.length):DS l z a s cg Q v 0:=
 ⟨D.len,D.z0,D.q,λn hn h0=>by
  rcases D.c n hn h0 with c|c|⟨_,c⟩
  .exact .inl c
  .exact .inr (.inl c)
  .exact .inr (.inl c),D.w,D.b,D.g⟩
theorem DS.pop{cg:List Int}{Q Q':List (Int×Int)}{x:Int×Int}{u:Nat}(D:DS l z a s cg Q u 0)(hQ:∀y,y∈Q↔y=x\/y∈Q')(hx:x∈Q)(Hs:u=17):(gt cg x.1.toNat<x.2->DS l z a s cg Q' 17 0)/\(¬gt cg x.1.toNat<x.2->gt cg x.1.toNat=x.2/\DS l z a s cg Q' x.1.toNat 0):=by
 have hq:=D.q x hx;refine⟨λh=>⟨D.len,D.z0,λy hy=>D.q y ((hQ y).2 (.inr hy)),λn hn h0=>?_,D.w,D.b,D.g⟩,λh=>⟨Z,D.len,D.z0,λy hy=>D.q y ((hQ y).2 (.inr hy)),λn hn h0=>?_,D.w,D.b,D.g⟩⟩
 .rcases D.c n hn h0 with⟨y,hy,e1,e2⟩|c|⟨c1,c2⟩
  .rcases(hQ y).1 hy with rfl|hy
   .rw[e1]at h;omega
   .exact .inl ⟨y,hy,e1,e2⟩
  .exact .inr (.inl c)
  .omega
 .rcases D.c n hn h0 with⟨y,hy,e1,e2⟩|c|⟨c1,c2⟩
  .rcases(hQ y).1 hy with rfl|hy
   .exact .inr (.inr ⟨e1.symm,λj hj=>absurd hj Z⟩)
   .exact .inl ⟨y,hy,e1,e2⟩
  .exact .inr (.inl c)
  .omega
theorem DS.closed{cg:List Int}(hv:∀c∈l,cF c)(D:DS l z a s cg [] 17 0):n8 l z a s (gt cg)where
 z0:=D.z0
 c:=λc t hc q e=>by
  have v:=hv c hc;have hf:c.f.toNat<17:=by have:=v.1;omega
  obtain⟨k,hk,rfl⟩:=getElem_of_mem hc;rw[<-bB hk]at*;rcases D.c _ hf q with⟨y,hy,_⟩|d|⟨c1,_⟩
  .cases hy
  .exact d k hk rfl t e
  .omega
 w:=D.w
def YT(x:Int):Nat:=if x<0 then 2199024304129 else x.toNat
def pot(cg:List Int):Nat:=(cg.map YT).sum
theorem J0:∀(cg:List Int) (i:Nat) (t:Int),i<cg.length->YT t<YT (gt cg i)->pot (cg.set i t)+1<=pot cg
 |[],i,t,h,_=>absurd h (by simp)
 |x::cg,0,t,_,h=>by
  simp only[pot,set_cons_zero,map_cons,sum_cons];have:gt (x::cg) 0=x:=rfl;rw[this]at h;omega
 |x::cg,i+1,t,h,g=>by
  have ih:=J0 cg i t (by simpa using h) g;simp only[pot,set_cons_succ,map_cons,sum_cons]at ih|-;omega
theorem W8{t x:Int}(ht:0<=t/\t<=kv)(h:x<0\/t<x):YT t<YT x:=by
 unfold YT kv at*;rw[aq Z];split<;>omega
end
def kp(x:Int×Int):Int:=x.1*32+x.2
theorem ER:∀{l m:List Int},l.Nodup->(∀x∈l,x∈m)->l.length<=m.length
 |[],_,_,_=>Nat.zero_le _
 |x::l,m,hn,h=>by
  rw[nodup_cons]at hn;have hx:=h x (mem_cons_self ..);have ih:=ER (m:=m.erase x) hn.2 λy hy=>(mem_erase_of_ne (λq=>hn.1 (by rw[<-q];exact hy))).2 (h y (mem_cons_of_mem _ hy))
  rw[length_erase_of_mem hx]at ih;have:0<m.length:=length_pos_of_mem hx;rw[length_cons];omega
section
variable(l:List bF)(st:Nat->Bool)
variable{l st}
end
def sw{α:Type}[Inhabited α](l:List α)(i j:Nat):List α:=(l.set i (gt l j)).set j (gt l i)
theorem qV{α:Type}[Inhabited α](l:List α)(i j:Nat):(sw l i j).length=l.length:=by simp[sw]
theorem u9{α:Type}[Inhabited α]{l:List α}{i j k:Nat}(hi:i<l.length)(hj:j<l.length):gt (sw l i j) k=if k=j then gt l i else if k=i then gt l j else gt l k:=by
 unfold sw;rw[ju (by simp;omega),ju hi]
theorem vO{α:Type}[Inhabited α]{l:List α}{i j:Nat}(hi:i<l.length)(hj:j<l.length):(sw l i j).Perm l:=by
 unfold sw;rw[bB hi,bB hj];exact set_set_perm hi hj
section
variable{α:Type}[Inhabited α]{K:α->Int}
def Heap(K:α->Int)(n:Nat)(l:List α):Prop:=∀k,1<=k->k<n->K (gt l ((k-1)/2))<=K (gt l k)
def YU(K:α->Int)(l:List α)(j:Nat):Prop:=(∀k,1<=k->k<l.length->k≠j->K (gt l ((k-1)/2))<=K (gt l k))/\(∀k,1<=k->k<l.length->(k-1)/2=j->1<=j->K (gt l ((j-1)/2))<=K (gt l k))
def YV(K:α->Int)(n:Nat)(l:List α)(i:Nat):Prop:=(∀k,1<=k->k<n->(k-1)/2≠i->K (gt l ((k-1)/2))<=K (gt l k))/\(∀k,1<=k->k<n->(k-1)/2=i->1<=i->K (gt l ((i-1)/2))<=K (gt l k))
theorem Pq{n:Nat}{l:List α}(h:Heap K n l):∀k,k<n->K (gt l 0)<=K (gt l k):=by
 intro k;induction k using Nat.strongRecOn with
 |_ k ih=>
  intro hk;rcases Nat.eq_zero_or_pos k with rfl|h0
  .exact Int.le_refl _
  .have a:=ih ((k-1)/2) Z Z;have b:=h k h0 hk;omega
theorem ES{l:List α}(h:Heap K l.length l)(x:α):YU K (l++[x]) l.length:=by
 have g:∀k,k<l.length->gt (l++[x]) k=gt l k:=λk hk=>by
  rw[bB (show k<(l++[x]).length by simp;omega),bB hk,getElem_append_left hk]
 refine⟨λk h1 h2 h3=>?_,λk h1 h2 h3=>?_⟩
 .rw[length_append,length_singleton]at h2;rw[g _ Z,g _ Z];exact h k h1 Z
 .rw[length_append,length_singleton]at h2;omega
theorem Sw{l:List α}{j:Nat}(h:YU K l j)(h0:1<=j)(hj:j<l.length)(c:K (gt l j)<K (gt l ((j-1)/2))):YU K (sw l ((j-1)/2) j) ((j-1)/2):=by
 have hp:(j-1)/2<l.length:=Z;have g:∀k,gt (sw l ((j-1)/2) j) k=if k=j then gt l ((j-1)/2)else if k=(j-1)/2 then gt l j else gt l k:=λk=>u9 hp hj
 refine⟨λk h1 h2 h3=>?_,λk h1 h2 h3 h4=>?_⟩
 .rw[qV]at h2;rw[g,g];by_cases e:k=j
  .subst e;rw[aG rfl,aq Z,aG rfl];omega
  .rw[aq e,aq h3];by_cases e2:(k-1)/2=j
   .rw[aG e2];exact h.2 k h1 h2 e2 h0
   .rw[aq e2];by_cases e3:(k-1)/2=(j-1)/2
    .rw[aG e3];have:=h.1 k h1 h2 e;rw[e3]at this;omega
    .rw[aq e3];exact h.1 k h1 h2 e
 .rw[qV]at h2;have q:=h.1 ((j-1)/2) h4 Z Z;rw[g,g,aq Z,aq Z];by_cases e:k=j
  .rw[aG e];exact q
  .rw[aq e,aq Z];have:=h.1 k h1 h2 e;rw[h3]at this;omega
theorem Im{l:List α}{j:Nat}(h:YU K l j)(c:j=0\/¬K (gt l j)<K (gt l ((j-1)/2))):Heap K l.length l:=λk h1 h2=>by
 by_cases e:k=j
 .subst e;omega
 .exact h.1 k h1 h2 e
theorem W9{l:List α}(h:Heap K l.length l)(h0:1<=l.length):YV K (l.length-1) (sw l 0 (l.length-1)) 0:=by
 refine⟨λk h1 h2 h3=>?_,λk h1 h2 h3 h4=>Z⟩;rw[u9 Z Z,u9 Z Z,aq Z,aq Z,aq Z,aq Z];exact h k h1 Z
theorem ET{l:List α}{n i j:Nat}(h:YV K n l i)(hn:n<=l.length)(hj:j<n)(OM:(j-1)/2=i)(hj1:1<=j)(c:K (gt l j)<K (gt l i))(hm:∀k,1<=k->k<n->(k-1)/2=i->K (gt l j)<=K (gt l k)):YV K n (sw l i j) j:=by
 have hi:i<l.length:=Z;have g:∀k,gt (sw l i j) k=if k=j then gt l i else if k=i then gt l j else gt l k:=λk=>u9 hi Z
 refine⟨λk h1 h2 h3=>?_,λk h1 h2 h3 h4=>?_⟩
 .rw[g,g,aq h3];by_cases e:k=j
  .subst e;rw[aG OM,aG rfl];omega
  .rw[aq e];by_cases e2:(k-1)/2=i
   .rw[aG e2,aq Z];exact hm k h1 h2 e2
   .rw[aq e2];by_cases e3:k=i
    .rw[aG e3];subst e3;exact h.2 j hj1 hj OM h1
    .rw[aq e3];exact h.1 k h1 h2 e2
 .rw[g,g,aq Z,aG OM,aq Z,aq Z];have:=h.1 k h1 h2 Z;rw[h3]at this;exact this
theorem B0{l:List α}{n i:Nat}(h:YV K n l i)(c:∀k,1<=k->k<n->(k-1)/2=i->K (gt l i)<=K (gt l k)):Heap K n l:=λk h1 h2=>by
 by_cases e:(k-1)/2=i
 .rw[e];exact c k h1 h2 e
 .exact h.1 k h1 h2 e
end
structure Mon(cg:List Int)(Q:List (Int×Int))(cur:Int)(S:List Int):Prop where
 q:∀x∈Q,cur<=x.2
 nd:Q.Nodup
 sn:S.Nodup
 s:∀u∈S,(1<=u/\u<=16)/\0<=gt cg u.toNat/\gt cg u.toNat<=cur/\∀x∈Q,x.1=u->x.2≠gt cg u.toNat
theorem Mon.le{cg:List Int}{Q:List (Int×Int)}{cur:Int}{S:List Int}(M:Mon cg Q cur S):S.length<=16:=by
 have h:=ER (m:=[1,2,3,4,5,6,7,8,9,10,11,12,13,14,15,16]) M.sn λu hu=>by
  have:=(M.s u hu).1;simp only[mem_cons,not_mem_nil,or_false];omega
 simpa using h
theorem Mon.sq{cg:List Int}{Q Q':List (Int×Int)}{cur:Int}{S:List Int}(M:Mon cg Q cur S)(h:Q'.Perm Q):Mon cg Q' cur S:=
 ⟨λx hx=>M.q x (h.mem_iff.1 hx),h.nodup_iff.2 M.nd,M.sn,λu hu=>⟨(M.s u hu).1,(M.s u hu).2.1,(M.s u hu).2.2.1,λx hx=>(M.s u hu).2.2.2 x (h.mem_iff.1 hx)⟩⟩
section
variable{l:List bF}{z a:Int}{s:Nat}
theorem Mon.late{cg:List Int}{Q:List (Int×Int)}{x:Int×Int}{cur:Int}{S:List Int}(M:Mon cg (x::Q) cur S)(hm:∀y∈Q,x.2<=y.2):Mon cg Q x.2 S:=by
 have n:=nodup_cons.1 M.nd;refine⟨hm,n.2,M.sn,λu hu=>?_⟩;have h:=M.s u hu;have k:=M.q x (mem_cons_self ..);exact⟨h.1,h.2.1,Z,λy hy=>h.2.2.2 y (mem_cons_of_mem _ hy)⟩
theorem Mon.take{cg:List Int}{Q:List (Int×Int)}{x:Int×Int}{cur:Int}{S:List Int}(M:Mon cg (x::Q) cur S)(hm:∀y∈Q,x.2<=y.2)(hx:1<=x.1/\x.1<=16)(h0:0<=gt cg x.1.toNat)(e:gt cg x.1.toNat=x.2):Mon cg Q x.2 (x.1::S):=by
 have n:=nodup_cons.1 M.nd;have L:=M.late hm;refine⟨hm,n.2,nodup_cons.2 ⟨λq=>?_,M.sn⟩,λu hu=>?_⟩
 .exact(M.s x.1 q).2.2.2 x (mem_cons_self ..) rfl e.symm
 .rcases mem_cons.1 hu with rfl|hu
  .refine⟨hx,h0,Z,λy hy e1 e2=>?_⟩;exact n.1 (by rw[show x=y from Prod.ext e1.symm Z];exact hy)
  .exact L.s u hu
theorem Mon.put{cg:List Int}{Q:List (Int×Int)}{cur:Int}{S:List Int}(M:Mon cg Q cur S){c t:Int}(hc:1<=c/\c<=16)(hl:cg.length=17)(hq:∀x∈Q,1<=x.1/\0<=gt cg x.1.toNat/\gt cg x.1.toNat<=x.2)(ht:cur<t)(h:gt cg c.toNat<0\/t<gt cg c.toNat):Mon (cg.set c.toNat t) ((c,t)::Q) cur S:=by
 have gs:∀n,gt (cg.set c.toNat t) n=if n=c.toNat then t else gt cg n:=λn=>ju (by rw[hl];omega)
 refine⟨λx hx=>?_,nodup_cons.2 ⟨λq=>?_,M.nd⟩,M.sn,λu hu=>?_⟩
 .rcases mem_cons.1 hx with rfl|hx
  .simp only;omega
  .exact M.q x hx
 .have:=hq _ q;simp only at this;omega
 .have k:=M.s u hu;have ne:u≠c:=λe=>by subst e;omega
  rw[gs,aq Z];refine⟨k.1,k.2.1,k.2.2.1,λx hx e=>?_⟩;rcases mem_cons.1 hx with rfl|hx
  .exact absurd e.symm ne
  .exact k.2.2.2 x hx e
end
structure Ai2 where
 kind:Int
 node:Int
 mN:Int
 n:Int
 pos:Int
 by_:Int
 b:fR
 deriving DecidableEq,Inhabited
structure ScX where
 cf:List Ij
 cv:AV
 pl:List bF
 pv:AV
 cm:List Ai2
 mv:AV
def C3:List Nat:=[0,274646895,549293790,820201905,1098587580,1361435347,1640403810,1905808397,2197175160,2460548119,2722870694,2987750089,3280807620,3553878443,3811616794,4084100981]
def dN(n:Nat):Nat:=if n%2=1 then(n/2)^^^2197175160 else n/2
theorem Pr(a b:Nat):(a^^^b)/2=(a/2)^^^(b/2):=by
 apply Nat.eq_of_testBit_eq;intro i;rw[Nat.testBit_xor,<-Nat.testBit_succ,<-Nat.testBit_succ,<-Nat.testBit_succ,Nat.testBit_xor]
theorem Sx(a b:Nat):(a^^^b)%2=(a+b)%2:=by
 have h:(a^^^b).testBit 0=(a.testBit 0^^b.testBit 0):=Nat.testBit_xor _ _ _;rw[Nat.testBit_zero,Nat.testBit_zero,Nat.testBit_zero]at h;by_cases p:a%2=1<;>by_cases q:b%2=1<;>by_cases r:(a^^^b)%2=1<;>simp[p,q,r]at h<;>omega
theorem EU(a b:Nat):dN (a^^^b)=dN a^^^dN b:=by
 unfold dN;rw[Pr,Sx];by_cases p:a%2=1<;>by_cases q:b%2=1
 .rw[aq Z,aG p,aG q];rw[Nat.xor_assoc,Nat.xor_comm 2197175160 (b/2^^^2197175160),Nat.xor_assoc (b/2),Nat.xor_self,Nat.xor_zero]
 .rw[aG Z,aG p,aq q,Nat.xor_assoc,Nat.xor_assoc,Nat.xor_comm (b/2)]
 .rw[aG Z,aq p,aG q,Nat.xor_assoc]
 .rw[aq Z,aq p,aq q]
theorem EV(a:Nat):dN (2*a)=a:=by
 unfold dN;rw[aq Z];omega
def Nk(n:Nat):Nat->Nat
 |0=>n
 |i+1=>dN (Nk n i)
theorem Ai3(n:Nat):n=(16*(n/16))^^^(n%16):=by
 apply Nat.eq_of_testBit_eq;intro i;have e:n=2^4*(n/16)+n%16:=Z;have h:=Nat.testBit_two_pow_mul_add (n/16) (b:=n%16) (i:=4) Z i;rw[<-e]at h;rw[h,Nat.testBit_xor,show 16*(n/16)=2^4*(n/16)from rfl,Nat.testBit_two_pow_mul];by_cases q:i<4
 .rw[aG q];simp[show¬4<=i by omega]
 .rw[aq q];have:(n%16).testBit i=false:=Nat.testBit_lt_two_pow (gA (by omega:n%16<2^4) (Nat.pow_le_pow_right Z Z));rw[this];simp[show 4<=i by omega]
theorem Sy:∀d,d<16->Nk d 4=gt C3 d:=aZ
theorem dN4(n:Nat):Nk n 4=(n/16)^^^gt C3 (n%16):=by
 have e:Nk n 4=dN (dN (dN (dN n))):=rfl;rw[e];conv=>lhs;rw[Ai3 n]
 rw[EU,EU,EU,EU];have l:=Sy (n%16) Z;have e2:Nk (n%16) 4=dN (dN (dN (dN (n%16)))):=rfl;rw[e2]at l;rw[l,show 16*(n/16)=2*(2*(2*(2*(n/16)))) by omega,EV,EV,EV,EV]
theorem Afn{n:Nat}(h:n<4294967296):dN n<4294967296:=by
 unfold dN;split
 .exact Nat.xor_lt_two_pow (n:=32) Z Z
 .omega
def gL(a len:Nat):Nat->Int->List UInt8->Int×Int×Int
 |_,_,[]=>(0,len,11)
 |i,n,b::bs=>if i=0/\(b.toNat:Int)=128 then(0,a,3)else if 144115188075855872<=n then(0,((a+i:Nat):Int),2)
  else if(b.toNat:Int)<128 then(n*128+(b.toNat:Int)%128,((a+i+1:Nat):Int),0)else gL a len (i+1) (n*128+(b.toNat:Int)%128) bs
def jv(s:List UInt8)(a:Int):Int×Int×Int:=gL a.toNat s.length 0 0 (s.drop a.toNat)
theorem Uz(a len:Nat):∀(s:List UInt8) (i:Nat) (n:Int),0<=n->n<18446744073709551616->a+i+s.length=len->
 0<=(gL a len i n s).1/\(gL a len i n s).1<18446744073709551616/\(a:Int)<=(gL a len i n s).2.1/\(gL a len i n s).2.1<=len/\((gL a len i n s).2.2=0->(a:Int)<(gL a len i n s).2.1)/\((gL a len i n s).2.2≠0->(gL a len i n s).1=0)
 |[],i,n,h0,h1,h2=>by
  rw[length_nil]at h2;exact⟨Int.le_refl _,(by decide:(0:Int)<18446744073709551616),by show(a:Int)<=len;omega,Int.le_refl _,λh=>absurd h (by decide:¬(11:Int)=0),λ_=>rfl⟩
 |b::bs,i,n,h0,h1,h2=>by
  rw[length_cons]at h2;have hb:(b.toNat:Int)<256:=by have:=b.toNat_lt;omega
  rw[gL];split
  .exact⟨Int.le_refl _,(by decide:(0:Int)<18446744073709551616),Int.le_refl _,by show(a:Int)<=len;omega,λh=>absurd h (by decide:¬(3:Int)=0),λ_=>rfl⟩
  .split
   .exact⟨Int.le_refl _,(by decide:(0:Int)<18446744073709551616),by show(a:Int)<=((a+i:Nat):Int);omega,by show((a+i:Nat):Int)<=len;omega,λh=>absurd h (by decide:¬(2:Int)=0),λ_=>rfl⟩
   .split
    .refine⟨?_,?_,?_,?_,λ_=>?_,λh=>absurd rfl h⟩<;>simp only<;>omega
    .exact Uz a len bs (i+1) _ Z Z Z
theorem yk{s:List UInt8}{a:Int}(h0:0<=a)(h:a<=s.length):0<=(jv s a).1/\(jv s a).1<18446744073709551616/\a<=(jv s a).2.1/\(jv s a).2.1<=s.length/\((jv s a).2.2=0->a<(jv s a).2.1)/\((jv s a).2.2≠0->(jv s a).1=0):=by
 have:=Uz a.toNat s.length (s.drop a.toNat) 0 0 Z Z (by rw[length_drop];omega);rw[Int.toNat_of_nonneg h0]at this;exact this
def eJ(s:List UInt8)(a cC:Int):Int×Int×Int:=
 if(jv s a).2.2≠0 then(0,(jv s a).2.1,(jv s a).2.2)else if cC<(jv s a).1 then(0,a,2)else((jv s a).1,(jv s a).2.1,0)
theorem AY{s:List UInt8}{a cC:Int}(h0:0<=a)(h:a<=s.length)(hm:0<=cC):0<=(eJ s a cC).1/\(eJ s a cC).1<=cC/\a<=(eJ s a cC).2.1/\(eJ s a cC).2.1<=s.length/\((eJ s a cC).2.2=0->a<(eJ s a cC).2.1)/\((eJ s a cC).2.2≠0->(eJ s a cC).1=0):=by
 have:=yk h0 h;unfold eJ;split
 .rename_i h1;exact⟨Int.le_refl _,hm,this.2.2.1,this.2.2.2.1,λh=>absurd h h1,λ_=>rfl⟩
 .split
  .exact⟨Int.le_refl _,hm,Int.le_refl _,h,λh=>absurd h (by decide:¬(2:Int)=0),λ_=>rfl⟩
  .rename_i h1 h2;exact⟨this.1,Z,this.2.2.1,this.2.2.2.1,λ_=>this.2.2.2.2.1 (Classical.not_not.1 h1),λh=>absurd rfl h⟩
def vg(s:List UInt8)(a cC:Int):List UInt8×Int×Int:=
 if(eJ s a cC).2.2≠0 then([],(eJ s a cC).2.1,(eJ s a cC).2.2)else if s.length-(eJ s a cC).2.1<(eJ s a cC).1 then([],(eJ s a cC).2.1,4)
 else((s.drop (eJ s a cC).2.1.toNat).take (eJ s a cC).1.toNat,(eJ s a cC).2.1+(eJ s a cC).1,0)
theorem yo{s:List UInt8}{a cC:Int}(h0:0<=a)(h:a<=s.length)(hm:0<=cC):((vg s a cC).1.length:Int)<=cC/\(vg s a cC).1.length<=s.length/\a<=(vg s a cC).2.1/\(vg s a cC).2.1<=s.length/\((vg s a cC).2.2=0->a<(vg s a cC).2.1):=by
 have:=AY h0 h hm;unfold vg;split
 .rename_i h1;exact⟨hm,Nat.zero_le _,this.2.2.1,this.2.2.2.1,λh=>absurd h h1⟩
 .split
  .exact⟨hm,Nat.zero_le _,this.2.2.1,this.2.2.2.1,λh=>absurd h (by decide:¬(4:Int)=0)⟩
  .rename_i h1 h2;have:=this.2.2.2.2.1 (Classical.not_not.1 h1);refine⟨?_,?_,?_,?_,λ_=>?_⟩<;>simp only[length_take,length_drop]<;>omega
def Gu(x:Nat):Nat:=if 32768<=x then((x*2)%65536)^^^4129 else(x*2)%65536
def wL(x:Nat):Nat->Nat
 |0=>x
 |i+1=>Gu (wL x i)
def Xa(x:Nat)(b:UInt8):Nat:=wL (x^^^(b.toNat*256)) 8
def AJ(s:List UInt8):Nat->Nat
 |0=>65535
 |i+1=>Xa (AJ s i) (gt s i)
def Q8(s:List UInt8):Nat:=AJ s s.length
theorem J2{x:Nat}:Gu x<65536:=by
 unfold Gu;split
 .exact Nat.xor_lt_two_pow (n:=16) (Nat.mod_lt _ Z) Z
 .exact Nat.mod_lt _ Z
theorem B2{x:Nat}(h:x<65536):∀i,wL x i<65536
 |0=>h
 |_+1=>J2
theorem Xb(x:Nat)(b:UInt8):Xa x b<65536:=J2
theorem J7(s:List UInt8):∀i,AJ s i<65536
 |0=>by rw[AJ];omega
 |i+1=>Xb _ _
def two(x:Nat):List UInt8:=[UInt8.ofNat (x/256),UInt8.ofNat x]
theorem Ca{x:Int}(h0:0<=x)(h1:x<=65535):u16.wrap x=x:=by
 simp only[wrap,IntKind.bits,signed,Bool.false_and,Bool.false_eq_true,if_false];omega
theorem wrap32{x:Int}(h0:0<=x)(h1:x<=4294967295):u32.wrap x=x:=by
 simp only[wrap,IntKind.bits,signed,Bool.false_and,Bool.false_eq_true,if_false];omega
theorem YW{w a:Nat}(h:a<2^w):(BitVec.ofInt w (a:Int)).toNat=a:=by
 rw[BitVec.ofInt_natCast,BitVec.toNat_ofNat,Nat.mod_eq_of_lt h]
theorem x16{a b:Nat}(ha:a<65536)(hb:b<65536):u16.wrap ((BitVec.ofInt 16 (a:Int)^^^BitVec.ofInt 16 (b:Int)).toNat:Int)=((a^^^b:Nat):Int):=by
 have:=Nat.xor_lt_two_pow (n:=16) ha hb;rw[BitVec.toNat_xor,YW ha,YW hb];exact Ca Z Z
theorem x32{a b:Nat}(ha:a<4294967296)(hb:b<4294967296):u32.wrap ((BitVec.ofInt u32.bits (a:Int)^^^BitVec.ofInt u32.bits (b:Int)).toNat:Int)=((a^^^b:Nat):Int):=by
 have:=Nat.xor_lt_two_pow (n:=32) ha hb;rw[BitVec.toNat_xor,show u32.bits=32 from rfl,YW ha,YW hb];exact wrap32 Z Z
theorem Sz(a k:Nat):a&&&2^k=if a.testBit k=true then 2^k else 0:=by
 apply Nat.eq_of_testBit_eq;intro i;rw[Nat.testBit_and,Nat.testBit_two_pow];by_cases q:k=i
 .subst q;cases a.testBit k<;>simp
 .rw[decide_eq_false q,Bool.and_false];split
  .rw[Nat.testBit_two_pow,decide_eq_false q]
  .rw[Nat.zero_testBit]
theorem YX{a:Nat}(ha:a<65536):u16.wrap ((BitVec.ofInt 16 (a:Int)&&&32768#16).toNat:Int)=if 32768<=a then 32768 else 0:=by
 have e:(32768#16).toNat=2^15:=rfl;rw[BitVec.toNat_and,YW ha,e,Sz,Nat.testBit_eq_decide_div_mod_eq];by_cases q:32768<=a
 .rw[aG q,aG (decide_eq_true Z)];rfl
 .rw[aq q,aq (by rw[decide_eq_true_eq];omega)];rfl
theorem a32{a:Nat}(ha:a<4294967296):u32.wrap ((BitVec.ofInt 32 (a:Int)&&&15#32).toNat:Int)=((a%16:Nat):Int):=by
 have e:(15#32).toNat=2^4-1:=rfl;rw[BitVec.toNat_and,YW ha,e,Nat.and_two_pow_sub_one_eq_mod];exact wrap32 Z Z
theorem fd(a k:Nat):((a:Int).fdiv (k:Int))=((a/k:Nat):Int):=by
 rw[Int.fdiv_eq_ediv_of_nonneg _ Z];rfl
theorem Afo{a b:Nat}(ha:a<65536)(hb:b<65536):kK .xor .u16 (a:Int) (b:Int)=some (.int .u16 ((a^^^b:Nat):Int)):=congrArg (λx=>some (AV.int .u16 x)) (x16 ha hb)
theorem Ai4{a:Nat}(ha:a<65536):kK .and .u16 (a:Int) 32768=some (.int .u16 (if 32768<=a then 32768 else 0)):=congrArg (λx=>some (AV.int .u16 x)) (YX ha)
theorem Xc{a b:Nat}(ha:a<4294967296)(hb:b<4294967296):kK .xor .u32 (a:Int) (b:Int)=some (.int .u32 ((a^^^b:Nat):Int)):=congrArg (λx=>some (AV.int .u32 x)) (x32 ha hb)
theorem Ai5{a:Nat}(ha:a<4294967296):kK .and .u32 (a:Int) 15=some (.int .u32 ((a%16:Nat):Int)):=congrArg (λx=>some (AV.int .u32 x)) (a32 ha)
def yp(x y:Int):Int:=u32.wrap ((BitVec.ofInt u32.bits x^^^BitVec.ofInt u32.bits y).toNat:Int)
def dn(x:Int):Int:=if x.tmod 2=1 then yp (u32.wrap (x.tdiv 2)) 2197175160 else u32.wrap (x.tdiv 2)
def yq(x:Int):List UInt8:=[UInt8.ofNat (u8.wrap (x.fdiv (2^min 24 u32.bits))).toNat,
 UInt8.ofNat (u8.wrap (x.fdiv (2^min 16 u32.bits))).toNat,
 UInt8.ofNat (u8.wrap (x.fdiv (2^min 8 u32.bits))).toNat,
 UInt8.ofNat (u8.wrap x).toNat]
def Xd(x:Int):Nat->Int
 |0=>x
 |i+1=>dn (Xd x i)
def b32(x y:Int):Int:=Xd (yp x (u32.wrap y)) 8
def Xe(s:List UInt8):Nat->Int
 |0=>4294967295
 |i+1=>b32 (Xe s i) ((gt s i).toNat:Int)
def Xf(s:List UInt8):Int:=yp (Xe s s.length) 4294967295
theorem Ai6{x:Nat}(h:x<4294967296):dn (x:Int)=(dN x:Nat):=by
 unfold dn dN yp;have e1:(x:Int).tmod 2=((x%2:Nat):Int):=by rw[Int.tmod_eq_emod_of_nonneg Z];rfl
 have e2:(x:Int).tdiv 2=((x/2:Nat):Int):=by rw[Int.tdiv_eq_ediv_of_nonneg Z];rfl
 rw[e1,e2,wrap32 (x:=((x/2:Nat):Int)) Z Z];by_cases q:x%2=1
 .rw[aG Z,aG q];exact x32 (a:=x/2) (b:=2197175160) Z Z
 .rw[aq Z,aq q]
theorem EW{x:Nat}(h:x<4294967296):∀i,Nk x i<4294967296
 |0=>h
 |i+1=>Afn (EW h i)
theorem UA{x:Nat}(h:x<4294967296):∀i,Xd (x:Int) i=(Nk x i:Nat)
 |0=>rfl
 |i+1=>by rw[Xd,UA h i,Ai6 (EW h i)];rfl
def Mk(x:Nat)(b:UInt8):Nat:=Nk (x^^^b.toNat) 8
theorem SA{x:Nat}(h:x<4294967296)(b:UInt8):Mk x b<4294967296:=
 EW (Nat.xor_lt_two_pow (n:=32) h (by have:=b.toNat_lt;omega)) 8
def C4(s:List UInt8):Nat->Nat
 |0=>4294967295
 |i+1=>Mk (C4 s i) (gt s i)
theorem yt(s:List UInt8):∀i,C4 s i<4294967296
 |0=>by rw[C4];omega
 |i+1=>SA (yt s i) _
theorem UB(s:List UInt8):∀i,Xe s i=(C4 s i:Nat)
 |0=>rfl
 |i+1=>by
  have l:=yt s i;have b:=(gt s i).toNat_lt;rw[Xe,UB s i,b32,wrap32 Z Z,yp,x32 l Z,UA (Nat.xor_lt_two_pow (n:=32) l Z)];rfl
def Ml(s:List UInt8):Nat:=C4 s s.length^^^4294967295
theorem Afp(s:List UInt8):Xf s=(Ml s:Nat):=by
 rw[Xf,UB,yp];exact x32 (b:=4294967295) (yt _ _) Z
theorem SB:∀d,d<16->gt C3 d<4294967296:=aZ
theorem wM(x:Nat):UInt8.ofNat (u8.wrap (x:Int)).toNat=UInt8.ofNat x:=by
 have e:u8.wrap (x:Int)=((x%256:Nat):Int):=by
  simp only[wrap,IntKind.bits,signed,Bool.false_and,Bool.false_eq_true,if_false];omega
 rw[e,Int.toNat_natCast];apply UInt8.toNat_inj.1;rw[UInt8.toNat_ofNat',UInt8.toNat_ofNat',Nat.mod_mod_of_dvd x (by decide:2^8∣256)]
theorem SC(x:Nat):yq (x:Int)=[UInt8.ofNat (x/16777216),UInt8.ofNat (x/65536),UInt8.ofNat (x/256),UInt8.ofNat x]:=by
 have e:∀k:Nat,(x:Int).fdiv (2^k)=((x/2^k:Nat):Int):=λk=>fd x (2^k)
 unfold yq;rw[show min 24 u32.bits=24 from rfl,show min 16 u32.bits=16 from rfl,show min 8 u32.bits=8 from rfl,e,e,e,wM,wM,wM,wM]
structure dG(P:Nat->Prop)(m m':Mem):Prop where
 len:m.ah.length<=m'.ah.length
 get:∀b,b<m.ah.length->¬P b->aj m'.ah b=aj m.ah b
 aV:m'.aV=m.aV
 hU:∃l,m'.hU=l++m.hU/\∀b∈l,P b\/m.ah.length<=b
theorem dG.refl(P:Nat->Prop)(m:Mem):dG P m m:=⟨cB,λ_ _ _=>rfl,rfl,[],rfl,λ_ h=>by cases h⟩
theorem dG.trans{P P':Nat->Prop}{a b c:Mem}(h:dG P a b)(k:dG P' b c)(hp:∀x,P' x->P x\/a.ah.length<=x):dG P a c where
 len:=bK h.len k.len
 get:=λx hx hn=>(k.get x (gA hx h.len) (λq=>by rcases hp x q with q|q;exact hn q;omega)).trans (h.get x hx hn)
 aV:=k.aV.trans h.aV
 hU:=by
  obtain⟨l,e,hl⟩:=h.hU;obtain⟨l',e',Hq⟩:=k.hU;refine⟨l'++l,by rw[e',e,append_assoc],λx hx=>?_⟩;rcases mem_append.1 hx with hx|hx
  .rcases Hq x hx with q|q
   .exact hp x q
   .exact .inr (bK h.len q)
  .exact hl x hx
theorem aY.sy{P:Nat->Prop}{m m':Mem}(k:aY m m'):dG P m m':=⟨k.len,λx hx _=>k.get x hx,k.aV,by obtain⟨l,e,hl⟩:=k.hU;exact⟨l,e,λx hx=>.inr (hl x hx)⟩⟩
theorem aY.ko{P:Nat->Prop}{a b c:Mem}(h:aY a b)(k:dG P b c)(hp:∀x,P x->a.ah.length<=x):aY a c where
 len:=bK h.len k.len
 get:=λx hx=>(k.get x (gA hx h.len) (λq=>by have:=hp x q;omega)).trans (h.get x hx)
 aV:=k.aV.trans h.aV
 hU:=by
  obtain⟨l,e,hl⟩:=h.hU;obtain⟨l',e',Hq⟩:=k.hU;refine⟨l'++l,by rw[e',e,append_assoc],λx hx=>?_⟩;rcases mem_append.1 hx with hx|hx
  .rcases Hq x hx with q|q
   .exact hp x q
   .exact bK h.len q
  .exact hl x hx
theorem dG.sub{P:Nat->Prop}{h h':aN}{lg bq d d' d2:List Nat}(k:dG P ⟨h,lg,d⟩ ⟨h',bq,d'⟩):dG P ⟨h,lg,d2⟩ ⟨h',bq,d2⟩:=⟨k.len,k.get,rfl,k.hU⟩
inductive Xg(P:Nat->Prop)(n:Nat)(lg:List Nat):List Nat->Prop
 |nil:Xg P n lg lg
 |cons {b:Nat} {l:List Nat}:P b\/n<=b->Xg P n lg l->Xg P n lg (b::l)
theorem Xg.ok{P:Nat->Prop}{n:Nat}{lg l:List Nat}(H:Xg P n lg l):∃q,l=q++lg/\∀y∈q,P y\/n<=y:=by
 induction H with
 |nil=>exact⟨[],rfl,λy hy=>by cases hy⟩
 |cons hb _ ih=>
  obtain⟨q,rfl,h2⟩:=ih;exact⟨_::q,rfl,λy hy=>by rcases mem_cons.1 hy with rfl|hy;exact hb;exact h2 y hy⟩
theorem cD{P:Nat->Prop}{h:aN}{lg dx d:List Nat}{b:Nat}(hb:b<h.length)(hp:P b)(x:Option bp)(l:List (Option bp))(hl:Xg P h.length lg dx):dG P ⟨h,lg,d⟩ ⟨aR (aQ h b x) l,dx,d⟩where
 len:=by simp only[bV,bJ hb];omega
 get:=λc hc hn=>by
  simp only at hc|-;rw[bP hb hc (λq=>hn (by rw[q];exact hp))]
 aV:=rfl
 hU:=hl.ok
def jK(c:bF)(z:Int):Int:=(z+c.r-1)/c.r
def Cb(c:bF)(z b:Int):Int:=if b=-1\/min (b-c.d) c.e-jK c z<c.s then-1 else min (b-c.d) c.e-jK c z
theorem J8{c:bF}(h:cF c){z k:Int}:jK c z<=k↔z<=c.r*k:=by
 have h7:=h.2.2.2.2.2.2.1;have e:=Int.le_ediv_iff_mul_le (a:=k+1) (b:=z+c.r-1) (c:=c.r) Z;have e2:(k+1)*c.r=c.r*k+c.r:=by rw[Int.add_mul,Int.mul_comm,Int.one_mul]
 rw[e2]at e;unfold jK;omega
theorem Ps{c:bF}(h:cF c){z k:Int}:(c.r*k+z+c.r-1)/c.r=k+jK c z:=by
 have h7:=h.2.2.2.2.2.2.1;have e1:c.r*k+z+c.r-1=(z+c.r-1)+c.r*k:=Z;rw[e1,Int.add_mul_ediv_left _ _ Z];unfold jK;omega
theorem Xh{c:bF}(h:cF c){z x:Int}(hz:1<=z)(hx:0<=x):gE c z x=if max x c.s+jK c z<=c.e then some (max x c.s+jK c z+c.d)else none:=by
 have h5:=h.2.2.2.2.1;have h6:=h.2.2.2.2.2.1;have n1:1<=jK c z:=by
  have h7:=h.2.2.2.2.2.2.1;unfold jK;rw[Int.le_ediv_iff_mul_le Z];omega
 unfold gE fx ku;by_cases a:x<=c.s
 .rw[aG a,Int.max_eq_right a,show(0:Int)+z+c.r-1=z+c.r-1 by omega];have e:=J8 h (z:=z) (k:=c.e-c.s);by_cases q:jK c z<=c.e-c.s
  .rw[aq (by have:=e.1 q;omega),aG Z];unfold jK;rfl
  .rw[aG (by have:¬z<=c.r*(c.e-c.s):=λg=>q (e.2 g);omega),aq Z]
 .rw[aq a,Int.max_eq_left Z];by_cases b:x<c.e
  .rw[Int.min_eq_left Z,Ps h];have e:=J8 h (z:=z) (k:=c.e-x);have e2:c.r*(c.e-c.s)=c.r*(x-c.s)+c.r*(c.e-x):=by rw[<-Int.mul_add];congr 1;omega
   by_cases q:jK c z<=c.e-x
   .rw[aq (by have:=e.1 q;omega),aG Z];congr 1;omega
   .rw[aG (by have:¬z<=c.r*(c.e-x):=λg=>q (e.2 g);omega),aq Z]
  .rw[Int.min_eq_right Z,aG Z,aq Z]
set_option linter.unusedVariables false in
theorem J9 {c:bF} (h:cF c) {z x b:Int} (hz:1<=z) (hx:0<=x) (hb:-1<=b):(∃t,gE c z x=some t/\t<=b)↔x<=Cb c z b:=by
 have h4:=h.2.2.2.1;have h9:=h.2.2.2.2.2.2.2.2.1;have n1:1<=jK c z:=by
  have h7:=h.2.2.2.2.2.2.1;unfold jK;rw[Int.le_ediv_iff_mul_le Z];omega
 rw[Xh h hz hx];unfold Cb;generalize jK c z=k at*;constructor
 .rintro ⟨t,e,q⟩;split at e
  .cases e;rw[aq Z];omega
  .cases e
 .intro q;split at q
  .omega
  .exact⟨_,aG Z,Z⟩
section
variable{l:List bF}{z:Int}
def qW(l:List bF)(z:Int)(dF:List Int):Nat->List Int
 |0=>replicate 17 (-1)
 |i+1=>(qW l z dF i).set (gt l i).f.toNat (max (gt (qW l z dF i) (gt l i).f.toNat) (Cb (gt l i) z (gt dF (gt l i).t.toNat)))
def kV(l:List bF)(z:Int)(to:Nat)(b:Int):Nat->List Int
 |0=>(replicate 17 (-1)).set to b
 |k+1=>qW l z (kV l z to b k) l.length
theorem sA(dF:List Int):∀i,(qW l z dF i).length=17
 |0=>length_replicate
 |i+1=>by rw[qW,length_set,sA dF i]
theorem yu(to:Nat)(b:Int)(k:Nat):(kV l z to b k).length=17:=by
 cases k with
 |zero=>rw[kV,length_set,length_replicate]
 |succ k=>exact sA _ _
theorem Cc{n:Nat}(hn:n<17):gt (replicate 17 (-1:Int)) n=-1:=by
 rw[gt,getD_eq_getElem?_getD,getElem?_replicate,aG hn];rfl
theorem Xi{c:bF}(h:cF c)(b:Int):-1<=Cb c z b:=by
 have:=h.2.2.2.1;unfold Cb;split<;>omega
theorem Gv{dF:List Int}(hv:∀c∈l,cF c):∀i,i<=l.length->∀n,n<17->-1<=gt (qW l z dF i) n/\∀x,0<=x->(x<=gt (qW l z dF i) n↔∃j,j<i/\(gt l j).f.toNat=n/\x<=Cb (gt l j) z (gt dF (gt l j).t.toNat))
 |0,_,n,hn=>by
  rw[qW,Cc hn];exact⟨Int.le_refl _,λx hx=>⟨λh=>Z,λ⟨j,h,_⟩=>Z⟩⟩
 |i+1,hi,n,hn=>by
  obtain⟨p,q⟩:=Gv hv i Z n hn;have v:=hv (gt l i) (by rw[bB (show i<l.length by omega)];exact getElem_mem _);have hf:(gt l i).f.toNat<(qW l z dF i).length:=by rw[sA];have:=v.1;omega
  rw[qW,ju hf];have lg:=Xi (z:=z) v (gt dF (gt l i).t.toNat);by_cases e:n=(gt l i).f.toNat
  .rw[aG e];rw[<-e];refine⟨Z,λx hx=>⟨λh=>?_,λ⟨j,h1,h2,h3⟩=>?_⟩⟩
   .by_cases g:x<=gt (qW l z dF i) n
    .obtain⟨j,h1,h2,h3⟩:=(q x hx).1 g;exact⟨j,Z,h2,h3⟩
    .exact⟨i,Z,e.symm,Z⟩
   .by_cases g:j=i
    .subst g;omega
    .have:=(q x hx).2 ⟨j,Z,h2,h3⟩;omega
  .rw[aq e];refine⟨p,λx hx=>?_⟩;rw[q x hx];constructor
   .rintro ⟨j,h1,h2,h3⟩;exact⟨j,Z,h2,h3⟩
   .rintro ⟨j,h1,h2,h3⟩;have:j≠i:=λg=>e (by rw[<-h2,g])
    exact⟨j,Z,h2,h3⟩
def Way(l:List bF)(z:Int)(to:Nat)(b:Int):Nat->Nat->Int->Prop
 |0,x,a=>x=to/\a<=b
 |k+1,x,a=>∃c∈l,c.f.toNat=x/\∃t,gE c z a=some t/\Way l z to b k c.t.toNat t
theorem vQ(hv:∀c∈l,cF c)(hz:1<=z){to:Nat}(ht:to<17){b:Int}(hb:0<=b):∀(k:Nat) (x:Nat),x<17->-1<=gt (kV l z to b k) x/\∀a,0<=a->(Way l z to b k x a↔a<=gt (kV l z to b k) x)
 |0,x,hx=>by
  rw[kV,ju (by rw[length_replicate];exact ht)];by_cases e:x=to
  .rw[aG e];exact⟨Z,λa _=>⟨λh=>h.2,λh=>⟨e,h⟩⟩⟩
  .rw[aq e,Cc hx];exact⟨Int.le_refl _,λa _=>⟨λh=>absurd h.1 e,λh=>Z⟩⟩
 |k+1,x,hx=>by
  obtain⟨p,q⟩:=Gv (z:=z) (dF:=kV l z to b k) hv l.length cB x hx;refine⟨p,λa ha=>?_⟩;rw[kV,q a ha];constructor
  .rintro ⟨c,hc,e,t,h1,h2⟩;obtain⟨j,hj,rfl⟩:=getElem_of_mem hc;rw[<-bB hj]at e h1 h2 hc;have v:=hv _ hc;have hn:(gt l j).t.toNat<17:=by have:=v.2.1;omega
   obtain⟨i1,i2⟩:=vQ hv hz ht hb k _ hn;have:=(i2 t (by have:=pN v hz h1;omega)).1 h2;exact⟨j,hj,e,(J9 v hz ha i1).1 ⟨t,h1,this⟩⟩
  .rintro ⟨j,hj,e,h⟩;have hm:gt l j∈l:=by rw[bB hj];exact getElem_mem _
   have v:=hv _ hm;have hn:(gt l j).t.toNat<17:=by have:=v.2.1;omega
   obtain⟨i1,i2⟩:=vQ hv hz ht hb k _ hn;obtain⟨t,h1,h2⟩:=(J9 v hz ha i1).2 h;exact⟨_,hm,e,t,h1,(i2 t (by have:=pN v hz h1;omega)).2 h2⟩
theorem xo{R:Nat->Nat->Int}{s:Nat}{a0:Int}(hv:∀c∈l,cF c)(H:xn l z a0 s R){to:Nat}(ht:to<17){b:Int}:∀(k i x:Nat) (a:Int),x<17->Way l z to b k x a->0<=R i x->R i x<=a->0<=R (i+k) to/\R (i+k) to<=b
 |0,i,x,a,hx,w,h1,h2=>by
  obtain⟨rfl,h⟩:=w;exact⟨h1,by rw[Nat.add_zero];omega⟩
 |k+1,i,x,a,hx,w,h1,h2=>by
  obtain⟨c,hc,rfl,t,e,w⟩:=w;have v:=hv c hc;obtain⟨t',e',le⟩:=sj v h1 h2 e;have r:=H.r i c t' hc h1 e';have:=xo hv H ht k (i+1) c.t.toNat t (by have:=v.2.1;omega) w r.1 Z;rw[show i+1+k=i+(k+1) by omega]at this;exact this
theorem pO{R:Nat->Nat->Int}{s:Nat}{a0:Int}(hv:∀c∈l,cF c)(H:xn l z a0 s R){to:Nat}{b:Int}:∀(h n j:Nat),n<17->0<=R h n->Way l z to b j n (R h n)->∃i,i<=h+j/\Way l z to b i s a0
 |0,n,j,hn,h0,w=>by
  have e:=H.z0 n hn;rw[e]at h0 w;split at w
  .rename_i g;subst g;exact⟨j,Z,w⟩
  .rename_i g;rw[aq g]at h0;omega
 |h+1,n,j,hn,h0,w=>by
  rcases H.w h n hn h0 with⟨q1,q2⟩|⟨c,hc,rfl,q1,q2⟩
  .rw[q2]at w;obtain⟨i,h1,h2⟩:=pO hv H h n j hn q1 w;exact⟨i,Z,h2⟩
  .have v:=hv c hc;obtain⟨i,h1,h2⟩:=pO hv H h c.f.toNat (j+1) (by have:=v.1;omega) q1 ⟨c,hc,rfl,_,q2,w⟩;exact⟨i,Z,h2⟩
theorem Cd{cg:Nat->Int}{s:Nat}{a0:Int}(hv:∀c∈l,cF c)(G:n8 l z a0 s cg){to:Nat}{b:Int}:∀(k x:Nat) (a:Int),Way l z to b k x a->0<=cg x->cg x<=a->0<=cg to/\cg to<=b
 |0,x,a,w,h1,h2=>by
  obtain⟨rfl,h⟩:=w;exact⟨h1,Z⟩
 |k+1,x,a,w,h1,h2=>by
  obtain⟨c,hc,rfl,t,e,w⟩:=w;obtain⟨t',e',le⟩:=sj (hv c hc) h1 h2 e;have r:=G.c c t' hc h1 e';exact Cd hv G k c.t.toNat t w r.1 Z
end
abbrev yv(l:List bF)(z a:Int)(s:Nat):Nat->Int:=gt (dA l z a s 16)
section
variable{l:List bF}{z a:Int}{s to:Nat}
theorem Io(hv:∀c∈l,cF c)(hz:1<=z)(hs:s<17)(ha:0<=a){cg:Nat->Int}(G:n8 l z a s cg):∀n,n<17->(0<=cg n/\yv l z a s n=cg n)\/(cg n<0/\yv l z a s n<0):=λn hn=>by
 have H:=oZ hv hz hs ha;by_cases q:0<=cg n
 .have g:=zF hv hz hs H G ha (cg n).toNat n hn q cB;have m:=jJ H hn g.1 16 (Pj hn q);have r:=oW hv H G ha 16 n hn m.1;exact .inl ⟨q,by show gt (dA l z a s 16) n=_;have:=m.2;have:=r.2;have:=g.2;omega⟩
 .refine .inr ⟨Z,?_⟩;have:=(DP hv hz hs H G ha hn);show gt (dA l z a s 16) n<0;omega
def pP(l:List bF)(z:Int)(eP:Nat)(cA:Int)(ok:Nat->Int->Bool)(i:Nat):Bool:=decide ((gt l i).f.toNat=eP)&&match gE (gt l i) z cA with|some t=>ok (gt l i).t.toNat t|none=>false
def yw(l:List bF)(z:Int)(eP:Nat)(cA:Int)(ok:Nat->Int->Bool):Option Nat:=(List.range l.length).find? (pP l z eP cA ok)
def jx(l:List bF)(z:Int)(ok:Nat->Nat->Int->Bool):Nat->Nat->Int->List Nat×Int
 |0,_,cA=>([],cA)
 |k+1,eP,cA=>match yw l z eP cA (ok k)with
  |some i=>(i::(jx l z ok k (gt l i).t.toNat ((gE (gt l i) z cA).getD 0)).1,(jx l z ok k (gt l i).t.toNat ((gE (gt l i) z cA).getD 0)).2)
  |none=>([],cA)
def okB(l:List bF)(z:Int)(to:Nat)(b:Int)(k x:Nat)(t:Int):Bool:=decide (t<=gt (kV l z to b k) x)
def Ka(l:List bF)(z:Int)(to:Nat)(b:Int)(k x:Nat)(t:Int):Bool:=decide (gt (dA l z t x k) to=b)
theorem Kd(hv:∀c∈l,cF c)(hz:1<=z)(hs:s<17)(ha:0<=a)(ht:to<17){cg:Nat->Int}(G:n8 l z a s cg){b:Int}(hb:cg to=b)(rH:0<=b){K:Nat}(hK:∀j,Way l z to b j s a->K<=j):
 ∀(k eP:Nat) (cA:Int),k<=K->eP<17->0<=cA->Way l z to b k eP cA->0<=cg eP->cg eP<=cA->(∀m,Way l z to b m eP cA->Way l z to b (K-k+m) s a)->
  jx l z (okB l z to b) k eP cA=jx l z (Ka l z to b) k eP cA/\(jx l z (okB l z to b) k eP cA).2=b/\(jx l z (okB l z to b) k eP cA).1.length=k/\∀i∈(jx l z (okB l z to b) k eP cA).1,i<l.length
 |0,eP,cA,_,_,_,w,h1,h2,_=>by
  obtain⟨rfl,h⟩:=w;exact⟨rfl,by simp only[jx];omega,rfl,λi hi=>by cases hi⟩
 |k+1,eP,cA,hk,hh,hn,w,h1,h2,hw=>by
  have nQ:∀i,i<l.length->pP l z eP cA (okB l z to b k) i=pP l z eP cA (Ka l z to b k) i/\(pP l z eP cA (okB l z to b k) i=true->(gt l i).f.toNat=eP/\∃t,gE (gt l i) z cA=some t/\Way l z to b k (gt l i).t.toNat t):=λi hi=>by
   have hm:gt l i∈l:=by rw[bB hi];exact getElem_mem _
   have v:=hv _ hm;unfold pP;by_cases e:(gt l i).f.toNat=eP
   .rw[decide_eq_true e,Bool.true_and,Bool.true_and];cases g:gE (gt l i) z cA with
    |none=>exact⟨rfl,λh=>by cases h⟩
    |some t=>
     have hn':(gt l i).t.toNat<17:=by have:=v.2.1;omega
     have t0:0<=t:=by have:=pN v hz g;omega
     have wb:=(vQ hv hz ht rH k _ hn').2 t t0;refine⟨?_,λh=>⟨e,t,rfl,wb.2 (of_decide_eq_true h)⟩⟩;refine decide_eq_decide.2 ?_;rw[<-wb];have H:=oZ hv hz hn' t0;obtain⟨t',e',le⟩:=sj v h1 h2 g;have r:=G.c _ t' hm (by rw[e];exact h1) (by rw[e];exact e');constructor
     .intro w';have q:=xo hv H ht k 0 _ t hn' w' (by show 0<=gt (dA l z t _ 0) _;have:=H.z0 _ hn';simp only[if_true]at this;rw[this];exact t0) (by have:=H.z0 _ hn';simp only[if_true]at this;rw[this];exact Int.le_refl _);rw[Nat.zero_add]at q;obtain⟨q1,q2⟩:=q;obtain⟨i1,g1,g2⟩:=pO hv H (to:=to) (b:=gt (dA l z t (gt l i).t.toNat k) to) k to 0 ht q1 ⟨rfl,Int.le_refl _⟩;have:=Cd hv G i1 _ t g2 r.1 Z;show gt (dA l z t (gt l i).t.toNat k) to=b;have:=q2;omega
     .intro q;obtain⟨i1,g1,g2⟩:=pO hv H (to:=to) (b:=b) k to 0 ht (by show 0<=gt (dA l z t _ k) _;rw[q];exact rH) ⟨rfl,by show gt (dA l z t _ k) _<=_;rw[q];exact Int.le_refl _⟩;have:=hK _ (hw (i1+1) ⟨_,hm,e,t,g,g2⟩);have:i1=k:=Z;rw[<-this];exact g2
   .rw[decide_eq_false e,Bool.false_and,Bool.false_and];exact⟨rfl,λh=>by cases h⟩
  have pe:yw l z eP cA (Ka l z to b k)=yw l z eP cA (okB l z to b k):=by
   unfold yw;have:∀(L:List Nat),(∀i∈L,i<l.length)->L.find? (pP l z eP cA (Ka l z to b k))=L.find? (pP l z eP cA (okB l z to b k)):=λL=>by
    induction L with
    |nil=>intro _;rfl
    |cons x L ih=>
     intro g;rw[find?_cons,find?_cons,(nQ x (g x (mem_cons_self ..))).1,ih λi hi=>g i (mem_cons_of_mem _ hi)]
   exact this _ λi hi=>mem_range.1 hi
  obtain⟨c,hc,e,t,g,w'⟩:=w;obtain⟨j,hj,rfl⟩:=getElem_of_mem hc;rw[<-bB hj]at e g w' hc;have pj:pP l z eP cA (okB l z to b k) j=true:=by
   unfold pP;rw[decide_eq_true e,Bool.true_and,g];exact decide_eq_true (((vQ hv hz ht rH k _ (by have:=(hv _ hc).2.1;omega)).2 t (by have:=pN (hv _ hc) hz g;omega)).1 w')
  cases p:yw l z eP cA (okB l z to b k)with
  |none=>
   have:=find?_eq_none.1 p j (mem_range.2 hj);exact absurd pj this
  |some i=>
   have hi:i<l.length:=mem_range.1 (mem_of_find?_eq_some p);have hp:=find?_some p;obtain⟨e1,t1,g1,w1⟩:=(nQ i hi).2 hp;have hm:gt l i∈l:=by rw[bB hi];exact getElem_mem _
   have v:=hv _ hm;obtain⟨t',e',le⟩:=sj v h1 h2 g1;have r:=G.c _ t' hm (by rw[e1];exact h1) (by rw[e1];exact e');obtain⟨i1,i2,i3,i4⟩:=Kd hv hz hs ha ht G hb rH hK k (gt l i).t.toNat t1 Z (by have:=v.2.1;omega) (by have:=pN v hz g1;omega) w1 r.1 Z (λm LN=>by
    have:=hw (m+1) ⟨_,hm,e1,t1,g1,LN⟩;rw[show K-(k+1)+(m+1)=K-k+m by omega]at this;exact this)
   simp only[jx,pe,p,g1,getD_some];exact⟨by rw[i1],i2,by simp[i3],λq hq=>by
    rcases mem_cons.1 hq with rfl|hq
    .exact hi
    .exact i4 q hq⟩
theorem SD(hv:∀c∈l,cF c)(hz:1<=z)(hs:s<17)(ha:0<=a)(ht:to<17){cg:Nat->Int}(G:n8 l z a s cg){b:Int}(hb:cg to=b)(rH:0<=b)(h:Nat):gt (dA l z a s h) to=b↔∃j,j<=h/\Way l z to b j s a:=by
 have H:=oZ hv hz hs ha;constructor
 .intro q;obtain⟨i,h1,h2⟩:=pO hv H (to:=to) (b:=b) h to 0 ht (by show 0<=gt (dA l z a s h) to;omega) ⟨rfl,by show gt (dA l z a s h) to<=b;omega⟩;exact⟨i,h1,h2⟩
 .rintro ⟨j,hj,w⟩;have e:=H.z0 s hs;simp only[if_true]at e;have q:=xo hv H ht j 0 s a hs w (by rw[e];exact ha) (by rw[e];exact Int.le_refl _);rw[Nat.zero_add]at q;have m:=jJ H ht q.1 h hj;have r:=oW hv H G ha h to ht m.1;show gt (dA l z a s h) to=b;have:=m.2;have:=q.2;have:=r.2;omega
end
section
variable{l:List bF}{z a:Int}{s to:Nat}
structure Cl0(l:List bF)(z a:Int)(s:Nat)(cg:List Int):Prop where
 len:cg.length=17
 z0:gt cg s=a
 w:∀n,n<17->0<=gt cg n->n=s\/∃c∈l,c.t.toNat=n/\0<=gt cg c.f.toNat/\∃x,gt cg c.f.toNat<=x/\gE c z x=some (gt cg n)
 g:∀n,n<17->0<=gt cg n->a<=gt cg n
theorem DT(hv:∀c∈l,cF c)(hz:1<=z)(hs:s<17)(ha:0<=a):∀(k:Nat) (cg:List Int),pot cg<=k->Cl0 l z a s cg->∃SE:List Int,n8 l z a s (gt SE)
 |k,cg,hk,C=>by
  by_cases q:∃c∈l,∃t,0<=gt cg c.f.toNat/\gE c z (gt cg c.f.toNat)=some t/\(gt cg c.t.toNat<0\/t<gt cg c.t.toNat)
  .obtain⟨c,hc,t,h0,e,h⟩:=q;have v:=hv c hc;have hf:c.f.toNat<17:=by have:=v.1;omega
   have ht:c.t.toNat<17:=by have:=v.2.1;omega
   have gtt:=pN v hz e;have ga:=C.g _ hf h0;have lt:=J0 cg c.t.toNat t (by rw[C.len];exact ht) (W8 (qU v hz e) h);have ns:c.t.toNat≠s:=λp=>by rw[p,C.z0]at h;omega
   have gs:∀n,gt (cg.set c.t.toNat t) n=if n=c.t.toNat then t else gt cg n:=λn=>ju (by rw[C.len];exact ht)
   have le:∀n,0<=gt cg n->0<=gt (cg.set c.t.toNat t) n/\gt (cg.set c.t.toNat t) n<=gt cg n:=λn hn=>by
    rw[gs];split
    .rename_i p;subst p;omega
    .omega
   match k,hk with
   |0,hk=>omega
   |k+1,hk=>
    refine DT hv hz hs ha k (cg.set c.t.toNat t) Z ⟨by rw[length_set,C.len],by rw[gs,aq (λp=>ns p.symm)];exact C.z0,λn hn hq=>?_,λn hn hq=>?_⟩
    .by_cases p:n=c.t.toNat
     .refine .inr ⟨c,hc,p.symm,(le _ h0).1,gt cg c.f.toNat,(le _ h0).2,?_⟩;rw[gs,aG p];exact e
     .rw[gs,aq p]at hq|-;rcases C.w n hn hq with h|⟨c',EP,e1,e2,x,e3,e4⟩
      .exact .inl h
      .exact .inr ⟨c',EP,e1,(le _ e2).1,x,Int.le_trans (le _ e2).2 e3,e4⟩
    .rw[gs]at hq|-;split
     .omega
     .rename_i p;rw[aq p]at hq;exact C.g n hn hq
  .exact⟨cg,C.z0,λc t hc h0 e=>by
    refine Classical.byContradiction λh=>q ⟨c,hc,t,h0,e,?_⟩
    omega,C.w⟩
theorem Ip(hv:∀c∈l,cF c)(hz:1<=z)(hs:s<17)(ha:0<=a):∃cg:List Int,n8 l z a s (gt cg):=by
 have r:∀n,n<17->gt ((replicate 17 (-1:Int)).set s a) n=if n=s then a else-1:=λn hn=>by
  rw[ju (by rw[length_replicate];exact hs)];split
  .rfl
  .exact Cc hn
 refine DT hv hz hs ha _ ((replicate 17 (-1)).set s a) cB ⟨by rw[length_set,length_replicate],by rw[r s hs,aG rfl],λn hn q=>?_,λn hn q=>?_⟩
 .rw[r n hn]at q;split at q
  .rename_i h;exact .inl h
  .omega
 .rw[r n hn]at q|-;split
  .exact Int.le_refl _
  .rename_i h;rw[aq h]at q;omega
theorem EX(hv:∀c∈l,cF c)(hz:1<=z)(hs:s<17)(ha:0<=a)(ht:to<17){b:Int}(hb:yv l z a s to=b)(rH:0<=b):
 ∃K,K<=16/\a<=gt (kV l z to b K) s/\(∀j,j<K->gt (kV l z to b j) s<a)/\gt (dA l z a s K) to=b/\(∀j,j<K->gt (dA l z a s j) to≠b)/\
  jx l z (okB l z to b) K s a=jx l z (Ka l z to b) K s a/\(jx l z (okB l z to b) K s a).2=b/\(jx l z (okB l z to b) K s a).1.length=K/\∀i∈(jx l z (okB l z to b) K s a).1,i<l.length:=by
 obtain⟨cg,G⟩:=Ip hv hz hs ha;have ob:gt cg to=b:=by
  rcases Io hv hz hs ha G to ht with⟨_,h⟩|⟨_,h⟩
  .rw[<-h];exact hb
  .omega
 have few:=SD hv hz hs ha ht G ob rH;have bak:=λk=>(vQ hv hz ht rH k s hs).2 a ha
 have least:∀n,(∃j,j<=n/\Way l z to b j s a)->∃K,K<=n/\Way l z to b K s a/\∀j,Way l z to b j s a->K<=j:=λn=>by
  induction n with
  |zero=>
   rintro ⟨j,hj,w⟩;obtain rfl:j=0:=Z;exact⟨0,cB,w,λj _=>Nat.zero_le _⟩
  |succ n ih=>
   rintro ⟨j,hj,w⟩;by_cases q:∃j,j<=n/\Way l z to b j s a
   .obtain⟨K,h1,h2,h3⟩:=ih q;exact⟨K,Z,h2,h3⟩
   .have:j=n+1:=Classical.byContradiction λh=>q ⟨j,Z,w⟩
    subst this;exact⟨n+1,cB,w,λj' w'=>Classical.byContradiction λh=>q ⟨j',Z,w'⟩⟩
 obtain⟨K,k1,k2,k3⟩:=least 16 ((few 16).1 hb);have m:=Kd hv hz hs ha ht G ob rH k3 K s a cB hs ha k2 (by rw[G.z0];exact ha) (by rw[G.z0];exact Int.le_refl _) (λm w=>by rw[show K-K+m=m by omega];exact w);refine⟨K,k1,(bak K).1 k2,λj hj=>?_,(few K).2 ⟨K,cB,k2⟩,λj hj h=>?_,m⟩
 .refine Classical.byContradiction λh=>?_
  have:=k3 j ((bak j).2 Z);omega
 .obtain⟨j',h1,h2⟩:=(few j).1 h;have:=k3 j' h2;omega
end
def Iq(l:List bF)(z a:Int)(s to:Nat):Option Nat:=(List.range 17).find? λh=>decide (gt (dA l z a s h) to=yv l z a s to)
def nW(l:List bF)(z a:Int)(s to:Nat):Option (List Nat×Int):=
 if yv l z a s to<0 then none else some (jx l z (Ka l z to (yv l z a s to)) ((Iq l z a s to).getD 0) s a)
theorem Ce{l:List bF}{z a:Int}{s to K:Nat}(hK:K<=16)(h:gt (dA l z a s K) to=yv l z a s to)(hm:∀j,j<K->gt (dA l z a s j) to≠yv l z a s to):Iq l z a s to=some K:=by
 unfold Iq;rw[find?_eq_some_iff_getElem];refine⟨decide_eq_true h,K,by rw[length_range];omega,by simp,λj hj=>?_⟩;simp only[getElem_range,Bool.not_eq_true',decide_eq_false_iff_not];exact hm j hj
def Kj(l:List bF):Prop:=(∀c∈l,cF c)/\l.Pairwise m7/\l.Pairwise λa b=>¬(a.f=b.f/\a.t=b.t/\b.s<a.e)
theorem Ir{a b c:bF}(h:m7 a b)(k:m7 b c):m7 a c:=by unfold m7 at*;omega
theorem yx{l:List bF}{i:Nat}:fO l i=0↔cF (gt l i)/\(0<i->m7 (gt l (i-1)) (gt l i))/\qB l i=false:=by
 unfold fO;by_cases h1:cF (gt l i)
 .rw[aq (by simpa using h1)];by_cases h2:0<i/\¬m7 (gt l (i-1)) (gt l i)
  .rw[aG h2];exact⟨λh=>Z,λ⟨_,h,_⟩=>absurd (h h2.1) h2.2⟩
  .rw[aq h2];have g:0<i->m7 (gt l (i-1)) (gt l i):=λh=>Classical.byContradiction λk=>h2 ⟨h,k⟩
   cases q:qB l i
   .simp[h1];exact g
   .simp
 .rw[aG (by simpa using h1)];exact⟨λh=>Z,λ⟨h,_⟩=>absurd h h1⟩
theorem Cf{l:List bF}{i:Nat}(hi:i<l.length):qB l i=false↔∀k,k<i->¬((gt l k).f=(gt l i).f/\(gt l k).t=(gt l i).t/\(gt l i).s<(gt l k).e):=by
 unfold qB;rw[List.any_eq_false];constructor
 .intro h k hk q;have m:gt l k∈l.take i:=by
   rw[bB (show k<l.length by omega)];exact mem_take_iff_getElem.2 ⟨k,Z,rfl⟩
  exact absurd (decide_eq_true q) (h _ m)
 .intro h x hx q;obtain⟨k,hk,rfl⟩:=mem_take_iff_getElem.1 hx;have:=h k Z;rw[bB (show k<l.length by omega)]at this;exact this (of_decide_eq_true q)
theorem Pt{l:List bF}:(∀i,i<l.length->fO l i=0)↔Kj l:=by
 constructor
 .intro h;refine⟨λc hc=>?_,?_,?_⟩
  .obtain⟨i,hi,rfl⟩:=getElem_of_mem hc;rw[<-bB hi];exact(yx.1 (h i hi)).1
  .have st:∀j i,j<l.length->i<j->m7 (gt l i) (gt l j):=λj=>by
    induction j with
    |zero=>intro i _ h;omega
    |succ j ih=>
     intro i hj OM;have b:=(yx.1 (h (j+1) hj)).2.1 Z;rw[Nat.add_sub_cancel]at b;rcases Nat.lt_or_ge i j with q|q
     .exact Ir (ih i Z q) b
     .rw[show i=j by omega];exact b
   rw[pairwise_iff_getElem];intro i j hi hj OM;have:=st j i hj OM;rwa[bB hi,bB hj]at this
  .rw[pairwise_iff_getElem];intro i j hi hj OM;have:=(Cf hj).1 (yx.1 (h j hj)).2.2 i OM;rwa[bB hi,bB hj]at this
 .rintro ⟨h1,h2,h3⟩ i hi;rw[pairwise_iff_getElem]at h2 h3;refine yx.2 ⟨?_,λh0=>?_,(Cf hi).2 λk hk=>?_⟩
  .rw[bB hi];exact h1 _ (getElem_mem _)
  .rw[bB hi,bB (show i-1<l.length by omega)];exact h2 (i-1) i Z hi Z
  .rw[bB hi,bB (show k<l.length by omega)];exact h3 k i Z hi hk
def Cg(n:Int)(c:bF):Bool:=decide (c.f≠n)&&decide (c.t≠n)
def de(l:List bF)(n:Int):Nat->List Nat
 |0=>[]
 |i+1=>if Cg n (gt l i)=true then de l n i++[i]else de l n i
def gH(l:List bF)(n:Int):List bF:=(de l n l.length).map (gt l)
theorem sB(l:List bF)(n:Int):∀i,∀j∈de l n i,j<i
 |0,j,h=>by cases h
 |i+1,j,h=>by
  rw[de]at h;split at h
  .rcases mem_append.1 h with h|h
   .have:=sB l n i j h;omega
   .simp at h;omega
  .have:=sB l n i j h;omega
theorem o0(l:List bF)(n:Int):∀i,(de l n i).length<=i
 |0=>cB
 |i+1=>by
  have:=o0 l n i;rw[de];split
  .simp;omega
  .omega
theorem zG(l:List bF)(n:Int):∀i,(de l n i).Pairwise (·<·)
 |0=>.nil
 |i+1=>by
  rw[de];split
  .rw[pairwise_append];exact⟨zG l n i,by simp,λa ha b hb=>by simp at hb;rw[hb];exact sB l n i a ha⟩
  .exact zG l n i
theorem Mm{l:List bF}{n:Int}(h:Kj l):Kj (gH l n):=by
 have lt:=sB l n l.length;have asc:=zG l n l.length;have pw:∀{R:bF->bF->Prop},l.Pairwise R->(gH l n).Pairwise R:=λ{R} hp=>by
  unfold gH;rw[pairwise_map];refine asc.imp_of_mem λ{a b} ha hb q=>?_
  rw[bB (lt a ha),bB (lt b hb)];exact(pairwise_iff_getElem.1 hp) a b (lt a ha) (lt b hb) q
 refine⟨λc hc=>?_,pw h.2.1,pw h.2.2⟩;obtain⟨i,hi,rfl⟩:=mem_map.1 hc;rw[bB (lt i hi)];exact h.1 _ (getElem_mem _)
abbrev qX:=List Nat×Int
def gr:List Nat->List Nat->Int
 |[],[]=>0
 |[],_::_=>-1
 |_::_,[]=>1
 |a::l,b::m=>if a<b then-1 else if b<a then 1 else gr l m
def eF(a b:qX):Int:=if a.2<b.2 then-1 else if b.2<a.2 then 1 else if a.1.length<b.1.length then-1 else if b.1.length<a.1.length then 1 else gr a.1 b.1
def nw(l:List bF)(z a:Int)(f to n:Int)(i:Nat):Option qX:=
 if(gt l i).f=f/\(gt l i).t=n/\f≠to then
  match gE (gt l i) z a with
  |none=>none
  |some t=>if n=to then some ([i],t)else if 1099511627776<t then none else
   match nW (gH l f) z t n.toNat to.toNat with
   |none=>none
   |some r=>some (i::r.1.map (gt (de l f l.length)),r.2)
 else none
def mg(b x:Option qX):Option qX:=
 match x with
 |none=>b
 |some r=>match b with
  |none=>some r
  |some q=>if eF r q<0 then some r else some q
def iI(l:List bF)(z a:Int)(f to n:Int):Nat->Option qX
 |0=>none
 |i+1=>mg (iI l z a f to n i) (nw l z a f to n i)
def Is(l:List bF)(z a:Int)(f to n:Int):Option qX:=iI l z a f to n l.length
def jy(l:List bF)(z a:Int)(f to:Int):Nat->List qX
 |0=>[]
 |k+1=>match Is l z a f to (k+1:Nat)with
  |some r=>jy l z a f to k++[r]
  |none=>jy l z a f to k
inductive Rc(e:Int->List Int):Int->Int->Prop
 |refl (x:Int):Rc e x x
 |step {x y z:Int}:y∈e x->Rc e y z->Rc e x z
namespace Rc
variable{e:Int->List Int}
theorem trans{x y z:Int}(h:Rc e x y)(k:Rc e y z):Rc e x z:=by
 induction h with
 |refl=>exact k
 |step a _ ih=>exact .step a (ih k)
theorem one{x y:Int}(h:y∈e x):Rc e x y:=.step h (.refl _)
theorem exit{P:Int->Prop}{a b:Int}(h:Rc e a b)(ha:P a)(hb:¬P b):∃x y,P x/\¬P y/\y∈e x/\Rc e a x/\Rc e y b:=by
 induction h with
 |refl=>exact absurd ha hb
 |@step x y z hy hz ih=>
  by_cases q:P y
  .obtain⟨u,v,h1,h2,h3,h4,h5⟩:=ih q hb;exact⟨u,v,h1,h2,h3,.step hy h4,h5⟩
  .exact⟨x,y,ha,q,hy,.refl _,hz⟩
end Rc
structure TS where
 mH:List Int
 fU:Int->Int
 jZ:Int->Int
 fP:List Int
 all:List (List Int)
section
variable{e:Int->List Int}
structure Ch(e:Int->List Int)(g:List Int)(s:TS):Prop where
 nd:s.mH.Nodup
 vi:∀x,x∈s.mH↔s.fU x≠0
 nn:∀x,0<=s.fU x/\s.fU x<=s.mH.length
 a:∀x∈g,x∈s.fP
 b:s.fP.Pairwise (λx y=>s.fU x<s.fU y)
 c:∀x∈s.fP,s.fU x≠0
 d:∀x,s.fU x≠0->x∉g->∀y∈e x,s.fU y≠0
 r:∀x∈s.fP,∀y∈s.fP,s.fU x<=s.fU y->Rc e x y
 f:∀y∈s.fP,∃x∈g,s.fU x<=s.fU y/\Rc e y x
 g:∀x,s.fU x≠0->x∈s.fP\/∃c∈s.all,x∈c
 h:∀c∈s.all,∀x∈c,x∉s.fP/\s.fU x≠0/\∀y,y∈c↔Rc e x y/\Rc e y x
 ne:∀c∈s.all,c≠[]
 cn:∀c∈s.all,c.Nodup
 dj:s.all.Pairwise (λc c'=>∀x∈c,x∉c')
structure Tpo(e:Int->List Int)(g:List Int)(n:Int)(s s':TS):Prop where
 i:Ch e g s'
 t:∃t,s'.fP=s.fP++t/\∀x∈t,∀y∈e x,y∈s.fP->s'.jZ n<=s'.fU y
 v:∃t,s'.mH=s.mH++n::t
 k:∀x,s.fU x≠0->s'.fU x=s.fU x
 w:∀x,s.fU x≠0->s'.jZ x=s.jZ x
 u:∀x,s.fU x=0->s'.fU x≠0->s.mH.length<s'.fU x
 nz:s'.fU n≠0
 lo:(s'.jZ n=s'.fU n)\/(∃y∈s'.fP,s'.fU y=s'.jZ n/\Rc e n y)
 le:s'.jZ n<=s'.fU n
def vh(f:Int->Int)(k v:Int):Int->Int:=λx=>if x=k then v else f x
theorem tE(f:Int->Int)(k v:Int):vh f k v k=v:=aG rfl
theorem vR{f:Int->Int}{k v x:Int}(h:x≠k):vh f k v x=f x:=aq h
def TS.begin(s:TS)(n:Int):TS:=⟨s.mH++[n],vh s.fU n (s.mH.length+1),vh s.jZ n (s.mH.length+1),s.fP++[n],s.all⟩
structure xp(e:Int->List Int)(g:List Int)(n:Int)(s:TS)(l:List Int)(s':TS):Prop where
 i:Ch e (n::g) s'
 t:∃t,s'.fP=s.fP++n::t/\∀x∈t,x∉g/\∀y∈e x,y∈s.fP->s'.jZ n<=s'.fU y
 v:∃t,s'.mH=s.mH++n::t
 k:∀x,s.fU x≠0->s'.fU x=s.fU x
 w:∀x,s.fU x≠0->s'.jZ x=s.jZ x
 u:∀x,s.fU x=0->s'.fU x≠0->s.mH.length<s'.fU x
 q:s'.fU n=s.mH.length+1
 lo:∃y∈s'.fP,s'.fU y=s'.jZ n/\Rc e n y
 le:s'.jZ n<=s'.fU n
 o:∀y∈l,s'.fU y≠0/\(y∈s.fP->s'.jZ n<=s'.fU y)
theorem xp.start{g:List Int}{n:Int}{s:TS}(H:Ch e g s)(hn:s.fU n=0)(hg:∀x∈g,Rc e x n):xp e g n s [] (s.begin n):=by
 have hnv:n∉s.mH:=λh=>(H.vi n).1 h hn
 have hns:n∉s.fP:=λh=>H.c n h hn
 have mX:∀x,s.fU x≠0->(s.begin n).fU x=s.fU x:=λx hx=>vR (λh=>hx (h▸hn))
 have new:(s.begin n).fU n=s.mH.length+1:=tE _ _ _;have YY:∀x,(s.begin n).fU x≠0↔x=n\/s.fU x≠0:=λx=>by
  by_cases h:x=n
  .subst h;rw[new];constructor
   .intro _;exact .inl rfl
   .intro _;omega
  .rw[show(s.begin n).fU x=s.fU x from vR h];simp[h]
 have so:∀x∈s.fP,(s.begin n).fU x=s.fU x:=λx hx=>mX x (H.c x hx)
 refine⟨⟨?_,?_,?_,?_,?_,?_,?_,?_,?_,?_,?_,H.ne,H.cn,H.dj⟩,⟨[],rfl,λx hx=>by cases hx⟩,⟨[],rfl⟩,mX,λx hx=>vR (λh=>hx (h▸hn)),?_,new,⟨n,by simp[TS.begin],?_,.refl _⟩,?_,λy hy=>by cases hy⟩
 .show(s.mH++[n]).Nodup;rw[nodup_append];exact⟨H.nd,by simp,λa ha b hb=>by simp at hb;subst hb;exactλh=>hnv (h▸ha)⟩
 .intro x;rw[YY];simp only[TS.begin,mem_append,mem_singleton,H.vi];exact Or.comm
 .intro x;have:=H.nn x;simp only[TS.begin,length_append,length_singleton,vh];split<;>omega
 .intro x hx;rcases mem_cons.1 hx with rfl|hx
  .simp[TS.begin]
  .exact mem_append_left _ (H.a x hx)
 .show(s.fP++[n]).Pairwise _;rw[pairwise_append];refine⟨H.b.imp_of_mem (λ{x y} hx hy h=>by rw[so x hx,so y hy];exact h),by simp,λx hx y hy=>?_⟩;simp at hy;subst hy;rw[so x hx,new];have:=(H.nn x).2;omega
 .intro x hx;rw[YY];rcases mem_append.1 hx with hx|hx
  .exact .inr (H.c x hx)
  .exact .inl (by simpa using hx)
 .intro x hx YZ y hy;rw[YY]at hx|-;rcases hx with rfl|hx
  .exact absurd (mem_cons_self ..) YZ
  .exact .inr (H.d x hx (λh=>YZ (mem_cons_of_mem _ h)) y hy)
 .intro x hx y hy hxy;rcases mem_append.1 hx with JI|hx
  .rcases mem_append.1 hy with hy|hy
   .rw[so x JI,so y hy]at hxy;exact H.r x JI y hy hxy
   .simp at hy;subst hy;obtain⟨z,hz,_,h2⟩:=H.f x JI;exact h2.trans (hg z hz)
  .simp at hx;subst hx;rcases mem_append.1 hy with hy|hy
   .rw[so y hy,new]at hxy;have:=(H.nn y).2;omega
   .simp at hy;subst hy;exact .refl _
 .intro y hy;rcases mem_append.1 hy with hy|hy
  .obtain⟨x,hx,h1,h2⟩:=H.f y hy;exact⟨x,mem_cons_of_mem _ hx,by rw[so y hy,so x (H.a x hx)];exact h1,h2⟩
  .simp at hy;subst hy;exact⟨y,mem_cons_self ..,Int.le_refl _,.refl _⟩
 .intro x hx;rw[YY]at hx;rcases hx with rfl|hx
  .exact .inl (by simp[TS.begin])
  .rcases H.g x hx with h|h
   .exact .inl (mem_append_left _ h)
   .exact .inr h
 .intro c hc x hx;obtain⟨h1,h2,h3⟩:=H.h c hc x hx;refine⟨λh=>?_,(YY x).2 (.inr h2),h3⟩;rcases mem_append.1 h with h|h
  .exact h1 h
  .simp at h;subst h;exact h2 hn
 .intro x hx uL;rcases(YY x).1 uL with rfl|h
  .rw[new];omega
  .exact absurd hx h
 .rw[new];exact(tE _ _ _).symm
 .rw[new];exact Int.le_of_eq (tE _ _ _)
theorem xp.nst{g:List Int}{n:Int}{s s':TS}{l:List Int}(L:xp e g n s l s'):n∈s'.fP:=L.i.a n (mem_cons_self ..)
theorem xp.mX{g:List Int}{n:Int}{s s':TS}{l:List Int}(H:Ch e g s)(L:xp e g n s l s'):∀x∈s.fP,x∈s'.fP/\s'.fU x=s.fU x/\s'.fU x<s'.fU n:=λx hx=>by
 obtain⟨t,ht,_⟩:=L.t;have h1:=L.k x (H.c x hx);have:=(H.nn x).2;exact⟨by rw[ht];exact mem_append_left _ hx,h1,by rw[h1,L.q];omega⟩
theorem xp.pre{g:List Int}{n m:Int}{s s':TS}{l:List Int}(H:Ch e g s)(L:xp e g n s l s')(hm:m∈e n):∀x∈n::g,Rc e x m:=λx hx=>by
 refine Rc.trans ?_ (Rc.one hm);refine L.i.r x (L.i.a x hx) n L.nst ?_;rcases mem_cons.1 hx with rfl|hx
 .exact Int.le_refl _
 .exact Int.le_of_lt (L.mX H x (H.a x hx)).2.2
def TS.wN(s:TS)(n v:Int):TS:={s with jZ:=vh s.jZ n (min (s.jZ n) v)}
theorem Ch.wN{g:List Int}{s:TS}(H:Ch e g s)(n v:Int):Ch e g (s.wN n v):=⟨H.nd,H.vi,H.nn,H.a,H.b,H.c,H.d,H.r,H.f,H.g,H.h,H.ne,H.cn,H.dj⟩
theorem xp.Afq{g:List Int}{n m:Int}{s s1 s':TS}{l:List Int}(H:Ch e g s)(hn:s.fU n=0)(L:xp e g n s l s1)(hm:m∈e n)(hw:s1.fU m=0)(P:Tpo e (n::g) m s1 s'):xp e g n s (l++[m]) (s'.wN n (s'.jZ m)):=by
 obtain⟨t,ht,Q9⟩:=L.t;obtain⟨t',ht',Ai7⟩:=P.t;obtain⟨v,hv⟩:=L.v;obtain⟨v',Et⟩:=P.v;have hn1:s1.fU n≠0:=by rw[L.q];omega
 have lw:s'.jZ n=s1.jZ n:=P.w n hn1;have ln:(s'.wN n (s'.jZ m)).jZ n=min (s1.jZ n) (s'.jZ m):=by rw[<-lw];exact tE _ _ _
 have kk:∀x,s.fU x≠0->s'.fU x=s.fU x/\s1.fU x≠0:=λx hx=>by
  have h1:=L.k x hx;have h2:s1.fU x≠0:=by rw[h1];exact hx
  exact⟨(P.k x h2).trans h1,h2⟩
 refine⟨P.i.wN _ _,⟨t++t',?_,?_⟩,⟨v++m::v',?_⟩,λx hx=>(kk x hx).1,λx hx=>?_,λx hx uL=>?_,?_,?_,?_,?_⟩
 .show s'.fP=_;rw[ht',ht];simp
 .intro x hx;have uL:x∈s1.fP++t':=by rw[ht];rcases mem_append.1 hx with h|h<;>simp[h]
  refine⟨λhg=>?_,λy hy Hz=>?_⟩
  .rcases mem_append.1 hx with h|h
   .exact(Q9 x h).1 hg
   .have hs:=P.i.b;rw[ht',pairwise_append]at hs;have:=hs.2.2 x (L.mX H x (H.a x hg)).1 x h;omega
  .rw[ln];show _<=s'.fU y;rcases mem_append.1 hx with h|h
   .have h1:=(Q9 x h).2 y hy Hz;have:=(kk y (H.c y Hz)).1;have h2:=L.k y (H.c y Hz);omega
   .have h1:=Ai7 x h y hy (L.mX H y Hz).1;omega
 .show s'.mH=_;rw[Et,hv];simp
 .have hxn:x≠n:=λh=>hx (h▸hn)
  show vh s'.jZ n _ x=_;rw[vR hxn,P.w x (kk x hx).2,L.w x hx]
 .have Ai8:s'.fU x≠0:=uL;by_cases q:s1.fU x=0
  .have:=P.u x q Ai8;have h2:s.mH.length<=s1.mH.length:=by rw[hv];simp
   show _<s'.fU x;omega
  .have:=L.u x hx q;have h2:=P.k x q;show _<s'.fU x;omega
 .exact(P.k n hn1).trans L.q
 .rw[ln];obtain⟨y,hy,hyl,hyr⟩:=L.lo;have hy1:=L.i.c y hy;by_cases q:s1.jZ n<=s'.jZ m
  .exact⟨y,by show y∈s'.fP;rw[ht'];exact mem_append_left _ hy,by show s'.fU y=_;rw[P.k y hy1,hyl];omega,hyr⟩
  .rcases P.lo with hp|⟨z,hz,Lx,tS⟩
   .have h1:=P.u m hw P.nz;have h2:=(L.i.nn y).2;omega
   .exact⟨z,hz,by show s'.fU z=_;rw[Lx];omega,.step hm tS⟩
 .rw[ln];show _<=s'.fU n;rw[P.k n hn1];have:=L.le;omega
 .intro y hy;rw[ln];show s'.fU y≠0/\(_->_<=s'.fU y);rcases mem_append.1 hy with hy|hy
  .obtain⟨h1,h2⟩:=L.o y hy;rw[P.k y h1];exact⟨h1,λh=>by have:=h2 h;omega⟩
  .simp at hy;subst hy;exact⟨P.nz,λh=>absurd hw ((kk y (H.c y h)).2)⟩
theorem xp.seen{g:List Int}{n m:Int}{s s1:TS}{l:List Int}(H:Ch e g s)(hn:s.fU n=0)(L:xp e g n s l s1)(hm:m∈e n)(hw:s1.fU m≠0)(hs:m∈s1.fP):xp e g n s (l++[m]) (s1.wN n (s1.fU m)):=by
 obtain⟨t,ht,Q9⟩:=L.t;have ln:(s1.wN n (s1.fU m)).jZ n=min (s1.jZ n) (s1.fU m):=tE _ _ _;refine⟨L.i.wN _ _,⟨t,ht,λx hx=>⟨(Q9 x hx).1,λy hy Hz=>?_⟩⟩,L.v,L.k,λx hx=>?_,L.u,L.q,?_,?_,?_⟩
 .rw[ln];show _<=s1.fU y;have:=(Q9 x hx).2 y hy Hz;omega
 .have hxn:x≠n:=λh=>hx (h▸hn)
  exact(vR hxn).trans (L.w x hx)
 .rw[ln];obtain⟨y,hy,hyl,hyr⟩:=L.lo;by_cases q:s1.jZ n<=s1.fU m
  .exact⟨y,hy,by show s1.fU y=_;rw[hyl];omega,hyr⟩
  .exact⟨m,hs,by show s1.fU m=_;omega,.one hm⟩
 .rw[ln];show _<=s1.fU n;have:=L.le;omega
 .intro y hy;rw[ln];show s1.fU y≠0/\(_->_<=s1.fU y);rcases mem_append.1 hy with hy|hy
  .obtain⟨h1,h2⟩:=L.o y hy;exact⟨h1,λh=>by have:=h2 h;omega⟩
  .simp at hy;subst hy;exact⟨hw,λh=>Z⟩
theorem xp.done{g:List Int}{n m:Int}{s s1:TS}{l:List Int}(H:Ch e g s)(L:xp e g n s l s1)(hw:s1.fU m≠0)(hs:m∉s1.fP):xp e g n s (l++[m]) s1:=by
 refine⟨L.i,L.t,L.v,L.k,L.w,L.u,L.q,L.lo,L.le,λy hy=>?_⟩;rcases mem_append.1 hy with hy|hy
 .exact L.o y hy
 .simp at hy;subst hy;exact⟨hw,λh=>absurd (L.mX H y h).1 hs⟩
theorem xp.stay{g:List Int}{n:Int}{s s1:TS}(H:Ch e g s)(L:xp e g n s (e n) s1)(hl:s1.jZ n<s1.fU n):Tpo e g n s s1:=by
 obtain⟨t,ht,Q9⟩:=L.t;have I:=L.i;refine⟨⟨I.nd,I.vi,I.nn,λx hx=>I.a x (mem_cons_of_mem _ hx),I.b,I.c,λx hx hg y hy=>?_,I.r,λy hy=>?_,I.g,I.h,I.ne,I.cn,I.dj⟩,⟨n::t,ht,λx hx y hy Hz=>?_⟩,L.v,L.k,L.w,L.u,by rw[L.q];omega,.inr L.lo,L.le⟩
 .by_cases q:x=n
  .subst q;exact(L.o y hy).1
  .exact I.d x hx (λh=>by rcases mem_cons.1 h with h|h;exact q h;exact hg h) y hy
 .obtain⟨x,hx,h1,h2⟩:=I.f y hy;rcases mem_cons.1 hx with rfl|hx
  .obtain⟨z,hz,Lx,tS⟩:=L.lo;obtain⟨w,hw,w1,w2⟩:=I.f z hz;rcases mem_cons.1 hw with rfl|hw
   .omega
   .exact⟨w,hw,Z,h2.trans (tS.trans w2)⟩
  .exact⟨x,hx,h1,h2⟩
 .rcases mem_cons.1 hx with rfl|hx
  .exact(L.o y hy).2 Hz
  .exact(Q9 x hx).2 y hy Hz
def TS.pop(s:TS)(k:Nat):TS:={s with fP:=s.fP.take k,all:=s.all++[s.fP.drop k]}
theorem xp.take{g:List Int}{n:Int}{s s1:TS}(H:Ch e g s)(L:xp e g n s (e n) s1)(hl:¬s1.jZ n<s1.fU n):Tpo e g n s (s1.pop s.fP.length):=by
 obtain⟨t,ht,Q9⟩:=L.t;have I:=L.i;have tk:s1.fP.take s.fP.length=s.fP:=by rw[ht,take_left]
 have dr:s1.fP.drop s.fP.length=n::t:=by rw[ht,drop_left]
 have hm:=L.le;have bb:=I.b;rw[ht,pairwise_append]at bb;have lt:∀y∈s.fP,∀x∈n::t,s1.fU y<s1.fU x:=bb.2.2;have ins:∀x∈n::t,x∈s1.fP:=λx hx=>by rw[ht];exact mem_append_right _ hx
 have cg:∀x∈n::t,x∉s.fP:=λx hx h=>by have:=lt x h x hx;omega
 have noe:∀x∈n::t,∀y∈e x,y∉s.fP:=λx hx y hy Hz=>by
  have h1:=lt y Hz n (mem_cons_self ..);rcases mem_cons.1 hx with rfl|hx
  .have:=(L.o y hy).2 Hz;omega
  .have:=(Q9 x hx).2 y hy Hz;omega
 have mH:∀x∈n::t,∀y∈e x,s1.fU y≠0:=λx hx y hy=>by
  rcases mem_cons.1 hx with rfl|uL
  .exact(L.o y hy).1
  .refine I.d x (I.c x (ins x hx)) (λh=>?_) y hy;rcases mem_cons.1 h with rfl|h
   .have:=bb.2.1;rw[pairwise_cons]at this;have:=this.1 x uL;omega
   .exact(Q9 x uL).1 h
 have down:∀x∈n::t,Rc e n x/\Rc e x n:=λx hx=>by
  have le:s1.fU n<=s1.fU x:=by
   rcases mem_cons.1 hx with rfl|hx
   .exact Int.le_refl _
   .have:=bb.2.1;rw[pairwise_cons]at this;exact Int.le_of_lt (this.1 x hx)
  refine⟨I.r n L.nst x (ins x hx) le,?_⟩;obtain⟨z,hz,h1,h2⟩:=I.f x (ins x hx);refine h2.trans (I.r z (I.a z hz) n L.nst ?_);rcases mem_cons.1 hz with rfl|hz
  .exact Int.le_refl _
  .exact Int.le_of_lt (L.mX H z (H.a z hz)).2.2
 have whole:∀y,Rc e n y->Rc e y n->y∈n::t:=λy h1 h2=>by
  refine Classical.byContradiction λq=>?_
  obtain⟨x,z,hx,hz,hxz,hnx,hzy⟩:=Rc.exit (P:=λx=>x∈n::t) h1 (mem_cons_self ..) q;rcases I.g z (mH x hx z hxz)with h|⟨c,hc,hzc⟩
  .rw[ht]at h;rcases mem_append.1 h with h|h
   .exact noe x hx z hxz h
   .exact hz h
  .obtain⟨_,_,h3⟩:=I.h c hc z hzc;have:n∈c:=(h3 n).2 ⟨hzy.trans h2,hnx.trans (.one hxz)⟩;exact(I.h c hc n this).1 L.nst
 have st:(s1.pop s.fP.length).fP=s.fP:=tk;refine⟨⟨I.nd,I.vi,I.nn,λx hx=>by rw[st];exact H.a x hx,by rw[st];exact bb.1,λx hx=>I.c x (L.mX H x (by rw[st]at hx;exact hx)).1,λx hx hg y hy=>?_,λx hx y hy hxy=>?_,λy hy=>?_,λx hx=>?_,λc hc x hx=>?_,λc hc=>?_,λc hc=>?_,?_⟩,⟨[],by rw[st];simp,λx hx=>by cases hx⟩,L.v,L.k,L.w,L.u,?_,.inl ?_,L.le⟩
 .by_cases q:x=n
  .subst q;exact(L.o y hy).1
  .exact I.d x hx (λh=>by rcases mem_cons.1 h with h|h;exact q h;exact hg h) y hy
 .rw[st]at hx hy;exact I.r x (L.mX H x hx).1 y (L.mX H y hy).1 hxy
 .rw[st]at hy;obtain⟨x,hx,h1,h2⟩:=I.f y (L.mX H y hy).1;rcases mem_cons.1 hx with rfl|hx
  .have:=(L.mX H y hy).2.2;omega
  .exact⟨x,hx,h1,h2⟩
 .rcases I.g x hx with h|⟨c,hc,h⟩
  .rw[ht]at h;rcases mem_append.1 h with h|h
   .exact .inl (by rw[st];exact h)
   .exact .inr ⟨_,mem_append_right _ (mem_singleton.2 rfl),by rw[dr];exact h⟩
  .exact .inr ⟨c,mem_append_left _ hc,h⟩
 .rcases mem_append.1 hc with hc|hc
  .obtain⟨h1,h2,h3⟩:=I.h c hc x hx;exact⟨λh=>h1 (L.mX H x (by rw[st]at h;exact h)).1,h2,h3⟩
  .rw[mem_singleton.1 hc,dr]at hx;rw[st];refine⟨cg x hx,I.c x (ins x hx),λy=>?_⟩;rw[mem_singleton.1 hc,dr];obtain⟨d1,d2⟩:=down x hx;constructor
   .intro hy;obtain⟨d3,d4⟩:=down y hy;exact⟨d2.trans d3,d4.trans d1⟩
   .intro⟨h1,h2⟩;exact whole y (d1.trans h1) (h2.trans d2)
 .rcases mem_append.1 hc with hc|hc
  .exact I.ne c hc
  .rw[mem_singleton.1 hc,dr];simp
 .rcases mem_append.1 hc with hc|hc
  .exact I.cn c hc
  .rw[mem_singleton.1 hc,dr];exact bb.2.1.imp (λ{x y} h=>λq=>by subst q;omega)
 .show(s1.all++_).Pairwise _;rw[pairwise_append];refine⟨I.dj,by simp,λc hc c' EP x hx uL=>?_⟩;rw[mem_singleton.1 EP,dr]at uL;exact(I.h c hc x hx).1 (ins x uL)
 .show s1.fU n≠0;rw[L.q];omega
 .show s1.jZ n=s1.fU n;omega
theorem xp.index{g:List Int}{n:Int}{s s1:TS}{l:List Int}(H:Ch e g s)(L:xp e g n s l s1):s1.fP[s.fP.length]?=some n/\∀i,i<s.fP.length->s1.fP[i]?≠some n:=by
 obtain⟨t,ht,_⟩:=L.t;refine⟨by rw[ht];simp,λi hi h=>?_⟩;rw[ht,getElem?_append_left hi]at h;have:=(L.mX H n (mem_of_getElem? h)).2.2;omega
theorem Ch.empty{s:TS}(H:Ch e [] s):s.fP=[]:=by
 cases q:s.fP with
 |nil=>rfl
 |cons x l=>
  obtain⟨y,hy,_⟩:=H.f x (by rw[q];simp);cases hy
def TS.zero:TS:=⟨[],λ_=>0,λ_=>0,[],[]⟩
theorem Ch.zero:Ch e [] TS.zero:=⟨nodup_nil,λx=>by simp[TS.zero],λx=>by simp[TS.zero],λx hx=>(by cases hx),List.Pairwise.nil,λx hx=>(by cases hx),λx hx=>by simp[TS.zero]at hx,λx hx=>(by cases hx),λx hx=>(by cases hx),λx hx=>by simp[TS.zero]at hx,λc hc=>(by cases hc),λc hc=>(by cases hc),λc hc=>(by cases hc),List.Pairwise.nil⟩
end
section
variable{α:Type}[Inhabited α]
structure Mv(a b:Nat)(l l':List α):Prop where
 len:l'.length=l.length
 sq:l'.Perm l
 cg:∀i,i<a\/b<=i->gt l' i=gt l i
 ins:∀i,a<=i->i<b->∃j,a<=j/\j<b/\gt l' i=gt l j
theorem Mv.refl(a b:Nat)(l:List α):Mv a b l l:=⟨rfl,.refl _,λ_ _=>rfl,λi h1 h2=>⟨i,h1,h2,rfl⟩⟩
theorem Mv.trans{a b:Nat}{l l' l'':List α}(h:Mv a b l l')(k:Mv a b l' l''):Mv a b l l'' where
 len:=k.len.trans h.len
 sq:=k.sq.trans h.sq
 cg:=λi hi=>(k.cg i hi).trans (h.cg i hi)
 ins:=λi h1 h2=>by
  obtain⟨j,j1,j2,e⟩:=k.ins i h1 h2;obtain⟨q,q1,q2,e2⟩:=h.ins j j1 j2;exact⟨q,q1,q2,e.trans e2⟩
theorem Mv.wide{a b a' b':Nat}{l l':List α}(h:Mv a b l l')(ha:a'<=a)(hb:b<=b'):Mv a' b' l l' where
 len:=h.len
 sq:=h.sq
 cg:=λi hi=>h.cg i Z
 ins:=λi h1 h2=>by
  by_cases q:i<a\/b<=i
  .exact⟨i,h1,h2,h.cg i q⟩
  .obtain⟨j,j1,j2,e⟩:=h.ins i Z Z;exact⟨j,Z,Z,e⟩
theorem Mv.sw{a b i j:Nat}{l:List α}(hb:b<=l.length)(hi:a<=i/\i<b)(hj:a<=j/\j<b):Mv a b l (Go.Abs.sw l i j)where
 len:=qV ..
 sq:=vO Z Z
 cg:=λk hk=>by rw[u9 Z Z,aq Z,aq Z]
 ins:=λk h1 h2=>by
  rw[u9 Z Z];by_cases e:k=j
  .exact⟨i,hi.1,hi.2,by rw[aG e]⟩
  .by_cases f:k=i
   .exact⟨j,hj.1,hj.2,by rw[aq e,aG f]⟩
   .exact⟨k,h1,h2,by rw[aq e,aq f]⟩
variable{K:α->Int}
def mO(K:α->Int)(a b:Nat)(l:List α):Prop:=∀i j,a<=i->i<j->j<b->K (gt l i)<=K (gt l j)
theorem mO.mv{a b c d:Nat}{l l':List α}(h:mO K a b l)(m:Mv c d l l')(hd:b<=c\/d<=a):mO K a b l':=λi j h1 h2 h3=>by
 rw[m.cg i Z,m.cg j Z];exact h i j h1 h2 h3
def zH(K:α->Int)(a i j:Nat)(l:List α):Prop:=(∀p q,a<=p->p<q->q<=i->p≠j->q≠j->K (gt l p)<=K (gt l q))/\∀q,j<q->q<=i->K (gt l j)<=K (gt l q)
theorem zH.start{a i:Nat}{l:List α}(h:mO K a i l):zH K a i i l:=⟨λp q h1 h2 h3 h4 h5=>h p q h1 h2 Z,λq h1 h2=>Z⟩
theorem zH.step{a i j:Nat}{l:List α}(h:zH K a i j l)(ha:a<j)(V4:j<=i)(hi:i<l.length)(c:K (gt l j)<K (gt l (j-1))):zH K a i (j-1) (Go.Abs.sw l j (j-1)):=by
 have g:=λk=>u9 (l:=l) (i:=j) (j:=j-1) (k:=k) Z Z
 refine⟨λp q h1 h2 h3 h4 h5=>?_,λq h1 h2=>?_⟩
 .rw[g,g,aq h4,aq h5];by_cases e:p=j
  .rw[aG e,aq Z];exact h.1 (j-1) q Z Z h3 Z Z
  .rw[aq e];by_cases f:q=j
   .rw[aG f];exact h.1 p (j-1) h1 Z Z e Z
   .rw[aq f];exact h.1 p q h1 h2 h3 e f
 .rw[g,g,aG rfl,aq Z];by_cases f:q=j
  .rw[aG f];omega
  .rw[aq f];exact h.2 q Z h2
theorem zH.stop{a i j:Nat}{l:List α}(h:zH K a i j l)(V4:j<=i)(c:j<=a\/¬K (gt l j)<K (gt l (j-1))):mO K a (i+1) l:=λp q h1 h2 h3=>by
 by_cases e:p=j
 .rw[e];exact h.2 q Z Z
 .by_cases f:q=j
  .subst f;rcases c with c|c
   .omega
   .by_cases w:p=q-1
    .rw[w];omega
    .have:=h.1 p (q-1) h1 Z Z e Z;omega
  .exact h.1 p q h1 h2 Z e f
structure Part(K:α->Int)(a b m:Nat)(l:List α):Prop where
 h1:a<=m
 h2:m<b
 lo:∀i,a<=i->i<m->K (gt l i)<K (gt l m)
 hi:∀i,m<=i->i<b->K (gt l m)<=K (gt l i)
structure EY(K:α->Int)(n a b:Nat)(l0 l:List α):Prop where
 mv:Mv 0 n l0 l
 hn:n=l0.length
 ab:a<=b
 bn:b<=n
 lo:mO K 0 a l
 hi:mO K b n l
 l1:∀i j,i<a->a<=j->j<n->K (gt l i)<=K (gt l j)
 h1:∀i j,i<b->b<=j->j<n->K (gt l i)<=K (gt l j)
theorem EY.start{l:List α}:EY K l.length 0 l.length l l:=⟨Mv.refl _ _ _,rfl,Nat.zero_le _,cB,λi j _ _ h=>Z,λi j h1 h2 h3=>Z,λi j h=>Z,λi j h1 h2 h3=>Z⟩
theorem EY.move{n a b:Nat}{l0 l l':List α}(P:EY K n a b l0 l)(m:Mv a b l l'):EY K n a b l0 l' where
 mv:=P.mv.trans (m.wide (Nat.zero_le _) P.bn)
 hn:=P.hn
 ab:=P.ab
 bn:=P.bn
 lo:=P.lo.mv m (.inl cB)
 hi:=P.hi.mv m (.inr cB)
 l1:=λi j h1 h2 h3=>by
  rw[m.cg i (.inl h1)];by_cases q:j<b
  .obtain⟨k,k1,k2,e⟩:=m.ins j h2 q;rw[e];exact P.l1 i k h1 k1 (by have:=P.bn;omega)
  .rw[m.cg j (.inr Z)];exact P.l1 i j h1 h2 h3
 h1:=λi j h1 h2 h3=>by
  rw[m.cg j (.inr h2)];by_cases q:i<a
  .rw[m.cg i (.inl q)];exact P.h1 i j h1 h2 h3
  .obtain⟨k,k1,k2,e⟩:=m.ins i Z h1;rw[e];exact P.h1 k j k2 h2 h3
theorem EY.EZ{n a b:Nat}{l0 l:List α}(P:EY K n a b l0 l)(h:mO K a b l):mO K 0 n l:=λi j _ h2 h3=>by
 by_cases q:i<a
 .by_cases r:j<a
  .exact P.lo i j (Nat.zero_le _) h2 r
  .exact P.l1 i j q Z h3
 .by_cases r:j<b
  .exact h i j Z h2 r
  .by_cases w:i<b
   .exact P.h1 i j w Z h3
   .exact P.hi i j Z h2 h3
theorem EY.left{n a b m:Nat}{l0 l l':List α}(P:EY K n a b l0 l)(p:Part K a b m l)(mv:Mv a m l l')(s:mO K a m l'):EY K n (m+1) b l0 l':=by
 have P':=P.move (mv.wide cB (by have:=p.h2;omega));have bn:=P.bn;have mb:=p.h2;have am:=p.h1;have em:gt l' m=gt l m:=mv.cg m (.inr cB);have lo:∀i,a<=i->i<m->K (gt l' i)<=K (gt l' m):=λi h1 h2=>by
  obtain⟨k,k1,k2,e⟩:=mv.ins i h1 h2;rw[e,em];exact Int.le_of_lt (p.lo k k1 k2)
 have hi:∀j,m<=j->j<b->K (gt l' m)<=K (gt l' j):=λj h1 h2=>by
  rw[em,mv.cg j (.inr h1)];exact p.hi j h1 h2
 have uw:∀j,m<=j->j<n->K (gt l' m)<=K (gt l' j):=λj h1 h2=>by
  by_cases r:j<b
  .exact hi j h1 r
  .exact P'.h1 m j mb Z h2
 refine⟨P'.mv,P'.hn,Z,bn,λi j _ h2 h3=>?_,P'.hi,λi j h1 h2 h3=>?_,P'.h1⟩
 .by_cases q:i<a
  .by_cases r:j<a
   .exact P'.lo i j (Nat.zero_le _) h2 r
   .exact P'.l1 i j q Z Z
  .by_cases r:j=m
   .rw[r];exact lo i Z Z
   .exact s i j Z h2 Z
 .by_cases q:i<a
  .exact P'.l1 i j q Z h3
  .have w:=uw j Z h3;by_cases r:i=m
   .rw[r];exact w
   .exact Int.le_trans (lo i Z Z) w
theorem EY.right{n a b m:Nat}{l0 l l':List α}(P:EY K n a b l0 l)(p:Part K a b m l)(mv:Mv (m+1) b l l')(s:mO K (m+1) b l'):EY K n a m l0 l':=by
 have P':=P.move (mv.wide (by have:=p.h1;omega) cB);have bn:=P.bn;have mb:=p.h2;have am:=p.h1;have em:gt l' m=gt l m:=mv.cg m (.inl Z);have lo:∀i,a<=i->i<m->K (gt l' i)<=K (gt l' m):=λi h1 h2=>by
  rw[em,mv.cg i (.inl Z)];exact Int.le_of_lt (p.lo i h1 h2)
 have hi:∀j,m<=j->j<b->K (gt l' m)<=K (gt l' j):=λj h1 h2=>by
  by_cases r:j=m
  .rw[r];exact Int.le_refl _
  .obtain⟨k,k1,k2,e⟩:=mv.ins j Z h2;rw[e,em];exact p.hi k Z k2
 have uw:∀j,m<=j->j<n->K (gt l' m)<=K (gt l' j):=λj h1 h2=>by
  by_cases r:j<b
  .exact hi j h1 r
  .exact P'.h1 m j mb Z h2
 have lom:∀i,i<m->K (gt l' i)<=K (gt l' m):=λi h=>by
  by_cases q:i<a
  .exact P'.l1 i m q am Z
  .exact lo i Z h
 refine⟨P'.mv,P'.hn,am,Z,P'.lo,λi j h1 h2 h3=>?_,P'.l1,λi j h1 h2 h3=>?_⟩
 .by_cases q:i=m
  .rw[q];exact uw j Z h3
  .by_cases r:j<b
   .exact s i j Z h2 r
   .by_cases w:i<b
    .exact P'.h1 i j w Z h3
    .exact P'.hi i j Z h2 h3
 .exact Int.le_trans (lom i h1) (uw j h2 h3)
end
end Go.Abs
end
