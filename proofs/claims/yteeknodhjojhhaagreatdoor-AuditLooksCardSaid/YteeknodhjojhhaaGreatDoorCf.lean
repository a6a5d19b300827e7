/- Tables in a form that Lean can reckon by itself.
   Conditions: none. -/
import Derived.Test.YteeknodhjojhhaaGreatDoorW
set_option linter.unusedSimpArgs false
set_option linter.unusedVariables false
set_option maxRecDepth 100000
noncomputable section
namespace Go.Abs
def uY{α β:Type}(a:α)(f:α->β):β:=f a
section
variable(P:Program)(aM:Nat->Option AV)
def Ik(nt:Nat)(dC:Array Oper):Nat->Nat->List (List Nat)->List (Option cO×List cO)->List Oper->Option (List cS×Nat)
 |_,k,_,_,[]=>some ([],k)
 |i,k,cl,pv,o::os=>
  match sS dC o,Bi nt o with
  |some guard,some dst=>
   uY (Ax P aM o) λop=>uY (pB cl i o) λafter=>uY (Fm op guard) λlk=>uY (Bh pv after (dst,lk) i) λap=>uY (cl++[after]) λcl'=>uY (pv++[(dst,lk)]) λpv'=>
   match(o.after.toList.all λe=>!Region.binds .any e||decide (e.on<i))&&ap with
   |true=>
    match Ik nt dC (i+1) (cond op.pA (k+1) k) cl' pv' os with
    |some (fX,n)=>some ({dst,op,guard,iN:=cond op.pA (some k) none,after}::fX,n)
    |none=>none
   |false=>none
  |_,_=>none
theorem JV(nt:Nat)(dC:Array Oper):∀(os:List Oper) (i k:Nat) (cl:List (List Nat)) (pv:List (Option cO×List cO)),Ik P aM nt dC i k cl pv os=nh P aM nt true dC i k cl pv os
 |[],i,k,cl,pv=>rfl
 |o::os,i,k,cl,pv=>by
  unfold Ik nh;cases sS dC o with
  |none=>rfl
  |some g=>
   cases Bi nt o with
   |none=>rfl
   |some d=>
    simp only[uY,JV nt dC os,Option.bind_eq_bind,Option.bind_some,if_true];cases(Ax P aM o).pA<;>simp only[cond_true,cond_false,Bool.false_eq_true,if_false,if_true]<;>cases((o.after.toList.all λe=>!Region.binds .any e||decide (e.on<i))&&Bh pv (pB cl i o) (d,Fm (Ax P aM o) g) i)<;>simp only[Bool.false_eq_true,if_false,if_true]<;>split<;>simp_all
def eI(nt:Nat):Code->Option eQ
 |.region r dC d=>match d with
  |true=>(Ik P aM nt dC 0 0 [] [] dC.toList).map λx=>.region true x.2 x.1
  |false=>eR P aM nt (.region r dC false)
 |.seq a b=>match eI nt a,eI nt b with
  |some a,some b=>some (.seq a b)
  |_,_=>none
 |.cond c a b=>match bO aM c,eI nt a,eI nt b with
  |some c,some a,some b=>some (.cond c a b)
  |_,_,_=>none
 |.block id c=>(eI nt c).map (.block id)
 |.loop c=>(eI nt c).map .loop
 |.rangeFunc f ps a b=>match ps.toList.all (·<nt),bO aM f,eI nt a,eI nt b with
  |true,some f,some a,some b=>some (.rangeFunc f (ps.toList.map cO.ofNat) a b)
  |_,_,_,_=>none
 |.scope c=>eI nt c
 |c=>eR P aM nt c
theorem Mg(nt:Nat)(c:Code):eI P aM nt c=eR P aM nt c:=by
 induction c with
 |region r dC d=>
  cases d
  .rfl
  .simp only[eI,JV,eR];cases nh P aM nt true dC 0 0 [] [] dC.toList<;>rfl
 |seq a b iha ihb=>simp only[eI,eR,iha,ihb];cases eR P aM nt a<;>cases eR P aM nt b<;>rfl
 |cond c a b iha ihb=>simp only[eI,eR,iha,ihb];cases bO aM c<;>cases eR P aM nt a<;>cases eR P aM nt b<;>rfl
 |block id c ih=>simp only[eI,eR,ih];cases eR P aM nt c<;>rfl
 |loop c ih=>simp only[eI,eR,ih];cases eR P aM nt c<;>rfl
 |rangeFunc f ps a b iha ihb=>
  simp only[eI,eR,iha,ihb];cases(ps.toList.all (·<nt))<;>cases bO aM f<;>cases eR P aM nt a<;>cases eR P aM nt b<;>rfl
 |scope c ih=>simp only[eI,eR,ih]
 |_=>rfl
def zE(fn:Func):Option bD:=
 match fn.body with
 |some body=>match fn.results.toList.all (qP P),eI P aM fn.ntmps body with
  |true,some c=>some {ntmps:=fn.ntmps,results:=fn.results.toList.map (Bj P),body:=c}
  |_,_=>none
 |none=>none
theorem YQ(fn:Func):zE P aM fn=Bk P aM fn:=by
 unfold zE Bk;cases fn.body with
 |none=>rfl
 |some b=>
  have e:fn.results.all (qP P)=fn.results.toList.all (qP P):=by simp
  simp only[Mg,Option.bind_eq_bind,Option.bind_some,e];cases fn.results.toList.all (qP P)<;>cases eR P aM fn.ntmps b<;>rfl
variable{P aM}
theorem c_f{fn:Func}{n:Nat}{r:List ze}{b:Code}{c:eQ}(hb:fn.body=some b)(hn:fn.ntmps=n)(hr:fn.results.toList.map (Bj P)=r)(ho:fn.results.toList.all (qP P)=true)(hc:eI P aM n b=some c):zE P aM fn=some ⟨n,r,c⟩:=by
 unfold zE;rw[hb,hn,hr,ho];simp only[hc]
theorem c_s{n:Nat}{a b:Code}{x y:eQ}(ha:eI P aM n a=some x)(hb:eI P aM n b=some y):eI P aM n (.seq a b)=some (.seq x y):=by simp only[eI,ha,hb]
theorem c_c{n:Nat}{c:Operand}{a b:Code}{d:bE}{x y:eQ}(hc:bO aM c=some d)(ha:eI P aM n a=some x)(hb:eI P aM n b=some y):eI P aM n (.cond c a b)=some (.cond d x y):=by simp only[eI,hc,ha,hb]
theorem c_b{n i:Nat}{a:Code}{x:eQ}(ha:eI P aM n a=some x):eI P aM n (.block i a)=some (.block i x):=by simp only[eI,ha,Option.map_some]
theorem c_l{n:Nat}{a:Code}{x:eQ}(ha:eI P aM n a=some x):eI P aM n (.loop a)=some (.loop x):=by simp only[eI,ha,Option.map_some]
theorem c_p{n:Nat}{a:Code}{x:eQ}(ha:eI P aM n a=some x):eI P aM n (.scope a)=some x:=by simp only[eI,ha]
def Sv(P:Program)(aM:Nat->Option AV)(nt:Nat)(dC:Array Oper):Nat->List (List Nat)->List Oper->Option (List cS×Nat)
 |k,_,[]=>some ([],k)
 |k,cl,o::os=>
  match sS dC o,Bi nt o with
  |some guard,some dst=>
   uY (Ax P aM o) λop=>uY (pB cl cl.length o) λafter=>uY (cl++[after]) λcl'=>
    match Sv P aM nt dC (cond op.pA (k+1) k) cl' os with
    |some (fX,n)=>some ({dst,op,guard,iN:=cond op.pA (some k) none,after}::fX,n)
    |none=>none
  |_,_=>none
theorem JW(nt:Nat)(dC:Array Oper):∀(os:List Oper) (i k:Nat) (cl:List (List Nat)) (pv:List (Option cO×List cO)) (r:List cS×Nat),cl.length=i->Ik P aM nt dC i k cl pv os=some r->Sv P aM nt dC k cl os=some r
 |[],i,k,cl,pv,r,_,h=>h
 |o::os,i,k,cl,pv,r,hi,h=>by
  unfold Ik at h;unfold Sv;subst hi;cases hg:sS dC o with
  |none=>rw[hg]at h;cases h
  |some g=>
   cases hd:Bi nt o with
   |none=>rw[hg,hd]at h;cases h
   |some d=>
    rw[hg,hd]at h;simp only[uY]at h|-;split at h
    .split at h
     .rename_i hc;rw[JW nt dC os _ _ _ _ _ (by simp) hc];exact h
     .cases h
    .cases h
theorem c_r{n i k:Nat}{dC:Array Oper}{l:List cS}(h1:Sv P aM n dC 0 [] dC.toList=some (l,k))(h2:(Ik P aM n dC 0 0 [] [] dC.toList).isSome=true):eI P aM n (.region i dC true)=some (.region true k l):=by
 obtain⟨r,hr⟩:=Option.isSome_iff_exists.1 h2;have e:=JW n dC dC.toList 0 0 [] [] r rfl hr;rw[h1]at e;cases e;simp only[eI,hr,Option.map_some]
end
end Go.Abs
end
