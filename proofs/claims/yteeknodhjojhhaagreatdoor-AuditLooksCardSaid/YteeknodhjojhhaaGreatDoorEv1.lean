/- Abstract values
   Conditions: none. -/
import Derived.WalkKit
import Derived.Orders
set_option linter.unusedSimpArgs false
set_option linter.unusedVariables false
set_option maxRecDepth 100000
noncomputable section
universe u
namespace Go.Abs
open List Option IntKind
theorem aq{c:Prop}{h:Decidable c}(n:¬c){α:Sort u}{t e:α}:(ite c t e)=e:=if_neg n
theorem aG{c:Prop}{h:Decidable c}(n:c){α:Sort u}{t e:α}:(ite c t e)=t:=if_pos n
theorem bK{a b c:Nat}(h:a<=b)(k:b<=c):a<=c:=Nat.le_trans h k
theorem cB{a:Nat}:a<=a:=Nat.le_refl a
theorem gA{a b c:Nat}(h:a<b)(k:b<=c):a<c:=Nat.lt_of_lt_of_le h k
theorem dy{p:Prop}(h:p:=by omega):p=True:=eq_true h
theorem cR{p:Prop}(h:¬p:=by omega):p=False:=eq_false h
theorem Z{p:Prop}(h:p:=by omega):p:=h
theorem aZ{p:Prop}(h:p:=by decide):p:=h
inductive AV where
 |undef
 |bool (b:Bool)
 |int (k:IntKind) (n:Int)
 |fN (s:List UInt8)
 |qL
 |ptr (b i o:Nat)
 |aF
 |fg
 |slice (b i n:Nat) (c:Option Nat)
 |lT
 |map (b:Nat)
 |nilFunc
 |func (f:FuncId) (first captured:List AV)
 |nilIface
 |iface (t:TypeId) (v:AV)
 |agg (cs:List AV)
 |tuple (vs:List AV)
 |yield (l:Nat)
 |Vo
 |Hl (n:Nat)
 deriving Inhabited
inductive cO where
 |z
 |l (p:cO)
 |r (p:cO)
 deriving Inhabited,DecidableEq
def cO.toNat:cO->Nat
 |.z=>0
 |.l p=>2*p.toNat+1
 |.r p=>2*p.toNat+2
def cO.succ:cO->cO
 |.z=>.l .z
 |.l p=>.r p
 |.r p=>.l p.succ
def cO.ofNat:Nat->cO
 |0=>.z
 |n+1=>(cO.ofNat n).succ
inductive Tr where
 |e
 |n (v:AV) (l r:Tr)
 deriving Inhabited
def TX:cO->Tr->AV
 |_,.e=>.undef
 |.z,.n v _ _=>v
 |.l p,.n _ l _=>TX p l
 |.r p,.n _ _ r=>TX p r
def Je(x:AV):cO->Tr->Tr
 |.z,.e=>.n x .e .e
 |.z,.n _ l r=>.n x l r
 |.l p,.e=>.n .undef (Je x p .e) .e
 |.l p,.n v l r=>.n v (Je x p l) r
 |.r p,.e=>.n .undef .e (Je x p .e)
 |.r p,.n v l r=>.n v l (Je x p r)
def dL(p:cO):Tr->AV:=
 cO.rec (motive:=λ_=>Tr->AV) (λt=>Tr.casesOn t .undef λv _ _=>v) (λ_ ih t=>Tr.casesOn t .undef λ_ l _=>ih l) (λ_ ih t=>Tr.casesOn t .undef λ_ _ r=>ih r) p
def gq(x:AV)(p:cO):Tr->Tr:=
 cO.rec (motive:=λ_=>Tr->Tr) (λt=>Tr.casesOn t (.n x .e .e) λ_ l r=>.n x l r) (λ_ ih t=>Tr.casesOn t (.n .undef (ih .e) .e) λv l r=>.n v (ih l) r)
  (λ_ ih t=>Tr.casesOn t (.n .undef .e (ih .e)) λv l r=>.n v l (ih r)) p
def lz:List AV->cO->Tr->Tr
 |[],_,T=>T
 |v::vs,p,T=>lz vs p.succ (gq v p T)
inductive bE where
 |t (p:cO)
 |c (v:AV)
inductive TY where
 |toInt (k:IntKind)
 |nQ
 |b2s
 |Zs (bytes:Nat)
inductive CK where
 |b
 |i
 |s
inductive NK where
 |p
 |s
 |m
 |f
 |i
 deriving DecidableEq
inductive LK where
 |fN
 |slice
 |map
inductive j6 where
 |mv (x:bE)
 |pick (c a b:bE)
 |alloc (bZ:Nat) (Df:List (List AV))
 |box (bZ n:Nat) (x:bE)
 |build (zero:List AV) (cM:List (Nat×Nat×bE))
 |Aw (bZ len:Nat) (zero:List AV) (cM:List (Nat×bE))
 |load (agg:Bool) (n:Nat) (x:bE)
 |store (n:Nat) (x v:bE)
 |Rv (x:bE)
 |bin (op:BinOp) (x y:bE)
 |eql (neg agg:Bool) (sh:List CK) (x y:bE)
 |Dg (neg:Bool) (k:NK) (x:bE)
 |un (op:UnOp) (x:bE)
 |conv (k:TY) (x:bE)
 |iface (t:TypeId) (x:bE)
 |A9 (f:FuncId) (first captured:List bE)
 |Ba (off:Nat) (x:bE)
 |field (off n:Nat) (agg:Bool) (x:bE)
 |Ek (bZ:Nat) (x i:bE)
 |Bb (bZ len:Nat) (x i:bE)
 |NB (bZ len:Nat) (agg:Bool) (x i:bE)
 |Bc (x i:bE)
 |rJ (x:bE) (lo hi:Option bE)
 |qM (bZ:Nat) (x:bE) (lo hi mx:Option bE)
 |qN (bZ len:Nat) (x:bE) (lo hi mx:Option bE)
 |ext (x:bE) (i:Nat)
 |xI (t:TypeId) (ok:Bool) (x:bE)
 |len (k:LK) (x:bE)
 |tN (bZ bytes:Nat) (s x:bE)
 |copy (bZ:Nat) (d s:bE)
 |sN (nR:Bool) (xs:List bE)
 |qe (bZ bytes:Nat) (zero:List AV) (l c:bE)
 |Bd
 |look (agg:Bool) (sh:List CK) (zero:AV) (ok:Bool) (m k:bE)
 |qO (agg:Bool) (sh:List CK) (m k v:bE)
 |mW
 |Rx (x:bE)
 |Lp (bZ bytes:Nat) (zero:List AV) (s n:bE)
 |YC (n:Nat) (x:bE)
 |Dh (x y c:bE)
 |call (f:FuncId) (args:List bE)
 |rL (x:bE) (args:List bE)
 |invoke (x:bE) (name:String) (args:List bE)
structure cS where
 dst:Option cO
 op:j6
 guard:Option (cO×Bool)
 iN:Option Nat
 after:List Nat
inductive eQ where
 |skip
 |mW
 |region (wT:Bool) (Ag1:Nat) (dC:List cS)
 |seq (a b:eQ)
 |cond (c:bE) (a b:eQ)
 |block (id:Nat) (c:eQ)
 |loop (c:eQ)
 |exit (id:Nat)
 |ret
 |rangeFunc (f:bE) (params:List cO) (assign body:eQ)
inductive cT where
 |normal
 |exit (id:Nat)
 |ret
inductive El where
 |ready
 |busy
 |done
structure oe where
 state:El
 pending:Option cT
 tmps:Tr
 params:List cO
 assign:eQ
 body:eQ
inductive bp where
 |row (bS:Bool) (bZ:Nat) (Df:List (List AV))
 |map (fF:List (AV×AV))
 |loop (l:oe)
 |nZ
def bp.bS:bp->Bool
 |.row o _ _=>o
 |.map _=>true
 |.loop _=>true
 |.nZ=>true
inductive Mt where
 |e
 |n (x:Option bp) (l r:Mt)
 deriving Inhabited
def TZ:Mt->Nat->Option bp
 |.e,_=>none
 |.n x l r,k=>match k with
  |0=>x
  |k+1=>if k%2==0 then TZ l (k/2)else TZ r (k/2)
def Jf(x:Option bp):Nat->Nat->Mt->Mt
 |0,_,t=>t
 |_+1,0,.e=>.n x .e .e
 |_+1,0,.n _ l r=>.n x l r
 |f+1,k+1,.e=>if k%2==0 then .n none (Jf x f (k/2) .e) .e else .n none .e (Jf x f (k/2) .e)
 |f+1,k+1,.n v l r=>if k%2==0 then .n v (Jf x f (k/2) l) r else .n v l (Jf x f (k/2) r)
def CU(t:Mt):Nat->Option bp:=
 Mt.rec (motive:=λ_=>Nat->Option bp) (λ_=>none)
  (λx _ _ il ir k=>Nat.rec (motive:=λ_=>Option bp) x (λk _=>cond (Nat.beq (Nat.mod k 2) 0) (il (Nat.div k 2)) (ir (Nat.div k 2))) k) t
def uj(x:Option bp)(f:Nat):Nat->Mt->Mt:=
 Nat.rec (motive:=λ_=>Nat->Mt->Mt) (λ_ t=>t)
  (λ_ ih k t=>Nat.rec (motive:=λ_=>Mt) (Mt.casesOn t (.n x .e .e) λ_ l r=>.n x l r)
   (λk _=>Mt.casesOn t (cond (Nat.beq (Nat.mod k 2) 0) (.n none (ih (Nat.div k 2) .e) .e) (.n none .e (ih (Nat.div k 2) .e)))
    λv l r=>cond (Nat.beq (Nat.mod k 2) 0) (.n v (ih (Nat.div k 2) l) r) (.n v l (ih (Nat.div k 2) r))) k) f
structure aN where
 length:Nat
 zd:Mt
def aj(h:aN)(b:Nat):Option bp:=cond (Nat.blt b h.length) (CU h.zd b) none
def aQ(h:aN)(b:Nat)(x:Option bp):aN:={length:=cond (Nat.blt b h.length) h.length (Nat.succ b),zd:=uj x (Nat.succ b) b h.zd}
def zZ(h:aN):Nat->aN
 |0=>h
 |n+1=>zZ (aQ h h.length none) n
structure j9 where
 id:Nat
 mV:Option bp
 cj:List Nat
inductive ze where
 |tmp (t:cO)
 |cell (t:cO) (agg:Bool) (n:Nat)
structure bD where
 ntmps:Nat
 results:List ze
 body:eQ
mutual
def AV.cj:AV->List Nat
 |.ptr b _ _=>[b]
 |.slice b _ _ _=>[b]
 |.map b=>[b]
 |.func _ a c=>hH a++hH c
 |.iface _ v=>v.cj
 |.agg cs=>hH cs
 |.tuple vs=>hH vs
 |.yield l=>[l]
 |_=>[]
def hH:List AV->List Nat
 |[]=>[]
 |v::vs=>v.cj++hH vs
end
def gh:List (List AV)->List Nat
 |[]=>[]
 |e::es=>hH e++gh es
def Zt:List (AV×AV)->List Nat
 |[]=>[]
 |(k,v)::es=>k.cj++(v.cj++Zt es)
def AV.cells?:AV->Option (List AV)
 |.undef=>none
 |.tuple _=>none
 |.agg cs=>some cs
 |v=>some [v]
def AV.cU:AV->Bool
 |.undef=>false
 |.tuple _=>false
 |.agg _=>false
 |_=>true
def mF(bZ:Nat):Nat->List AV->List (List AV)
 |0,_=>[]
 |n+1,l=>l.take bZ::mF bZ n (l.drop bZ)
def iT(bZ:Nat)(es:List (List AV))(i o n:Nat):Option (List AV):=
 if o+n<=bZ then
  match es[i]? with
  |some e=>some ((e.drop o).take n)
  |none=>none
 else if o=0/\n/bZ*bZ=n/\i+n/bZ<=es.length then some ((es.drop i).take (n/bZ)).flatten
 else none
def fG(bZ:Nat)(es:List (List AV))(i o n:Nat):Option (List AV):=
 cond (Nat.ble bZ o) (iT bZ es (i+o/bZ) (o%bZ) n) (iT bZ es i o n)
def nJ(bZ:Nat)(es:List (List AV))(i o:Nat)(vs:List AV):Option (List (List AV)):=
 if o+vs.length<=bZ then
  match es[i]? with
  |some e=>some (es.set i (e.take o++vs++e.drop (o+vs.length)))
  |none=>none
 else if o=0/\vs.length/bZ*bZ=vs.length/\i+vs.length/bZ<=es.length then
  some (es.take i++mF bZ (vs.length/bZ) vs++es.drop (i+vs.length/bZ))
 else none
def iX(bZ:Nat)(es:List (List AV))(i o:Nat)(vs:List AV):Option (List (List AV)):=
 cond (Nat.ble bZ o) (nJ bZ es (i+o/bZ) (o%bZ) vs) (nJ bZ es i o vs)
def uy:List AV->List (Nat×Nat×AV)->Option (List AV)
 |cs,[]=>some cs
 |cs,(off,size,v)::fX=>
  match v.cells? with
  |some ws=>if ws.length=size/\off+size<=cs.length then uy (cs.take off++ws++cs.drop (off+size)) fX else none
  |none=>none
def Di(bZ:Nat):List (List AV)->List (Nat×AV)->Option (List (List AV))
 |es,[]=>some es
 |es,(i,v)::fX=>
  match v.cells? with
  |some ws=>if ws.length=bZ/\i<es.length then Di bZ (es.set i ws) fX else none
  |none=>none
def qf:List UInt8->List UInt8->Bool
 |[],[]=>true
 |a::as,b::bs=>a.toNat==b.toNat&&qf as bs
 |_,_=>false
def qg:List UInt8->List UInt8->Bool
 |_,[]=>false
 |[],_::_=>true
 |a::x,b::y=>Nat.blt a.toNat b.toNat||(a.toNat==b.toNat&&qg x y)
def Be:IntKind->IntKind->Bool
 |.i8,.i8|.i16,.i16|.i32,.i32|.i64,.i64|.u8,.u8|.u16,.u16|.u32,.u32|.u64,.u64=>true
 |_,_=>false
def zg:CK->AV->AV->Option Bool
 |.b,.bool a,.bool b=>some (a==b)
 |.i,.int k a,.int k' b=>if Be k k' then some (a==b)else none
 |.s,.fN a,.fN b=>some (qf a b)
 |_,_,_=>none
def mG:List CK->List AV->List AV->Option Bool
 |[],[],[]=>some true
 |k::ks,a::as,b::bs=>
  match zg k a b,mG ks as bs with
  |some x,some y=>some (x&&y)
  |_,_=>none
 |_,_,_=>none
def uv(agg:Bool)(sh:List CK)(x y:AV):Option Bool:=
 if agg then match x,y with
  |.agg as,.agg bs=>mG sh as bs
  |_,_=>none
 else match sh with
  |[k]=>zg k x y
  |_=>none
def kK(op:BinOp)(k:IntKind)(a b:Int):Option AV:=
 match op with
 |.add=>some (.int k (k.wrap (a+b)))
 |.sub=>some (.int k (k.wrap (a-b)))
 |.mul=>some (.int k (k.wrap (a*b)))
 |.quo=>if b=0 then none else some (.int k (k.wrap (a.tdiv b)))
 |.rem=>if b=0 then none else some (.int k (a.tmod b))
 |.and=>some (.int k (k.wrap (BitVec.ofInt k.bits a&&&BitVec.ofInt k.bits b).toNat))
 |.or=>some (.int k (k.wrap (BitVec.ofInt k.bits a|||BitVec.ofInt k.bits b).toNat))
 |.xor=>some (.int k (k.wrap (BitVec.ofInt k.bits a^^^BitVec.ofInt k.bits b).toNat))
 |.andNot=>some (.int k (k.wrap (BitVec.ofInt k.bits a&&&~~~(BitVec.ofInt k.bits b)).toNat))
 |.eql=>some (.bool (a==b))
 |.neq=>some (.bool (a !=b))
 |.lss=>some (.bool (decide (a<b)))
 |.leq=>some (.bool (decide (a<=b)))
 |.gtr=>some (.bool (decide (a>b)))
 |.geq=>some (.bool (decide (a>=b)))
 |.shl=>none
 |.shr=>none
def o7(op:BinOp)(a b:List UInt8):Option AV:=
 match op with
 |.add=>if a.length+b.length<=1000000000000 then some (.fN (a++b))else none
 |.eql=>some (.bool (qf a b))
 |.neq=>some (.bool !(qf a b))
 |.lss=>some (.bool (qg a b))
 |.leq=>some (.bool (qg a b||qf a b))
 |.gtr=>some (.bool !(qg a b||qf a b))
 |.geq=>some (.bool !(qg a b))
 |_=>none
def Hu(op:BinOp)(x y:AV):Option AV:=
 match x,y with
 |.int k a,.int k' b=>
  match op with
  |.shl=>if b<0 then none else some (.int k (k.wrap (a*2^(min b.toNat k.bits))))
  |.shr=>if b<0 then none else some (.int k (a.fdiv (2^(min b.toNat k.bits))))
  |_=>if Be k k' then kK op k a b else none
 |.fN a,.fN b=>o7 op a b
 |_,_=>none
def Vp(op:UnOp)(x:AV):Option AV:=
 match op,x with
 |.not,.bool b=>some (.bool !b)
 |.neg,.int k n=>some (.int k (k.wrap (0-n)))
 |.xor,.int k n=>kK .xor k (if k.signed then-1 else k.max) n
 |_,_=>none
def wU(es:List (List AV))(i n:Nat):Option (List (List AV)):=
 if i+n<=es.length then some ((es.drop i).take n)else none
def bytesOf:List (List AV)->Option (List UInt8)
 |[]=>some []
 |[.int .u8 n]::es=>(bytesOf es).map (UInt8.ofNat n.toNat::·)
 |_=>none
def lR(s:List UInt8):List (List AV):=s.map λb=>[.int .u8 b.toNat]
def eW(get:Nat->Option bp)(bZ:Nat):AV->Option (List (List AV))
 |.aF=>some []
 |.fg=>some []
 |.Hl 0=>some []
 |.slice _ _ 0 _=>some []
 |.slice b i n _=>
  match get b with
  |some (.row _ e es)=>if e=bZ then wU es i n else none
  |_=>none
 |.fN s=>if bZ=1 then some (lR s)else none
 |_=>none
def cP(T:Tr):bE->AV
 |.t p=>dL p T
 |.c v=>v
def fH(Ry:Nat):Option AV->Option Nat
 |none=>some Ry
 |some (.int _ n)=>if 0<=n then some n.toNat else none
 |some _=>none
def dQ:Nat:=1000000000000
def eC(get:Nat->Option bp)(bU bZ bytes:Nat)(s x:AV):Option (AV×List j9):=
 match eW get bZ x with
 |none=>none
 |some []=>match s with
  |.aF|.fg|.slice ..=>some (s,[])
  |_=>none
 |some xs=>
  match s with
  |.aF|.fg=>
   if xs.length*bytes<=dQ then some (.slice bU 0 xs.length none,[⟨bU,some (.row true bZ xs),gh xs⟩])else none
  |.slice b i m c=>
   match get b with
   |some (.row bS e es)=>
    if e≠bZ\/es.length<i+m\/dQ<(m+xs.length)*bytes then none
    else
     let mX:=(es.drop i).take m
     let room:Bool:=match c with
      |some k=>decide (m+xs.length<=k)
      |none=>decide (i+m+xs.length<=es.length)
     if room then
      if bS/\i+m+xs.length<=es.length then
       some (.slice b i (m+xs.length) c,[⟨b,some (.row bS e (es.take (i+m)++xs++es.drop (i+m+xs.length))),gh xs⟩])
      else none
     else match c with
      |some _=>some (.slice bU 0 (m+xs.length) none,[⟨bU,some (.row true bZ (mX++xs)),gh (mX++xs)⟩])
      |none=>
       if bS then some (.slice bU 0 (m+xs.length) none,[⟨b,none,[]⟩,⟨bU,some (.row true bZ (mX++xs)),gh (mX++xs)⟩])
       else none
   |_=>none
  |_=>none
def z8(get:Nat->Option bp)(bZ:Nat)(d s:AV):Option (AV×List j9):=
 match eW get bZ s with
 |none=>none
 |some xs=>
  match d with
  |.aF|.fg=>some (.int .i64 0,[])
  |.slice b i n _=>
   let k:=min xs.length n
   if k=0 then some (.int .i64 0,[])else
   match get b with
   |some (.row true e es)=>
    if e=bZ/\i+k<=es.length then
     some (.int .i64 k,[⟨b,some (.row true e (es.take i++xs.take k++es.drop (i+k))),gh (xs.take k)⟩])
    else none
   |_=>none
  |_=>none
def lU(get:Nat->Option bp)(bZ:Nat)(x:AV)(lo hi mx:Option AV):Option AV:=
 match x with
 |.aF=>
  match fH 0 mx,fH 0 hi,fH 0 lo with
  |some 0,some 0,some 0=>some .aF
  |_,_,_=>none
 |.fg=>
  match fH 0 mx,fH 0 hi,fH 0 lo with
  |some 0,some 0,some 0=>some .fg
  |_,_,_=>none
 |.slice b i n c=>
  match get b with
  |some (.row _ e _)=>
   if e≠bZ then none else
   match fH (c.getD n) mx,fH n hi,fH 0 lo with
   |some m,some h,some l=>
    if l<=h/\h<=m/\m<=c.getD n then
     some (.slice b (i+l) (h-l) (if mx.isSome then some (m-l)else c.map (·-l)))
    else none
   |_,_,_=>none
  |_=>none
 |_=>none
def nK(get:Nat->Option bp)(bZ len:Nat)(x:AV)(lo hi mx:Option AV):Option AV:=
 match x with
 |.ptr b i o=>
  match get b with
  |some (.row _ e es)=>
   if e≠bZ\/o%bZ≠0\/es.length<i+o/bZ+len\/dQ<len then none else
   match fH len mx,fH len hi,fH 0 lo with
   |some m,some h,some l=>if l<=h/\h<=m/\m<=len then some (.slice b (i+o/bZ+l) (h-l) (some (m-l)))else none
   |_,_,_=>none
  |_=>none
 |_=>none
def gR(agg:Bool)(sh:List CK)(k:AV):List (AV×AV)->Option (Option AV)
 |[]=>some none
 |(k',v)::es=>
  match uv agg sh k k' with
  |some true=>some (some v)
  |some false=>gR agg sh k es
  |none=>none
def wV(agg:Bool)(sh:List CK)(k v:AV):List (AV×AV)->Option (List (AV×AV))
 |[]=>some [(k,v)]
 |(k',v')::es=>
  match uv agg sh k k' with
  |some true=>some ((k,v)::es)
  |some false=>(wV agg sh k v es).map ((k',v')::·)
  |none=>none
def qi(nR:Bool):AV->List AV->Option AV
 |x,[]=>match x with|.int ..=>some x|_=>none
 |.int k x,.int _ y::fX=>qi nR (.int k (if nR then(if y>x then y else x)else(if y<x then y else x))) fX
 |_,_=>none
def bG(get:Nat->Option bp)(bU:Nat)(T:Tr):j6->Option (AV×List j9)
 |.mv x=>some (cP T x,[])
 |.pick c a b=>match cP T c with
  |.bool true=>some (cP T a,[])
  |.bool false=>some (cP T b,[])
  |_=>none
 |.alloc bZ es=>some (.ptr bU 0 0,[⟨bU,some (.row true bZ es),[]⟩])
 |.box bZ n x=>match(cP T x).cells? with
  |some cs=>if cs.length=n/\n/bZ*bZ=n/\cs.all AV.cU then some (.ptr bU 0 0,[⟨bU,some (.row true bZ (mF bZ (n/bZ) cs)),hH cs⟩])else none
  |none=>none
 |.build zero cM=>match uy zero (cM.map λ(o,s,x)=>(o,s,cP T x))with
  |some cs=>some (.agg cs,[])
  |none=>none
 |.Aw bZ len zero cM=>
  if len=0 then(if cM.isEmpty then some (.fg,[])else none)else
  match Di bZ (replicate len zero) (cM.map λ(i,x)=>(i,cP T x))with
  |some es=>if es.all (·.all AV.cU)then some (.slice bU 0 len (some len),[⟨bU,some (.row true bZ es),gh es⟩])else none
  |none=>none
 |.load agg n x=>match cP T x with
  |.ptr b i o=>match get b with
   |some (.row _ bZ es)=>match fG bZ es i o n with
    |some cs=>if agg then some (.agg cs,[])else match cs with
     |[v]=>some (v,[])
     |_=>none
    |none=>none
   |_=>none
  |_=>none
 |.store n x v=>match cP T x,(cP T v).cells? with
  |.ptr b i o,some vs=>match get b with
   |some (.row true bZ es)=>
    if vs.length=n/\vs.all AV.cU then match iX bZ es i o vs with
     |some pd=>some (.undef,[⟨b,some (.row true bZ pd),hH vs⟩])
     |none=>none
    else none
   |_=>none
  |_,_=>none
 |.Rv x=>match cP T x with
  |.ptr b i o=>some (.ptr b i o,[])
  |.func f a c=>some (.func f a c,[])
  |_=>none
 |.bin op x y=>(Hu op (cP T x) (cP T y)).map (·,[])
 |.eql neg agg sh x y=>(uv agg sh (cP T x) (cP T y)).map λb=>(.bool (if neg then !b else b),[])
 |.Dg neg k x=>match k,cP T x with
  |.p,.qL|.s,.aF|.m,.lT|.f,.nilFunc|.i,.nilIface=>some (.bool (!neg),[])
  |.p,.ptr ..|.s,.fg|.s,.slice ..|.m,.map _|.f,.func ..|.i,.iface ..=>some (.bool neg,[])
  |_,_=>none
 |.un op x=>(Vp op (cP T x)).map (·,[])
 |.conv k x=>match k,cP T x with
  |.toInt k,.int _ n=>some (.int k (k.wrap n),[])
  |.nQ,.fN s=>some (.fN s,[])
  |.b2s,v=>match v with
   |.fN _=>none
   |v=>match eW get 1 v with
    |some es=>(bytesOf es).map λs=>(.fN s,[])
    |none=>none
  |.Zs _,.fN s=>if s.length<=dQ then some (.slice bU 0 s.length none,[⟨bU,some (.row true 1 (lR s)),[]⟩])else none
  |_,_=>none
 |.iface t x=>some (.iface t (cP T x),[])
 |.A9 f a c=>some (.func f (a.map (cP T)) (c.map (cP T)),[])
 |.Ba off x=>match cP T x with
  |.ptr b i o=>some (.ptr b i (o+off),[])
  |_=>none
 |.field off n agg x=>match cP T x with
  |.agg cs=>if off+n<=cs.length then(if agg then some (.agg ((cs.drop off).take n),[])else match(cs.drop off).take n with
   |[v]=>some (v,[])
   |_=>none)else none
  |_=>none
 |.Ek bZ x i=>match cP T x,cP T i with
  |.slice b j n _,.int _ k=>match get b with
   |some (.row _ e _)=>if e=bZ/\0<=k/\k.toNat<n then some (.ptr b (j+k.toNat) 0,[])else none
   |_=>none
  |_,_=>none
 |.Bb bZ len x i=>match cP T x,cP T i with
  |.ptr b j o,.int _ k=>match get b with
   |some (.row _ e _)=>
    if 0<=k/\k.toNat<len then(if e=bZ/\o=0 then some (.ptr b (j+k.toNat) 0,[])else some (.ptr b j (o+k.toNat*bZ),[]))else none
   |_=>none
  |_,_=>none
 |.NB bZ len agg x i=>match cP T x,cP T i with
  |.agg cs,.int _ k=>
   if 0<=k/\k.toNat<len/\k.toNat*bZ+bZ<=cs.length then(if agg then some (.agg ((cs.drop (k.toNat*bZ)).take bZ),[])else match(cs.drop (k.toNat*bZ)).take bZ with
    |[v]=>some (v,[])
    |_=>none)else none
  |_,_=>none
 |.Bc x i=>match cP T x,cP T i with
  |.fN s,.int _ k=>if 0<=k then(match s[k.toNat]? with
   |some b=>some (.int .u8 b.toNat,[])
   |none=>none)else none
  |_,_=>none
 |.rJ x lo hi=>match cP T x with
  |.fN s=>match fH s.length (hi.map (cP T)),fH 0 (lo.map (cP T))with
   |some h,some l=>if l<=h/\h<=s.length then some (.fN ((s.drop l).take (h-l)),[])else none
   |_,_=>none
  |_=>none
 |.qM bZ x lo hi mx=>(lU get bZ (cP T x) (lo.map (cP T)) (hi.map (cP T)) (mx.map (cP T))).map (·,[])
 |.qN bZ len x lo hi mx=>(nK get bZ len (cP T x) (lo.map (cP T)) (hi.map (cP T)) (mx.map (cP T))).map (·,[])
 |.ext x i=>match cP T x with
  |.tuple vs=>match vs[i]? with
   |some v=>some (v,[])
   |none=>none
  |_=>none
 |.xI t ok x=>match cP T x with
  |.iface t' v=>if t=t' then some (if ok then .tuple [v,.bool true]else v,[])else none
  |_=>none
 |.len k x=>match k,cP T x with
  |.fN,.fN s=>some (.int .i64 s.length,[])
  |.slice,.aF=>some (.int .i64 0,[])
  |.slice,.fg=>some (.int .i64 0,[])
  |.slice,.slice _ _ n _=>some (.int .i64 n,[])
  |.slice,.Hl n=>some (.int .i64 n,[])
  |.map,.lT=>some (.int .i64 0,[])
  |.map,.map b=>match get b with
   |some (.map es)=>some (.int .i64 es.length,[])
   |_=>none
  |_,_=>none
 |.tN bZ bytes s x=>eC get bU bZ bytes (cP T s) (cP T x)
 |.copy bZ d s=>z8 get bZ (cP T d) (cP T s)
 |.sN nR xs=>match xs.map (cP T)with
  |x::fX=>(qi nR x fX).map (·,[])
  |[]=>none
 |.qe bZ bytes zero l c=>match cP T l,cP T c with
  |.int _ l,.int _ c=>
   if 0<=l/\l<=c/\c.toNat*(bytes+1)<=dQ then
    (if c=0 then some (.fg,[])else some (.slice bU 0 l.toNat (some c.toNat),[⟨bU,some (.row true bZ (replicate c.toNat zero)),[]⟩]))
   else none
  |_,_=>none
 |.Bd=>some (.map bU,[⟨bU,some (.map []),[]⟩])
 |.look agg sh zero ok m k=>match cP T m with
  |.lT=>if(uv agg sh (cP T k) (cP T k)).isSome then some (if ok then .tuple [zero,.bool false]else zero,[])else none
  |.map b=>match get b with
   |some (.map es)=>if(uv agg sh (cP T k) (cP T k)).isSome then match gR agg sh (cP T k) es with
    |some (some v)=>some (if ok then .tuple [v,.bool true]else v,[])
    |some none=>some (if ok then .tuple [zero,.bool false]else zero,[])
    |none=>none
    else none
   |_=>none
  |_=>none
 |.qO agg sh m k v=>match cP T m with
  |.map b=>match get b with
   |some (.map es)=>if(uv agg sh (cP T k) (cP T k)).isSome then match wV agg sh (cP T k) (cP T v) es with
    |some pd=>some (.undef,[⟨b,some (.map pd),(cP T v).cj⟩])
    |none=>none
    else none
   |_=>none
  |_=>none
 |.mW=>none
 |.Rx x=>match cP T x with
  |.aF=>some (.int .i64 0,[])
  |.fg=>some (.int .i64 0,[])
  |.slice _ _ _ (some k)=>some (.int .i64 k,[])
  |_=>none
 |.Lp bZ bytes zero s n=>match cP T n with
  |.int _ n=>
   if 0<n/\n.toNat*bytes<=dQ then match cP T s with
    |.aF=>some (.slice bU 0 n.toNat none,[⟨bU,some (.row true bZ (replicate n.toNat zero)),[]⟩])
    |.fg=>some (.slice bU 0 n.toNat none,[⟨bU,some (.row true bZ (replicate n.toNat zero)),[]⟩])
    |_=>none
   else none
  |_=>none
 |.YC n x=>match cP T x with
  |.slice b i len _=>if 0<n/\n<=len then some (.ptr b i 0,[])else none
  |_=>none
 |.Dh x y c=>match cP T x,cP T y,cP T c with
  |.int .u64 x,.int .u64 y,.int .u64 c=>
   if 0<=x/\0<=y/\0<=c/\c<=1 then some (.tuple [.int .u64 ((x+y+c)%18446744073709551616),.int .u64 ((x+y+c)/18446744073709551616)],[])else none
  |_,_,_=>none
 |.call ..|.rL ..|.invoke ..=>none
structure Mem where
 ah:aN
 hU:List Nat:=[]
 aV:List Nat:=[]
def Mem.apply(m:Mem)(c:j9):Mem:={m with ah:=aQ m.ah c.id c.mV,hU:=c.id::m.hU}
def Mem.gC(m:Mem):List Nat->Mem
 |[]=>m
 |b::bs=>(m.apply ⟨b,none,[]⟩).gC bs
def Mem.dX(m:Mem):List j9->Mem
 |[]=>m
 |c::cs=>(m.apply c).dX cs
def Mem.om(m:Mem)(n:Nat):Mem:={m with ah:=zZ m.ah n}
inductive hZ where
 |fn (f:FuncId)
 |yield (l:Nat)
abbrev eX:=hZ->List AV->Mem->Option (AV×Mem)
abbrev bR:=TypeId->String->Option (FuncId×Option (Bool×Nat))
def wW(T:Tr):List bE->List AV
 |[]=>[]
 |x::xs=>cP T x::wW T xs
def eD(get:Nat->Option bp)(au:bR)(T:Tr):j6->Option (hZ×List AV)
 |.call f args=>some (.fn f,wW T args)
 |.rL x args=>match cP T x with
  |.func f a c=>some (.fn f,a++wW T args++c)
  |.yield l=>some (.yield l,wW T args)
  |_=>none
 |.invoke x name args=>match cP T x with
  |.iface t v=>match au t name with
   |some (f,none)=>some (.fn f,v::wW T args)
   |some (f,some (agg,n))=>match bG get 0 T (.load agg n (.c v))with
    |some (r,_)=>some (.fn f,r::wW T args)
    |none=>none
   |none=>none
  |_=>none
 |_=>none
def j6.dZ:j6->Bool
 |.call ..|.rL ..|.invoke ..=>true
 |_=>false
def j6.iG:j6->Bool
 |.call ..|.rL ..|.invoke ..|.tN ..|.Lp ..=>true
 |_=>false
def eU(T:Tr)(d:Option cO)(v:AV):Tr:=
 match d with
 |some d=>gq v d T
 |none=>T
def xJ(call:eX)(au:bR)(T:Tr)(m:Mem)(o:cS):Option (AV×Mem):=
 cond o.op.dZ
  (match eD (aj m.ah) au T o.op with
   |some (c,vs)=>call c vs m
   |none=>none)
  (match bG (aj m.ah) m.ah.length T o.op with
   |some (v,cs)=>some (v,m.dX cs)
   |none=>none)
def jM(T:Tr):Option (cO×Bool)->Option Bool
 |none=>some true
 |some (t,Hv)=>match dL t T with
  |.bool b=>some (b==Hv)
  |.undef=>some false
  |_=>none
def xK(call:eX)(au:bR):List cS->Tr->Mem->Option (Tr×Mem)
 |[],T,m=>some (T,m)
 |o::os,T,m=>
  match jM T o.guard with
  |some true=>match xJ call au T m o with
   |some (v,m')=>xK call au os (eU T o.dst v) m'
   |none=>none
  |some false=>xK call au os (eU T o.dst .undef) m
  |none=>none
def AV.rM:AV->List Nat
 |.ptr b _ _=>[b]
 |.slice b _ _ _=>[b]
 |.map b=>[b]
 |_=>[]
def bE.rM(T:Tr)(x:bE):List Nat:=(cP T x).rM
def j6.kL(T:Tr):j6->List Nat
 |.load _ _ x=>x.rM T
 |.store _ x _=>x.rM T
 |.Ek _ x _=>x.rM T
 |.Bb _ _ x _=>x.rM T
 |.qM _ x _ _ _=>x.rM T
 |.qN _ _ x _ _ _=>x.rM T
 |.conv _ x=>x.rM T
 |.len _ x=>x.rM T
 |.tN _ _ s x=>s.rM T++x.rM T
 |.copy _ d s=>d.rM T++s.rM T
 |.look _ _ _ _ m _=>m.rM T
 |.qO _ _ m _ _=>m.rM T
 |_=>[]
structure jN where
 mE:Nat
 wr:List Nat
 mH:Nat->Bool
 mj:Bool
def ins(l:List Nat)(k:Nat):Bool:=
 match l with
 |[]=>false
 |x::l=>cond (Nat.beq x k) true (ins l k)
def kM(m:Mem)(h:aN):List Nat->Mem
 |[]=>m
 |b::bs=>kM {m with ah:=aQ m.ah b (aj h b)} h bs
def mA(h:aN):List Nat->aN
 |[]=>h
 |b::bs=>mA (aQ h b none) bs
def mI(wr:List Nat)(mk:Bool):List jN->Bool
 |[]=>false
 |r::rs=>(mk&&r.mj)||wr.any r.mH||wr.any (ins r.wr)||mI wr mk rs
def m9(bC n:Nat):Option Nat->Nat
 |some k=>bC+k
 |none=>n
def sO(bC n:Nat):Option Nat->Bool
 |some k=>Nat.blt (bC+k) n
 |none=>true
def mJ(call:eX)(au:bR)(bC:Nat):Nat->List cS->List jN->Tr->Mem->Option (Tr×Mem)
 |_,[],_,T,m=>some (T,m)
 |i,o::os,cq,T,m=>
  match jM T o.guard with
  |some true=>
   let free:=cq.filter λr=>!ins o.after r.mE
   let gu:=free.flatMap (·.wr)
   cond o.op.dZ
    (let h1:=mA m.ah gu
    match eD (aj h1) au T o.op with
    |some (c,vs)=>match call c vs {ah:=h1,hU:=[]}with
     |some (v,m2)=>
      cond (mI m2.hU true free) none
      (mJ call au bC (i+1) os (⟨i,m2.hU,λb=>(aj h1 b).isSome,true⟩::cq) (eU T o.dst v) {ah:=(kM m2 m.ah gu).ah,hU:=m2.hU++m.hU,aV:=m.aV})
     |none=>none
    |none=>none)
    (let rd:=o.op.kL T
    let get:=λb=>cond (ins rd b&&!ins gu b) (aj m.ah b) none
    match bG get (m9 bC m.ah.length o.iN) T o.op with
    |some (v,cs)=>
     let wr:=cs.map (·.id)
     cond (!sO bC m.ah.length o.iN||mI wr o.op.iG free) none
     (mJ call au bC (i+1) os (⟨i,wr,λb=>(get b).isSome,o.op.iG⟩::cq) (eU T o.dst v) (m.dX cs))
    |none=>none)
  |some false=>mJ call au bC (i+1) os cq (eU T o.dst .undef) m
  |none=>none
def tO(body:Tr->Mem->Option (cT×Tr×Mem)):Nat->Tr->Mem->Option (cT×Tr×Mem)
 |0,_,_=>none
 |n+1,T,m=>match body T m with
  |some (.normal,T',m')=>tO body n T' m'
  |r=>r
def dY(call:eX)(au:bR)(fuel:Nat)(rd:Bool):eQ->Tr->Mem->Option (cT×Tr×Mem)
 |.skip,T,m=>some (.normal,T,m)
 |.mW,_,_=>none
 |.region wT ns dC,T,m=>
  match(cond wT (mJ call au m.ah.length 0 dC [] T (m.om ns)) (xK call au dC T m))with
  |some (T',m')=>some (.normal,T',m')
  |none=>none
 |.seq a b,T,m=>match dY call au fuel rd a T m with
  |some (.normal,T',m')=>dY call au fuel rd b T' m'
  |r=>r
 |.cond c a b,T,m=>match cP T c with
  |.bool true=>dY call au fuel rd a T m
  |.bool false=>dY call au fuel rd b T m
  |_=>none
 |.block id c,T,m=>match dY call au fuel rd c T m with
  |some (.exit NC,T',m')=>cond (Nat.beq NC id) (some (.normal,T',m')) (some (.exit NC,T',m'))
  |r=>r
 |.loop c,T,m=>tO (dY call au fuel rd c) fuel T m
 |.exit id,T,m=>some (.exit id,T,m)
 |.ret,T,m=>some (.ret,T,m)
 |.rangeFunc f params assign body,T,m=>
  cond rd none
  (match cP T f with
  |.func g a c=>
   let m1:Mem:={m.apply ⟨m.ah.length,some .nZ,[]⟩with aV:=m.ah.length::m.aV}
   let l:=m1.ah.length
   match call (.fn g) (a++[.yield l]++c) (m1.apply ⟨l,some (.loop {state:=.ready,pending:=none,tmps:=T,params,assign,body}),[]⟩)with
   |some (_,m')=>
    match aj m'.ah l with
    |some (.loop r)=>match r.state with
     |.busy=>none
     |_=>some (r.pending.getD .normal,T,m'.apply ⟨l,none,[]⟩)
    |_=>none
   |none=>none
  |_=>none)
def iu:Tr->List cO->List AV->Tr
 |T,p::ps,a::as=>iu (gq a p T) ps as
 |T,_,_=>T
def xL(get:Nat->Option bp)(T:Tr):ze->Option AV
 |.tmp t=>some (dL t T)
 |.cell t agg n=>match bG get 0 T (.load agg n (.t t))with
  |some (v,_)=>some v
  |none=>none
def tQ(get:Nat->Option bp)(T:Tr):List ze->Option (List AV)
 |[]=>some []
 |r::rs=>match xL get T r,tQ get T rs with
  |some v,some vs=>some (v::vs)
  |_,_=>none
def zh(get:Nat->Option bp)(T:Tr)(rs:List ze):Option AV:=
 match tQ get T rs with
 |some [v]=>some v
 |some vs=>some (.tuple vs)
 |none=>none
abbrev ct:=FuncId->List AV->Mem->Option (AV×Mem)
def Hm(sm:ct):eX:=λc vs m=>match c with
 |.fn f=>sm f vs m
 |.yield _=>none
def Bf:ct:=λ_ _ _=>none
def dJ(F:FuncId->Option bD)(au:bR)(sm:ct):Nat->eX
 |0,_,_,_=>none
 |n+1,.yield l,args,m=>
  match aj m.ah l with
  |some (.loop r)=>
   match r.state with
   |.ready=>
    if args.length≠r.params.length then none else
    match dY (dJ F au sm n) au n true r.assign (iu r.tmps r.params args) {m with aV:=[]}with
    |some (.normal,T,m1)=>
     match aj m1.ah l with
     |some (.loop r1)=>
      match r1.state with
      |.ready=>
       match dY (dJ F au sm n) au n true r.body T (m1.apply ⟨l,some (.loop {r1 with state:=.busy}),[]⟩)with
       |some (e,_,m2)=>
        match aj m2.ah l with
        |some (.loop r2)=>match e with
         |.normal=>some (.bool true,{m2.apply ⟨l,some (.loop {r2 with state:=.ready,pending:=none}),[]⟩with aV:=m.aV})
         |e=>some (.bool false,{m2.apply ⟨l,some (.loop {r2 with state:=.done,pending:=some e}),[]⟩with aV:=m.aV})
        |_=>none
       |none=>none
      |_=>none
     |_=>none
    |_=>none
   |_=>none
  |_=>none
 |n+1,.fn f,args,m=>
  match sm f args m with
  |some r=>some r
  |none=>
  match F f with
  |none=>none
  |some fn=>
   cond (Nat.ble args.length fn.ntmps)
   (match dY (dJ F au sm n) au n false fn.body (lz args .z .e) {m with aV:=[]}with
   |some (.normal,T,m')|some (.ret,T,m')=>
    let m2:=m'.gC m'.aV
    match zh (aj m2.ah) T fn.results with
    |some v=>some (v,{m2 with aV:=m.aV})
    |none=>none
   |_=>none) none
mutual
def mY:Value->Option AV
 |.bool b=>some (.bool b)
 |.int k n=>some (.int k n)
 |.string s=>some (.fN s.data.toList)
 |.pointer none=>some .qL
 |.slice none 0 0=>some .aF
 |.map none=>some .lT
 |.nilFunc=>some .nilFunc
 |.nilIface=>some .nilIface
 |.iface t v=>(mY v).map (.iface t)
 |.func (.func f) ⟨a⟩ ⟨c⟩=>match Bg a,Bg c with
  |some a,some c=>some (.func f a c)
  |_,_=>none
 |.agg ⟨cs⟩=>(Bg cs).map .agg
 |_=>none
def Bg:List Value->Option (List AV)
 |[]=>some []
 |v::vs=>match mY v,Bg vs with
  |some v,some vs=>some (v::vs)
  |_,_=>none
end
section
variable(P:Program)(aM:Nat->Option AV)
def bO:Operand->Option bE
 |.tmp t=>some (.t (.ofNat t))
 |.const v=>(mY v).map .c
 |.global g=>(aM g).map .c
 |.func f=>some (.c (.func f [] []))
def mK:List Operand->Option (List bE)
 |[]=>some []
 |x::xs=>match bO aM x,mK xs with
  |some x,some xs=>some (x::xs)
  |_,_=>none
def pg:Option Operand->Option (Option bE)
 |none=>some none
 |some x=>(bO aM x).map some
def cL(t:TypeId):Bool:=
 match P.underlying t with
 |some (.struct _)|some (.array _ _)=>true
 |_=>false
def qj(t:TypeId):Option (List AV):=
 match(P.info? t).bind (·.zero)with
 |some z=>match mY z with
  |some a=>match a.cells? with
   |some cs=>if cs.length=P.cellsOf t/\cs.all AV.cU then some cs else none
   |none=>none
  |none=>none
 |none=>none
def Jg(t:TypeId):Option AV:=((P.info? t).bind (·.zero)).bind mY
def FB:Nat->TypeId->Bool
 |0,_=>false
 |d+1,t=>
  match P.underlying t with
  |some (.struct fs)=>fs.toList.any λf=>FB d f.type
  |some (.array _ _)=>true
  |_=>false
def T6(t:TypeId):Nat:=
 match P.underlying t with
 |some (.array _ e)=>max 1 (P.cellsOf e)
 |_=>cond (FB P 20 t) 1 (max 1 (P.cellsOf t))
def cd:Nat->TypeId->Option (List CK)
 |0,_=>none
 |d+1,t=>
  match P.underlying t with
  |some .bool=>if P.cellsOf t=1 then some [.b]else none
  |some (.int _)=>if P.cellsOf t=1 then some [.i]else none
  |some .string=>if P.cellsOf t=1 then some [.s]else none
  |some (.struct fs)=>if P.stoodInHeld t then none else
   match sP (cd d) 0 fs.toList with
   |some sh=>if sh.length=P.cellsOf t then some sh else none
   |none=>none
  |some (.array n e)=>
   match cd d e with
   |some sh=>if sh.length=P.cellsOf e/\P.cellsOf t=n*P.cellsOf e then some (replicate n sh).flatten else none
   |none=>none
  |_=>none
where
 sP (rec:TypeId->Option (List CK)):Nat->List Field->Option (List CK)
  |_,[]=>some []
  |o,f::fs=>
   if f.name= "_"\/f.offset≠o then none else
   match rec f.type with
   |some sh=>match sP rec (o+sh.length) fs with
    |some fX=>some (sh++fX)
    |none=>none
   |none=>none
def ND(t:TypeId):Option NK:=
 match P.underlying t with
 |some (.pointer _)=>some .p
 |some (.slice _)=>some .s
 |some (.map ..)=>some .m
 |some (.func ..)=>some .f
 |some (.interface _)=>some .i
 |_=>none
def NF:Operand->Option NK
 |.const (.pointer none)=>some .p
 |.const (.slice none 0 0)=>some .s
 |.const (.map none)=>some .m
 |.const .nilFunc=>some .f
 |.const .nilIface=>some .i
 |_=>none
def isEq:BinOp->Bool|.eql=>true|.neq=>true|_=>false
def isNe:BinOp->Bool|.neq=>true|_=>false
def Rz:Option TypeDesc->Bool|some (.int .u8)=>true|_=>false
def Em:Option TypeDesc->Bool|some (.int _)=>true|_=>false
def Vq:Option TypeDesc->Bool|some (.map _ _)=>true|_=>false
def Jj:Option TypeDesc->Bool|some (.interface _)=>true|none=>true|_=>false
def ph(f:FuncId):Bool:=
 match P.funcs[f]? with
 |some fn=>fn.body.isSome&&!(fn.name== "runtime.NumGoroutine")
 |none=>false
def En(f:FuncId):Bool:=
 match P.funcs[f]? with
 |some fn=>fn.body.isNone&&(fn.name== "math/bits.Add64"&&(Extern.findNext fn).isNone)
 |none=>false
def sQ(py:Nat->Option (Nat×Nat)):List (Nat×Operand)->Option (List (Nat×Nat×bE))
 |[]=>some []
 |(i,x)::xs=>match py i,bO aM x,sQ py xs with
  |some (o,s),some x,some xs=>some ((o,s,x)::xs)
  |_,_,_=>none
def sR:List (Nat×Operand)->Option (List (Nat×bE))
 |[]=>some []
 |(i,x)::xs=>match bO aM x,sR xs with
  |some x,some xs=>some ((i,x)::xs)
  |_,_=>none
def Lq(o:Oper):Option j6:=
 match o.op with
 |.move x|.assign x=>(bO aM x).map .mv
 |.pick c a b=>do pure (.pick (<-bO aM c) (<-bO aM a) (<-bO aM b))
 |.alloc t=>do
  let z<-qj P t
  let e:=T6 P t
  if e≠0/\z.length/e*e=z.length then pure (.alloc e (mF e (z.length/e) z))else none
 |.box t x=>do
  let e:=T6 P t
  if e≠0/\P.cellsOf t/e*e=P.cellsOf t then pure (.box e (P.cellsOf t) (<-bO aM x))else none
 |.build t cM=>do
  let z<-qj P t
  match P.underlying t with
  |some (.struct fs)=>if !fs.all (λf=>(P.info? f.type).isSome)then none else pure (.build z (<-sQ aM (λi=>(fs[i]?).map λf=>(f.offset,P.cellsOf f.type)) cM.toList))
  |some (.array _ e)=>if(P.info? e).isNone then none else pure (.build z (<-sQ aM (λi=>some (i*P.cellsOf e,P.cellsOf e)) cM.toList))
  |_=>none
 |.buildSlice t len cM=>do
  match P.underlying t with
  |some (.slice e)=>
   let z<-qj P e
   if P.cellsOf e≠0/\len*P.cellsOf e<=2^20 then pure (.Aw (P.cellsOf e) len z (<-sR aM cM.toList))else none
  |_=>none
 |.load t x=>do if(P.underlying t).isSome then pure (.load (cL P t) (P.cellsOf t) (<-bO aM x))else none
 |.store t a v=>do if(P.info? t).isSome then pure (.store (P.cellsOf t) (<-bO aM a) (<-bO aM v))else none
 |.nilCheck x=>(bO aM x).map .Rv
 |.binOp op t x y _=>do
  if isEq op then
   match NF y with
   |some k=>if ND P t=some k then pure (.Dg (isNe op) k (<-bO aM x))else none
   |none=>
   if P.eqGuardType P.depth t then none
   else pure (.eql (isNe op) (cL P t) (<-cd P 20 t) (<-bO aM x) (<-bO aM y))
  else pure (.bin op (<-bO aM x) (<-bO aM y))
 |.unOp op _ x=>(bO aM x).map (.un op)
 |.convert s d x=>do
  match P.underlying s,P.underlying d with
  |some (.int _),some (.int k)=>pure (.conv (.toInt k) (<-bO aM x))
  |some .string,some .string=>pure (.conv .nQ (<-bO aM x))
  |some (.slice e),some .string=>if Rz (P.underlying e)then pure (.conv .b2s (<-bO aM x))else none
  |some .string,some (.slice e)=>if Rz (P.underlying e)then pure (.conv (.Zs 1) (<-bO aM x))else none
  |_,_=>none
 |.makeInterface t x=>if Jj (P.underlying t)then none else(bO aM x).map (.iface t)
 |.makeFunc (.func f) a c=>do pure (.A9 f (<-mK aM a.toList) (<-mK aM c.toList))
 |.fieldAddr s x f=>do
  match P.underlying s with
  |some (.struct fs)=>
   let fd<-fs[f]?
   if P.cellsOf fd.type≠0 then pure (.Ba fd.offset (<-bO aM x))else none
  |_=>none
 |.field s x f=>do
  match P.underlying s with
  |some (.struct fs)=>
   let fd<-fs[f]?
   if(P.underlying fd.type).isNone then none else
   pure (.field fd.offset (P.cellsOf fd.type) (cL P fd.type) (<-bO aM x))
  |_=>none
 |.indexAddr t x i=>do
  match P.underlying t with
  |some (.slice e)=>if(P.info? e).isNone then none else pure (.Ek (P.cellsOf e) (<-bO aM x) (<-bO aM i))
  |some (.array n e)=>if(P.info? e).isNone then none else pure (.Bb (P.cellsOf e) n (<-bO aM x) (<-bO aM i))
  |_=>none
 |.index t x i=>do
  match P.underlying t with
  |some (.array n e)=>if(P.underlying e).isNone then none else pure (.NB (P.cellsOf e) n (cL P e) (<-bO aM x) (<-bO aM i))
  |some .string=>pure (.Bc (<-bO aM x) (<-bO aM i))
  |_=>none
 |.slice t x lo hi mx=>do
  match P.underlying t with
  |some .string=>if mx.isSome then none else pure (.rJ (<-bO aM x) (<-pg aM lo) (<-pg aM hi))
  |some (.slice e)=>if(P.info? e).isNone||(mx.isSome&&hi.isNone)then none else pure (.qM (P.cellsOf e) (<-bO aM x) (<-pg aM lo) (<-pg aM hi) (<-pg aM mx))
  |some (.array n e)=>if(P.info? e).isNone||(mx.isSome&&hi.isNone)then none else pure (.qN (P.cellsOf e) n (<-bO aM x) (<-pg aM lo) (<-pg aM hi) (<-pg aM mx))
  |_=>none
 |.sliceToArrayPointer t x=>do
  match P.underlying t with
  |some (.array n _)=>pure (.YC n (<-bO aM x))
  |_=>none
 |.extract x i=>do pure (.ext (<-bO aM x) i)
 |.typeAssert x _ t ok=>do if Jj (P.underlying t)then none else pure (.xI t ok (<-bO aM x))
 |.makeMap t none=>if Vq (P.underlying t)then some .Bd else none
 |.makeMap _ (some _)=>none
 |.makeSlice t l c=>do
  match P.underlying t with
  |some (.slice e)=>
   let z<-qj P e
   if P.cellsOf e≠0 then pure (.qe (P.cellsOf e) (P.bytesOf e) z (<-bO aM l) (<-bO aM c))else none
  |_=>none
 |.lookup t m k ok=>do
  match P.underlying t with
  |some (.map kt e)=>pure (.look (cL P kt) (<-cd P 20 kt) (<-Jg P e) ok (<-bO aM m) (<-bO aM k))
  |_=>none
 |.mapUpdate t m k v|.insert t m k v=>do
  match P.underlying t with
  |some (.map kt _)=>pure (.qO (cL P kt) (<-cd P 20 kt) (<-bO aM m) (<-bO aM k) (<-bO aM v))
  |_=>none
 |.call c=>
  match c.callee with
  |.value (.func f)=>if ph P f then(mK aM c.args.toList).map (.call f)else if En P f then
   match c.args.toList with
   |[x,y,z]=>do pure (.Dh (<-bO aM x) (<-bO aM y) (<-bO aM z))
   |_=>none
   else none
  |.value x=>do pure (.rL (<-bO aM x) (<-mK aM c.args.toList))
  |.invoke x name=>do pure (.invoke (<-bO aM x) name (<-mK aM c.args.toList))
  |.builtin b=>
   match b with
   |.append=>do
    let t<-c.argTypes[0]?
    match P.underlying t,c.args[0]?,c.args[1]?,c.argTypes[1]? with
    |some (.slice e),some s,some x,some xt=>
     if c.args.size=2/\(qj P e).isSome/\P.cellsOf e≠0/\!(Em (P.underlying xt))/\(P.underlying xt).isSome/\P.bytesOf e≠0 then pure (.tN (P.cellsOf e) (P.bytesOf e) (<-bO aM s) (<-bO aM x))
     else if c.args.size=2/\Em (P.underlying xt)/\P.cellsOf e≠0/\P.bytesOf e≠0 then pure (.Lp (P.cellsOf e) (P.bytesOf e) (<-qj P e) (<-bO aM s) (<-bO aM x))else none
    |_,_,_,_=>none
   |.cap=>do
    let t<-c.argTypes[0]?
    match P.underlying t,c.args[0]? with
    |some (.slice _),some x=>pure (.Rx (<-bO aM x))
    |_,_=>none
   |.len=>do
    let t<-c.argTypes[0]?
    match P.underlying t,c.args[0]? with
    |some (.array n _),some _=>pure (.mv (.c (.int .i64 n)))
    |some .string,some x=>pure (.len .fN (<-bO aM x))
    |some (.slice _),some x=>pure (.len .slice (<-bO aM x))
    |some (.map ..),some x=>pure (.len .map (<-bO aM x))
    |_,_=>none
   |.copy=>do
    let t<-c.argTypes[0]?
    match P.underlying t,c.args[0]?,c.args[1]? with
    |some (.slice e),some d,some s=>if c.args.size=2/\(P.info? e).isSome/\P.cellsOf e≠0 then pure (.copy (P.cellsOf e) (<-bO aM d) (<-bO aM s))else none
    |_,_,_=>none
   |.max=>(mK aM c.args.toList).map (.sN true)
   |.min=>(mK aM c.args.toList).map (.sN false)
   |_=>none
 |_=>none
def Ax(o:Oper):j6:=(Lq P aM o).getD .mW
def j6.pA:j6->Bool
 |.alloc ..|.box ..|.Aw ..|.qe ..|.Bd=>true
 |.conv (.Zs _) _=>true
 |_=>false
def pB(cl:List (List Nat))(i:Nat)(o:Oper):List Nat:=
 (List.range i).filter λj=>(o.after.toList.any λe=>Region.binds .any e&&e.on==j)||(o.after.toList.any λe=>Region.binds .any e&&(cl.getD e.on []).contains j)
def j6.z9:j6->List bE
 |.mv x|.box _ _ x|.load _ _ x|.Rv x|.Dg _ _ x|.un _ x|.conv _ x|.iface _ x|.Ba _ x|.field _ _ _ x|.ext x _|.xI _ _ x|.len _ x=>[x]
 |.pick c a b=>[c,a,b]
 |.alloc ..|.Bd=>[]
 |.build _ cM=>cM.map λp=>p.2.2
 |.Aw _ _ _ cM=>cM.map λp=>p.2
 |.store _ x v=>[x,v]
 |.bin _ x y|.eql _ _ _ x y=>[x,y]
 |.A9 _ a c=>a++c
 |.Ek _ x i|.Bb _ _ x i|.NB _ _ _ x i|.Bc x i=>[x,i]
 |.rJ x lo hi=>x::(lo.toList++hi.toList)
 |.qM _ x lo hi mx|.qN _ _ x lo hi mx=>x::(lo.toList++(hi.toList++mx.toList))
 |.tN _ _ s x=>[s,x]
 |.copy _ d s=>[d,s]
 |.sN _ xs=>xs
 |.qe _ _ _ l c=>[l,c]
 |.look _ _ _ _ m k=>[m,k]
 |.qO _ _ m k v=>[m,k,v]
 |.mW=>[]
 |.Rx x|.YC _ x=>[x]
 |.Lp _ _ _ s n=>[s,n]
 |.Dh x y c=>[x,y,c]
 |.call _ args=>args
 |.rL x args=>x::args
 |.invoke x _ args=>x::args
def Fm(op:j6)(g:Option (cO×Bool)):List cO:=(op.z9.filterMap λ|.t p=>some p|.c _=>none)++(g.map (·.1)).toList
def Eo(x y:Option cO×List cO):Bool:=
 (match x.1 with
  |some d=>!y.2.contains d&&y.1 !=some d
  |none=>true)&&
 (match y.1 with
  |some d=>!x.2.contains d
  |none=>true)
def Bh(pv:List (Option cO×List cO))(after:List Nat)(x:Option cO×List cO)(i:Nat):Bool:=
 (List.range i).all λj=>after.contains j||match pv[j]? with
  |some y=>Eo y x
  |none=>false
def sS(dC:Array Oper)(o:Oper):Option (Option (cO×Bool)):=
 match o.guard with
 |none=>some none
 |some (j,Hv)=>((dC[j]?).bind (·.dst)).map λd=>some (cO.ofNat d,Hv)
def Bi(nt:Nat)(o:Oper):Option (Option cO):=
 match o.dst with
 |none=>some none
 |some d=>if d<nt then some (some (cO.ofNat d))else none
def nh(nt:Nat)(wT:Bool)(dC:Array Oper):Nat->Nat->List (List Nat)->List (Option cO×List cO)->List Oper->Option (List cS×Nat)
 |_,k,_,_,[]=>some ([],k)
 |i,k,cl,pv,o::os=>do
  let op:=Ax P aM o
  let guard<-sS dC o
  let dst<-Bi nt o
  if wT then
   let after:=pB cl i o
   if(o.after.toList.all λe=>!Region.binds .any e||decide (e.on<i))&&Bh pv after (dst,Fm op guard) i then
    let iN:=if op.pA then some k else none
    let(fX,n)<-nh nt wT dC (i+1) (if op.pA then k+1 else k) (cl++[after]) (pv++[(dst,Fm op guard)]) os
    pure ({dst,op,guard,iN,after}::fX,n)
   else none
  else
   let(fX,n)<-nh nt wT dC (i+1) k cl pv os
   pure ({dst,op,guard,iN:=none,after:=[]}::fX,n)
def eR(nt:Nat):Code->Option eQ
 |.skip=>some .skip
 |.region _ dC wT=>do
  let(os,n)<-nh P aM nt wT dC 0 0 [] [] dC.toList
  pure (.region wT n os)
 |.seq a b=>do pure (.seq (<-eR nt a) (<-eR nt b))
 |.cond c a b=>do pure (.cond (<-bO aM c) (<-eR nt a) (<-eR nt b))
 |.block id c=>do pure (.block id (<-eR nt c))
 |.loop c=>do pure (.loop (<-eR nt c))
 |.exit id=>some (.exit id)
 |.ret=>some .ret
 |.rangeFunc f ps a b=>do
  if ps.toList.all (·<nt)then pure (.rangeFunc (<-bO aM f) (ps.toList.map cO.ofNat) (<-eR nt a) (<-eR nt b))else none
 |.scope c=>eR nt c
 |.label _=>some .skip
 |_=>some .mW
def fI:bR:=λt name=>
 match P.info? t with
 |some i=>match i.methods.find? (·.name==name)with
  |some m=>match m.func with
   |some (f,Jk)=>
    if m.path.isEmpty&&ph P f then
     match P.underlying t with
     |some (.pointer e)=>if Jk then some (f,none)else if(P.underlying e).isSome then some (f,some (cL P e,P.cellsOf e))else none
     |some (.interface _)=>none
     |some _=>if Jk then none else some (f,none)
     |none=>none
    else none
   |none=>none
  |none=>none
 |none=>none
def Bj:ResultVar->ze
 |.tmp t=>.tmp (.ofNat t)
 |.cell a t=>.cell (.ofNat a) (cL P t) (P.cellsOf t)
def qP:ResultVar->Bool
 |.cell _ t=>(P.underlying t).isSome
 |.tmp _=>true
def Bk(fn:Func):Option bD:=do
 let body<-fn.body
 if !fn.results.all (qP P)then none else
 pure {ntmps:=fn.ntmps,results:=fn.results.toList.map (Bj P),body:=<-eR P aM fn.ntmps body}
end
abbrev aO(n:Nat)(l:List (List AV)):Option bp:=some (.row true n l)
end Go.Abs
end
