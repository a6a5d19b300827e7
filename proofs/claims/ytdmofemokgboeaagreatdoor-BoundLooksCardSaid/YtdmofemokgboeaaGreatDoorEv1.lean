/- Abstract values, abstract memory, an evaluator for the code of the model, and a function from that code to the code of the evaluator: definitions.
   Conditions: none. -/
import Derived.WalkKit
import Derived.Orders
set_option linter.unusedSimpArgs false
set_option linter.unusedVariables false
set_option maxRecDepth 100000
noncomputable section
namespace Go.Abs
inductive AV where
  |undef
  |bool (b:Bool)
  |int (k:IntKind) (n:Int)
  |str (s:List UInt8)
  |nilptr
  |ptr (b i o:Nat)
  |nilslice
  |slice0
  |slice (b i n:Nat) (c:Option Nat)
  |nilmap
  |map (b:Nat)
  |nilFunc
  |func (f:FuncId) (first captured:List AV)
  |nilIface
  |iface (t:TypeId) (v:AV)
  |agg (cs:List AV)
  |tuple (vs:List AV)
  |yield (l:Nat)
  |opq
  |osl (n:Nat)
  deriving Inhabited
inductive Pth where
  |z
  |l (p:Pth)
  |r (p:Pth)
  deriving Inhabited,DecidableEq
def Pth.toNat:Pth→Nat
  | .z=>0
  | .l p=>2*p.toNat+1
  | .r p=>2*p.toNat+2
def Pth.succ:Pth→Pth
  | .z=> .l .z
  | .l p=> .r p
  | .r p=> .l p.succ
def Pth.ofNat:Nat→Pth
  |0=> .z
  |n+1=>(Pth.ofNat n).succ
inductive Tr where
  |e
  |n (v:AV) (l r:Tr)
  deriving Inhabited
def tgetI:Pth→Tr→AV
  |_,.e=> .undef
  | .z,.n v _ _=>v
  | .l p,.n _ l _=>tgetI p l
  | .r p,.n _ _ r=>tgetI p r
def tsetI (x:AV):Pth→Tr→Tr
  | .z,.e=> .n x .e .e
  | .z,.n _ l r=> .n x l r
  | .l p,.e=> .n .undef (tsetI x p .e) .e
  | .l p,.n v l r=> .n v (tsetI x p l) r
  | .r p,.e=> .n .undef .e (tsetI x p .e)
  | .r p,.n v l r=> .n v l (tsetI x p r)
noncomputable def tget (p:Pth):Tr→AV:=
  Pth.rec (motive:=fun _=>Tr→AV) (fun t=>Tr.casesOn t .undef fun v _ _=>v) (fun _ ih t=>Tr.casesOn t .undef fun _ l _=>ih l) (fun _ ih t=>Tr.casesOn t .undef fun _ _ r=>ih r) p
noncomputable def tset (x:AV) (p:Pth):Tr→Tr:=
  Pth.rec (motive:=fun _=>Tr→Tr) (fun t=>Tr.casesOn t (.n x .e .e) fun _ l r=> .n x l r) (fun _ ih t=>Tr.casesOn t (.n .undef (ih .e) .e) fun v l r=> .n v (ih l) r)
    (fun _ ih t=>Tr.casesOn t (.n .undef .e (ih .e)) fun v l r=> .n v l (ih r)) p
def tputs:List AV→Pth→Tr→Tr
  | [],_,T=>T
  |v::vs,p,T=>tputs vs p.succ (tset v p T)
inductive AOpnd where
  |t (p:Pth)
  |c (v:AV)
inductive AConv where
  |toInt (k:IntKind)
  |same
  |b2s
  |s2b (bytes:Nat)
inductive CK where
  |b
  |i
  |s
inductive NK where
  |p
  |s
  |m
  |f
  |i
  deriving DecidableEq
inductive LK where
  |str
  |slice
  |map
inductive AOp where
  |mv (x:AOpnd)
  |pick (c a b:AOpnd)
  |alloc (esz:Nat) (elems:List (List AV))
  |box (esz n:Nat) (x:AOpnd)
  |build (zero:List AV) (parts:List (Nat × Nat × AOpnd))
  |slit (esz len:Nat) (zero:List AV) (parts:List (Nat × AOpnd))
  |load (agg:Bool) (n:Nat) (x:AOpnd)
  |store (n:Nat) (x v:AOpnd)
  |nilc (x:AOpnd)
  |bin (op:BinOp) (x y:AOpnd)
  |eql (neg agg:Bool) (sh:List CK) (x y:AOpnd)
  |isnil (neg:Bool) (k:NK) (x:AOpnd)
  |un (op:UnOp) (x:AOpnd)
  |conv (k:AConv) (x:AOpnd)
  |iface (t:TypeId) (x:AOpnd)
  |mkfunc (f:FuncId) (first captured:List AOpnd)
  |fieldA (off:Nat) (x:AOpnd)
  |field (off n:Nat) (agg:Bool) (x:AOpnd)
  |idxS (esz:Nat) (x i:AOpnd)
  |idxA (esz len:Nat) (x i:AOpnd)
  |idxV (esz len:Nat) (agg:Bool) (x i:AOpnd)
  |idxStr (x i:AOpnd)
  |sliceStr (x:AOpnd) (lo hi:Option AOpnd)
  |sliceS (esz:Nat) (x:AOpnd) (lo hi mx:Option AOpnd)
  |sliceA (esz len:Nat) (x:AOpnd) (lo hi mx:Option AOpnd)
  |ext (x:AOpnd) (i:Nat)
  |tassert (t:TypeId) (ok:Bool) (x:AOpnd)
  |len (k:LK) (x:AOpnd)
  |app (esz bytes:Nat) (s x:AOpnd)
  |copy (esz:Nat) (d s:AOpnd)
  |minmax (isMax:Bool) (xs:List AOpnd)
  |mkslice (esz bytes:Nat) (zero:List AV) (l c:AOpnd)
  |mkmap
  |look (agg:Bool) (sh:List CK) (zero:AV) (ok:Bool) (m k:AOpnd)
  |mapset (agg:Bool) (sh:List CK) (m k v:AOpnd)
  |bad
  |capb (x:AOpnd)
  |appz (esz bytes:Nat) (zero:List AV) (s n:AOpnd)
  |s2a (n:Nat) (x:AOpnd)
  |add64 (x y c:AOpnd)
  |call (f:FuncId) (args:List AOpnd)
  |callv (x:AOpnd) (args:List AOpnd)
  |invoke (x:AOpnd) (name:String) (args:List AOpnd)
structure AOper where
  dst:Option Pth
  op:AOp
  guard:Option (Pth × Bool)
  slot:Option Nat
  after:List Nat
inductive ACode where
  |skip
  |bad
  |region (draw:Bool) (nslots:Nat) (ops:List AOper)
  |seq (a b:ACode)
  |cond (c:AOpnd) (a b:ACode)
  |block (id:Nat) (c:ACode)
  |loop (c:ACode)
  |exit (id:Nat)
  |ret
  |rangeFunc (f:AOpnd) (params:List Pth) (assign body:ACode)
inductive AExit where
  |normal
  |exit (id:Nat)
  |ret
inductive LState where
  |ready
  |busy
  |done
structure ALoop where
  state:LState
  pending:Option AExit
  tmps:Tr
  params:List Pth
  assign:ACode
  body:ACode
inductive ABlk where
  |row (own:Bool) (esz:Nat) (elems:List (List AV))
  |map (ents:List (AV × AV))
  |loop (l:ALoop)
  |dfr
def ABlk.own:ABlk→Bool
  | .row o _ _=>o
  | .map _=>true
  | .loop _=>true
  | .dfr=>true
inductive Mt where
  |e
  |n (x:Option ABlk) (l r:Mt)
  deriving Inhabited
def mgetI:Mt→Nat→Option ABlk
  | .e,_=>none
  | .n x l r,k=>match k with
    |0=>x
    |k+1=>if k % 2==0 then mgetI l (k / 2) else mgetI r (k / 2)
def msetI (x:Option ABlk):Nat→Nat→Mt→Mt
  |0,_,t=>t
  |_+1,0,.e=> .n x .e .e
  |_+1,0,.n _ l r=> .n x l r
  |f+1,k+1,.e=>if k % 2==0 then .n none (msetI x f (k / 2) .e) .e else .n none .e (msetI x f (k / 2) .e)
  |f+1,k+1,.n v l r=>if k % 2==0 then .n v (msetI x f (k / 2) l) r else .n v l (msetI x f (k / 2) r)
noncomputable def mget (t:Mt):Nat→Option ABlk:=
  Mt.rec (motive:=fun _=>Nat→Option ABlk) (fun _=>none)
    (fun x _ _ il ir k=>Nat.rec (motive:=fun _=>Option ABlk) x (fun k _=>cond (Nat.beq (Nat.mod k 2) 0) (il (Nat.div k 2)) (ir (Nat.div k 2))) k) t
noncomputable def mset (x:Option ABlk) (f:Nat):Nat→Mt→Mt:=
  Nat.rec (motive:=fun _=>Nat→Mt→Mt) (fun _ t=>t)
    (fun _ ih k t=>Nat.rec (motive:=fun _=>Mt) (Mt.casesOn t (.n x .e .e) fun _ l r=> .n x l r)
      (fun k _=>Mt.casesOn t (cond (Nat.beq (Nat.mod k 2) 0) (.n none (ih (Nat.div k 2) .e) .e) (.n none .e (ih (Nat.div k 2) .e)))
        fun v l r=>cond (Nat.beq (Nat.mod k 2) 0) (.n v (ih (Nat.div k 2) l) r) (.n v l (ih (Nat.div k 2) r))) k) f
structure Blks where
  length:Nat
  tree:Mt
def bget (h:Blks) (b:Nat):Option ABlk:=cond (Nat.blt b h.length) (mget h.tree b) none
def bput (h:Blks) (b:Nat) (x:Option ABlk):Blks:={length:=cond (Nat.blt b h.length) h.length (Nat.succ b),tree:=mset x (Nat.succ b) b h.tree}
def bmore (h:Blks):Nat→Blks
  |0=>h
  |n+1=>bmore (bput h h.length none) n
structure Chg where
  id:Nat
  blk:Option ABlk
  refs:List Nat
inductive ARes where
  |tmp (t:Pth)
  |cell (t:Pth) (agg:Bool) (n:Nat)
structure AFunc where
  ntmps:Nat
  results:List ARes
  body:ACode
mutual
def AV.refs:AV→List Nat
  | .ptr b _ _=> [b]
  | .slice b _ _ _=> [b]
  | .map b=> [b]
  | .func _ a c=>refsL a++refsL c
  | .iface _ v=>v.refs
  | .agg cs=>refsL cs
  | .tuple vs=>refsL vs
  | .yield l=> [l]
  |_=> []
def refsL:List AV→List Nat
  | []=> []
  |v::vs=>v.refs++refsL vs
end
def refsLL:List (List AV)→List Nat
  | []=> []
  |e::es=>refsL e++refsLL es
def refsE:List (AV × AV)→List Nat
  | []=> []
  |(k,v)::es=>k.refs++(v.refs++refsE es)
def AV.cells? :AV→Option (List AV)
  | .undef=>none
  | .tuple _=>none
  | .agg cs=>some cs
  |v=>some [v]
def AV.scalar:AV→Bool
  | .undef=>false
  | .tuple _=>false
  | .agg _=>false
  |_=>true
def chunk (esz:Nat):Nat→List AV→List (List AV)
  |0,_=> []
  |n+1,l=>l.take esz::chunk esz n (l.drop esz)
def rowGet0 (esz:Nat) (es:List (List AV)) (i o n:Nat):Option (List AV):=
  if o+n≤esz then
    match es[i]? with
    |some e=>some ((e.drop o).take n)
    |none=>none
  else if o=0∧n / esz*esz=n∧i+n / esz≤es.length then some ((es.drop i).take (n / esz)).flatten
  else none
def rowGet (esz:Nat) (es:List (List AV)) (i o n:Nat):Option (List AV):=
  cond (Nat.ble esz o) (rowGet0 esz es (i+o / esz) (o % esz) n) (rowGet0 esz es i o n)
def rowSet0 (esz:Nat) (es:List (List AV)) (i o:Nat) (vs:List AV):Option (List (List AV)):=
  if o+vs.length≤esz then
    match es[i]? with
    |some e=>some (es.set i (e.take o++vs++e.drop (o+vs.length)))
    |none=>none
  else if o=0∧vs.length / esz*esz=vs.length∧i+vs.length / esz≤es.length then
    some (es.take i++chunk esz (vs.length / esz) vs++es.drop (i+vs.length / esz))
  else none
def rowSet (esz:Nat) (es:List (List AV)) (i o:Nat) (vs:List AV):Option (List (List AV)):=
  cond (Nat.ble esz o) (rowSet0 esz es (i+o / esz) (o % esz) vs) (rowSet0 esz es i o vs)
def fillC:List AV→List (Nat × Nat × AV)→Option (List AV)
  |cs,[]=>some cs
  | cs,(off,size,v)::rest=>
    match v.cells? with
    |some ws=>if ws.length=size∧off+size≤cs.length then fillC (cs.take off++ws++cs.drop (off+size)) rest else none
    |none=>none
def fillE (esz:Nat):List (List AV)→List (Nat × AV)→Option (List (List AV))
  |es,[]=>some es
  | es,(i,v)::rest=>
    match v.cells? with
    |some ws=>if ws.length=esz∧i<es.length then fillE esz (es.set i ws) rest else none
    |none=>none
def strEq:List UInt8→List UInt8→Bool
  | [],[]=>true
  |a::as,b::bs=>a.toNat==b.toNat && strEq as bs
  |_,_=>false
def strLess:List UInt8→List UInt8→Bool
  |_,[]=>false
  | [],_::_=>true
  |a::x,b::y=>Nat.blt a.toNat b.toNat ||(a.toNat==b.toNat && strLess x y)
def kindEq:IntKind→IntKind→Bool
  | .i8,.i8 | .i16,.i16 | .i32,.i32 | .i64,.i64 | .u8,.u8 | .u16,.u16 | .u32,.u32 | .u64,.u64=>true
  |_,_=>false
def peq1:CK→AV→AV→Option Bool
  | .b,.bool a,.bool b=>some (a==b)
  | .i,.int k a,.int k' b=>if kindEq k k' then some (a==b) else none
  | .s,.str a,.str b=>some (strEq a b)
  |_,_,_=>none
def peqL:List CK→List AV→List AV→Option Bool
  | [],[],[]=>some true
  | k::ks,a::as,b::bs=>
    match peq1 k a b,peqL ks as bs with
    |some x,some y=>some (x && y)
    |_,_=>none
  |_,_,_=>none
def peq (agg:Bool) (sh:List CK) (x y:AV):Option Bool:=
  if agg then match x,y with
    | .agg as,.agg bs=>peqL sh as bs
    |_,_=>none
  else match sh with
    | [k]=>peq1 k x y
    |_=>none
def binInt (op:BinOp) (k:IntKind) (a b:Int):Option AV:=
  match op with
  | .add=>some (.int k (k.wrap (a+b)))
  | .sub=>some (.int k (k.wrap (a - b)))
  | .mul=>some (.int k (k.wrap (a*b)))
  | .quo=>if b=0 then none else some (.int k (k.wrap (a.tdiv b)))
  | .rem=>if b=0 then none else some (.int k (a.tmod b))
  | .and=>some (.int k (k.wrap (BitVec.ofInt k.bits a &&& BitVec.ofInt k.bits b).toNat))
  | .or=>some (.int k (k.wrap (BitVec.ofInt k.bits a |||BitVec.ofInt k.bits b).toNat))
  | .xor=>some (.int k (k.wrap (BitVec.ofInt k.bits a ^^^ BitVec.ofInt k.bits b).toNat))
  | .andNot=>some (.int k (k.wrap (BitVec.ofInt k.bits a &&& ~~~(BitVec.ofInt k.bits b)).toNat))
  | .eql=>some (.bool (a==b))
  | .neq=>some (.bool (a !=b))
  | .lss=>some (.bool (decide (a<b)))
  | .leq=>some (.bool (decide (a≤b)))
  | .gtr=>some (.bool (decide (a>b)))
  | .geq=>some (.bool (decide (a≥b)))
  | .shl=>none
  | .shr=>none
def binStr (op:BinOp) (a b:List UInt8):Option AV:=
  match op with
  | .add=>if a.length+b.length≤1000000000000 then some (.str (a++b)) else none
  | .eql=>some (.bool (strEq a b))
  | .neq=>some (.bool !(strEq a b))
  | .lss=>some (.bool (strLess a b))
  | .leq=>some (.bool (strLess a b ||strEq a b))
  | .gtr=>some (.bool !(strLess a b ||strEq a b))
  | .geq=>some (.bool !(strLess a b))
  |_=>none
def abin (op:BinOp) (x y:AV):Option AV:=
  match x,y with
  | .int k a,.int k' b=>
    match op with
    | .shl=>if b<0 then none else some (.int k (k.wrap (a*2 ^ (min b.toNat k.bits))))
    | .shr=>if b<0 then none else some (.int k (a.fdiv (2 ^ (min b.toNat k.bits))))
    |_=>if kindEq k k' then binInt op k a b else none
  | .str a,.str b=>binStr op a b
  |_,_=>none
def aun (op:UnOp) (x:AV):Option AV:=
  match op,x with
  | .not,.bool b=>some (.bool !b)
  | .neg,.int k n=>some (.int k (k.wrap (0 - n)))
  | .xor,.int k n=>binInt .xor k (if k.signed then -1 else k.max) n
  |_,_=>none
def winGet (es:List (List AV)) (i n:Nat):Option (List (List AV)):=
  if i+n≤es.length then some ((es.drop i).take n) else none
def bytesOf:List (List AV)→Option (List UInt8)
  | []=>some []
  | [.int .u8 n]::es=>(bytesOf es).map (UInt8.ofNat n.toNat:: ·)
  |_=>none
def ofBytes (s:List UInt8):List (List AV):=s.map fun b=> [.int .u8 b.toNat]
def elemsOf (get:Nat→Option ABlk) (esz:Nat):AV→Option (List (List AV))
  | .nilslice=>some []
  | .slice0=>some []
  | .osl 0=>some []
  | .slice _ _ 0 _=>some []
  | .slice b i n _=>
    match get b with
    |some (.row _ e es)=>if e=esz then winGet es i n else none
    |_=>none
  | .str s=>if esz=1 then some (ofBytes s) else none
  |_=>none
def aev (T:Tr):AOpnd→AV
  | .t p=>tget p T
  | .c v=>v
def bound? (dflt:Nat):Option AV→Option Nat
  |none=>some dflt
  |some (.int _ n)=>if 0≤n then some n.toNat else none
  |some _=>none
def roomMost:Nat:=1000000000000
def aappend (get:Nat→Option ABlk) (nid esz bytes:Nat) (s x:AV):Option (AV × List Chg):=
  match elemsOf get esz x with
  |none=>none
  | some []=>match s with
    | .nilslice | .slice0 | .slice .. =>some (s,[])
    |_=>none
  | some xs =>
    match s with
    | .nilslice | .slice0=>
      if xs.length*bytes≤roomMost then some (.slice nid 0 xs.length none,[⟨nid,some (.row true esz xs),refsLL xs⟩]) else none
    | .slice b i m c=>
      match get b with
      | some (.row own e es)=>
        if e≠esz∨es.length<i+m∨roomMost<(m+xs.length)*bytes then none
        else
          let old:=(es.drop i).take m
          let room:Bool:=match c with
            |some k=>decide (m+xs.length≤k)
            |none=>decide (i+m+xs.length≤es.length)
          if room then
            if own∧i+m+xs.length≤es.length then
              some (.slice b i (m+xs.length) c,[⟨b,some (.row own e (es.take (i+m)++xs++es.drop (i+m+xs.length))),refsLL xs⟩])
            else none
          else match c with
            |some _=>some (.slice nid 0 (m+xs.length) none,[⟨nid,some (.row true esz (old++xs)),refsLL (old++xs)⟩])
            | none=>
              if own then some (.slice nid 0 (m+xs.length) none,[⟨b,none,[]⟩,⟨nid,some (.row true esz (old++xs)),refsLL (old++xs)⟩])
              else none
      |_=>none
    |_=>none
def acopy (get:Nat→Option ABlk) (esz:Nat) (d s:AV):Option (AV × List Chg):=
  match elemsOf get esz s with
  |none=>none
  | some xs=>
    match d with
    | .nilslice | .slice0=>some (.int .i64 0,[])
    | .slice b i n _=>
      let k:=min xs.length n
      if k=0 then some (.int .i64 0,[]) else
      match get b with
      | some (.row true e es)=>
        if e=esz∧i+k≤es.length then
          some (.int .i64 k,[⟨b,some (.row true e (es.take i++xs.take k++es.drop (i+k))),refsLL (xs.take k)⟩])
        else none
      |_=>none
    |_=>none
def aslice (get:Nat→Option ABlk) (esz:Nat) (x:AV) (lo hi mx:Option AV):Option AV:=
  match x with
  | .nilslice=>
    match bound? 0 mx,bound? 0 hi,bound? 0 lo with
    |some 0,some 0,some 0=>some .nilslice
    |_,_,_=>none
  | .slice0=>
    match bound? 0 mx,bound? 0 hi,bound? 0 lo with
    |some 0,some 0,some 0=>some .slice0
    |_,_,_=>none
  | .slice b i n c=>
    match get b with
    | some (.row _ e _)=>
      if e≠esz then none else
      match bound? (c.getD n) mx,bound? n hi,bound? 0 lo with
      | some m,some h,some l=>
        if l≤h∧h≤m∧m≤c.getD n then
          some (.slice b (i+l) (h - l) (if mx.isSome then some (m - l) else c.map (· - l)))
        else none
      |_,_,_=>none
    |_=>none
  |_=>none
def asliceA (get:Nat→Option ABlk) (esz len:Nat) (x:AV) (lo hi mx:Option AV):Option AV:=
  match x with
  | .ptr b i o=>
    match get b with
    | some (.row _ e es)=>
      if e≠esz∨o % esz≠0∨es.length<i+o / esz+len∨roomMost<len then none else
      match bound? len mx,bound? len hi,bound? 0 lo with
      |some m,some h,some l=>if l≤h∧h≤m∧m≤len then some (.slice b (i+o / esz+l) (h - l) (some (m - l))) else none
      |_,_,_=>none
    |_=>none
  |_=>none
def findE (agg:Bool) (sh:List CK) (k:AV):List (AV × AV)→Option (Option AV)
  | []=>some none
  | (k',v)::es=>
    match peq agg sh k k' with
    |some true=>some (some v)
    |some false=>findE agg sh k es
    |none=>none
def setE (agg:Bool) (sh:List CK) (k v:AV):List (AV × AV)→Option (List (AV × AV))
  | []=>some [(k,v)]
  | (k',v')::es=>
    match peq agg sh k k' with
    |some true=>some ((k,v)::es)
    |some false=>(setE agg sh k v es).map ((k',v'):: ·)
    |none=>none
def aminmax (isMax:Bool):AV→List AV→Option AV
  |x,[]=>match x with | .int .. =>some x |_=>none
  | .int k x,.int _ y::rest=>aminmax isMax (.int k (if isMax then (if y>x then y else x) else (if y<x then y else x))) rest
  |_,_=>none
def aprim (get:Nat→Option ABlk) (nid:Nat) (T:Tr):AOp→Option (AV × List Chg)
  | .mv x=>some (aev T x,[])
  | .pick c a b=>match aev T c with
    | .bool true=>some (aev T a,[])
    | .bool false=>some (aev T b,[])
    |_=>none
  | .alloc esz es=>some (.ptr nid 0 0,[⟨nid,some (.row true esz es),[]⟩])
  | .box esz n x=>match (aev T x).cells? with
    |some cs=>if cs.length=n∧n / esz*esz=n∧cs.all AV.scalar then some (.ptr nid 0 0,[⟨nid,some (.row true esz (chunk esz (n / esz) cs)),refsL cs⟩]) else none
    |none=>none
  | .build zero parts=>match fillC zero (parts.map fun (o,s,x)=>(o,s,aev T x)) with
    |some cs=>some (.agg cs,[])
    |none=>none
  | .slit esz len zero parts=>
    if len=0 then (if parts.isEmpty then some (.slice0,[]) else none) else
    match fillE esz (List.replicate len zero) (parts.map fun (i,x)=>(i,aev T x)) with
    |some es=>if es.all (·.all AV.scalar) then some (.slice nid 0 len (some len),[⟨nid,some (.row true esz es),refsLL es⟩]) else none
    |none=>none
  | .load agg n x=>match aev T x with
    | .ptr b i o=>match get b with
      | some (.row _ esz es)=>match rowGet esz es i o n with
        | some cs=>if agg then some (.agg cs,[]) else match cs with
          | [v]=>some (v,[])
          |_=>none
        |none=>none
      |_=>none
    |_=>none
  | .store n x v=>match aev T x,(aev T v).cells? with
    | .ptr b i o,some vs=>match get b with
      | some (.row true esz es)=>
        if vs.length=n∧vs.all AV.scalar then match rowSet esz es i o vs with
          |some es'=>some (.undef,[⟨b,some (.row true esz es'),refsL vs⟩])
          |none=>none
        else none
      |_=>none
    |_,_=>none
  | .nilc x=>match aev T x with
    | .ptr b i o=>some (.ptr b i o,[])
    | .func f a c=>some (.func f a c,[])
    |_=>none
  | .bin op x y=>(abin op (aev T x) (aev T y)).map (·,[])
  | .eql neg agg sh x y=>(peq agg sh (aev T x) (aev T y)).map fun b=>(.bool (if neg then !b else b),[])
  | .isnil neg k x=>match k,aev T x with
    | .p,.nilptr | .s,.nilslice | .m,.nilmap | .f,.nilFunc | .i,.nilIface=>some (.bool (!neg),[])
    | .p,.ptr .. | .s,.slice0 | .s,.slice .. | .m,.map _ | .f,.func .. | .i,.iface .. =>some (.bool neg,[])
    |_,_=>none
  | .un op x=>(aun op (aev T x)).map (·,[])
  | .conv k x=>match k,aev T x with
    | .toInt k,.int _ n=>some (.int k (k.wrap n),[])
    | .same,.str s=>some (.str s,[])
    | .b2s,v=>match v with
      | .str _=>none
      | v=>match elemsOf get 1 v with
        |some es=>(bytesOf es).map fun s=>(.str s,[])
        |none=>none
    | .s2b _,.str s=>if s.length≤roomMost then some (.slice nid 0 s.length none,[⟨nid,some (.row true 1 (ofBytes s)),[]⟩]) else none
    |_,_=>none
  | .iface t x=>some (.iface t (aev T x),[])
  | .mkfunc f a c=>some (.func f (a.map (aev T)) (c.map (aev T)),[])
  | .fieldA off x=>match aev T x with
    | .ptr b i o=>some (.ptr b i (o+off),[])
    |_=>none
  | .field off n agg x=>match aev T x with
    | .agg cs=>if off+n≤cs.length then (if agg then some (.agg ((cs.drop off).take n),[]) else match (cs.drop off).take n with
        | [v]=>some (v,[])
        |_=>none) else none
    |_=>none
  | .idxS esz x i=>match aev T x,aev T i with
    | .slice b j n _,.int _ k=>match get b with
      |some (.row _ e _)=>if e=esz∧0≤k∧k.toNat<n then some (.ptr b (j+k.toNat) 0,[]) else none
      |_=>none
    |_,_=>none
  | .idxA esz len x i=>match aev T x,aev T i with
    | .ptr b j o,.int _ k=>match get b with
      | some (.row _ e _)=>
        if 0≤k∧k.toNat<len then (if e=esz∧o=0 then some (.ptr b (j+k.toNat) 0,[]) else some (.ptr b j (o+k.toNat*esz),[])) else none
      |_=>none
    |_,_=>none
  | .idxV esz len agg x i=>match aev T x,aev T i with
    | .agg cs,.int _ k=>
      if 0≤k∧k.toNat<len∧k.toNat*esz+esz≤cs.length then (if agg then some (.agg ((cs.drop (k.toNat*esz)).take esz),[]) else match (cs.drop (k.toNat*esz)).take esz with
        | [v]=>some (v,[])
        |_=>none) else none
    |_,_=>none
  | .idxStr x i=>match aev T x,aev T i with
    | .str s,.int _ k=>if 0≤k then (match s[k.toNat]? with
        |some b=>some (.int .u8 b.toNat,[])
        |none=>none) else none
    |_,_=>none
  | .sliceStr x lo hi=>match aev T x with
    | .str s=>match bound? s.length (hi.map (aev T)),bound? 0 (lo.map (aev T)) with
      |some h,some l=>if l≤h∧h≤s.length then some (.str ((s.drop l).take (h - l)),[]) else none
      |_,_=>none
    |_=>none
  | .sliceS esz x lo hi mx=>(aslice get esz (aev T x) (lo.map (aev T)) (hi.map (aev T)) (mx.map (aev T))).map (·,[])
  | .sliceA esz len x lo hi mx=>(asliceA get esz len (aev T x) (lo.map (aev T)) (hi.map (aev T)) (mx.map (aev T))).map (·,[])
  | .ext x i=>match aev T x with
    | .tuple vs=>match vs[i]? with
      |some v=>some (v,[])
      |none=>none
    |_=>none
  | .tassert t ok x=>match aev T x with
    | .iface t' v=>if t=t' then some (if ok then .tuple [v,.bool true] else v,[]) else none
    |_=>none
  | .len k x=>match k,aev T x with
    | .str,.str s=>some (.int .i64 s.length,[])
    | .slice,.nilslice=>some (.int .i64 0,[])
    | .slice,.slice0=>some (.int .i64 0,[])
    | .slice,.slice _ _ n _=>some (.int .i64 n,[])
    | .slice,.osl n=>some (.int .i64 n,[])
    | .map,.nilmap=>some (.int .i64 0,[])
    | .map,.map b=>match get b with
      |some (.map es)=>some (.int .i64 es.length,[])
      |_=>none
    |_,_=>none
  | .app esz bytes s x=>aappend get nid esz bytes (aev T s) (aev T x)
  | .copy esz d s=>acopy get esz (aev T d) (aev T s)
  | .minmax isMax xs=>match xs.map (aev T) with
    |x::rest=>(aminmax isMax x rest).map (·,[])
    | []=>none
  | .mkslice esz bytes zero l c=>match aev T l,aev T c with
    | .int _ l,.int _ c=>
      if 0≤l∧l≤c∧c.toNat*(bytes+1)≤roomMost then
        (if c=0 then some (.slice0,[]) else some (.slice nid 0 l.toNat (some c.toNat),[⟨nid,some (.row true esz (List.replicate c.toNat zero)),[]⟩]))
      else none
    |_,_=>none
  | .mkmap=>some (.map nid,[⟨nid,some (.map []),[]⟩])
  | .look agg sh zero ok m k=>match aev T m with
    | .nilmap=>if (peq agg sh (aev T k) (aev T k)).isSome then some (if ok then .tuple [zero,.bool false] else zero,[]) else none
    | .map b=>match get b with
      | some (.map es)=>if (peq agg sh (aev T k) (aev T k)).isSome then match findE agg sh (aev T k) es with
          |some (some v)=>some (if ok then .tuple [v,.bool true] else v,[])
          |some none=>some (if ok then .tuple [zero,.bool false] else zero,[])
          |none=>none
        else none
      |_=>none
    |_=>none
  | .mapset agg sh m k v=>match aev T m with
    | .map b=>match get b with
      | some (.map es)=>if (peq agg sh (aev T k) (aev T k)).isSome then match setE agg sh (aev T k) (aev T v) es with
          |some es'=>some (.undef,[⟨b,some (.map es'),(aev T v).refs⟩])
          |none=>none
        else none
      |_=>none
    |_=>none
  | .bad=>none
  | .capb x=>match aev T x with
    | .nilslice=>some (.int .i64 0,[])
    | .slice0=>some (.int .i64 0,[])
    | .slice _ _ _ (some k)=>some (.int .i64 k,[])
    |_=>none
  | .appz esz bytes zero s n=>match aev T n with
    | .int _ n=>
      if 0<n∧n.toNat*bytes≤roomMost then match aev T s with
        | .nilslice=>some (.slice nid 0 n.toNat none,[⟨nid,some (.row true esz (List.replicate n.toNat zero)),[]⟩])
        | .slice0=>some (.slice nid 0 n.toNat none,[⟨nid,some (.row true esz (List.replicate n.toNat zero)),[]⟩])
        |_=>none
      else none
    |_=>none
  | .s2a n x=>match aev T x with
    | .slice b i len _=>if 0<n∧n≤len then some (.ptr b i 0,[]) else none
    |_=>none
  | .add64 x y c=>match aev T x,aev T y,aev T c with
    | .int .u64 x,.int .u64 y,.int .u64 c=>
      if 0≤x∧0≤y∧0≤c∧c≤1 then some (.tuple [.int .u64 ((x+y+c) % 18446744073709551616),.int .u64 ((x+y+c) / 18446744073709551616)],[]) else none
    |_,_,_=>none
  | .call .. | .callv .. | .invoke .. =>none
structure Mem where
  blks:Blks
  log:List Nat:=[]
  dfrs:List Nat:=[]
def Mem.apply (m:Mem) (c:Chg):Mem:={m with blks:=bput m.blks c.id c.blk,log:=c.id::m.log}
def Mem.killAll (m:Mem):List Nat→Mem
  | []=>m
  |b::bs=>(m.apply ⟨b,none,[]⟩).killAll bs
def Mem.applyAll (m:Mem):List Chg→Mem
  | []=>m
  |c::cs=>(m.apply c).applyAll cs
def Mem.more (m:Mem) (n:Nat):Mem:={m with blks:=bmore m.blks n}
inductive ACallee where
  |fn (f:FuncId)
  |yield (l:Nat)
abbrev CallF:=ACallee→List AV→Mem→Option (AV × Mem)
abbrev Meth:=TypeId→String→Option (FuncId × Option (Bool × Nat))
def aevs (T:Tr):List AOpnd→List AV
  | []=> []
  |x::xs=>aev T x::aevs T xs
def acallee (get:Nat→Option ABlk) (meth:Meth) (T:Tr):AOp→Option (ACallee × List AV)
  | .call f args=>some (.fn f,aevs T args)
  | .callv x args=>match aev T x with
    | .func f a c=>some (.fn f,a++aevs T args++c)
    | .yield l=>some (.yield l,aevs T args)
    |_=>none
  | .invoke x name args=>match aev T x with
    | .iface t v=>match meth t name with
      |some (f,none)=>some (.fn f,v::aevs T args)
      | some (f,some (agg,n))=>match aprim get 0 T (.load agg n (.c v)) with
        |some (r,_)=>some (.fn f,r::aevs T args)
        |none=>none
      |none=>none
    |_=>none
  |_=>none
def AOp.isCall:AOp→Bool
  | .call .. | .callv .. | .invoke .. =>true
  |_=>false
def AOp.isMaker:AOp→Bool
  | .call .. | .callv .. | .invoke .. | .app .. | .appz .. =>true
  |_=>false
def aput (T:Tr) (d:Option Pth) (v:AV):Tr:=
  match d with
  |some d=>tset v d T
  |none=>T
def aoper (call:CallF) (meth:Meth) (T:Tr) (m:Mem) (o:AOper):Option (AV × Mem):=
  cond o.op.isCall
    (match acallee (bget m.blks) meth T o.op with
      |some (c,vs)=>call c vs m
      |none=>none)
    (match aprim (bget m.blks) m.blks.length T o.op with
      |some (v,cs)=>some (v,m.applyAll cs)
      |none=>none)
def awanted (T:Tr):Option (Pth × Bool)→Option Bool
  |none=>some true
  | some (t,want)=>match tget t T with
    | .bool b=>some (b==want)
    | .undef=>some false
    |_=>none
def aops (call:CallF) (meth:Meth):List AOper→Tr→Mem→Option (Tr × Mem)
  | [],T,m=>some (T,m)
  | o ::os,T,m=>
    match awanted T o.guard with
    | some true=>match aoper call meth T m o with
      |some (v,m')=>aops call meth os (aput T o.dst v) m'
      |none=>none
    |some false=>aops call meth os (aput T o.dst .undef) m
    |none=>none
def AV.top:AV→List Nat
  | .ptr b _ _=> [b]
  | .slice b _ _ _=> [b]
  | .map b=> [b]
  |_=> []
def AOpnd.top (T:Tr) (x:AOpnd):List Nat:=(aev T x).top
def AOp.reads (T:Tr):AOp→List Nat
  | .load _ _ x=>x.top T
  | .store _ x _=>x.top T
  | .idxS _ x _=>x.top T
  | .idxA _ _ x _=>x.top T
  | .sliceS _ x _ _ _=>x.top T
  | .sliceA _ _ x _ _ _=>x.top T
  | .conv _ x=>x.top T
  | .len _ x=>x.top T
  | .app _ _ s x=>s.top T++x.top T
  | .copy _ d s=>d.top T++s.top T
  | .look _ _ _ _ m _=>m.top T
  | .mapset _ _ m _ _=>m.top T
  |_=> []
structure ARec where
  idx:Nat
  wr:List Nat
  vis:Nat→Bool
  maker:Bool
def ins (l:List Nat) (k:Nat):Bool:=
  match l with
  | []=>false
  |x::l=>cond (Nat.beq x k) true (ins l k)
def unmask (m:Mem) (h:Blks):List Nat→Mem
  | []=>m
  |b::bs=>unmask {m with blks:=bput m.blks b (bget h b)} h bs
def mask (h:Blks):List Nat→Blks
  | []=>h
  |b::bs=>mask (bput h b none) bs
def clash (wr:List Nat) (mk:Bool):List ARec→Bool
  | []=>false
  |r::rs=>(mk && r.maker)||wr.any r.vis ||wr.any (ins r.wr)||clash wr mk rs
def nidOf (base n:Nat):Option Nat→Nat
  |some k=>base+k
  |none=>n
def slotIn (base n:Nat):Option Nat→Bool
  |some k=>Nat.blt (base+k) n
  |none=>true
def adraw (call:CallF) (meth:Meth) (base:Nat):Nat→List AOper→List ARec→Tr→Mem→Option (Tr × Mem)
  |_,[],_,T,m=>some (T,m)
  | i, o :: os,recs,T,m=>
    match awanted T o.guard with
    | some true=>
      let free:=recs.filter fun r=> !ins o.after r.idx
      let msk:=free.flatMap (·.wr)
      cond o.op.isCall
        (let h1:=mask m.blks msk
        match acallee (bget h1) meth T o.op with
        | some (c,vs)=>match call c vs {blks:=h1,log:=[]} with
          | some (v,m2)=>
            cond (clash m2.log true free) none
            (adraw call meth base (i+1) os (⟨i,m2.log,fun b=>(bget h1 b).isSome,true⟩::recs) (aput T o.dst v) {blks:=(unmask m2 m.blks msk).blks,log:=m2.log++m.log,dfrs:=m.dfrs})
          |none=>none
        |none=>none)
        (let rd:=o.op.reads T
        let get:=fun b=>cond (ins rd b && !ins msk b) (bget m.blks b) none
        match aprim get (nidOf base m.blks.length o.slot) T o.op with
        | some (v,cs)=>
          let wr:=cs.map (·.id)
          cond (!slotIn base m.blks.length o.slot ||clash wr o.op.isMaker free) none
          (adraw call meth base (i+1) os (⟨i,wr,fun b=>(get b).isSome,o.op.isMaker⟩::recs) (aput T o.dst v) (m.applyAll cs))
        |none=>none)
    |some false=>adraw call meth base (i+1) os recs (aput T o.dst .undef) m
    |none=>none
def aloop (body:Tr→Mem→Option (AExit × Tr × Mem)):Nat→Tr→Mem→Option (AExit × Tr × Mem)
  |0,_,_=>none
  | n+1,T,m=>match body T m with
    |some (.normal,T',m')=>aloop body n T' m'
    |r=>r
def acode (call:CallF) (meth:Meth) (fuel:Nat) (rd:Bool):ACode→Tr→Mem→Option (AExit × Tr × Mem)
  | .skip,T,m=>some (.normal,T,m)
  | .bad,_,_=>none
  | .region draw ns ops,T,m=>
    match (cond draw (adraw call meth m.blks.length 0 ops [] T (m.more ns)) (aops call meth ops T m)) with
    |some (T',m')=>some (.normal,T',m')
    |none=>none
  | .seq a b,T,m=>match acode call meth fuel rd a T m with
    |some (.normal,T',m')=>acode call meth fuel rd b T' m'
    |r=>r
  | .cond c a b,T,m=>match aev T c with
    | .bool true=>acode call meth fuel rd a T m
    | .bool false=>acode call meth fuel rd b T m
    |_=>none
  | .block id c,T,m=>match acode call meth fuel rd c T m with
    |some (.exit id',T',m')=>cond (Nat.beq id' id) (some (.normal,T',m')) (some (.exit id',T',m'))
    |r=>r
  | .loop c,T,m=>aloop (acode call meth fuel rd c) fuel T m
  | .exit id,T,m=>some (.exit id,T,m)
  | .ret,T,m=>some (.ret,T,m)
  | .rangeFunc f params assign body,T,m=>
    cond rd none
    (match aev T f with
    | .func g a c=>
      let m1:Mem:={m.apply ⟨m.blks.length,some .dfr,[]⟩ with dfrs:=m.blks.length::m.dfrs}
      let l:=m1.blks.length
      match call (.fn g) (a++ [.yield l]++c) (m1.apply ⟨l,some (.loop {state:= .ready,pending:=none,tmps:=T,params,assign,body}),[]⟩) with
      | some (_,m')=>
        match bget m'.blks l with
        | some (.loop r)=>match r.state with
          | .busy=>none
          |_=>some (r.pending.getD .normal,T,m'.apply ⟨l,none,[]⟩)
        |_=>none
      |none=>none
    |_=>none)
def roundTmps:Tr→List Pth→List AV→Tr
  |T,p::ps,a::as=>roundTmps (tset a p T) ps as
  |T,_,_=>T
def ares1 (get:Nat→Option ABlk) (T:Tr):ARes→Option AV
  | .tmp t=>some (tget t T)
  | .cell t agg n=>match aprim get 0 T (.load agg n (.t t)) with
    |some (v,_)=>some v
    |none=>none
def aresL (get:Nat→Option ABlk) (T:Tr):List ARes→Option (List AV)
  | []=>some []
  | r::rs=>match ares1 get T r,aresL get T rs with
    |some v,some vs=>some (v::vs)
    |_,_=>none
def ares (get:Nat→Option ABlk) (T:Tr) (rs:List ARes):Option AV:=
  match aresL get T rs with
  |some [v]=>some v
  |some vs=>some (.tuple vs)
  |none=>none
abbrev Summ:=FuncId→List AV→Mem→Option (AV × Mem)
def smF (sm:Summ):CallF:=fun c vs m=>match c with
  | .fn f=>sm f vs m
  | .yield _=>none
def noSum:Summ:=fun _ _ _=>none
def acall (F:FuncId→Option AFunc) (meth:Meth) (sm:Summ):Nat→CallF
  |0,_,_,_=>none
  | n + 1, .yield l,args,m=>
    match bget m.blks l with
    | some (.loop r)=>
      match r.state with
      | .ready=>
        if args.length≠r.params.length then none else
        match acode (acall F meth sm n) meth n true r.assign (roundTmps r.tmps r.params args) {m with dfrs:=[]} with
        | some (.normal,T,m1)=>
          match bget m1.blks l with
          | some (.loop r1)=>
            match r1.state with
            | .ready=>
              match acode (acall F meth sm n) meth n true r.body T (m1.apply ⟨l,some (.loop {r1 with state:= .busy}),[]⟩) with
              | some (e,_,m2)=>
                match bget m2.blks l with
                | some (.loop r2)=>match e with
                  | .normal=>some (.bool true,{m2.apply ⟨l,some (.loop {r2 with state:= .ready,pending:=none}),[]⟩ with dfrs:=m.dfrs})
                  |e=>some (.bool false,{m2.apply ⟨l,some (.loop {r2 with state:= .done,pending:=some e}),[]⟩ with dfrs:=m.dfrs})
                |_=>none
              |none=>none
            |_=>none
          |_=>none
        |_=>none
      |_=>none
    |_=>none
  | n + 1,.fn f,args,m=>
    match sm f args m with
    |some r=>some r
    |none=>
    match F f with
    |none=>none
    | some fn=>
      cond (Nat.ble args.length fn.ntmps)
      (match acode (acall F meth sm n) meth n false fn.body (tputs args .z .e) {m with dfrs:=[]} with
      | some (.normal,T,m')|some (.ret,T,m')=>
        let m2:=m'.killAll m'.dfrs
        match ares (bget m2.blks) T fn.results with
        |some v=>some (v,{m2 with dfrs:=m.dfrs})
        |none=>none
      |_=>none) none
mutual
def absV:Value→Option AV
  | .bool b=>some (.bool b)
  | .int k n=>some (.int k n)
  | .string s=>some (.str s.data.toList)
  | .pointer none=>some .nilptr
  | .slice none 0 0=>some .nilslice
  | .map none=>some .nilmap
  | .nilFunc=>some .nilFunc
  | .nilIface=>some .nilIface
  | .iface t v=>(absV v).map (.iface t)
  | .func (.func f) ⟨a⟩ ⟨c⟩=>match absVs a,absVs c with
    |some a,some c=>some (.func f a c)
    |_,_=>none
  | .agg ⟨cs⟩=>(absVs cs).map .agg
  |_=>none
def absVs:List Value→Option (List AV)
  | []=>some []
  | v::vs=>match absV v,absVs vs with
    |some v,some vs=>some (v::vs)
    |_,_=>none
end
section
variable (P:Program) (glob:Nat→Option AV)
def copnd:Operand→Option AOpnd
  | .tmp t=>some (.t (.ofNat t))
  | .const v=>(absV v).map .c
  | .global g=>(glob g).map .c
  | .func f=>some (.c (.func f [] []))
def copnds:List Operand→Option (List AOpnd)
  | []=>some []
  | x::xs=>match copnd glob x,copnds xs with
    |some x,some xs=>some (x::xs)
    |_,_=>none
def copt:Option Operand→Option (Option AOpnd)
  |none=>some none
  |some x=>(copnd glob x).map some
def isAggT (t:TypeId):Bool:=
  match P.underlying t with
  |some (.struct _)|some (.array _ _)=>true
  |_=>false
def zeroC (t:TypeId):Option (List AV):=
  match (P.info? t).bind (·.zero) with
  | some z=>match absV z with
    | some a=>match a.cells? with
      |some cs=>if cs.length=P.cellsOf t∧cs.all AV.scalar then some cs else none
      |none=>none
    |none=>none
  |none=>none
def zeroV (t:TypeId):Option AV:=((P.info? t).bind (·.zero)).bind absV
def holdsArr:Nat→TypeId→Bool
  |0,_=>false
  | d+1,t=>
    match P.underlying t with
    |some (.struct fs)=>fs.toList.any fun f=>holdsArr d f.type
    |some (.array _ _)=>true
    |_=>false
def eszOf (t:TypeId):Nat:=
  match P.underlying t with
  |some (.array _ e)=>max 1 (P.cellsOf e)
  |_=>cond (holdsArr P 20 t) 1 (max 1 (P.cellsOf t))
def plainShape:Nat→TypeId→Option (List CK)
  |0,_=>none
  | d +1,t=>
    match P.underlying t with
    |some .bool=>if P.cellsOf t=1 then some [.b] else none
    |some (.int _)=>if P.cellsOf t=1 then some [.i] else none
    |some .string=>if P.cellsOf t=1 then some [.s] else none
    | some (.struct fs)=>if P.stoodInHeld t then none else
      match plainFs (plainShape d) 0 fs.toList with
      |some sh=>if sh.length=P.cellsOf t then some sh else none
      |none=>none
    | some (.array n e)=>
      match plainShape d e with
      |some sh=>if sh.length=P.cellsOf e∧P.cellsOf t=n*P.cellsOf e then some (List.replicate n sh).flatten else none
      |none=>none
    |_=>none
where
  plainFs (rec:TypeId→Option (List CK)):Nat→List Field→Option (List CK)
    |_,[]=>some []
    | o,f::fs=>
      if f.name= "_" ∨f.offset≠o then none else
      match rec f.type with
      | some sh=>match plainFs rec (o+sh.length) fs with
        |some rest=>some (sh++rest)
        |none=>none
      |none=>none
def nilT (t:TypeId):Option NK:=
  match P.underlying t with
  |some (.pointer _)=>some .p
  |some (.slice _)=>some .s
  |some (.map ..)=>some .m
  |some (.func ..)=>some .f
  |some (.interface _)=>some .i
  |_=>none
def nilK:Operand→Option NK
  | .const (.pointer none)=>some .p
  | .const (.slice none 0 0)=>some .s
  | .const (.map none)=>some .m
  | .const .nilFunc=>some .f
  | .const .nilIface=>some .i
  |_=>none
def isEq:BinOp→Bool | .eql=>true | .neq=>true |_=>false
def isNe:BinOp→Bool | .neq=>true |_=>false
def isU8:Option TypeDesc→Bool |some (.int .u8)=>true |_=>false
def isIntT:Option TypeDesc→Bool |some (.int _)=>true |_=>false
def isMapT:Option TypeDesc→Bool |some (.map _ _)=>true |_=>false
def noPlain:Option TypeDesc→Bool |some (.interface _)=>true |none=>true |_=>false
def callName (f:FuncId):Bool:=
  match P.funcs[f]? with
  |some fn=>fn.body.isSome && !(fn.name== "runtime.NumGoroutine")
  |none=>false
def addName (f:FuncId):Bool:=
  match P.funcs[f]? with
  |some fn=>fn.body.isNone && (fn.name== "math/bits.Add64" && (Extern.findNext fn).isNone)
  |none=>false
def cparts (place:Nat→Option (Nat × Nat)):List (Nat × Operand)→Option (List (Nat × Nat × AOpnd))
  | []=>some []
  | (i,x)::xs=>match place i,copnd glob x,cparts place xs with
    |some (o,s),some x,some xs=>some ((o,s,x)::xs)
    |_,_,_=>none
def cpartsE:List (Nat × Operand)→Option (List (Nat × AOpnd))
  | []=>some []
  | (i,x)::xs=>match copnd glob x,cpartsE xs with
    |some x,some xs=>some ((i,x)::xs)
    |_,_=>none
def cop (o:Oper):Option AOp:=
  match o.op with
  | .move x | .assign x=>(copnd glob x).map .mv
  | .pick c a b=>do pure (.pick (←copnd glob c) (←copnd glob a) (←copnd glob b))
  | .alloc t=>do
    let z←zeroC P t
    let e:=eszOf P t
    if e≠0∧z.length / e*e=z.length then pure (.alloc e (chunk e (z.length / e) z)) else none
  | .box t x=>do
    let e:=eszOf P t
    if e≠0∧P.cellsOf t / e*e=P.cellsOf t then pure (.box e (P.cellsOf t) (←copnd glob x)) else none
  | .build t parts=>do
    let z←zeroC P t
    match P.underlying t with
    |some (.struct fs)=>if !fs.all (fun f=>(P.info? f.type).isSome) then none else pure (.build z (←cparts glob (fun i=>(fs[i]?).map fun f=>(f.offset,P.cellsOf f.type)) parts.toList))
    |some (.array _ e)=>if (P.info? e).isNone then none else pure (.build z (←cparts glob (fun i=>some (i*P.cellsOf e,P.cellsOf e)) parts.toList))
    |_=>none
  | .buildSlice t len parts=>do
    match P.underlying t with
    | some (.slice e)=>
      let z←zeroC P e
      if P.cellsOf e≠0∧len*P.cellsOf e≤2 ^ 20 then pure (.slit (P.cellsOf e) len z (←cpartsE glob parts.toList)) else none
    |_=>none
  | .load t x=>do if (P.underlying t).isSome then pure (.load (isAggT P t) (P.cellsOf t) (←copnd glob x)) else none
  | .store t a v=>do if (P.info? t).isSome then pure (.store (P.cellsOf t) (←copnd glob a) (←copnd glob v)) else none
  | .nilCheck x=>(copnd glob x).map .nilc
  | .binOp op t x y _=>do
    if isEq op then
      match nilK y with
      |some k=>if nilT P t=some k then pure (.isnil (isNe op) k (←copnd glob x)) else none
      |none=>
      if P.eqGuardType P.depth t then none
      else pure (.eql (isNe op) (isAggT P t) (←plainShape P 20 t) (←copnd glob x) (←copnd glob y))
    else pure (.bin op (←copnd glob x) (←copnd glob y))
  | .unOp op _ x=>(copnd glob x).map (.un op)
  | .convert s d x=>do
    match P.underlying s,P.underlying d with
    |some (.int _),some (.int k)=>pure (.conv (.toInt k) (←copnd glob x))
    |some .string,some .string=>pure (.conv .same (←copnd glob x))
    |some (.slice e),some .string=>if isU8 (P.underlying e) then pure (.conv .b2s (←copnd glob x)) else none
    |some .string,some (.slice e)=>if isU8 (P.underlying e) then pure (.conv (.s2b 1) (←copnd glob x)) else none
    |_,_=>none
  | .makeInterface t x=>if noPlain (P.underlying t) then none else (copnd glob x).map (.iface t)
  | .makeFunc (.func f) a c=>do pure (.mkfunc f (←copnds glob a.toList) (←copnds glob c.toList))
  | .fieldAddr s x f=>do
    match P.underlying s with
    | some (.struct fs)=>
      let fd←fs[f]?
      if P.cellsOf fd.type≠0 then pure (.fieldA fd.offset (←copnd glob x)) else none
    |_=>none
  | .field s x f=>do
    match P.underlying s with
    | some (.struct fs)=>
      let fd←fs[f]?
      if (P.underlying fd.type).isNone then none else
      pure (.field fd.offset (P.cellsOf fd.type) (isAggT P fd.type) (←copnd glob x))
    |_=>none
  | .indexAddr t x i=>do
    match P.underlying t with
    |some (.slice e)=>if (P.info? e).isNone then none else pure (.idxS (P.cellsOf e) (←copnd glob x) (←copnd glob i))
    |some (.array n e)=>if (P.info? e).isNone then none else pure (.idxA (P.cellsOf e) n (←copnd glob x) (←copnd glob i))
    |_=>none
  | .index t x i=>do
    match P.underlying t with
    |some (.array n e)=>if (P.underlying e).isNone then none else pure (.idxV (P.cellsOf e) n (isAggT P e) (←copnd glob x) (←copnd glob i))
    |some .string=>pure (.idxStr (←copnd glob x) (←copnd glob i))
    |_=>none
  | .slice t x lo hi mx=>do
    match P.underlying t with
    |some .string=>if mx.isSome then none else pure (.sliceStr (←copnd glob x) (←copt glob lo) (←copt glob hi))
    |some (.slice e)=>if (P.info? e).isNone ||(mx.isSome && hi.isNone) then none else pure (.sliceS (P.cellsOf e) (←copnd glob x) (←copt glob lo) (←copt glob hi) (←copt glob mx))
    |some (.array n e)=>if (P.info? e).isNone ||(mx.isSome && hi.isNone) then none else pure (.sliceA (P.cellsOf e) n (←copnd glob x) (←copt glob lo) (←copt glob hi) (←copt glob mx))
    |_=>none
  | .sliceToArrayPointer t x=>do
    match P.underlying t with
    |some (.array n _)=>pure (.s2a n (←copnd glob x))
    |_=>none
  | .extract x i=>do pure (.ext (←copnd glob x) i)
  | .typeAssert x _ t ok=>do if noPlain (P.underlying t) then none else pure (.tassert t ok (←copnd glob x))
  | .makeMap t none=>if isMapT (P.underlying t) then some .mkmap else none
  | .makeMap _ (some _)=>none
  | .makeSlice t l c=>do
    match P.underlying t with
    | some (.slice e)=>
      let z←zeroC P e
      if P.cellsOf e≠0 then pure (.mkslice (P.cellsOf e) (P.bytesOf e) z (←copnd glob l) (←copnd glob c)) else none
    |_=>none
  | .lookup t m k ok=>do
    match P.underlying t with
    |some (.map kt e)=>pure (.look (isAggT P kt) (←plainShape P 20 kt) (←zeroV P e) ok (←copnd glob m) (←copnd glob k))
    |_=>none
  | .mapUpdate t m k v | .insert t m k v=>do
    match P.underlying t with
    |some (.map kt _)=>pure (.mapset (isAggT P kt) (←plainShape P 20 kt) (←copnd glob m) (←copnd glob k) (←copnd glob v))
    |_=>none
  | .call c=>
    match c.callee with
    | .value (.func f)=>if callName P f then (copnds glob c.args.toList).map (.call f) else if addName P f then
        match c.args.toList with
        | [x,y,z]=>do pure (.add64 (←copnd glob x) (←copnd glob y) (←copnd glob z))
        |_=>none
      else none
    | .value x=>do pure (.callv (←copnd glob x) (←copnds glob c.args.toList))
    | .invoke x name=>do pure (.invoke (←copnd glob x) name (←copnds glob c.args.toList))
    | .builtin b=>
      match b with
      | .append=>do
        let t←c.argTypes[0]?
        match P.underlying t,c.args[0]?,c.args[1]?,c.argTypes[1]? with
        | some (.slice e),some s,some x,some xt=>
          if c.args.size=2∧(zeroC P e).isSome∧P.cellsOf e≠0∧ !(isIntT (P.underlying xt))∧(P.underlying xt).isSome∧P.bytesOf e≠0 then pure (.app (P.cellsOf e) (P.bytesOf e) (←copnd glob s) (←copnd glob x))
          else if c.args.size=2∧isIntT (P.underlying xt)∧P.cellsOf e≠0∧P.bytesOf e≠0 then pure (.appz (P.cellsOf e) (P.bytesOf e) (←zeroC P e) (←copnd glob s) (←copnd glob x)) else none
        |_,_,_,_=>none
      | .cap=>do
        let t←c.argTypes[0]?
        match P.underlying t,c.args[0]? with
        |some (.slice _),some x=>pure (.capb (←copnd glob x))
        |_,_=>none
      | .len=>do
        let t←c.argTypes[0]?
        match P.underlying t,c.args[0]? with
        |some (.array n _),some _=>pure (.mv (.c (.int .i64 n)))
        |some .string,some x=>pure (.len .str (←copnd glob x))
        |some (.slice _),some x=>pure (.len .slice (←copnd glob x))
        |some (.map ..),some x=>pure (.len .map (←copnd glob x))
        |_,_=>none
      | .copy=>do
        let t←c.argTypes[0]?
        match P.underlying t,c.args[0]?,c.args[1]? with
        |some (.slice e),some d,some s=>if c.args.size=2∧(P.info? e).isSome∧P.cellsOf e≠0 then pure (.copy (P.cellsOf e) (←copnd glob d) (←copnd glob s)) else none
        |_,_,_=>none
      | .max=>(copnds glob c.args.toList).map (.minmax true)
      | .min=>(copnds glob c.args.toList).map (.minmax false)
      |_=>none
  |_=>none
def copB (o:Oper):AOp:=(cop P glob o).getD .bad
def AOp.makes:AOp→Bool
  | .alloc .. | .box .. | .slit .. | .mkslice .. | .mkmap=>true
  | .conv (.s2b _) _=>true
  |_=>false
def closeAfter (cl:List (List Nat)) (i:Nat) (o:Oper):List Nat:=
  (List.range i).filter fun j=>(o.after.toList.any fun e=>Region.binds .any e && e.on==j)||(o.after.toList.any fun e=>Region.binds .any e && (cl.getD e.on []).contains j)
def AOp.opnds:AOp→List AOpnd
  | .mv x | .box _ _ x | .load _ _ x | .nilc x | .isnil _ _ x | .un _ x | .conv _ x | .iface _ x | .fieldA _ x | .field _ _ _ x | .ext x _ | .tassert _ _ x | .len _ x=> [x]
  | .pick c a b=> [c,a,b]
  | .alloc .. | .mkmap=> []
  | .build _ parts=>parts.map fun p=>p.2.2
  | .slit _ _ _ parts=>parts.map fun p=>p.2
  | .store _ x v=> [x,v]
  | .bin _ x y | .eql _ _ _ x y=> [x,y]
  | .mkfunc _ a c=>a++c
  | .idxS _ x i | .idxA _ _ x i | .idxV _ _ _ x i | .idxStr x i=> [x,i]
  | .sliceStr x lo hi=>x::(lo.toList++hi.toList)
  | .sliceS _ x lo hi mx | .sliceA _ _ x lo hi mx=>x::(lo.toList++(hi.toList++mx.toList))
  | .app _ _ s x=> [s,x]
  | .copy _ d s=> [d,s]
  | .minmax _ xs=>xs
  | .mkslice _ _ _ l c=> [l,c]
  | .look _ _ _ _ m k=> [m,k]
  | .mapset _ _ m k v=> [m,k,v]
  | .bad=> []
  | .capb x | .s2a _ x=> [x]
  | .appz _ _ _ s n=> [s,n]
  | .add64 x y c=> [x,y,c]
  | .call _ args=>args
  | .callv x args=>x::args
  | .invoke x _ args=>x::args
def lks (op:AOp) (g:Option (Pth × Bool)):List Pth:=(op.opnds.filterMap fun | .t p=>some p | .c _=>none)++(g.map (·.1)).toList
def apartP (x y:Option Pth × List Pth):Bool:=
  (match x.1 with
   |some d=> !y.2.contains d && y.1 !=some d
   |none=>true) &&
  (match y.1 with
   |some d=> !x.2.contains d
   |none=>true)
def apartAll (pv:List (Option Pth × List Pth)) (after:List Nat) (x:Option Pth × List Pth) (i:Nat):Bool:=
  (List.range i).all fun j=>after.contains j ||match pv[j]? with
    |some y=>apartP y x
    |none=>false
def cguard (ops:Array Oper) (o:Oper):Option (Option (Pth × Bool)):=
  match o.guard with
  |none=>some none
  |some (j,want)=>((ops[j]?).bind (·.dst)).map fun d=>some (Pth.ofNat d,want)
def cdst (nt:Nat) (o:Oper):Option (Option Pth):=
  match o.dst with
  |none=>some none
  |some d=>if d<nt then some (some (Pth.ofNat d)) else none
def copers (nt:Nat) (draw:Bool) (ops:Array Oper):Nat→Nat→List (List Nat)→List (Option Pth × List Pth)→List Oper→Option (List AOper × Nat)
  |_,k,_,_,[]=>some ([],k)
  | i,k,cl,pv,o::os=>do
    let op:=copB P glob o
    let guard←cguard ops o
    let dst←cdst nt o
    if draw then
      let after:=closeAfter cl i o
      if (o.after.toList.all fun e=> !Region.binds .any e ||decide (e.on<i)) && apartAll pv after (dst,lks op guard) i then
        let slot:=if op.makes then some k else none
        let (rest,n) ←copers nt draw ops (i+1) (if op.makes then k+1 else k) (cl++ [after]) (pv++ [(dst,lks op guard)]) os
        pure ({dst,op,guard,slot,after}::rest,n)
      else none
    else
      let (rest,n) ←copers nt draw ops (i+1) k cl pv os
      pure ({dst,op,guard,slot:=none,after:=[]}::rest,n)
def ccode (nt:Nat):Code→Option ACode
  | .skip=>some .skip
  | .region _ ops draw=>do
    let (os,n) ←copers P glob nt draw ops 0 0 [] [] ops.toList
    pure (.region draw n os)
  | .seq a b=>do pure (.seq (←ccode nt a) (←ccode nt b))
  | .cond c a b=>do pure (.cond (←copnd glob c) (←ccode nt a) (←ccode nt b))
  | .block id c=>do pure (.block id (←ccode nt c))
  | .loop c=>do pure (.loop (←ccode nt c))
  | .exit id=>some (.exit id)
  | .ret=>some .ret
  | .rangeFunc f ps a b=>do
    if ps.toList.all (· <nt) then pure (.rangeFunc (←copnd glob f) (ps.toList.map Pth.ofNat) (←ccode nt a) (←ccode nt b)) else none
  | .scope c=>ccode nt c
  | .label _=>some .skip
  |_=>some .bad
def cmeth :Meth:=fun t name=>
  match P.info? t with
  | some i=>match i.methods.find? (·.name==name) with
    | some m=>match m.func with
      | some (f,ptrRecv)=>
        if m.path.isEmpty && callName P f then
          match P.underlying t with
          |some (.pointer e)=>if ptrRecv then some (f,none) else if (P.underlying e).isSome then some (f,some (isAggT P e,P.cellsOf e)) else none
          |some (.interface _)=>none
          |some _=>if ptrRecv then none else some (f,none)
          |none=>none
        else none
      |none=>none
    |none=>none
  |none=>none
def cres:ResultVar→ARes
  | .tmp t=> .tmp (.ofNat t)
  | .cell a t=> .cell (.ofNat a) (isAggT P t) (P.cellsOf t)
def cresOK:ResultVar→Bool
  | .cell _ t=>(P.underlying t).isSome
  | .tmp _=>true
def cfunc (fn:Func):Option AFunc:=do
  let body←fn.body
  if !fn.results.all (cresOK P) then none else
  pure {ntmps:=fn.ntmps,results:=fn.results.toList.map (cres P),body:=←ccode P glob fn.ntmps body}
end
end Go.Abs
end
