/- Functions of the program on symbolic values: part d.
   Conditions: none. -/
import Derived.Test.YtjpnemidlgcmmaaGreatDoorPc
set_option linter.unusedSimpArgs false
set_option linter.unusedVariables false
set_option maxRecDepth 100000
set_option maxHeartbeats 16000000
noncomputable section
namespace Go.Abs
section
variable {F:FuncId→Option AFunc} {meth:Meth} {sm:Summ}
structure PtrD where
  b:Nat
  o:Nat
  x:Int
  deriving Inhabited
def ptrC (p:PtrD):List AV:=[.ptr p.b 0 p.o]
def PtrOk (h:Blks) (p:PtrD):Prop:=(∃ own e rows r,bget h p.b=some (.row own e rows)∧rows[0]? =some r∧(r.drop p.o).take 1=[.int .i64 p.x]∧p.o+1≤e)∧0≤p.x∧p.x≤9223372036854775807
theorem PtrOk.keep {m m':Mem} {p:PtrD} (H:PtrOk m.blks p) (k:Keep m m'):PtrOk m'.blks p:=by
  obtain ⟨⟨own,e,rows,r,h1,h2,h3,h4⟩,h5⟩:=H
  exact ⟨⟨own,e,rows,r,(k.get p.b (bget_lt h1)).trans h1,h2,h3,h4⟩,h5⟩
theorem PtrOk.bx {h:Blks} {p:PtrD} (H:PtrOk h p) (q:List (Option ABlk)):PtrOk (bxt h q) p:=by
  obtain ⟨⟨own,e,rows,r,h1,h2,h3,h4⟩,h5⟩:=H
  exact ⟨⟨own,e,rows,r,(bxt_old q h p.b (bget_lt h1)).trans h1,h2,h3,h4⟩,h5⟩
theorem PtrOk.ld {h:Blks} {p:PtrD} (H:PtrOk h p) (q:List (Option ABlk)):ald (bget (bxt h q)) false 1 (.ptr p.b 0 p.o)=some (.int .i64 p.x,[]):=by
  obtain ⟨⟨own,e,rows,r,h1,h2,h3,h4⟩,h5⟩:=H
  have h1:=(bxt_old q h p.b (bget_lt h1)).trans h1
  rw[o_ldg,h1,o_ldb]
  have hlt:Nat.ble e p.o=false:=by
    cases hq:Nat.ble e p.o with
    |false=>rfl
    |true=>have:=Nat.le_of_ble_eq_true hq;omega
  simp only[rowGet,hlt,cond_false,rowGet0,if_pos h4,h2,h3]
  rfl
def sumLen:List PtrD→Nat
  | []=>0
  |p::l=>numLen p.x+sumLen l
theorem sumLen_take {l:List PtrD} {i:Nat} (hi:i<l.length):sumLen (l.take (i+1))=sumLen (l.take i)+numLen (gt l i).x:=by
  have key: ∀ (l:List PtrD) (p:PtrD),sumLen (l++ [p])=sumLen l+numLen p.x:=fun l p=>by
    induction l with
    |nil=>simp[sumLen]
    |cons y l ih=>rw[List.cons_append,sumLen,ih,sumLen];omega
  rw[List.take_add_one,List.getElem?_eq_getElem hi,Option.toList_some,key,gt_eq hi]
def strs:List PtrD→List UInt8
  | []=> []
  |p::l=>putB p.x++strs l
theorem strs_len: ∀ l,(strs l).length=sumLen l
  | []=>rfl
  |p::l=>by rw[strs,List.length_append,putB_len,strs_len l,sumLen]
theorem strs_take {l:List PtrD} {i:Nat} (hi:i<l.length):strs (l.take (i+1))=strs (l.take i)++putB (gt l i).x:=by
  have key: ∀ (l:List PtrD) (p:PtrD),strs (l++ [p])=strs l++putB p.x:=fun l p=>by
    induction l with
    |nil=>simp[strs]
    |cons y l ih=>rw[List.cons_append,strs,ih,strs,List.append_assoc]
  rw[List.take_add_one,List.getElem?_eq_getElem hi,Option.toList_some,key,gt_eq hi]
theorem nl_le: ∀ f x,nl f x≤f+1
  |0,_=>by rw[nl];omega
  | f+1,x=>by
    rw[nl]
    split
    · omega
    · have:=nl_le f (x / 128);omega
theorem numLen_le (x:Int):numLen x≤11:=nl_le 10 x
theorem sumLen_le: ∀ l,sumLen l≤11*l.length
  | []=>by simp[sumLen]
  | p::l=>by
    have:=sumLen_le l
    have:=numLen_le p.x
    rw[sumLen,List.length_cons];omega
def H152 (sm:Summ):Prop:= ∀ (l:List PtrD) (v:AV) (m:Mem),SlAt m.blks 1 v (l.map ptrC)→(∀ p∈l,PtrOk m.blks p)→l.length≤1000→sm 152 [v] m=some (.str (strs l),m)
theorem e152 (hF:F 152=some AF152) (hs: ∀ vs m,sm 152 vs m=none) (n:Nat) (h:Blks) (lg d:List Nat) (h153:H153 sm) {l:List PtrD} {v:AV} (hv:SlAt h 1 v (l.map ptrC)) (hp: ∀ p∈l,PtrOk h p) (hw:l.length≤1000):Ev F meth sm (n+2000) 152 [v] ⟨h,lg,d⟩ (.str (strs l)):=by
  refine Ev.ofW ?_
  have lv:=hv.len
  simp+contextual -implicitDefEqProofs (maxSteps:=1000000) (maxDischargeDepth:=20) only[go_sem,simprocAttr,hs,hF,AF152,lv,List.length_map]
  refine WloopK l.length [X8,X3] (fun i=> [.int .i64 i,.str (strs (l.take i))]) (fun _=>True) (by omega) (by repeat first |apply Cl_b |apply Cl_q |apply Cl_r) ⟨rfl,trivial⟩ (fun i h' lg' g hi hP hK=> ?_) (fun h' lg' g hP hK=> ?_)
  · have a:=hK.all (lg:=lg) (d:=d) (by repeat first |exact LogOK.nil |apply LogOK.cons)
    have e:=(hK.sl hv).el hi
    have r:=rnd hi (by omega)
    have po:PtrOk h (gt l i):=hp _ (by rw[gt_eq hi];exact List.getElem_mem hi)
    have po':PtrOk h' (gt l i):=PtrOk.keep (m:=⟨bxt h [],lg,[]⟩) (m':=⟨h',lg',[]⟩) (po.bx []) hK
    have pl:=po'.ld
    have w:=wrapU po.2.1 (by have:=po.2.2;omega)
    have g1:=fun m=>h153 (gt l i).x m ⟨po.2.1,by have:=po.2.2;omega⟩
    have st:=strs_take hi
    have sz:(strs (l.take i)).length+(putB (gt l i).x).length≤1000000000000:=by
      rw[strs_len,putB_len]
      have h1:=sumLen_le (l.take i)
      have h2:=numLen_le (gt l i).x
      rw[List.length_take] at h1
      omega
    unfold ptrC at e
    simp+contextual -implicitDefEqProofs (maxSteps:=1000000) (maxDischargeDepth:=20) only[go_sem,simprocAttr,a,e,r,pl,w,g1,st,binStr,sz]
  · have a:=hK.all (lg:=lg) (d:=d) (by repeat first |exact LogOK.nil |apply LogOK.cons)
    have r:=rndl l.length
    simp+contextual -implicitDefEqProofs (maxSteps:=1000000) (maxDischargeDepth:=20) only[go_sem,simprocAttr,a,r,List.take_length]
end
section
variable {F:FuncId→Option AFunc} {meth:Meth} {sm:Summ}
def wholeB (b:BunD):Prop:=b.id.o=0∧b.total=b.data.length
instance (b:BunD):Decidable (wholeB b):=by unfold wholeB;infer_instance
def H151 (sm:Summ):Prop:= ∀ (b:BunD) (m:Mem),sm 151 [.agg (bunC b)] m=some (.bool (decide (wholeB b)),m)
theorem e151 (hF:F 151=some AF151) (hs: ∀ vs m,sm 151 vs m=none) (n:Nat) (h:Blks) (lg d:List Nat) {b:BunD}:Ev F meth sm (n+2000) 151 [.agg (bunC b)] ⟨h,lg,d⟩ (.bool (decide (wholeB b))):=by
  refine Ev.ofW ?_
  simp+contextual -implicitDefEqProofs (maxSteps:=1000000) (maxDischargeDepth:=20) only[go_sem,simprocAttr,hs,hF,AF151,bunC,r_vc,r_vp,mskO,Mem.more,bmore,nb_more,List.filter_nil,List.flatMap_nil,List.filter_cons,List.flatMap_cons,List.map_nil,List.map_cons,mask,unmask,AOp.reads,AOpnd.top,top_p,top_s,top_m,top_i,top_b,top_t,top_a,top_u,top_ns,top_s0,top_d,top_f,nb_beq,nb_blt,nb_add,nidOf,slotIn,Nat.beq_refl,clash,Bool.or_self,List.any_nil,List.any_cons,AOp.isMaker]
  (repeat' first |apply And.intro |intro _) <;>simp_all[wholeB]
def headI (b:BunD):Int:=if wholeB b then (if b.prio=0 then 180 else if b.prio=1 then 181 else 182) else (if b.prio=0 then 176 else if b.prio=1 then 177 else 178)
def frontB (b:BunD):List UInt8:=(([UInt8.ofNat (headI b).toNat]++putB b.id.n++putB b.id.s)++(putB b.dest++(putB b.born++putB b.life)))++(if wholeB b then [] else putB b.id.o++putB b.total)
theorem x152 (h152:H152 sm) {h:Blks} {r:List AV} (k:Nat) (ps:List (Nat × Int)) (l:List (Option ABlk)) (lg d:List Nat) (q0:bnth l 0=some (.row true 9 [r])) (q1:bnth l k=some (.row true 1 (ps.map fun p=> [.ptr (nb h 0) 0 p.1])))
    (hp: ∀ p∈ps,(r.drop p.1).take 1=[.int .i64 p.2]∧p.1+1≤9∧0≤p.2∧p.2≤9223372036854775807) (hl:ps.length≤1000):sm 152 [.slice (nb h k) 0 ps.length (some ps.length)] ⟨bxt h l,lg,d⟩=some (.str (strs (ps.map fun p=>⟨nb h 0,p.1,p.2⟩)),⟨bxt h l,lg,d⟩):=by
  refine h152 _ _ _ ?_ ?_ (by simpa using hl)
  · refine .some (nb h k) 0 (some ps.length) true _ (by simp) (by rw[nb_get,q1]) ?_ (fun q hq=>by cases hq;simp)
    simp only[List.map_map,List.drop_zero]
    exact List.take_of_length_le (by simp)
  · intro p hm
    obtain ⟨x,hx,rfl⟩:=List.mem_map.1 hm
    have hx:=hp x hx
    exact ⟨⟨true,9,_,r,by rw[nb_get,q0],rfl,hx.1,hx.2.1⟩,hx.2.2⟩
def H117 (sm:Summ):Prop:= ∀ (b:BunD) (own:Bool) (m:Mem),bget m.blks 0=some (.row own 1 headsR)→bunE b=0→0≤b.id.s→sm 117 [.agg (bunC b)] m=some (.str (frontB b),m)
theorem e117 (hF:F 117=some AF117) (hs: ∀ vs m,sm 117 vs m=none) (n:Nat) (h:Blks) (lg d:List Nat) (h151:H151 sm) (h152:H152 sm) (h153:H153 sm) {b:BunD} {own:Bool} (hg:bget h 0=some (.row own 1 headsR)) (hb:bunE b=0) (hq:0≤b.id.s):Ev F meth sm (n+2000) 117 [.agg (bunC b)] ⟨h,lg,d⟩ (.str (frontB b)):=by
  refine Ev.ofW ?_
  have ok:=bunE_ok hb
  have g0: ∀ q,bget (bxt h q) 0=some (.row own 1 headsR):=fun q=>(bxt_old q h 0 (bget_lt hg)).trans hg
  have g1:=fun m=>h151 b m
  have g3:=fun m=>h153 b.id.s m ⟨hq,by have:=ok.2.2.2.2.2.2.2.2.2.2.2.2.2;rw[idE] at this;split at this <;>omega⟩
  have pr:b.prio=0∨b.prio=1∨b.prio=2:=by omega
  unfold bunC at g1
  have n0: ∀ k,Nat.beq 0 (nb h k)=false:=fun k=>nb_beq_ne (bget_lt hg)
  have n1: ∀ k,Nat.beq (nb h k) 0=false:=fun k=>nb_beq_ne' (bget_lt hg)
  have so:=ok.2.2.2.2.2.2.2.2.2.2.2.2.2
  have on:1≤b.id.n∧b.id.n≤16∧0≤b.id.o∧b.id.o≤20000:=by rw[idE] at so;split at so <;>omega
  have x1:=fun (w:Int) l lg d (q0:bnth l 0=some (.row true 9 [[.int .i64 b.id.n,.int .u64 b.id.s,.int .i64 b.id.o,.int .i64 b.dest,.int .i64 w,.int .i64 b.born,.int .i64 b.life,.int .i64 b.total,.str b.data]])) q1=>x152 (h:=h) h152 1 [(0,b.id.n)] l lg d q0 q1 (by simp;omega) (by simp)
  have x2:=fun (w:Int) l lg d (q0:bnth l 0=some (.row true 9 [[.int .i64 b.id.n,.int .u64 b.id.s,.int .i64 b.id.o,.int .i64 b.dest,.int .i64 w,.int .i64 b.born,.int .i64 b.life,.int .i64 b.total,.str b.data]])) q1=>x152 (h:=h) h152 2 [(3,b.dest),(5,b.born),(6,b.life)] l lg d q0 q1 (by simp;omega) (by simp)
  have x3:=fun (w:Int) l lg d (q0:bnth l 0=some (.row true 9 [[.int .i64 b.id.n,.int .u64 b.id.s,.int .i64 b.id.o,.int .i64 b.dest,.int .i64 w,.int .i64 b.born,.int .i64 b.life,.int .i64 b.total,.str b.data]])) q1=>x152 (h:=h) h152 3 [(2,b.id.o),(7,b.total)] l lg d q0 q1 (by simp;omega) (by simp)
  simp only[List.length_cons,List.length_nil,List.map_cons,List.map_nil,strs,List.append_nil,Nat.zero_add,Nat.reduceAdd] at x1 x2 x3
  have z1:=numLen_le b.id.n
  have z2:=numLen_le b.id.s
  have z3:=numLen_le b.dest
  have z4:=numLen_le b.born
  have z5:=numLen_le b.life
  have z6:=numLen_le b.id.o
  have z7:=numLen_le b.total
  rcases pr with e1 |e1 |e1
  · rw[e1] at g1
    have x1:=x1 0
    have x2:=x2 0
    have x3:=x3 0
    simp+contextual -implicitDefEqProofs (maxSteps:=1000000) (maxDischargeDepth:=20) only[go_sem,simprocAttr,hs,hF,AF117,bunC,g1,g3,e1,g0,headsR,x1,x2,x3,r_vc,r_vp,mskO,Mem.more,bmore,nb_more,List.filter_nil,List.flatMap_nil,List.filter_cons,List.flatMap_cons,List.map_nil,List.map_cons,mask,unmask,AOp.reads,AOpnd.top,top_p,top_s,top_m,top_i,top_b,top_t,top_a,top_u,top_ns,top_s0,top_d,top_f,nb_beq,nb_blt,nb_add,nidOf,slotIn,Nat.beq_refl,clash,Bool.or_self,List.any_nil,List.any_cons,AOp.isMaker,w_p3,r_p3,binStr,bytesOf,n0,n1]
    (repeat' first |apply And.intro |intro _) <;>first |(simp only[List.length_append,putB_len];omega)|simp_all[frontB,headI]
  · rw[e1] at g1
    have x1:=x1 1
    have x2:=x2 1
    have x3:=x3 1
    simp+contextual -implicitDefEqProofs (maxSteps:=1000000) (maxDischargeDepth:=20) only[go_sem,simprocAttr,hs,hF,AF117,bunC,g1,g3,e1,g0,headsR,x1,x2,x3,r_vc,r_vp,mskO,Mem.more,bmore,nb_more,List.filter_nil,List.flatMap_nil,List.filter_cons,List.flatMap_cons,List.map_nil,List.map_cons,mask,unmask,AOp.reads,AOpnd.top,top_p,top_s,top_m,top_i,top_b,top_t,top_a,top_u,top_ns,top_s0,top_d,top_f,nb_beq,nb_blt,nb_add,nidOf,slotIn,Nat.beq_refl,clash,Bool.or_self,List.any_nil,List.any_cons,AOp.isMaker,w_p3,r_p3,binStr,bytesOf,n0,n1]
    (repeat' first |apply And.intro |intro _) <;>first |(simp only[List.length_append,putB_len];omega)|simp_all[frontB,headI]
  · rw[e1] at g1
    have x1:=x1 2
    have x2:=x2 2
    have x3:=x3 2
    simp+contextual -implicitDefEqProofs (maxSteps:=1000000) (maxDischargeDepth:=20) only[go_sem,simprocAttr,hs,hF,AF117,bunC,g1,g3,e1,g0,headsR,x1,x2,x3,r_vc,r_vp,mskO,Mem.more,bmore,nb_more,List.filter_nil,List.flatMap_nil,List.filter_cons,List.flatMap_cons,List.map_nil,List.map_cons,mask,unmask,AOp.reads,AOpnd.top,top_p,top_s,top_m,top_i,top_b,top_t,top_a,top_u,top_ns,top_s0,top_d,top_f,nb_beq,nb_blt,nb_add,nidOf,slotIn,Nat.beq_refl,clash,Bool.or_self,List.any_nil,List.any_cons,AOp.isMaker,w_p3,r_p3,binStr,bytesOf,n0,n1]
    (repeat' first |apply And.intro |intro _) <;>first |(simp only[List.length_append,putB_len];omega)|simp_all[frontB,headI]
end
section
variable {F:FuncId→Option AFunc} {meth:Meth} {sm:Summ}
theorem front_le (b:BunD):(frontB b).length≤78:=by
  have z1:=numLen_le b.id.n
  have z2:=numLen_le b.id.s
  have z3:=numLen_le b.dest
  have z4:=numLen_le b.born
  have z5:=numLen_le b.life
  have z6:=numLen_le b.id.o
  have z7:=numLen_le b.total
  rw[frontB]
  split <;>simp only[List.length_append,putB_len,List.length_cons,List.length_nil] <;>omega
def sizeB (b:BunD):Int:=if bunE b≠0 then 0 else (frontB b).length+numLen (b.data.length:Int)+b.data.length+4
theorem sizeB_le (b:BunD):0≤sizeB b∧sizeB b≤2000:=by
  rw[sizeB]
  split
  · omega
  · rename_i h
    have h:bunE b=0:=by omega
    have ok:=bunE_ok h
    have:=front_le b
    have:=numLen_le (b.data.length:Int)
    omega
def H78 (sm:Summ):Prop:= ∀ (b:BunD) (own:Bool) (m:Mem),bget m.blks 0=some (.row own 1 headsR)→0≤b.id.s→b.data.length≤1000000→I b.total→sm 78 [.agg (bunC b)] m=some (.tuple [.int .i64 (sizeB b),.int .i64 (bunE b)],m)
theorem e78 (hF:F 78=some AF78) (hs: ∀ vs m,sm 78 vs m=none) (n:Nat) (h:Blks) (lg d:List Nat) (h63:H63 sm) (h117:H117 sm) (h118:H118 sm) {b:BunD} {own:Bool} (hg:bget h 0=some (.row own 1 headsR)) (hq:0≤b.id.s) (w1:b.data.length≤1000000) (w2:I b.total):Ev F meth sm (n+2000) 78 [.agg (bunC b)] ⟨h,lg,d⟩ (.tuple [.int .i64 (sizeB b),.int .i64 (bunE b)]):=by
  refine Ev.ofW ?_
  have g0: ∀ q,bget (bxt h q) 0=some (.row own 1 headsR):=fun q=>(bxt_old q h 0 (bget_lt hg)).trans hg
  have g1:=fun m=>h63 b m w1 w2
  have g2:=fun (q:bunE b=0) l lg d=>h117 b own ⟨bxt h l,lg,d⟩ (g0 l) q hq
  have g3:=fun m=>h118 (b.data.length:Int) m ⟨by omega,by omega⟩
  have u1:IntKind.u64.wrap (b.data.length:Int)=b.data.length:=wrapU (by omega) (by omega)
  have f1:=front_le b
  have f2:=numLen_le (b.data.length:Int)
  have u2:IntKind.i64.wrap (((frontB b).length:Int)+(numLen (b.data.length:Int):Int))=((frontB b).length:Int)+(numLen (b.data.length:Int):Int):=wrapI (by omega) (by omega)
  have u3:IntKind.i64.wrap (((frontB b).length:Int)+(numLen (b.data.length:Int):Int)+(b.data.length:Int))=((frontB b).length:Int)+(numLen (b.data.length:Int):Int)+(b.data.length:Int):=wrapI (by omega) (by omega)
  have u4:IntKind.i64.wrap (((frontB b).length:Int)+(numLen (b.data.length:Int):Int)+(b.data.length:Int)+4)=((frontB b).length:Int)+(numLen (b.data.length:Int):Int)+(b.data.length:Int)+4:=wrapI (by omega) (by omega)
  unfold bunC at g1 g2
  simp+contextual -implicitDefEqProofs (maxSteps:=1000000) (maxDischargeDepth:=20) only[go_sem,simprocAttr,hs,hF,AF78,bunC,g1,g2,g3,u1,u2,u3,u4,r_vc,r_vp,mskO,Mem.more,bmore,nb_more,List.filter_nil,List.flatMap_nil,List.filter_cons,List.flatMap_cons,List.map_nil,List.map_cons,mask,unmask,AOp.reads,AOpnd.top,top_p,top_s,top_m,top_i,top_b,top_t,top_a,top_u,top_ns,top_s0,top_d,top_f,nb_beq,nb_blt,nb_add,nidOf,slotIn,Nat.beq_refl,clash,Bool.or_self,List.any_nil,List.any_cons,AOp.isMaker,w_p3,r_p3,binStr]
  (repeat' first |apply And.intro |intro _) <;>simp_all[sizeB]
end
section
variable {F:FuncId→Option AFunc} {meth:Meth} {sm:Summ}
def rq (x:Int):Nat→Int × List UInt8
  |0=>(x / 128,[UInt8.ofNat (IntKind.u8.wrap (x % 128)).toNat])
  |i+1=>((rq x i).1 / 128,UInt8.ofNat (IntKind.u8.wrap (128+(rq x i).1 % 128)).toNat::(rq x i).2)
theorem rq_len (x:Int): ∀ i,(rq x i).2.length=i+1
  |0=>rfl
  |i+1=>by rw[rq,List.length_cons,rq_len x i]
def refB (x:Int):List UInt8:=(rq x (numLen x - 1)).2
theorem nl_pos: ∀ f x,1≤nl f x
  |0,_=>by rw[nl];omega
  |f+1,x=>by rw[nl];split <;>omega
theorem refB_len (x:Int):(refB x).length=numLen x:=by
  have:=nl_pos 10 x
  rw[refB,rq_len,numLen];omega
structure Lf2 (x:Int) (i:Nat) (q:Int):Prop where
  a:0≤q
  b:q*128 ^ (i+1)≤18446744073709551615
  c:numLen x=i+1+(if q=0 then 0 else nl (9 - i) q)
theorem Lf2.zero {x:Int} (hx:U x):Lf2 x 0 (x / 128):=by
  obtain ⟨h0,h1⟩:=hx
  refine ⟨by omega,by simp;omega,?_⟩
  rw[numLen,nl]
  split
  · rename_i q;rw[if_pos (by omega)]
  · rename_i q;rw[if_neg (by omega)];show nl 9 (x / 128)+1=0+1+nl 9 (x / 128);omega
theorem Lf2.le {x:Int} {i:Nat} {q:Int} (H:Lf2 x i q):q≤18446744073709551615:=by
  have h1:(1:Int)≤128 ^ (i+1):=Int.pow_pos (n:=128) (m:=i+1) (by omega)
  have h2:=Int.mul_le_mul_of_nonneg_left h1 H.a
  have h3:=H.b
  omega
theorem Lf2.small {x:Int} {i:Nat} {q:Int} (H:Lf2 x i q) (hq:q≠0):i≤8:=by
  rcases Nat.lt_or_ge 8 i with h |h
  · exfalso
    have h1:=H.b
    have h0:=H.a
    have h3:(128:Int) ^ 10=1180591620717411303424:=by decide
    have h2:(128:Int) ^ 10≤128 ^ (i+1):=by
      rw[show i+1=10+(i+1 - 10) by omega,Int.pow_add]
      have h5:(1:Int)≤128 ^ (i+1 - 10):=Int.pow_pos (n:=128) (m:=i+1 - 10) (by omega)
      have h6:=Int.mul_le_mul_of_nonneg_left h5 (show (0:Int)≤128 ^ 10 by decide)
      omega
    have h4:(1:Int)*128 ^ (i+1)≤q*128 ^ (i+1):=Int.mul_le_mul_of_nonneg_right (by omega) (by omega)
    omega
  · exact h
theorem Lf2.step {x:Int} {i:Nat} {q:Int} (H:Lf2 x i q) (hq:q≠0):Lf2 x (i+1) (q / 128):=by
  have h8:=H.small hq
  have h0:=H.a
  refine ⟨by omega,?_,?_⟩
  · have h1:q / 128*128≤q:=by omega
    have h2:(0:Int)≤128 ^ (i+1):=by exact Int.pow_nonneg (by omega)
    have h3:=Int.mul_le_mul_of_nonneg_right h1 h2
    rw[Int.pow_succ,Int.mul_comm (128 ^ (i+1)) 128,←Int.mul_assoc]
    exact Int.le_trans h3 H.b
  · have h1:=H.c
    rw[if_neg hq,show 9 - i=(9 - (i+1))+1 by omega,nl] at h1
    split at h1
    · rw[if_pos (by omega)];omega
    · rw[if_neg (by omega)];omega
theorem Lf2.more {x:Int} {i:Nat} {q:Int} (H:Lf2 x i q) (hi:i<numLen x - 1):q≠0:=fun h=>by
  have:=H.c
  rw[if_pos h] at this
  omega
theorem Lf2.last {x:Int} {q:Int} (H:Lf2 x (numLen x - 1) q):q=0:=by
  have h1:=H.c
  have h2:=nl_pos 10 x
  have h3:=nl_pos (9 - (numLen x - 1)) q
  by_cases h:q=0
  · exact h
  · rw[if_neg h] at h1
    rw[←numLen] at h2
    omega
def H173 (sm:Summ):Prop:= ∀ (x:Int) (m:Mem),U x→sm 173 [.int .u64 x] m=some (.str (refB x),m)
theorem e173 (hF:F 173=some AF173) (hs: ∀ vs m,sm 173 vs m=none) (n:Nat) (h:Blks) (lg d:List Nat) {x:Int} (hx:U x):Ev F meth sm (n+2000) 173 [.int .u64 x] ⟨h,lg,d⟩ (.str (refB x)):=by
  refine Ev.ofW ?_
  have u0:x.tmod 128=x % 128:=Int.tmod_eq_emod_of_nonneg hx.1
  have u1:IntKind.u64.wrap (x % 128)=x % 128:=wrapU (by omega) (by omega)
  have u2:IntKind.u64.wrap (x.tdiv 128)=x / 128:=by
    have:=hx.2
    have:=hx.1
    rw[Int.tdiv_eq_ediv_of_nonneg hx.1];exact wrapU (by omega) (by omega)
  have nn:=numLen_le x
  simp+contextual -implicitDefEqProofs (maxSteps:=1000000) (maxDischargeDepth:=20) only[go_sem,simprocAttr,hs,hF,AF173,u0,u1,u2,r_vc,r_vp,mskO,Mem.more,bmore,nb_more,List.filter_nil,List.flatMap_nil,List.filter_cons,List.flatMap_cons,List.map_nil,List.map_cons,mask,unmask,AOp.reads,AOpnd.top,top_p,top_s,top_m,top_i,top_b,top_t,top_a,top_u,top_ns,top_s0,top_d,top_f,nb_beq,nb_blt,nb_add,nidOf,slotIn,Nat.beq_refl,clash,Bool.or_self,List.any_nil,List.any_cons,AOp.isMaker,w_p3,r_p3,binStr,bytesOf]
  refine WloopK (numLen x - 1) [X0,X3] (fun i=> [.int .u64 (rq x i).1,.str (rq x i).2]) (fun i=>Lf2 x i (rq x i).1) (by omega) (by repeat first |apply Cl_b |apply Cl_q |apply Cl_r) ⟨rfl,Lf2.zero hx⟩ (fun i h' lg' g hi hP hK=> ?_) (fun h' lg' g hP hK=> ?_)
  · have a:=hK.all (lg:=lg) (d:=d) (by repeat first |exact LogOK.nil |apply LogOK.cons)
    have hn:rq x (i+1)=((rq x i).1 / 128,UInt8.ofNat (IntKind.u8.wrap (128+(rq x i).1 % 128)).toNat::(rq x i).2):=rfl
    have hl:=rq_len x i
    generalize rq x i=pr at hP hn hl ⊢
    obtain ⟨q,s⟩:=pr
    simp only at hP hn hl ⊢
    have q0:=hP.a
    have q1:=hP.more hi
    have q2:=hP.le
    have qp:0<q:=by omega
    have v0:q.tmod 128=q % 128:=Int.tmod_eq_emod_of_nonneg q0
    have v1:IntKind.u64.wrap (q % 128)=q % 128:=wrapU (by omega) (by omega)
    have v2:IntKind.u64.wrap (q.tdiv 128)=q / 128:=by rw[Int.tdiv_eq_ediv_of_nonneg q0];exact wrapU (by omega) (by omega)
    have v3:IntKind.u64.wrap (128+q % 128)=128+q % 128:=wrapU (by omega) (by omega)
    simp+contextual -implicitDefEqProofs (maxSteps:=1000000) (maxDischargeDepth:=20) only[go_sem,simprocAttr,a,qp,v0,v1,v2,v3,hn,r_vc,r_vp,mskO,Mem.more,bmore,nb_more,List.filter_nil,List.flatMap_nil,List.filter_cons,List.flatMap_cons,List.map_nil,List.map_cons,mask,unmask,AOp.reads,AOpnd.top,top_p,top_s,top_m,top_i,top_b,top_t,top_a,top_u,top_ns,top_s0,top_d,top_f,nb_beq,nb_blt,nb_add,nidOf,slotIn,Nat.beq_refl,clash,Bool.or_self,List.any_nil,List.any_cons,AOp.isMaker,w_p3,r_p3,binStr,bytesOf]
    exact ⟨by omega,hP.step q1⟩
  · have a:=hK.all (lg:=lg) (d:=d) (by repeat first |exact LogOK.nil |apply LogOK.cons)
    have z:=hP.last
    simp+contextual -implicitDefEqProofs (maxSteps:=1000000) (maxDischargeDepth:=20) only[go_sem,simprocAttr,a,z,w_p3,r_p3,binStr]
    rfl
end
section
variable {F:FuncId→Option AFunc} {meth:Meth} {sm:Summ}
def H172 (sm:Summ):Prop:= ∀ (b:BunD) (m:Mem),sm 172 [.agg (bunC b)] m=some (.bool (decide (wholeB b)),m)
theorem e172 (hF:F 172=some AF172) (hs: ∀ vs m,sm 172 vs m=none) (n:Nat) (h:Blks) (lg d:List Nat) {b:BunD}:Ev F meth sm (n+2000) 172 [.agg (bunC b)] ⟨h,lg,d⟩ (.bool (decide (wholeB b))):=by
  refine Ev.ofW ?_
  simp+contextual -implicitDefEqProofs (maxSteps:=1000000) (maxDischargeDepth:=20) only[go_sem,simprocAttr,hs,hF,AF172,bunC,r_vc,r_vp,mskO,Mem.more,bmore,nb_more,List.filter_nil,List.flatMap_nil,List.filter_cons,List.flatMap_cons,List.map_nil,List.map_cons,mask,unmask,AOp.reads,AOpnd.top,top_p,top_s,top_m,top_i,top_b,top_t,top_a,top_u,top_ns,top_s0,top_d,top_f,nb_beq,nb_blt,nb_add,nidOf,slotIn,Nat.beq_refl,clash,Bool.or_self,List.any_nil,List.any_cons,AOp.isMaker]
  (repeat' first |apply And.intro |intro _) <;>simp_all[wholeB]
def rhead (b:BunD):Int:=if wholeB b then IntKind.u8.wrap (176+b.prio+4) else IntKind.u8.wrap (176+b.prio)
def rfrontB (b:BunD):List UInt8:=([UInt8.ofNat (rhead b).toNat]++refB b.id.n++refB b.id.s++refB b.dest++refB b.born++refB b.life)++(if wholeB b then [] else refB b.id.o++refB b.total)
theorem rfront_len (b:BunD):(rfrontB b).length=(frontB b).length:=by
  rw[rfrontB,frontB]
  split <;>simp only[List.length_append,putB_len,refB_len,List.length_cons,List.length_nil] <;>omega
def H157 (sm:Summ):Prop:= ∀ (b:BunD) (m:Mem),bunE b=0→0≤b.id.s→sm 157 [.agg (bunC b)] m=some (.str (rfrontB b),m)
theorem e157 (hF:F 157=some AF157) (hs: ∀ vs m,sm 157 vs m=none) (n:Nat) (h:Blks) (lg d:List Nat) (h172:H172 sm) (h173:H173 sm) {b:BunD} (hb:bunE b=0) (hq:0≤b.id.s):Ev F meth sm (n+2000) 157 [.agg (bunC b)] ⟨h,lg,d⟩ (.str (rfrontB b)):=by
  refine Ev.ofW ?_
  have ok:=bunE_ok hb
  have so:=ok.2.2.2.2.2.2.2.2.2.2.2.2.2
  have on:1≤b.id.n∧b.id.n≤16∧0≤b.id.o∧b.id.o≤20000∧b.id.s≤1099511627776:=by rw[idE] at so;split at so <;>omega
  have g1:=fun m=>h172 b m
  unfold bunC at g1
  have p1:=fun m=>h173 b.id.n m ⟨by omega,by omega⟩
  have p2:=fun m=>h173 b.id.s m ⟨by omega,by omega⟩
  have p3:=fun m=>h173 b.dest m ⟨by omega,by omega⟩
  have p4:=fun m=>h173 b.born m ⟨by omega,by omega⟩
  have p5:=fun m=>h173 b.life m ⟨by omega,by omega⟩
  have p6:=fun m=>h173 b.id.o m ⟨by omega,by omega⟩
  have p7:=fun m=>h173 b.total m ⟨by omega,by omega⟩
  have w1:IntKind.u64.wrap b.id.n=b.id.n:=wrapU (by omega) (by omega)
  have w3:IntKind.u64.wrap b.dest=b.dest:=wrapU (by omega) (by omega)
  have w4:IntKind.u64.wrap b.born=b.born:=wrapU (by omega) (by omega)
  have w5:IntKind.u64.wrap b.life=b.life:=wrapU (by omega) (by omega)
  have w6:IntKind.u64.wrap b.id.o=b.id.o:=wrapU (by omega) (by omega)
  have w7:IntKind.u64.wrap b.total=b.total:=wrapU (by omega) (by omega)
  have w8:IntKind.i64.wrap (176+b.prio)=176+b.prio:=wrapI (by omega) (by omega)
  have w9:IntKind.i64.wrap (176+b.prio+4)=176+b.prio+4:=wrapI (by omega) (by omega)
  have z1:=numLen_le b.id.n
  have z2:=numLen_le b.id.s
  have z3:=numLen_le b.dest
  have z4:=numLen_le b.born
  have z5:=numLen_le b.life
  have z6:=numLen_le b.id.o
  have z7:=numLen_le b.total
  simp+contextual -implicitDefEqProofs (maxSteps:=1000000) (maxDischargeDepth:=20) only[go_sem,simprocAttr,hs,hF,AF157,bunC,g1,p1,p2,p3,p4,p5,p6,p7,w1,w3,w4,w5,w6,w7,w8,w9,r_vc,r_vp,mskO,Mem.more,bmore,nb_more,List.filter_nil,List.flatMap_nil,List.filter_cons,List.flatMap_cons,List.map_nil,List.map_cons,mask,unmask,AOp.reads,AOpnd.top,top_p,top_s,top_m,top_i,top_b,top_t,top_a,top_u,top_ns,top_s0,top_d,top_f,nb_beq,nb_blt,nb_add,nidOf,slotIn,Nat.beq_refl,clash,Bool.or_self,List.any_nil,List.any_cons,AOp.isMaker,w_p3,r_p3,binStr,bytesOf]
  (repeat' first |apply And.intro |intro _) <;>first |(simp only[List.length_append,refB_len];omega)|simp_all[rfrontB,rhead]
def H158 (sm:Summ):Prop:= ∀ (s:List UInt8) (m:Mem),s.length≤1000000→sm 158 [.str s] m=some (.str (refB (s.length:Int)++s),m)
theorem e158 (hF:F 158=some AF158) (hs: ∀ vs m,sm 158 vs m=none) (n:Nat) (h:Blks) (lg d:List Nat) (h173:H173 sm) {s:List UInt8} (hw:s.length≤1000000):Ev F meth sm (n+2000) 158 [.str s] ⟨h,lg,d⟩ (.str (refB (s.length:Int)++s)):=by
  refine Ev.ofW ?_
  have p1:=fun m=>h173 (s.length:Int) m ⟨by omega,by omega⟩
  have w1:IntKind.u64.wrap (s.length:Int)=s.length:=wrapU (by omega) (by omega)
  have z1:=numLen_le (s.length:Int)
  simp+contextual -implicitDefEqProofs (maxSteps:=1000000) (maxDischargeDepth:=20) only[go_sem,simprocAttr,hs,hF,AF158,p1,w1,w_p3,r_p3,binStr]
  simp only[refB_len];omega
end
section
variable {F:FuncId→Option AFunc} {meth:Meth} {sm:Summ}
def xor32 (x y:Int):Int:=IntKind.u32.wrap ((BitVec.ofInt IntKind.u32.bits x ^^^ BitVec.ofInt IntKind.u32.bits y).toNat:Int)
def dn (x:Int):Int:=if x.tmod 2=1 then xor32 (IntKind.u32.wrap (x.tdiv 2)) 2197175160 else IntKind.u32.wrap (x.tdiv 2)
def H179 (sm:Summ):Prop:= ∀ (x:Int) (m:Mem),sm 179 [.int .u32 x] m=some (.int .u32 (dn x),m)
theorem e179 (hF:F 179=some AF179) (hs: ∀ vs m,sm 179 vs m=none) (n:Nat) (h:Blks) (lg d:List Nat) {x:Int}:Ev F meth sm (n+2000) 179 [.int .u32 x] ⟨h,lg,d⟩ (.int .u32 (dn x)):=by
  refine Ev.ofW ?_
  simp+contextual -implicitDefEqProofs (maxSteps:=1000000) (maxDischargeDepth:=20) only[go_sem,simprocAttr,hs,hF,AF179]
  exact ⟨fun q=>by rw[dn,if_pos q];rfl,fun q=>by rw[dn,if_neg q]⟩
def fourB (x:Int):List UInt8:=[UInt8.ofNat (IntKind.u8.wrap (x.fdiv (2 ^ min 24 IntKind.u32.bits))).toNat,
        UInt8.ofNat (IntKind.u8.wrap (x.fdiv (2 ^ min 16 IntKind.u32.bits))).toNat,
        UInt8.ofNat (IntKind.u8.wrap (x.fdiv (2 ^ min 8 IntKind.u32.bits))).toNat,
        UInt8.ofNat (IntKind.u8.wrap x).toNat]
def H159 (sm:Summ):Prop:= ∀ (x:Int) (m:Mem),sm 159 [.int .u32 x] m=some (.str (fourB x),m)
theorem e159 (hF:F 159=some AF159) (hs: ∀ vs m,sm 159 vs m=none) (n:Nat) (h:Blks) (lg d:List Nat) {x:Int}:Ev F meth sm (n+2000) 159 [.int .u32 x] ⟨h,lg,d⟩ (.str (fourB x)):=by
  refine Ev.ofW ?_
  simp+contextual -implicitDefEqProofs (maxSteps:=1000000) (maxDischargeDepth:=20) only[go_sem,simprocAttr,hs,hF,AF159,r_vc,r_vp,mskO,Mem.more,bmore,nb_more,List.filter_nil,List.flatMap_nil,List.filter_cons,List.flatMap_cons,List.map_nil,List.map_cons,mask,unmask,AOp.reads,AOpnd.top,top_p,top_s,top_m,top_i,top_b,top_t,top_a,top_u,top_ns,top_s0,top_d,top_f,nb_beq,nb_blt,nb_add,nidOf,slotIn,Nat.beq_refl,clash,Bool.or_self,List.any_nil,List.any_cons,AOp.isMaker,bytesOf]
  rfl
def dns (x:Int):Nat→Int
  |0=>x
  |i+1=>dn (dns x i)
def b32 (x y:Int):Int:=dns (xor32 x (IntKind.u32.wrap y)) 8
def H174 (sm:Summ):Prop:= ∀ (x y:Int) (m:Mem),sm 174 [.int .u32 x,.int .u8 y] m=some (.int .u32 (b32 x y),m)
theorem e174 (hF:F 174=some AF174) (hs: ∀ vs m,sm 174 vs m=none) (n:Nat) (h:Blks) (lg d:List Nat) (h179:H179 sm) {x y:Int}:Ev F meth sm (n+2000) 174 [.int .u32 x,.int .u8 y] ⟨h,lg,d⟩ (.int .u32 (b32 x y)):=by
  refine Ev.ofW ?_
  have g:=fun x m=>h179 x m
  simp+contextual -implicitDefEqProofs (maxSteps:=1000000) (maxDischargeDepth:=20) only[go_sem,simprocAttr,hs,hF,AF174]
  refine WloopK 8 [X5,X0] (fun i=> [.int .i64 i,.int .u32 (dns (xor32 x (IntKind.u32.wrap y)) i)]) (fun _=>True) (by omega) (by repeat first |apply Cl_b |apply Cl_q |apply Cl_r) ⟨rfl,trivial⟩ (fun i h' lg' g1 hi hP hK=> ?_) (fun h' lg' g1 hP hK=> ?_)
  · have a:=hK.all (lg:=lg) (d:=d) (by repeat first |exact LogOK.nil |apply LogOK.cons)
    have r:=rnd hi (by omega)
    have st:dns (xor32 x (IntKind.u32.wrap y)) (i+1)=dn (dns (xor32 x (IntKind.u32.wrap y)) i):=rfl
    have l8:((i:Int)<8)=True:=by simp;omega
    simp+contextual -implicitDefEqProofs (maxSteps:=1000000) (maxDischargeDepth:=20) only[go_sem,simprocAttr,a,r,g,st,l8]
  · have a:=hK.all (lg:=lg) (d:=d) (by repeat first |exact LogOK.nil |apply LogOK.cons)
    have l8:(((8:Nat):Int)<8)=False:=by simp
    simp+contextual -implicitDefEqProofs (maxSteps:=1000000) (maxDischargeDepth:=20) only[go_sem,simprocAttr,a,l8]
    rfl
def crs (s:List UInt8):Nat→Int
  |0=>4294967295
  |i+1=>b32 (crs s i) ((gt s i).toNat:Int)
def crc (s:List UInt8):Int:=xor32 (crs s s.length) 4294967295
def H160 (sm:Summ):Prop:= ∀ (s:List UInt8) (m:Mem),s.length≤1500→sm 160 [.str s] m=some (.int .u32 (crc s),m)
theorem e160 (hF:F 160=some AF160) (hs: ∀ vs m,sm 160 vs m=none) (n:Nat) (h:Blks) (lg d:List Nat) (h174:H174 sm) {s:List UInt8} (hw:s.length≤1500):Ev F meth sm (n+2000) 160 [.str s] ⟨h,lg,d⟩ (.int .u32 (crc s)):=by
  refine Ev.ofW ?_
  have g:=fun x y m=>h174 x y m
  simp+contextual -implicitDefEqProofs (maxSteps:=1000000) (maxDischargeDepth:=20) only[go_sem,simprocAttr,hs,hF,AF160]
  refine WloopK s.length [X4,X3] (fun i=> [.int .i64 i,.int .u32 (crs s i)]) (fun _=>True) (by omega) (by repeat first |apply Cl_b |apply Cl_q |apply Cl_r) ⟨rfl,trivial⟩ (fun i h' lg' g1 hi hP hK=> ?_) (fun h' lg' g1 hP hK=> ?_)
  · have a:=hK.all (lg:=lg) (d:=d) (by repeat first |exact LogOK.nil |apply LogOK.cons)
    have r:=rnd hi (by omega)
    have st:crs s (i+1)=b32 (crs s i) ((gt s i).toNat:Int):=rfl
    have ix:s[i]? =some (gt s i):=by rw[gt_eq hi,List.getElem?_eq_getElem hi]
    simp+contextual -implicitDefEqProofs (maxSteps:=1000000) (maxDischargeDepth:=20) only[go_sem,simprocAttr,a,r,g,st,ix]
  · have a:=hK.all (lg:=lg) (d:=d) (by repeat first |exact LogOK.nil |apply LogOK.cons)
    have r:=rndl s.length
    simp+contextual -implicitDefEqProofs (maxSteps:=1000000) (maxDischargeDepth:=20) only[go_sem,simprocAttr,a,r]
    rfl
def encB (b:BunD):List UInt8:=(rfrontB b++(refB (b.data.length:Int)++b.data))++fourB (crc (rfrontB b++(refB (b.data.length:Int)++b.data)))
theorem enc_len (b:BunD):((encB b).length:Int)=(frontB b).length+numLen (b.data.length:Int)+b.data.length+4:=by
  have:(fourB (crc (rfrontB b++(refB (b.data.length:Int)++b.data)))).length=4:=rfl
  rw[encB,List.length_append,List.length_append,List.length_append,this,rfront_len,refB_len]
  omega
def H122 (sm:Summ):Prop:= ∀ (b:BunD) (m:Mem),0≤b.id.s→b.data.length≤1000000→I b.total→sm 122 [.agg (bunC b)] m=some (.tuple [.str (if bunE b≠0 then [] else encB b),.int .i64 (bunE b)],m)
theorem e122 (hF:F 122=some AF122) (hs: ∀ vs m,sm 122 vs m=none) (n:Nat) (h:Blks) (lg d:List Nat) (h68:H68 sm) (h157:H157 sm) (h158:H158 sm) (h159:H159 sm) (h160:H160 sm) {b:BunD} (hq:0≤b.id.s) (w1:b.data.length≤1000000) (w2:I b.total):Ev F meth sm (n+2000) 122 [.agg (bunC b)] ⟨h,lg,d⟩ (.tuple [.str (if bunE b≠0 then [] else encB b),.int .i64 (bunE b)]):=by
  refine Ev.ofW ?_
  have g1:=fun m=>h68 b m w1 w2
  have g2:=fun (q:bunE b=0) m=>h157 b m q hq
  have g3:=fun m=>h158 b.data m w1
  have f1:=rfront_len b
  have f2:=front_le b
  have f3:=numLen_le (b.data.length:Int)
  have g4:=fun (q:bunE b=0) m=>h160 (rfrontB b++(refB (b.data.length:Int)++b.data)) m (by have:=bunE_ok q;simp only[List.length_append,refB_len];omega)
  have g5:=fun x m=>h159 x m
  unfold bunC at g1 g2
  have f4: ∀ x,(fourB x).length=4:=fun _=>rfl
  simp+contextual -implicitDefEqProofs (maxSteps:=1000000) (maxDischargeDepth:=20) only[go_sem,simprocAttr,hs,hF,AF122,bunC,g1,g2,g3,g4,g5,r_vc,r_vp,mskO,Mem.more,bmore,nb_more,List.filter_nil,List.flatMap_nil,List.filter_cons,List.flatMap_cons,List.map_nil,List.map_cons,mask,unmask,AOp.reads,AOpnd.top,top_p,top_s,top_m,top_i,top_b,top_t,top_a,top_u,top_ns,top_s0,top_d,top_f,nb_beq,nb_blt,nb_add,nidOf,slotIn,Nat.beq_refl,clash,Bool.or_self,List.any_nil,List.any_cons,AOp.isMaker,w_p3,r_p3,binStr]
  (repeat' first |apply And.intro |intro _) <;>first |(simp only[List.length_append,refB_len,f4];omega)|simp_all[encB]
def H83 (sm:Summ):Prop:= ∀ (b:BunD) (m:Mem),0≤b.id.s→b.data.length≤1000000→I b.total→sm 83 [.agg (bunC b)] m=some (.tuple [.int .i64 (sizeB b),.int .i64 (bunE b)],m)
theorem e83 (hF:F 83=some AF83) (hs: ∀ vs m,sm 83 vs m=none) (n:Nat) (h:Blks) (lg d:List Nat) (h122:H122 sm) {b:BunD} (hq:0≤b.id.s) (w1:b.data.length≤1000000) (w2:I b.total):Ev F meth sm (n+2000) 83 [.agg (bunC b)] ⟨h,lg,d⟩ (.tuple [.int .i64 (sizeB b),.int .i64 (bunE b)]):=by
  refine Ev.ofW ?_
  have g1:=fun m=>h122 b m hq w1 w2
  have e0:(((if bunE b≠0 then [] else encB b).length:Nat):Int)=sizeB b:=by
    rw[sizeB]
    split
    · rfl
    · exact enc_len b
  unfold bunC at g1
  generalize (if bunE b≠0 then [] else encB b)=s at g1 e0
  simp+contextual -implicitDefEqProofs (maxSteps:=1000000) (maxDischargeDepth:=20) only[go_sem,simprocAttr,hs,hF,AF83,bunC,g1,e0]
end
section
variable {F:FuncId→Option AFunc} {meth:Meth} {sm:Summ}
def sumI:List Int→Int
  | []=>0
  |x::l=>x+sumI l
theorem sumI_app: ∀ a b,sumI (a++b)=sumI a+sumI b
  | [],b=>by simp[sumI]
  |x::a,b=>by rw[List.cons_append,sumI,sumI_app a b,sumI];omega
theorem sumI_pos: ∀ {l:List Int},(∀ x∈l,0≤x)→0≤sumI l
  | [],_=>by simp[sumI]
  | x::l,h=>by
    have h1:=h x (by simp)
    have h2:=sumI_pos (l:=l) fun y hy=>h y (by simp[hy])
    rw[sumI];omega
theorem sumI_take {l:List Int} {i:Nat} (hi:i<l.length):sumI (l.take (i+1))=sumI (l.take i)+gt l i:=by
  rw[List.take_add_one,List.getElem?_eq_getElem hi,Option.toList_some,sumI_app,gt_eq hi,sumI,sumI];omega
theorem sumI_le {l:List Int} (h: ∀ x∈l,0≤x) (i:Nat):0≤sumI (l.take i)∧sumI (l.take i)≤sumI l:=by
  have h1:=sumI_app (l.take i) (l.drop i)
  rw[List.take_append_drop] at h1
  have h2:=sumI_pos (l:=l.drop i) fun x hx=>h x (List.mem_of_mem_drop hx)
  have h3:=sumI_pos (l:=l.take i) fun x hx=>h x (List.mem_of_mem_take hx)
  omega
def H155 (sm:Summ):Prop:= ∀ (l:List Int) (v:AV) (m:Mem),SlAt m.blks 1 v (l.map u64C)→(∀ x∈l,0≤x)→sumI l≤1099511627776→l.length≤1000→sm 155 [v] m=some (.int .u64 (sumI l),m)
theorem e155 (hF:F 155=some AF155) (hs: ∀ vs m,sm 155 vs m=none) (n:Nat) (h:Blks) (lg d:List Nat) {l:List Int} {v:AV} (hv:SlAt h 1 v (l.map u64C)) (h0: ∀ x∈l,0≤x) (hm:sumI l≤1099511627776) (hw:l.length≤1000):Ev F meth sm (n+2000) 155 [v] ⟨h,lg,d⟩ (.int .u64 (sumI l)):=by
  refine Ev.ofW ?_
  have lv:=hv.len
  simp+contextual -implicitDefEqProofs (maxSteps:=1000000) (maxDischargeDepth:=20) only[go_sem,simprocAttr,hs,hF,AF155,lv,List.length_map]
  refine WloopK l.length [X8,X3] (fun i=> [.int .i64 i,.int .u64 (sumI (l.take i))]) (fun _=>True) (by omega) (by repeat first |apply Cl_b |apply Cl_q |apply Cl_r) ⟨rfl,trivial⟩ (fun i h' lg' g hi hP hK=> ?_) (fun h' lg' g hP hK=> ?_)
  · have a:=hK.all (lg:=lg) (d:=d) (by repeat first |exact LogOK.nil |apply LogOK.cons)
    have e:=(hK.sl hv).el hi
    have r:=rnd hi (by omega)
    have b0:=sumI_le h0 i
    have b1:=sumI_le h0 (i+1)
    have st:=sumI_take hi
    rw[st] at b1
    have x0:0≤gt l i:=h0 _ (by rw[gt_eq hi];exact List.getElem_mem hi)
    have w:IntKind.u64.wrap (sumI (l.take i)+gt l i)=sumI (l.take i)+gt l i:=wrapU (by omega) (by omega)
    have c1:(2199023255552<gt l i)=False:=by simp;omega
    have c2:(1099511627776<sumI (l.take i)+gt l i)=False:=by simp;omega
    unfold u64C at e
    simp+contextual -implicitDefEqProofs (maxSteps:=1000000) (maxDischargeDepth:=20) only[go_sem,simprocAttr,a,e,r,w,st,c1,c2]
  · have a:=hK.all (lg:=lg) (d:=d) (by repeat first |exact LogOK.nil |apply LogOK.cons)
    have r:=rndl l.length
    simp+contextual -implicitDefEqProofs (maxSteps:=1000000) (maxDischargeDepth:=20) only[go_sem,simprocAttr,a,r,List.take_length]
end
section
variable {F:FuncId→Option AFunc} {meth:Meth} {sm:Summ}
def acct (q s:Int) (v:AV) (R:List Int):List (List AV):=[.int .u64 q]::[.int .u64 s]::[v]::R.map u64C
theorem acct_sl {h:Blks} {b:Nat} {own:Bool} {q s:Int} {v:AV} {R:List Int} (hb:bget h b=some (.row own 1 (acct q s v R))) (hl:R.length=16) (c:Option Nat) (hc: ∀ k,c=some k→16≤k):SlAt h 1 (.slice b 3 16 c) (R.map u64C):=
  .some b 3 c own _ (by simp[hl]) hb (by simp only[acct,List.drop_succ_cons,List.drop_zero,List.length_map];exact List.take_of_length_le (by simp)) (fun k hk=>by have:=hc k hk;simp[hl];omega)
def H156 (sm:Summ):Prop:= ∀ (b:Nat) (own:Bool) (q s:Int) (v:AV) (R:List Int) (m:Mem),bget m.blks b=some (.row own 1 (acct q s v R))→R.length=16→(∀ x∈R,0≤x)→sumI R≤1099511627776→sm 156 [.ptr b 0 0] m=some (.int .u64 (sumI R),m)
theorem e156 (hF:F 156=some AF156) (hs: ∀ vs m,sm 156 vs m=none) (n:Nat) (h:Blks) (lg d:List Nat) (h155:H155 sm) {b:Nat} {own:Bool} {q s:Int} {v:AV} {R:List Int} (hb:bget h b=some (.row own 1 (acct q s v R))) (hl:R.length=16) (h0: ∀ x∈R,0≤x) (hm:sumI R≤1099511627776):Ev F meth sm (n+2000) 156 [.ptr b 0 0] ⟨h,lg,d⟩ (.int .u64 (sumI R)):=by
  refine Ev.ofW ?_
  have g0: ∀ l,bget (bxt h l) b=some (.row own 1 (acct q s v R)):=fun l=>(bxt_old l h b (bget_lt hb)).trans hb
  have g1:=fun l lg d=>h155 R (.slice b 3 16 (some 16)) ⟨bxt h l,lg,d⟩ (acct_sl (g0 l) hl (some 16) (fun k hk=>by cases hk;omega)) h0 hm (by omega)
  have ln: ∀ v,(acct q s v R).length=19:=fun v=>by simp[acct,hl]
  simp+contextual -implicitDefEqProofs (maxSteps:=1000000) (maxDischargeDepth:=20) only[go_sem,simprocAttr,hs,hF,AF156,g0,ln,g1]
def H120 (sm:Summ):Prop:= ∀ (b:Nat) (own:Bool) (q s:Int) (v:AV) (R:List Int) (m:Mem),bget m.blks b=some (.row own 1 (acct q s v R))→R.length=16→(∀ x∈R,0≤x)→sumI R≤1099511627776→sm 120 [.ptr b 0 0] m=some (.int .u64 (IntKind.u64.wrap (IntKind.u64.wrap (q - s) - sumI R)),m)
theorem e120 (hF:F 120=some AF120) (hs: ∀ vs m,sm 120 vs m=none) (n:Nat) (h:Blks) (lg d:List Nat) (h156:H156 sm) {b:Nat} {own:Bool} {q s:Int} {v:AV} {R:List Int} (hb:bget h b=some (.row own 1 (acct q s v R))) (hl:R.length=16) (h0: ∀ x∈R,0≤x) (hm:sumI R≤1099511627776):Ev F meth sm (n+2000) 120 [.ptr b 0 0] ⟨h,lg,d⟩ (.int .u64 (IntKind.u64.wrap (IntKind.u64.wrap (q - s) - sumI R))):=by
  refine Ev.ofW ?_
  have g0: ∀ l,bget (bxt h l) b=some (.row own 1 (acct q s v R)):=fun l=>(bxt_old l h b (bget_lt hb)).trans hb
  have g1:=fun l lg d=>h156 b own q s v R ⟨bxt h l,lg,d⟩ (g0 l) hl h0 hm
  have d0: ∀ l,ald (bget (bxt h l)) false 1 (.ptr b 0 0)=some (.int .u64 q,[]):=fun l=>by rw[o_ldg,g0];rfl
  have d1: ∀ l,ald (bget (bxt h l)) false 1 (.ptr b 0 1)=some (.int .u64 s,[]):=fun l=>by rw[o_ldg,g0];rfl
  simp+contextual -implicitDefEqProofs (maxSteps:=1000000) (maxDischargeDepth:=20) only[go_sem,simprocAttr,hs,hF,AF120,g0,g1,d0,d1,r_vc,r_vp,mskO,Mem.more,bmore,nb_more,List.filter_nil,List.flatMap_nil,List.filter_cons,List.flatMap_cons,List.map_nil,List.map_cons,mask,unmask,AOp.reads,AOpnd.top,top_p,top_s,top_m,top_i,top_b,top_t,top_a,top_u,top_ns,top_s0,top_d,top_f,nb_beq,nb_blt,nb_add,nidOf,slotIn,Nat.beq_refl,clash,Bool.or_self,List.any_nil,List.any_cons,AOp.isMaker]
end
section
variable {F:FuncId→Option AFunc} {meth:Meth} {sm:Summ}
theorem split16 {R:List Int} (h:R.length=16):R=[gt R 0,gt R 1,gt R 2,gt R 3,gt R 4,gt R 5,gt R 6,gt R 7,gt R 8,gt R 9,gt R 10,gt R 11,gt R 12,gt R 13,gt R 14,gt R 15]:=by
  apply List.ext_getElem (by simp[h])
  intro i h1 h2
  have:i<16:=by omega
  rw[←gt_eq h1]
  rcases (show i=0∨i=1∨i=2∨i=3∨i=4∨i=5∨i=6∨i=7∨i=8∨i=9∨i=10∨i=11∨i=12∨i=13∨i=14∨i=15 by omega) with rfl |rfl |rfl |rfl |rfl |rfl |rfl |rfl |rfl |rfl |rfl |rfl |rfl |rfl |rfl |rfl <;>rfl
theorem SlAt.arr {h:Blks} {v:AV} {R:List Int} (H:SlAt h 1 v (R.map u64C)) (hl:R.length=16): ∃ b i c,v= .slice b i 16 c∧b<h.length∧(∀ l,ald (bget (bxt h l)) true 16 (AV.ptr b i 0)=Option.some (AV.agg (R.map fun x=>AV.int .u64 x),[])):=by
  rcases H with ⟨hn,_⟩|⟨b,i,c,own,rows,rfl,hb,hw,hc⟩
  · rw[List.map_eq_nil_iff] at hn;rw[hn] at hl;cases hl
  · rw[List.length_map,hl] at hw
    refine ⟨b,i,c,by rw[List.length_map,hl],bget_lt hb,fun l=> ?_⟩
    have hlen:i+16≤rows.length:=by
      have:=congrArg List.length hw
      simp only[List.length_take,List.length_drop,List.length_map] at this
      omega
    have hf: ∀ l:List Int,(l.map u64C).flatten=l.map fun x=>AV.int .u64 x:=fun l=>by
      induction l with
      |nil=>rfl
      |cons x l ih=>rw[List.map_cons,List.flatten_cons,ih];rfl
    rw[o_ldg,bxt_old l h b (bget_lt hb),hb,o_ldb]
    have e:rowGet 1 rows i 0 16=Option.some (R.map fun x=>AV.int .u64 x):=by
      show rowGet0 1 rows i 0 16=_
      rw[rowGet0,if_neg (by omega),if_pos ⟨rfl,by omega,by omega⟩,show 16 / 1=16 from rfl,hw,hf]
    rw[e]
    rfl
theorem e79 (hF:F 79=some AF79) (hs: ∀ vs m,sm 79 vs m=none) (n:Nat) (h:Blks) (lg d:List Nat) (s119: ∀ vs m,sm 119 vs m=none) (F119:F 119=some AF119) (s116: ∀ vs m,sm 116 vs m=none) (F116:F 116=some AF116) (h120:H120 sm) (h155:H155 sm) {q s x:Int} {v:AV} {R:List Int} (hv:SlAt h 1 v (R.map u64C)) (hl:R.length=16) (h0: ∀ x∈R,0≤x) (s0:0≤s) (hm:s+sumI R≤q) (hq:q≤1099511627776) (x0:0≤x) (x1:x≤1099511627776):
    Wa F meth sm (n+1000) (.fn 79) [.agg [.int .u64 q,.int .u64 s,v],.int .u64 x] ⟨bxt h [],lg,d⟩ (Qk ⟨h,lg,d⟩ fun w h'=>if s+x+sumI R≤q then ∃ v',w= .tuple [.agg [.int .u64 q,.int .u64 (s+x),v'],.int .i64 0]∧SlAt h' 1 v' (R.map u64C) else w= .tuple [.agg [.int .u64 0,.int .u64 0,.nilslice],.int .i64 5]):=by
  obtain ⟨b,i,c,rfl,hbl,ld⟩:=hv.arr hl
  have e:=split16 hl
  have hp:=sumI_pos h0
  generalize hT:sumI R=T at hm hp ⊢
  generalize gt R 0=r0,gt R 1=r1,gt R 2=r2,gt R 3=r3,gt R 4=r4,gt R 5=r5,gt R 6=r6,gt R 7=r7,gt R 8=r8,gt R 9=r9,gt R 10=r10,gt R 11=r11,gt R 12=r12,gt R 13=r13,gt R 14=r14,gt R 15=r15 at e
  subst e
  simp only[List.map_cons,List.map_nil] at ld
  have q1:(1099511627776<q)=False:=by simp;omega
  have nbq: ∀ k,Nat.beq b (nb h k)=false:=fun k=>nb_beq_ne hbl
  have nbp: ∀ k,Nat.beq (nb h k) b=false:=fun k=>nb_beq_ne' hbl
  have g155:=fun l lg d (p:bnth l 5=some (.row true 1 [[.int .u64 s],[.int .u64 r0],[.int .u64 r1],[.int .u64 r2],[.int .u64 r3],[.int .u64 r4],[.int .u64 r5],[.int .u64 r6],[.int .u64 r7],[.int .u64 r8],[.int .u64 r9],[.int .u64 r10],[.int .u64 r11],[.int .u64 r12],[.int .u64 r13],[.int .u64 r14],[.int .u64 r15]]))=>h155 (s::[r0,r1,r2,r3,r4,r5,r6,r7,r8,r9,r10,r11,r12,r13,r14,r15]) (.slice (nb h 5) 0 17 none) ⟨bxt h l,lg,d⟩ (.some (nb h 5) 0 none true _ rfl (by rw[nb_get,p]) rfl (fun _ h=>by cases h)) (fun y hy=>by rcases List.mem_cons.1 hy with rfl |hy;exact s0;exact h0 y hy) (by rw[sumI,hT];omega) (by simp)
  rw[sumI,hT] at g155
  have g120:=fun l lg d (p:bnth l 3=some (.row true 1 [[.int .u64 q],[.int .u64 s],[.slice b i 16 c],[.int .u64 r0],[.int .u64 r1],[.int .u64 r2],[.int .u64 r3],[.int .u64 r4],[.int .u64 r5],[.int .u64 r6],[.int .u64 r7],[.int .u64 r8],[.int .u64 r9],[.int .u64 r10],[.int .u64 r11],[.int .u64 r12],[.int .u64 r13],[.int .u64 r14],[.int .u64 r15]]))=>h120 (nb h 3) true q s (.slice b i 16 c) [r0,r1,r2,r3,r4,r5,r6,r7,r8,r9,r10,r11,r12,r13,r14,r15] ⟨bxt h l,lg,d⟩ (by rw[nb_get,p];rfl) rfl h0 (by rw[hT];omega)
  rw[hT] at g120
  have fr:IntKind.u64.wrap (IntKind.u64.wrap (q - s) - T)=q - s - T:=by simp only[wrapu_mod];omega
  rw[fr] at g120
  have c1:(q<s+T)=False:=by simp;omega
  have i16:((16:Nat):Int)=16:=rfl
  have w1: ¬ q - s - T<x→IntKind.u64.wrap (s+x)=s+x:=fun h=>wrapU (by omega) (by omega)
  simp+contextual -implicitDefEqProofs (maxSteps:=1000000) (maxDischargeDepth:=20) only[go_sem,simprocAttr,hs,hF,AF79,s119,F119,AF119,s116,F116,AF116,ld,q1,i16,g155,g120,c1,w1,q_k,nbq,nbp,r_vc,r_vp,mskO,Mem.more,bmore,nb_more,List.filter_nil,List.flatMap_nil,List.filter_cons,List.flatMap_cons,List.map_nil,List.map_cons,mask,unmask,AOp.reads,AOpnd.top,top_p,top_s,top_m,top_i,top_b,top_t,top_a,top_u,top_ns,top_s0,top_d,top_f,nb_beq,nb_blt,nb_add,nidOf,slotIn,Nat.beq_refl,clash,Bool.or_self,List.any_nil,List.any_cons,AOp.isMaker,w_p3,r_p3,binStr]
  refine ⟨fun h1=>by rw[if_neg (by omega)];trivial,fun h1=> ?_⟩
  rw[if_pos (by omega)]
  exact ⟨_,rfl,.some (nb h 8) 0 none true _ rfl (by rw[nb_get];rfl) rfl (fun _ h=>by cases h)⟩
end
section
variable {F:FuncId→Option AFunc} {meth:Meth} {sm:Summ}
theorem gt_z {α:Type} [Inhabited α] (x:α) (l:List α):gt (x::l) 0=x:=rfl
theorem gt_s {α:Type} [Inhabited α] (x:α) (l:List α) (k:Nat):gt (x::l) (k+1)=gt l k:=rfl
theorem e81 (hF:F 81=some AF81) (hs: ∀ vs m,sm 81 vs m=none) (n:Nat) (h:Blks) (lg d:List Nat) (s119: ∀ vs m,sm 119 vs m=none) (F119:F 119=some AF119) (s116: ∀ vs m,sm 116 vs m=none) (F116:F 116=some AF116) (s121: ∀ vs m,sm 121 vs m=none) (F121:F 121=some AF121) (h120:H120 sm) (h155:H155 sm) {q s x:Int} {k:Nat} {v:AV} {R:List Int} (hk:k<16) (hv:SlAt h 1 v (R.map u64C)) (hl:R.length=16) (h0: ∀ x∈R,0≤x) (s0:0≤s) (hm:s+sumI R≤q) (hq:q≤1099511627776) (x0:0≤x) (x1:x≤18446744073709551615):
    Wa F meth sm (n+1000) (.fn 81) [.agg [.int .u64 q,.int .u64 s,v],.int .i64 ((k:Int)+1),.int .u64 x] ⟨bxt h [],lg,d⟩ (Qk ⟨h,lg,d⟩ fun w h'=>if s+x+sumI R≤q then ∃ v',w= .tuple [.agg [.int .u64 q,.int .u64 s,v'],.int .i64 0]∧SlAt h' 1 v' ((R.set k (gt R k+x)).map u64C) else w= .tuple [.agg [.int .u64 0,.int .u64 0,.nilslice],.int .i64 5]):=by
  obtain ⟨b,i,c,rfl,hbl,ld⟩:=hv.arr hl
  have e:=split16 hl
  have hp:=sumI_pos h0
  generalize hT:sumI R=T at hm hp ⊢
  generalize gt R 0=r0,gt R 1=r1,gt R 2=r2,gt R 3=r3,gt R 4=r4,gt R 5=r5,gt R 6=r6,gt R 7=r7,gt R 8=r8,gt R 9=r9,gt R 10=r10,gt R 11=r11,gt R 12=r12,gt R 13=r13,gt R 14=r14,gt R 15=r15 at e
  subst e
  simp only[List.map_cons,List.map_nil] at ld
  have q1:(1099511627776<q)=False:=by simp;omega
  have nbq: ∀ k,Nat.beq b (nb h k)=false:=fun k=>nb_beq_ne hbl
  have nbp: ∀ k,Nat.beq (nb h k) b=false:=fun k=>nb_beq_ne' hbl
  have g155:=fun l lg d (p:bnth l 6=some (.row true 1 [[.int .u64 s],[.int .u64 r0],[.int .u64 r1],[.int .u64 r2],[.int .u64 r3],[.int .u64 r4],[.int .u64 r5],[.int .u64 r6],[.int .u64 r7],[.int .u64 r8],[.int .u64 r9],[.int .u64 r10],[.int .u64 r11],[.int .u64 r12],[.int .u64 r13],[.int .u64 r14],[.int .u64 r15]]))=>h155 (s::[r0,r1,r2,r3,r4,r5,r6,r7,r8,r9,r10,r11,r12,r13,r14,r15]) (.slice (nb h 6) 0 17 none) ⟨bxt h l,lg,d⟩ (.some (nb h 6) 0 none true _ rfl (by rw[nb_get,p]) rfl (fun _ h=>by cases h)) (fun y hy=>by rcases List.mem_cons.1 hy with rfl |hy;exact s0;exact h0 y hy) (by rw[sumI,hT];omega) (by simp)
  rw[sumI,hT] at g155
  have g120:=fun l lg d (p:bnth l 4=some (.row true 1 [[.int .u64 q],[.int .u64 s],[.slice b i 16 c],[.int .u64 r0],[.int .u64 r1],[.int .u64 r2],[.int .u64 r3],[.int .u64 r4],[.int .u64 r5],[.int .u64 r6],[.int .u64 r7],[.int .u64 r8],[.int .u64 r9],[.int .u64 r10],[.int .u64 r11],[.int .u64 r12],[.int .u64 r13],[.int .u64 r14],[.int .u64 r15]]))=>h120 (nb h 4) true q s (.slice b i 16 c) [r0,r1,r2,r3,r4,r5,r6,r7,r8,r9,r10,r11,r12,r13,r14,r15] ⟨bxt h l,lg,d⟩ (by rw[nb_get,p];rfl) rfl h0 (by rw[hT];omega)
  rw[hT] at g120
  have fr:IntKind.u64.wrap (IntKind.u64.wrap (q - s) - T)=q - s - T:=by simp only[wrapu_mod];omega
  rw[fr] at g120
  have c1:(q<s+T)=False:=by simp;omega
  have i16:((16:Nat):Int)=16:=rfl
  have hT':=hT
  simp only[sumI] at hT'
  have rb:(0≤r0∧r0≤T)∧(0≤r1∧r1≤T)∧(0≤r2∧r2≤T)∧(0≤r3∧r3≤T)∧(0≤r4∧r4≤T)∧(0≤r5∧r5≤T)∧(0≤r6∧r6≤T)∧(0≤r7∧r7≤T)∧(0≤r8∧r8≤T)∧(0≤r9∧r9≤T)∧(0≤r10∧r10≤T)∧(0≤r11∧r11≤T)∧(0≤r12∧r12≤T)∧(0≤r13∧r13≤T)∧(0≤r14∧r14≤T)∧(0≤r15∧r15≤T):=by
    have z:=fun y hy=>h0 y hy
    simp only[List.mem_cons,List.not_mem_nil,or_false,forall_eq_or_imp,forall_eq] at z
    omega
  have w1: ∀ y:Int,0≤y→y≤T→ ¬ q - s - T<x→IntKind.u64.wrap (y+x)=y+x:=fun y h h2 h3=>wrapU (by omega) (by omega)
  have n1:((k:Int)+1<1)=False:=by simp;omega
  have n2:(16<(k:Int)+1)=False:=by simp;omega
  have n3:IntKind.i64.wrap ((k:Int)+1 - 1)=(k:Int):=by rw[wrapI (by omega) (by omega)];omega
  rcases (show k=0∨k=1∨k=2∨k=3∨k=4∨k=5∨k=6∨k=7∨k=8∨k=9∨k=10∨k=11∨k=12∨k=13∨k=14∨k=15 by omega) with rfl |rfl |rfl |rfl |rfl |rfl |rfl |rfl |rfl |rfl |rfl |rfl |rfl |rfl |rfl |rfl
  all_goals
    simp+contextual -implicitDefEqProofs (maxSteps:=1000000) (maxDischargeDepth:=20) only[go_sem,simprocAttr,hs,hF,AF81,s119,F119,AF119,s116,F116,AF116,s121,F121,AF121,ld,q1,i16,g155,g120,c1,w1,rb,n1,n2,n3,q_k,gt_z,gt_s,List.set_cons_zero,List.set_cons_succ,nbq,nbp,r_vc,r_vp,mskO,Mem.more,bmore,nb_more,List.filter_nil,List.flatMap_nil,List.filter_cons,List.flatMap_cons,List.map_nil,List.map_cons,mask,unmask,AOp.reads,AOpnd.top,top_p,top_s,top_m,top_i,top_b,top_t,top_a,top_u,top_ns,top_s0,top_d,top_f,nb_beq,nb_blt,nb_add,nidOf,slotIn,Nat.beq_refl,clash,Bool.or_self,List.any_nil,List.any_cons,AOp.isMaker,w_p3,r_p3,binStr]
    refine ⟨fun h1=>by rw[if_neg (by omega)];trivial,fun h1=> ?_⟩
    rw[if_pos (by omega)]
    exact ⟨_,rfl,.some (nb h 9) 0 none true _ rfl (by rw[nb_get];rfl) rfl (fun _ h=>by cases h)⟩
end
section
variable {F:FuncId→Option AFunc} {meth:Meth} {sm:Summ}
theorem Wc_bx {call:CallF} {wc:WCall} {fu:Nat} {c:ACode} {T:Tr} {h':Blks} {lg d:List Nat} {K:AExit→Tr→Mem→Prop} (H:Wc call wc meth fu c T ⟨bxt h' [],lg,d⟩ K):Wc call wc meth fu c T ⟨h',lg,d⟩ K:=H
theorem SlAt.nrefs {h:Blks} {e e':Nat} {v:AV} {es:List (List AV)} {b:Nat} {own:Bool} {rows:List (List AV)} (H:SlAt h e v es) (hb:bget h b=Option.some (.row own e' rows)) (hne:e≠e'): ∀ c∈v.refs,c≠b:=by
  rcases H with ⟨_,rfl |rfl |rfl⟩|⟨c,i,k,own,rows,rfl,hc,hw,hk⟩
  · intro c hc;cases hc
  · intro c hc;cases hc
  · intro c hc;cases hc
  · intro x hx
    simp only[AV.refs,List.mem_singleton] at hx
    subst hx
    intro hq
    rw[hq,hb] at hc
    simp only[Option.some.injEq,ABlk.row.injEq] at hc
    exact hne hc.2.1.symm
def sizesT (l:List BunD):Int:=sumI (l.map sizeB)
def zero16:List Int:=[0,0,0,0,0,0,0,0,0,0,0,0,0,0,0,0]
structure Rnd (h:Blks) (lg:List Nat) (st:List AV) (q s:Int) (R:List Int) (m:Mem):Prop where
  k:Keep ⟨h,lg,[]⟩ m
  b0:bget m.blks (nb h 0)=some (.row true 8 [st])
  b1:bget m.blks (nb h 1)=some (.row true 3 [[.int .u64 0,.int .u64 0,.nilslice]])
  b7: ∃ v',bget m.blks (nb h 7)=some (.row true 3 [[.int .u64 q,.int .u64 s,v']])∧SlAt m.blks 1 v' (R.map u64C)∧(∀ c∈v'.refs,c≠nb h 7)∧v'.scalar=true
def spaceT (S:StateD):Int:=sizesT S.held+sumI (S.peers.map fun p=>(heldE p).1)
def spaceE (S:StateD) (q:Int):Int:=if stateE S≠0 then stateE S else if 1099511627776<q then 2 else if q<spaceT S then 5 else 0
structure PN (p:PeerD):Prop where
  t:p.recv.taken.length≤1000
  f:0≤p.recv.f
  o:0≤p.old
  r:0≤p.recv.r
theorem heldE_pos {p:PeerD} (h:PN p):0≤(heldE p).1∧(heldE p).1≤2251799813685248:=by
  rw[heldE]
  split
  · simp
  · rename_i q
    have q:peerE p=0:=by omega
    have h1:=(peer_old q).1
    have h2:=resE_ok h.f h.r
    have h3:=h.o
    simp only
    omega
theorem heldE_2 {p:PeerD} (h:peerE p=0):(heldE p).2=0:=by rw[heldE,if_neg (by omega)]
def resTo (ps:List PeerD):Nat→List Int
  |0=>zero16
  |i+1=>(resTo ps i).set ((gt ps i).node - 1).toNat (gt (resTo ps i) ((gt ps i).node - 1).toNat+(heldE (gt ps i)).1)
theorem resTo_len (ps:List PeerD): ∀ i,(resTo ps i).length=16
  |0=>rfl
  |i+1=>by rw[resTo,List.length_set,resTo_len ps i]
theorem sumI_set: ∀ (R:List Int) (k:Nat) (x:Int),k<R.length→sumI (R.set k (gt R k+x))=sumI R+x
  | [],k,x,h=>by simp at h
  |y::R,0,x,_=>by simp only[List.set_cons_zero,sumI,gt,List.getD_cons_zero];omega
  | y::R,k+1,x,h=>by
    have ih:=sumI_set R k x (by simpa using h)
    have e:gt (y::R) (k+1)=gt R k:=rfl
    rw[List.set_cons_succ,sumI,e,ih,sumI];omega
theorem resTo_sum {ps:List PeerD} (hn: ∀ p∈ps,1≤p.node∧p.node≤16): ∀ i,i≤ps.length→sumI (resTo ps i)=sumI ((ps.map fun p=>(heldE p).1).take i)
  |0,_=>rfl
  | i+1,hi=>by
    have h1:=hn (gt ps i) (gt_mem (by omega))
    rw[resTo,sumI_set _ _ _ (by rw[resTo_len];omega),resTo_sum hn i (by omega),sumI_take (by simp;omega)]
    congr 1
    rw[gt_eq (by omega),gt_eq (l:=ps.map fun p=>(heldE p).1) (by rw[List.length_map];omega),List.getElem_map]
theorem resTo_pos {ps:List PeerD} (hp: ∀ p∈ps,PN p): ∀ i,i≤ps.length→ ∀ x∈resTo ps i,0≤x
  |0,_,x,hx=>by simp[resTo,zero16] at hx;omega
  | i + 1,hi,x,hx=>by
    have ih:=resTo_pos hp i (by omega)
    rcases List.mem_or_eq_of_mem_set hx with h |h
    · exact ih x h
    · have h1:=(heldE_pos (hp (gt ps i) (gt_mem (by omega)))).1
      have h2:0≤gt (resTo ps i) ((gt ps i).node - 1).toNat:=by
        rcases Nat.lt_or_ge ((gt ps i).node - 1).toNat (resTo ps i).length with h3 |h3
        · exact ih _ (gt_mem h3)
        · generalize ((gt ps i).node - 1).toNat=k at h3 ⊢;rw[show gt (resTo ps i) k=0 by simp[gt,List.getElem?_eq_none h3]];exact Int.le_refl 0
      omega
theorem stateE_peers {S:StateD} (h:stateE S=0): ∀ i,i<S.peers.length→peerE (gt S.peers i)=0∧(0<i→(gt S.peers (i - 1)).node<(gt S.peers i).node):=by
  intro i hi
  rw[stateE] at h
  split at h
  · omega
  · split at h
    · omega
    · split at h
      · omega
      · split at h
        · omega
        · split at h
          · omega
          · have hz:=(ffrom_zero S.peers.length 0).1 h i (by omega) (by omega)
            rw[sPeerBad] at hz
            split at hz
            · omega
            · split at hz
              · omega
              · split at hz
                · omega
                · exact ⟨by omega,fun h=>by omega⟩
theorem stateE_nodes {S:StateD} (h:stateE S=0): ∀ p∈S.peers,1≤p.node∧p.node≤16:=fun p hp=>by
  obtain ⟨i,hi,e⟩:=List.getElem_of_mem hp
  have h1:=(stateE_peers h i hi).1
  rw[gt_eq hi,e] at h1
  exact ⟨(peer_old h1).2.1,(peer_old h1).2.2.1⟩
end
section
variable {F:FuncId→Option AFunc} {meth:Meth} {sm:Summ}
theorem e49 (hF:F 49=some AF49) (hs: ∀ vs m,sm 49 vs m=none) (n:Nat) (h:Blks) (lg d:List Nat) (h57:H57 sm) (s77: ∀ vs m,sm 77 vs m=none) (F77:F 77=some AF77) (s116: ∀ vs m,sm 116 vs m=none) (F116:F 116=some AF116) (h78:H78 sm) (s79: ∀ vs m,sm 79 vs m=none) (F79:F 79=some AF79) (s119: ∀ vs m,sm 119 vs m=none) (F119:F 119=some AF119) (h120:H120 sm) (h155:H155 sm) {own:Bool} (hg:bget h 0=some (.row own 1 headsR)) {S:StateD} {b ms v:AV} {l:List PX} {q:Int} (H:StateAt h S b ms v l) (hq0:0≤q) (hs0: ∀ x∈S.held,0≤x.id.s) (hp: ∀ x∈l,NoOsl x.t∧NoOsl x.k∧PN x.p) (h80:H80 sm) (s81: ∀ vs m,sm 81 vs m=none) (F81:F 81=some AF81) (s121: ∀ vs m,sm 121 vs m=none) (F121:F 121=some AF121):Wa F meth sm (n+2000) (.fn 49) [.agg (stateC S b ms v),.int .u64 q] ⟨bxt h [],lg,d⟩ (Qk ⟨h,lg,d⟩ fun w _=> ∃ x y z,z.scalar=true∧w= .tuple [.agg [.int .u64 x,.int .u64 y,z],.int .i64 (spaceE S q)]):=by
  have c1:=H.b.sc
  have c2:=H.m.sc
  have c3:=H.p.v.sc
  have l1:=H.b.len
  have l2:=H.p.v.len
  have g1:=fun q lg d=>h57 S b ms v l ⟨bxt h q,lg,d⟩ (H.bx q)
  unfold stateC at g1
  simp+contextual -implicitDefEqProofs (maxSteps:=1000000) (maxDischargeDepth:=20) only[go_sem,simprocAttr,hs,hF,AF49,stateC,c1,c2,c3,l1,l2,g1,s77,F77,AF77,s116,F116,AF116,q_k,List.length_map,r_vc,r_vp,mskO,Mem.more,bmore,nb_more,List.filter_nil,List.flatMap_nil,List.filter_cons,List.flatMap_cons,List.map_nil,List.map_cons,mask,unmask,AOp.reads,AOpnd.top,top_p,top_s,top_m,top_i,top_b,top_t,top_a,top_u,top_ns,top_s0,top_d,top_f,nb_beq,nb_blt,nb_add,nidOf,slotIn,Nat.beq_refl,clash,Bool.or_self,List.any_nil,List.any_cons,AOp.isMaker]
  refine ⟨fun e1=> ?_,fun e1=>⟨fun e2=> ?_,fun e2=> ?_⟩⟩
  · exact ⟨0,0,.nilslice,rfl,⟨rfl,rfl,rfl⟩,by rw[spaceE,if_pos (by omega)]⟩
  · exact ⟨0,0,.nilslice,rfl,⟨rfl,rfl,rfl⟩,by rw[spaceE,if_neg (by omega),if_pos (by omega)]⟩
  have e1:stateE S=0:=by omega
  have hps: ∀ p∈S.peers,PN p:=fun p hx=>by rw[H.e] at hx;obtain ⟨y,hy,rfl⟩:=List.mem_map.1 hx;exact (hp y hy).2.2
  have sz0: ∀ x∈S.held.map sizeB,(0:Int)≤x:=fun x hx=>by obtain ⟨y,_,rfl⟩:=List.mem_map.1 hx;exact (sizeB_le y).1
  have pr0: ∀ x∈S.peers.map (fun p=>(heldE p).1),(0:Int)≤x:=fun x hx=>by obtain ⟨y,hy,rfl⟩:=List.mem_map.1 hx;exact (heldE_pos (hps y hy)).1
  refine WloopV S.held.length [X35] (fun i=> [.int .i64 i]) (fun i m'=>Rnd h lg [.int .i64 S.node,.int .u64 S.boot,.int .i64 S.last.n,.int .u64 S.last.s,.int .i64 S.last.o,b,ms,v] q (sizesT (S.held.take i)) zero16 m'∧sizesT (S.held.take i)≤q) (by have:=H.w1;omega) (by repeat first |apply Cl_b |apply Cl_q |apply Cl_r) ⟨rfl,?_,by simpa[sizesT,sumI] using hq0⟩ (fun i m' g hi hP=> ?_) (fun m' g hP=> ?_)
  · refine ⟨keep_bx (by repeat first |exact LogOK.nil |apply LogOK.cons),nb_get,nb_get,_,nb_get,.some (nb h 6) 0 none true _ rfl (by rw[nb_get];rfl) rfl (fun _ h=>by cases h),fun c hc=>by simp[AV.refs] at hc;rw[hc,ne_eq,nb_inj];omega,rfl⟩
  · obtain ⟨h',lg',d'⟩:=m'
    obtain ⟨⟨k,b0,b1,v',b7,sv,rv,sc⟩,hq⟩:=hP
    obtain rfl:d'=[]:=k.dfrs
    simp only at b0 b1 b7 sv
    have sl:SlAt h' 9 b (S.held.map bunC):=SlAt.keep (m:=⟨h,lg,[]⟩) (m':=⟨h',lg',[]⟩) H.b k
    have e:=sl.el hi
    have r:=rnd hi (by have:=H.w1;omega)
    have hb7:nb h 7<h'.length:=bget_lt b7
    have o:=old_blk hb7
    have u:=H.d _ (gt_mem hi)
    have hg': ∀ l,bget (bxt h' l) 0=some (.row own 1 headsR):=fun l=>(bxt_old l h' 0 (Nat.lt_of_lt_of_le (bget_lt hg) k.len)).trans ((k.get 0 (bget_lt hg)).trans hg)
    have g1:=fun l lg d=>h78 (gt S.held i) own ⟨bxt h' l,lg,d⟩ (hg' l) (hs0 _ (gt_mem hi)) u.1 u.2
    have z:=sizeB_le (gt S.held i)
    have w:IntKind.u64.wrap (sizeB (gt S.held i))=sizeB (gt S.held i):=wrapU (by omega) (by omega)
    have b7': ∀ l,bget (bxt h' l) (nb h 7)=some (.row true 3 [[.int .u64 q,.int .u64 (sizesT (S.held.take i)),v']]):=fun l=>(bxt_old l h' _ hb7).trans b7
    unfold bunC at e g1
    refine Wc_bx ?_
    have R0: ∀ x∈zero16,(0:Int)≤x:=fun x hx=>by simp[zero16] at hx;omega
    have S0:sumI zero16=0:=rfl
    have s0:0≤sizesT (S.held.take i):=sumI_pos fun x hx=>by obtain ⟨y,_,rfl⟩:=List.mem_map.1 hx;exact (sizeB_le y).1
    simp+contextual -implicitDefEqProofs (maxSteps:=1000000) (maxDischargeDepth:=20) only[go_sem,simprocAttr,e,r,g1,w,b7',sc,o]
    rw[←w_a]
    refine Wa_k (e79 F79 s79 (n+999) (bxt h' [some (.row true 9 [bunC (gt S.held i)])]) _ _ s119 F119 s116 F116 h120 h155 (q:=q) (s:=sizesT (S.held.take i)) (x:=sizeB (gt S.held i)) (v:=v') (R:=zero16) (sv.bx _) rfl R0 s0 (by rw[S0];omega) (by omega) (by omega) (by omega)) (fun w h2 lg2 k2 hw=> ?_)
    have len2:h'.length+1≤h2.length:=by have:=k2.len;simp only[bxt_len,List.length_cons,List.length_nil] at this;omega
    have hb72:nb h 7<h2.length:=by omega
    have o2:=old_blk hb72
    have b72: ∀ l,bget (bxt h2 l) (nb h 7)=some (.row true 3 [[.int .u64 q,.int .u64 (sizesT (S.held.take i)),v']]):=fun l=>(bxt_old l h2 _ hb72).trans ((k2.get _ (by simp only[bxt_len,List.length_cons,List.length_nil];omega)).trans (b7' _))
    by_cases hc:sizesT (S.held.take i)+sizeB (gt S.held i)+sumI zero16≤q
    · rw[if_pos hc] at hw
      obtain ⟨v2,rfl,sv2⟩:=hw
      have sc2:=sv2.sc
      simp+contextual -implicitDefEqProofs (maxSteps:=1000000) (maxDischargeDepth:=20) only[go_sem,simprocAttr,r,b72,sc2,o2]
      have kk:Keep ⟨h,lg,[]⟩ ⟨h2,lg2,[]⟩:=(k.trans (keep_bx (by repeat first |exact LogOK.nil |apply LogOK.cons))).trans k2
      have st:sizesT (S.held.take (i+1))=sizesT (S.held.take i)+sizeB (gt S.held i):=by
        rw[sizesT,sizesT,List.map_take,List.map_take,sumI_take (by simpa using hi)]
        rw[gt_eq (by simpa using hi),List.getElem_map,gt_eq hi]
      rw[st]
      have n0:nb h 0≠nb h 7:=by rw[ne_eq,nb_inj];omega
      have n1:nb h 1≠nb h 7:=by rw[ne_eq,nb_inj];omega
      have l0:nb h 0<h'.length:=bget_lt b0
      have l1:nb h 1<h'.length:=bget_lt b1
      have g0:bget h2 (nb h 0)=_:=(k2.get _ (by simp only[bxt_len,List.length_cons,List.length_nil];omega)).trans ((bxt_old _ h' _ l0).trans b0)
      have g1:bget h2 (nb h 1)=_:=(k2.get _ (by simp only[bxt_len,List.length_cons,List.length_nil];omega)).trans ((bxt_old _ h' _ l1).trans b1)
      rw[S0] at hc
      refine ⟨⟨kk.own nb_ge hb72 _ _ ⟨[nb h 7],rfl,fun y hy=>by simp at hy;rw[hy];exact nb_ge⟩,(old_get hb72 (by omega) n0 _ _).trans g0,(old_get hb72 (by omega) n1 _ _).trans g1,v2,o2.2.2.2.2.1 _ _,sv2.own hb72 (sv2.nrefs (b72 []) (by omega)) _ _,?_,sc2⟩,by omega⟩
      exact sv2.nrefs (b72 []) (by omega)
    · rw[if_neg hc] at hw
      subst hw
      have l1:nb h 1<h'.length:=bget_lt b1
      have g1:bget h2 (nb h 1)=_:=(k2.get _ (by simp only[bxt_len,List.length_cons,List.length_nil];omega)).trans ((bxt_old _ h' _ l1).trans b1)
      have n1:nb h 1≠nb h 7:=by rw[ne_eq,nb_inj];omega
      have g1':=fun l x=>(old_get hb72 (by omega) n1 l x).trans g1
      have o3:=fun x=>old_blk (h:=bput h2 (nb h 7) x) (b:=nb h 1) (by rw[bput_len_eq hb72];omega)
      simp+contextual -implicitDefEqProofs (maxSteps:=1000000) (maxDischargeDepth:=20) only[go_sem,simprocAttr,r,b72,o2,g1',o3]
      have kk:Keep ⟨h,lg,d⟩ ⟨h2,lg2,d⟩:=((k.trans (keep_bx (by repeat first |exact LogOK.nil |apply LogOK.cons))).trans k2).sub (d:=d)
      have k7:Keep ⟨h,lg,d⟩ ⟨bxt (bput h2 (nb h 7) (some (.row true 3 [[.int .u64 0,.int .u64 0,.nilslice]]))) [],nb h 7::lg2,d⟩:=kk.own nb_ge hb72 _ _ ⟨[nb h 7],rfl,fun y hy=>by simp at hy;rw[hy];exact nb_ge⟩
      have k1:=k7.own (b:=nb h 1) nb_ge (by rw[bxt_len,bput_len_eq hb72];simp;omega) (some (.row true 3 [[.int .u64 0,.int .u64 0,.nilslice]])) [] ⟨[nb h 1],rfl,fun y hy=>by simp at hy;rw[hy];exact nb_ge⟩
      refine ⟨k1,0,0,.nilslice,rfl,?_⟩
      have f1:=sumI_le sz0 (i+1)
      have f2:=sumI_pos pr0
      have st:sizesT (S.held.take (i+1))=sizesT (S.held.take i)+sizeB (gt S.held i):=by
        rw[sizesT,sizesT,List.map_take,List.map_take,sumI_take (by simpa using hi)]
        rw[gt_eq (by simpa using hi),List.getElem_map,gt_eq hi]
      rw[S0] at hc
      have f3:sizesT (S.held.take (i+1))=sumI ((S.held.map sizeB).take (i+1)):=by rw[sizesT,List.map_take]
      rw[spaceE,if_neg (by omega),if_neg (by omega),if_pos (by rw[spaceT,sizesT];omega)]
  · obtain ⟨h',lg',d'⟩:=m'
    obtain ⟨⟨k,b0,b1,v',b7,sv,rv,sc⟩,hq⟩:=hP
    obtain rfl:d'=[]:=k.dfrs
    simp only at b0 b1 b7 sv
    rw[List.take_length] at b7 hq
    have r:=rndl S.held.length
    have hb0:nb h 0<h'.length:=bget_lt b0
    have b0': ∀ l,bget (bxt h' l) (nb h 0)=some (.row true 8 [[.int .i64 S.node,.int .u64 S.boot,.int .i64 S.last.n,.int .u64 S.last.s,.int .i64 S.last.o,b,ms,v]]):=fun l=>(bxt_old l h' _ hb0).trans b0
    refine Wc_bx ?_
    simp+contextual -implicitDefEqProofs (maxSteps:=1000000) (maxDischargeDepth:=20) only[go_sem,simprocAttr,r,b0',l2,List.length_map]
    refine WloopV l.length [X58] (fun i=> [.int .i64 i]) (fun i m'=>Rnd h lg [.int .i64 S.node,.int .u64 S.boot,.int .i64 S.last.n,.int .u64 S.last.s,.int .i64 S.last.o,b,ms,v] q (sizesT S.held) (resTo S.peers i) m'∧sizesT S.held+sumI (resTo S.peers i)≤q) (by have:=H.w3;omega) (by repeat first |apply Cl_b |apply Cl_q |apply Cl_r) ⟨rfl,⟨k,b0,b1,v',b7,sv,rv,sc⟩,by show _+sumI zero16≤_;rw[show sumI zero16=0 from rfl];omega⟩ (fun i m' g hi hP=> ?_) (fun m' g hP=> ?_)
    · obtain ⟨h3,lg3,d3⟩:=m'
      obtain ⟨⟨k3,b0,b1,v3,b7,sv3,rv3,sc3⟩,hq3⟩:=hP
      obtain rfl:d3=[]:=k3.dfrs
      simp only at b0 b1 b7 sv3
      have hps3:PeersAt h3 v l:=PeersAt.keep (m:=⟨h,lg,[]⟩) (m':=⟨h3,lg3,[]⟩) H.p k3
      have e:=hps3.v.el hi
      have r:=rnd hi (by have:=H.w3;omega)
      have hx:=hps3.p _ (gt_mem hi)
      have hc:=hp _ (gt_mem hi)
      have g1:=fun l lg d=>h80 _ _ _ _ ⟨bxt h3 l,lg,d⟩ (hx.bx l) hc.1 hc.2.1 hc.2.2.t hc.2.2.f hc.2.2.o
      have d1:=hx.s.s.sc
      have d2:=hx.r.t.sc
      have d3:=hx.r.k.sc
      have hi':i<S.peers.length:=by rw[H.e,List.length_map];exact hi
      have x1:gt S.peers i=(gt l i).p:=by rw[H.e];exact gt_map hi
      have pv:=stateE_peers e1 i hi'
      rw[x1] at pv
      have nd:=peer_old pv.1
      obtain ⟨kk,hkk,hk16⟩: ∃ k:Nat,(gt l i).p.node=(k:Int)+1∧k<16:=⟨((gt l i).p.node - 1).toNat,by omega,by omega⟩
      have hb7:nb h 7<h3.length:=bget_lt b7
      have o:=old_blk hb7
      have b7': ∀ l,bget (bxt h3 l) (nb h 7)=some (.row true 3 [[.int .u64 q,.int .u64 (sizesT S.held),v3]]):=fun l=>(bxt_old l h3 _ hb7).trans b7
      have s0:0≤sizesT S.held:=sumI_pos sz0
      have hx0:=heldE_pos hc.2.2
      unfold pxC peerC at e
      unfold peerC at g1
      simp only[hkk] at e g1
      refine Wc_bx ?_
      simp+contextual -implicitDefEqProofs (maxSteps:=1000000) (maxDischargeDepth:=20) only[go_sem,simprocAttr,e,r,g1,b7',sc3,o,d1,d2,d3]
      rw[←w_a]
      refine Wa_k (e81 F81 s81 (n+999) (bxt h3 [some (.row true 13 [[.int .i64 ((kk:Int)+1),.int .u64 (gt l i).p.theirs,.bool (decide ((gt l i).p.sure=true)),.int .u64 (gt l i).p.old,.int .u64 (gt l i).p.send.g,.int .u64 (gt l i).p.send.n,.int .u64 (gt l i).p.send.r,(gt l i).s,.int .u64 (gt l i).p.recv.g,.int .u64 (gt l i).p.recv.r,.int .u64 (gt l i).p.recv.f,(gt l i).t,(gt l i).k]])]) _ _ s119 F119 s116 F116 s121 F121 h120 h155 (q:=q) (s:=sizesT S.held) (x:=(heldE (gt l i).p).1) (k:=kk) (v:=v3) (R:=resTo S.peers i) hk16 (sv3.bx _) (resTo_len _ _) (resTo_pos hps i (by omega)) s0 hq3 (by omega) (by omega) (by omega)) (fun w h2 lg2 k2 hw=> ?_)
      have len2:h3.length+1≤h2.length:=by have:=k2.len;simp only[bxt_len,List.length_cons,List.length_nil] at this;omega
      have hb72:nb h 7<h2.length:=by omega
      have o2:=old_blk hb72
      have b72: ∀ l,bget (bxt h2 l) (nb h 7)=some (.row true 3 [[.int .u64 q,.int .u64 (sizesT S.held),v3]]):=fun l=>(bxt_old l h2 _ hb72).trans ((k2.get _ (by simp only[bxt_len,List.length_cons,List.length_nil];omega)).trans (b7' _))
      have lb1:nb h 1<h3.length:=bget_lt b1
      have n1:nb h 1≠nb h 7:=by rw[ne_eq,nb_inj];omega
      have g1:bget h2 (nb h 1)=_:=(k2.get _ (by simp only[bxt_len,List.length_cons,List.length_nil];omega)).trans ((bxt_old _ h3 _ lb1).trans b1)
      have rs:resTo S.peers (i+1)=(resTo S.peers i).set kk (gt (resTo S.peers i) kk+(heldE (gt l i).p).1):=by
        rw[resTo,x1,hkk,show ((kk:Int)+1 - 1).toNat=kk by omega]
      have ss:sumI (resTo S.peers (i+1))=sumI (resTo S.peers i)+(heldE (gt l i).p).1:=by rw[rs,sumI_set _ _ _ (by rw[resTo_len];exact hk16)]
      by_cases hc:sizesT S.held+(heldE (gt l i).p).1+sumI (resTo S.peers i)≤q
      · rw[if_pos hc] at hw
        obtain ⟨v2,rfl,sv2⟩:=hw
        have sc2:=sv2.sc
        simp+contextual -implicitDefEqProofs (maxSteps:=1000000) (maxDischargeDepth:=20) only[go_sem,simprocAttr,r,b72,sc2,o2]
        have kk2:Keep ⟨h,lg,[]⟩ ⟨h2,lg2,[]⟩:=(k3.trans (keep_bx (by repeat first |exact LogOK.nil |apply LogOK.cons))).trans k2
        have n0:nb h 0≠nb h 7:=by rw[ne_eq,nb_inj];omega
        have l0:nb h 0<h3.length:=bget_lt b0
        have g0:bget h2 (nb h 0)=_:=(k2.get _ (by simp only[bxt_len,List.length_cons,List.length_nil];omega)).trans ((bxt_old _ h3 _ l0).trans b0)
        rw[←rs] at sv2
        refine ⟨⟨kk2.own nb_ge hb72 _ _ ⟨[nb h 7],rfl,fun y hy=>by simp at hy;rw[hy];exact nb_ge⟩,(old_get hb72 (by omega) n0 _ _).trans g0,(old_get hb72 (by omega) n1 _ _).trans g1,v2,o2.2.2.2.2.1 _ _,sv2.own hb72 (sv2.nrefs (b72 []) (by omega)) _ _,?_,sc2⟩,by omega⟩
        exact sv2.nrefs (b72 []) (by omega)
      · rw[if_neg hc] at hw
        subst hw
        have g1':=fun l x=>(old_get hb72 (by omega) n1 l x).trans g1
        have o3:=fun x=>old_blk (h:=bput h2 (nb h 7) x) (b:=nb h 1) (by rw[bput_len_eq hb72];omega)
        simp+contextual -implicitDefEqProofs (maxSteps:=1000000) (maxDischargeDepth:=20) only[go_sem,simprocAttr,r,b72,o2,g1',o3]
        have kk:Keep ⟨h,lg,d⟩ ⟨h2,lg2,d⟩:=((k3.trans (keep_bx (by repeat first |exact LogOK.nil |apply LogOK.cons))).trans k2).sub (d:=d)
        have k7:Keep ⟨h,lg,d⟩ ⟨bxt (bput h2 (nb h 7) (some (.row true 3 [[.int .u64 0,.int .u64 0,.nilslice]]))) [],nb h 7::lg2,d⟩:=kk.own nb_ge hb72 _ _ ⟨[nb h 7],rfl,fun y hy=>by simp at hy;rw[hy];exact nb_ge⟩
        have k1:=k7.own (b:=nb h 1) nb_ge (by rw[bxt_len,bput_len_eq hb72];simp;omega) (some (.row true 3 [[.int .u64 0,.int .u64 0,.nilslice]])) [] ⟨[nb h 1],rfl,fun y hy=>by simp at hy;rw[hy];exact nb_ge⟩
        refine ⟨k1,0,0,.nilslice,rfl,?_⟩
        have f1:=resTo_sum (stateE_nodes e1) (i+1) hi'
        have f2:=sumI_le pr0 (i+1)
        rw[spaceE,if_neg (by omega),if_neg (by omega),if_pos (by rw[spaceT];omega)]
    · obtain ⟨h3,lg3,d3⟩:=m'
      obtain ⟨⟨k3,b0,b1,v3,b7,sv3,rv3,sc3⟩,hq3⟩:=hP
      obtain rfl:d3=[]:=k3.dfrs
      simp only at b0 b1 b7 sv3
      have r:=rndl l.length
      have hb7:nb h 7<h3.length:=bget_lt b7
      have b7': ∀ l,bget (bxt h3 l) (nb h 7)=some (.row true 3 [[.int .u64 q,.int .u64 (sizesT S.held),v3]]):=fun l=>(bxt_old l h3 _ hb7).trans b7
      have b1': ∀ l,bget (bxt h3 l) (nb h 1)=some (.row true 3 [[.int .u64 0,.int .u64 0,.nilslice]]):=fun l=>(bxt_old l h3 _ (bget_lt b1)).trans b1
      have o:=old_blk (bget_lt b1)
      refine Wc_bx ?_
      simp+contextual -implicitDefEqProofs (maxSteps:=1000000) (maxDischargeDepth:=20) only[go_sem,simprocAttr,r,b7',b1',sc3,o]
      have k1:=(k3.sub (d:=d)).own (b:=nb h 1) nb_ge (bget_lt b1) (some (.row true 3 [[.int .u64 q,.int .u64 (sizesT S.held),v3]])) [] ⟨[nb h 1],rfl,fun y hy=>by simp at hy;rw[hy];exact nb_ge⟩
      refine ⟨k1,q,sizesT S.held,v3,sc3,?_⟩
      have hl:l.length=S.peers.length:=by rw[H.e,List.length_map]
      have f1:=resTo_sum (stateE_nodes e1) l.length (by omega)
      rw[hl,←(List.length_map (fun p=>(heldE p).1):(S.peers.map fun p=>(heldE p).1).length=S.peers.length),List.take_length,List.length_map] at f1
      rw[hl] at hq3
      rw[spaceE,if_neg (by omega),if_neg (by omega),if_neg (by rw[spaceT];omega)]
end
section
variable {F:FuncId→Option AFunc} {meth:Meth} {sm:Summ}
def H85 (sm:Summ):Prop:= ∀ (q s:Int) (v:AV) (R:List Int) (m:Mem),SlAt m.blks 1 v (R.map u64C)→R.length=16→(∀ x∈R,0≤x)→0≤s→q≤1099511627776→sm 85 [.agg [.int .u64 q,.int .u64 s,v]] m=some (.int .i64 (if q<s+sumI R then 5 else 0),m)
theorem e85 (hF:F 85=some AF85) (hs: ∀ vs m,sm 85 vs m=none) (n:Nat) (h:Blks) (lg d:List Nat) {q s:Int} {v:AV} {R:List Int} (hv:SlAt h 1 v (R.map u64C)) (hl:R.length=16) (h0: ∀ x∈R,0≤x) (s0:0≤s) (hq:q≤1099511627776):Ev F meth sm (n+2000) 85 [.agg [.int .u64 q,.int .u64 s,v]] ⟨h,lg,d⟩ (.int .i64 (if q<s+sumI R then 5 else 0)):=by
  refine Ev.ofW ?_
  have lv:=hv.len
  have c1:=hv.sc
  have q1:(1099511627776<q)=False:=by simp;omega
  have i16:((16:Nat):Int)=16:=rfl
  have hp:=sumI_pos h0
  simp+contextual -implicitDefEqProofs (maxSteps:=1000000) (maxDischargeDepth:=20) only[go_sem,simprocAttr,hs,hF,AF85,lv,c1,List.length_map,hl,i16,q1]
  refine ⟨fun e1=>by rw[if_pos (by omega)],fun e1=> ?_⟩
  have w1:IntKind.u64.wrap (q - s)=q - s:=wrapU (by omega) (by omega)
  rw[w1]
  refine WloopK R.length [X4,X3] (fun i=> [.int .i64 i,.int .u64 (q - s - sumI (R.take i))]) (fun i=>0≤q - s - sumI (R.take i)) (by omega) (by repeat first |apply Cl_b |apply Cl_q |apply Cl_r) ⟨by simp[tget,sumI],by simp[sumI];omega⟩ (fun i h' lg' g hi hP hK=> ?_) (fun h' lg' g hP hK=> ?_)
  · have a:=hK.all (lg:=lg) (d:=d) (by repeat first |exact LogOK.nil |apply LogOK.cons)
    have e:=(hK.sl hv).el hi
    have r:=rnd hi (by omega)
    have st:=sumI_take hi
    have b1:=sumI_le h0 (i+1)
    have b0:=sumI_le h0 i
    have x0:0≤gt R i:=h0 _ (gt_mem hi)
    rw[hl,i16] at r
    unfold u64C at e
    simp+contextual -implicitDefEqProofs (maxSteps:=1000000) (maxDischargeDepth:=20) only[go_sem,simprocAttr,a,e,r,lv,List.length_map,hl,i16]
    refine ⟨fun q2=> ?_,fun q2=> ?_⟩
    · have z:q<s+sumI R:=by omega
      rw[if_pos z]
    rw[wrapU (by omega) (by omega)]
    exact ⟨by omega,by omega⟩
  · have a:=hK.all (lg:=lg) (d:=d) (by repeat first |exact LogOK.nil |apply LogOK.cons)
    have r:=rndl R.length
    rw[hl,i16] at r
    rw[List.take_length] at hP
    simp+contextual -implicitDefEqProofs (maxSteps:=1000000) (maxDischargeDepth:=20) only[go_sem,simprocAttr,a,r,lv,List.length_map,hl,i16]
    rw[if_neg (by omega)]
end
end Go.Abs
end
