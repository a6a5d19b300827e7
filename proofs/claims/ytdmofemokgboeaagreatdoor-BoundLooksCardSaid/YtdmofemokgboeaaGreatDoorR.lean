/- How the argument of the law is read.
   Conditions: none. -/
import Derived.Test.YtdmofemokgboeaaGreatDoorQg
set_option linter.unusedSimpArgs false
set_option linter.unusedVariables false
set_option maxRecDepth 100000
noncomputable section
namespace Go.Abs
structure RowIn (w:World) (ρ:Rho) (p:Pl) (es:List (List AV)):Prop where
  pos:0<p.esz
  all: ∀ e∈es,e.length=p.esz
  lim:es.length≤p.lim
  sc: ∀ a∈es.flatten,a.scalar=true
  cell: ∃ arr el fr,w.heap[p.cb]? =some (.cells arr el fr)∧p.base+p.lim*p.esz≤arr.size∧ ∀ (k:Nat) (a:AV),es.flatten[k]? =some a→ ∃ v,arr[p.base+k]? =some v∧VR ρ a v
theorem RowAt.rowIn {w:World} {p:Pl} {es:List (List AV)} (H:RowAt w p es) (ρ:Rho):RowIn w ρ p es:=by
  obtain ⟨arr,el,fr,h1,h2,h3⟩:=H.cell
  exact ⟨H.pos,H.all,H.lim,H.sc,arr,el,fr,h1,h2,h3 ρ⟩
theorem RowIn.mono {w:World} {ρ ρ':Rho} {p:Pl} {es:List (List AV)} (H:RowIn w ρ p es) (h:ρ.le ρ'):RowIn w ρ' p es:=by
  obtain ⟨arr,el,fr,h1,h2,h3⟩:=H.cell
  exact ⟨H.pos,H.all,H.lim,H.sc,arr,el,fr,h1,h2,fun k a ha=>by obtain ⟨v,hv,hr⟩:=h3 k a ha;exact ⟨v,hv,hr.mono h⟩⟩
def OKs (w:World) (l:RowsL):Prop:= ∀ x∈l,RowIn w (rowsR l) x.1 x.2
theorem rows_le (l m:RowsL):(rowsR l).le (rowsR (l++m)):=fun b p h=>by
  show ((l++m)[b]?).map _=_
  obtain ⟨x,hx,rfl⟩:=Option.map_eq_some_iff.1 h
  rw[List.getElem?_append_left (List.getElem?_eq_some_iff.1 hx).1,hx];rfl
theorem rows_keep (l m:RowsL):Keep ⟨rowsB l ⟨0,.e⟩,[],[]⟩ ⟨rowsB (l++m) ⟨0,.e⟩,[],[]⟩:=by
  have h1:=(rowsB_spec l ⟨0,.e⟩).1
  have h2:=(rowsB_spec (l++m) ⟨0,.e⟩).1
  refine ⟨by simp only;rw[h1,h2,List.length_append];omega,fun b hb=> ?_,rfl,[],rfl,fun _ h=>by cases h⟩
  simp only at hb ⊢
  rw[h1] at hb
  rw[rows_get,rows_get,List.getElem?_append_left (by simpa using hb)]
def Pre (l l':RowsL):Prop:= ∃ m,l'=l++m
theorem Pre.refl (l:RowsL):Pre l l:=⟨[],(List.append_nil l).symm⟩
theorem Pre.trans {a b c:RowsL} (h:Pre a b) (k:Pre b c):Pre a c:=by
  obtain ⟨m,rfl⟩:=h
  obtain ⟨m',rfl⟩:=k
  exact ⟨m++m',List.append_assoc _ _ _⟩
theorem Pre.le {l l':RowsL} (h:Pre l l'):(rowsR l).le (rowsR l'):=by obtain ⟨m,rfl⟩:=h;exact rows_le l m
theorem Pre.keep {l l':RowsL} (h:Pre l l'):Keep ⟨rowsB l ⟨0,.e⟩,[],[]⟩ ⟨rowsB l' ⟨0,.e⟩,[],[]⟩:=by obtain ⟨m,rfl⟩:=h;exact rows_keep l m
theorem oks_rel {P:Program} {glob:Nat→Option AV} {w:World} (l:RowsL) (hl:OKs w l):Rel (keepK P glob w) w (rowsR l) (rowsB l ⟨0,.e⟩) w:=by
  have h1:=(rowsB_spec l ⟨0,.e⟩).1
  simp only[Nat.zero_add] at h1
  refine ⟨⟨rfl,rfl,rfl,Nat.le_refl _,fun k hk=>hk,fun _ _=>rfl⟩,fun b hb=> ?_,fun b x hx=> ?_,fun b c x y p q hx hy hp hq ho=> ?_⟩
  · show (l[b]?).map _=none
    rw[List.getElem?_eq_none (by omega)];rfl
  · rw[rows_get] at hx
    obtain ⟨y,hy,rfl⟩:=Option.map_eq_some_iff.1 hx
    have T:=hl _ (List.mem_of_getElem? hy)
    obtain ⟨arr,el,fr,hh,hsz,hc⟩:=T.cell
    exact ⟨y.1,by show (l[b]?).map _=_;rw[hy];rfl,rfl,T.pos,T.all,T.lim,arr,el,fr,hh,hsz,hc,fun h=>(by cases h),T.sc⟩
  · rw[rows_get] at hx
    obtain ⟨z,hz,rfl⟩:=Option.map_eq_some_iff.1 hx
    cases ho
section
variable {H:Type} {P:Program} {w:World} {held:Bool} {enc:TypeId × Value→H}
structure Rd (enc:TypeId × Value→H) (P:Program) (w:World) (held:Bool) (t:TypeId) (ι:Type) (C:ι→List AV) (G:Blks→ι→Prop):Prop where
  len: ∀ k,(C k).length=P.cellsOf t
  up: ∀ l l' k,Pre l l'→G (rowsB l ⟨0,.e⟩) k→G (rowsB l' ⟨0,.e⟩) k
  sc: ∀ h k,G h k→ ∀ a∈C k,a.scalar=true
  rd: ∀ (fuel:Nat) (cs:List Value) (x:DataW H × List MemPlace) (l:RowsL),OKs w l→DataW.trod enc P w 0 (fun _=>true) held fuel t cs=some x→ ∃ l' k,Pre l l'∧OKs w l'∧VRs (rowsR l') (C k) cs∧G (rowsB l' ⟨0,.e⟩) k
variable {ι:Type} {C:ι→List AV} {G:Blks→ι→Prop} {e:TypeId}
theorem Rd.elems (R:Rd enc P w held e ι C G) {fuel len:Nat} {a:Addr} (hc: ∀ i,i<len→ ∃ cs x,w.cells? 0 (a.add (i*P.cellsOf e)) (P.cellsOf e)=some cs∧DataW.trod enc P w 0 (fun _=>true) held fuel e cs=some x) (l:RowsL) (hl:OKs w l):
    ∀ j,j≤len→ ∃ (l':RowsL) (ks:List ι),Pre l l'∧ks.length=j∧OKs w l'∧(∀ i k,ks[i]? =some k→ ∃ cs,w.cells? 0 (a.add (i*P.cellsOf e)) (P.cellsOf e)=some cs∧VRs (rowsR l') (C k) cs)∧ ∀ k∈ks,G (rowsB l' ⟨0,.e⟩) k
  |0,_=>⟨l,[],.refl l,rfl,hl,fun i k h=>by simp at h,fun k h=>by cases h⟩
  | j + 1,hj=>by
    obtain ⟨l1,ks,p1,h1,h2,h3,h4⟩:=Rd.elems R hc l hl j (by omega)
    obtain ⟨cs,x,hcs,hx⟩:=hc j (by omega)
    obtain ⟨l2,k,p2,g1,g2,g3⟩:=R.rd fuel cs x l1 h2 hx
    refine ⟨l2,ks++ [k],p1.trans p2,by simp[h1],g1,fun i k' hk=> ?_,fun k' hk=> ?_⟩
    · rw[List.getElem?_append] at hk
      split at hk
      · obtain ⟨cs',q1,q2⟩:=h3 i k' hk
        exact ⟨cs',q1,q2.mono p2.le⟩
      · rename_i hi
        rw[h1] at hi hk
        have hi':=(List.getElem?_eq_some_iff.1 hk).1
        simp only[List.length_singleton] at hi'
        obtain rfl:i=j:=by omega
        rw[Nat.sub_self] at hk
        simp only[List.getElem?_cons_zero,Option.some.injEq] at hk
        subst hk
        exact ⟨cs,hcs,g2⟩
    · rcases List.mem_append.1 hk with hk |hk
      · exact R.up _ _ _ p2 (h4 k' hk)
      · rw[List.mem_singleton] at hk;subst hk;exact g3
theorem Rd.sl (R:Rd enc P w held e ι C G) {t:TypeId} (hu:P.underlying t=some (.slice e)) (hpos:0<P.cellsOf e) {fuel:Nat} {cs:List Value} {x:DataW H × List MemPlace} {l:RowsL} (hl:OKs w l) (h:DataW.trod enc P w 0 (fun _=>true) held fuel t cs=some x):
    ∃ (l':RowsL) (v:AV) (ks:List ι),Pre l l'∧OKs w l'∧VRs (rowsR l') [v] cs∧SlAt (rowsB l' ⟨0,.e⟩) (P.cellsOf e) v (ks.map C)∧ ∀ x∈ks,G (rowsB l' ⟨0,.e⟩) x:=by
    rcases DataW.trod_slice hu h with ⟨rfl,_⟩|⟨a,len,cap,elems,rest,n,_,rfl,_,_,hle,hmax,hel,hrd,hsp,_⟩
    · exact ⟨l,.osl 0,[],.refl l,hl,⟨_,[],rfl,⟨none,0,rfl⟩,rfl⟩,.none rfl (.inr (.inr rfl)),fun x hx=>by cases hx⟩
    · obtain ⟨hsp1,hsp2⟩:=hsp rfl
      rcases Nat.eq_zero_or_pos len with h0 |h0
      · subst h0
        exact ⟨l,.osl 0,[],.refl l,hl,⟨_,[],rfl,⟨some a,cap,rfl⟩,rfl⟩,.none rfl (.inr (.inr rfl)),fun x hx=>by cases hx⟩
      · have hcells: ∀ i,i<len→ ∃ cs x,w.cells? 0 (a.add (i*P.cellsOf e)) (P.cellsOf e)=some cs∧DataW.trod enc P w 0 (fun _=>true) held n e cs=some x:=fun i hi=>by
          have:=hrd i hi
          rw[List.getElem?_eq_getElem (by omega)] at this
          obtain ⟨cs,h1,h2⟩:=Option.bind_eq_some_iff.1 this
          exact ⟨cs,_,h1,h2⟩
        have hall: ∀ i,i<cap→ ∃ cs,w.cells? 0 (a.add (i*P.cellsOf e)) (P.cellsOf e)=some cs:=fun i hi=>by
          rcases Nat.lt_or_ge i len with hlt |hge
          · obtain ⟨cs,_,h1,_⟩:=hcells i hlt
            exact ⟨cs,h1⟩
          · have:=hsp2 (i - len) (by omega)
            rw[List.getElem?_eq_getElem (by omega),show len+(i - len)=i by omega] at this
            obtain ⟨cs,h1,_⟩:=Option.bind_eq_some_iff.1 this
            exact ⟨cs,h1⟩
        obtain ⟨l1,ks,p1,k1,k2,k3,k4⟩:=R.elems hcells l hl len (Nat.le_refl _)
        obtain ⟨cs0,_,h1',_⟩:=hcells 0 h0
        obtain ⟨l0,g0⟩:=cells_get h1'
        have hc0:=g0 0 hpos
        rw[List.getElem?_eq_getElem (by omega)] at hc0
        have hblk:a.spot=none∧ ∃ arr el fr,w.heap[a.block]? =some (.cells arr el fr):=by
          have e0:(a.add (0*P.cellsOf e)).add 0=a:=by simp[Addr.add]
          rw[e0] at hc0
          simp only[World.cell?] at hc0
          split at hc0
          · rename_i arr el fr hh
            split at hc0
            · cases hc0
            · rename_i hs
              exact ⟨by simpa using hs,arr,el,fr,hh⟩
          · cases hc0
        obtain ⟨hspot,arr,el,fr,hh⟩:=hblk
        obtain ⟨bb,oo,ss⟩:=a
        simp only at hspot hh
        subst hspot
        simp only[add_none] at hcells hall k3
        have hcell: ∀ k v,w.cell? ⟨bb,oo+k,none⟩=some v→arr[oo+k]? =some v:=fun k v hv=>by
          simp only[World.cell?,hh] at hv
          simpa using hv
        have hat: ∀ i cs,w.cells? 0 ⟨bb,oo+i*P.cellsOf e,none⟩ (P.cellsOf e)=some cs→ ∀ j v,cs[j]? =some v→arr[oo+(i*P.cellsOf e+j)]? =some v:=fun i cs hcs j v hv=>by
          obtain ⟨l1,g1⟩:=cells_get hcs
          have hj:j<P.cellsOf e:=by rw[←l1];exact (List.getElem?_eq_some_iff.1 hv).1
          have:=(g1 j hj).trans hv
          refine hcell _ _ ?_
          rw[←this,add_none,Nat.add_assoc]
        have hsz:oo+cap*P.cellsOf e≤arr.size:=by
          obtain ⟨cs,hcs⟩:=hall (cap - 1) (by omega)
          obtain ⟨l1,_⟩:=cells_get hcs
          have hv:cs[P.cellsOf e - 1]? =some (cs[P.cellsOf e - 1]'(by omega)):=List.getElem?_eq_getElem (by omega)
          have:=(Array.getElem?_eq_some_iff.1 (hat _ cs hcs _ _ hv)).1
          have hm:(cap - 1)*P.cellsOf e+P.cellsOf e=cap*P.cellsOf e:=by
            rw[←Nat.succ_mul]
            congr 1
            omega
          omega
        have hrow:RowIn w (rowsR l1) ⟨bb,oo,P.cellsOf e,cap⟩ (ks.map C):=by
          refine ⟨hpos,fun x hx=> ?_,by simp only[List.length_map,k1];exact hle,fun b hb=> ?_,arr,el,fr,hh,hsz,fun q b hb=> ?_⟩
          · obtain ⟨k,_,rfl⟩:=List.mem_map.1 hx
            exact R.len k
          · obtain ⟨y,hl,hbl⟩:=List.mem_flatten.1 hb
            obtain ⟨k,hk,rfl⟩:=List.mem_map.1 hl
            exact R.sc _ k (k4 k hk) b hbl
          · have hall': ∀ x∈ks.map C,x.length=P.cellsOf e:=fun x hx=>by
              obtain ⟨k,_,rfl⟩:=List.mem_map.1 hx
              exact R.len k
            rw[flatten_at hpos _ _ hall'] at hb
            obtain ⟨es,he,hb⟩:=Option.bind_eq_some_iff.1 hb
            rw[List.getElem?_map] at he
            obtain ⟨k,hk,rfl⟩:=Option.map_eq_some_iff.1 he
            obtain ⟨cs,hcs,hr⟩:=k3 _ k hk
            obtain ⟨v,hv,hr⟩:=hr.get hb
            refine ⟨v,?_,hr⟩
            rw[←hat _ cs hcs _ v hv]
            congr 2
            rw[Nat.mul_comm]
            exact (Nat.div_add_mod q (P.cellsOf e)).symm
        have p2:Pre l1 (l1++ [((⟨bb,oo,P.cellsOf e,cap⟩:Pl),ks.map C)]):=⟨_,rfl⟩
        refine ⟨l1++ [((⟨bb,oo,P.cellsOf e,cap⟩:Pl),ks.map C)],.slice l1.length 0 len (some cap),ks,p1.trans p2,?_,?_,?_,fun x hx=>R.up _ _ _ p2 (k4 x hx)⟩
        · intro x hx
          rcases List.mem_append.1 hx with hx |hx
          · exact (k2 x hx).mono p2.le
          · rw[List.mem_singleton] at hx
            subst hx
            exact hrow.mono p2.le
        · refine ⟨_,[],rfl,⟨⟨bb,oo,P.cellsOf e,cap⟩,(⟨bb,oo,P.cellsOf e,cap⟩:Pl).at_ 0 0,cap,?_,by simp[Pl.at_],hle,.inr ⟨rfl,by simp⟩,fun m hm=>(by cases hm;rfl),fun hm=>(by cases hm),hmax⟩,rfl⟩
          show ((l1++_)[l1.length]?).map _=_
          rw[List.getElem?_append_right (Nat.le_refl _),Nat.sub_self]
          rfl
        · refine .some l1.length 0 (some cap) false (ks.map C) (by simp[k1]) ?_ (by rw[List.drop_zero,List.take_length]) (fun k hk=>by cases hk;simp only[List.length_map,k1];exact hle)
          rw[rows_get,List.getElem?_append_right (Nat.le_refl _),Nat.sub_self]
          rfl
end
def partsF (rec:TypeId→Option (List TypeDesc)):Nat→List (Nat × Nat × TypeId)→Option (List TypeDesc)
  |_,[]=>some []
  | o,(off,sz,t)::fs=>
    match rec t with
    |some az=>if off=o∧az.length=sz then (partsF rec (o+sz) fs).map (az++ ·) else none
    |none=>none
def parts (P:Program):Nat→TypeId→Option (List TypeDesc)
  |0,_=>none
  | n+1,t=>
    match P.underlying t with
    |some (.struct fs)=>(partsF (parts P n) 0 (fs.toList.map fun f=>(f.offset,P.cellsOf f.type,f.type))).bind fun ts=>if ts.length=P.cellsOf t then some ts else none
    |some (.array k e)=>(partsF (parts P n) 0 ((List.range k).map fun i=>(i*P.cellsOf e,P.cellsOf e,e))).bind fun ts=>if ts.length=P.cellsOf t then some ts else none
    |some (.int k)=>some [.int k]
    |some .bool=>some [.bool]
    |some .string=>some [.string]
    |some (.slice e)=>some [.slice e]
    |_=>none
section
variable {H:Type} {P:Program} {w:World} {held:Bool} {enc:TypeId × Value→H}
def Rds (enc:TypeId × Value→H) (P:Program) (w:World) (held:Bool):List TypeDesc→List Value→Prop
  | [],cs=>cs=[]
  |u::us,cs=> ∃ c cs',cs=c::cs'∧(∃ t n x,P.underlying t=some u∧DataW.trod enc P w 0 (fun _=>true) held n t [c]=some x)∧Rds enc P w held us cs'
theorem Rds.append: ∀ {us vs:List TypeDesc} {cs ds:List Value},Rds enc P w held us cs→Rds enc P w held vs ds→Rds enc P w held (us++vs) (cs++ds)
  | [],_,_,_,h,k=>by cases h;exact k
  | _::_,_,_,_,h,k=>by
    obtain ⟨c,cs',rfl,h1,h2⟩:=h
    exact ⟨c,_,rfl,h1,Rds.append h2 k⟩
theorem partsF_sound {n fuel:Nat} {cs:List Value} (ih: ∀ (t:TypeId) (c:List Value) (x:DataW H × List MemPlace) (ts:List TypeDesc),DataW.trod enc P w 0 (fun _=>true) held fuel t c=some x→parts P n t=some ts→Rds enc P w held ts c):
    ∀ (fl:List (Nat × Nat × TypeId)) (o:Nat) (ts:List TypeDesc),partsF (parts P n) o fl=some ts→(∀ f∈fl,∃ x,DataW.trod enc P w 0 (fun _=>true) held fuel f.2.2 ((cs.drop f.1).take f.2.1)=some x)→Rds enc P w held ts ((cs.drop o).take ts.length)
  | [],o,ts,h,_=>by simp only[partsF] at h;cases h;exact List.take_zero
  | (off,sz,t)::fl,o,ts,h,hi=>by
    simp only[partsF] at h
    split at h
    · rename_i a1 h1
      split at h
      · rename_i hc
        obtain ⟨rfl,hsz⟩:=hc
        simp only[Option.map_eq_some_iff] at h
        obtain ⟨a2,h2,rfl⟩:=h
        obtain ⟨x,hx⟩:=hi _ (List.mem_cons_self ..)
        have g1:=ih t _ x a1 hx h1
        have g2:=partsF_sound ih fl (off+sz) a2 h2 (fun f hf=>hi f (List.mem_cons_of_mem _ hf))
        simp only at g1
        rw[List.length_append,hsz,List.take_add,List.drop_drop]
        exact g1.append g2
      · cases h
    · cases h
theorem parts_read: ∀ (n fuel:Nat) (t:TypeId) (cs:List Value) (x:DataW H × List MemPlace) (ts:List TypeDesc),DataW.trod enc P w 0 (fun _=>true) held fuel t cs=some x→parts P n t=some ts→Rds enc P w held ts cs
  |0,_,_,_,_,_,_,h=>by simp[parts] at h
  | n + 1,fuel,t,cs,x,ts,ht,h=>by
    simp only[parts] at h
    split at h
    · rename_i fs hu
      obtain ⟨az,hf,h⟩:=Option.bind_eq_some_iff.1 h
      split at h
      · rename_i hlen
        cases h
        obtain ⟨xs,m,rfl,rfl,hl,hn,hel⟩:=DataW.trod_struct hu ht
        have:=partsF_sound (cs:=cs) (fun t c x ts h1 h2=>parts_read n m t c x ts h1 h2) _ 0 ts hf (fun f hf=>by
          obtain ⟨g,hg,rfl⟩:=List.mem_map.1 hf
          obtain ⟨i,hi⟩:=List.getElem?_of_mem hg
          have hi':fs[i]? =some g:=by simpa using hi
          have:=hel i g hi'
          have hlt:i<xs.length:=by rw[hn];exact (Array.getElem?_eq_some_iff.1 hi').1
          rw[List.getElem?_eq_getElem hlt] at this
          exact ⟨_,this⟩)
        rw[List.drop_zero,hlen,←hl,List.take_length] at this
        exact this
      · cases h
    · rename_i k e hu
      obtain ⟨az,hf,h⟩:=Option.bind_eq_some_iff.1 h
      split at h
      · rename_i hlen
        cases h
        obtain ⟨xs,m,rfl,rfl,hl,hn,hel⟩:=DataW.trod_array hu ht
        have:=partsF_sound (cs:=cs) (fun t c x ts h1 h2=>parts_read n m t c x ts h1 h2) _ 0 ts hf (fun f hf=>by
          obtain ⟨i,hi,rfl⟩:=List.mem_map.1 hf
          have hlt:i<k:=by simpa using hi
          have:=hel i hlt
          rw[List.getElem?_eq_getElem (by omega)] at this
          exact ⟨_,this⟩)
        rw[List.drop_zero,hlen,←hl,List.take_length] at this
        exact this
      · cases h
    · rename_i k hu
      cases h
      obtain ⟨i,rfl,_⟩:=DataW.trod_int hu ht
      exact ⟨_,[],rfl,⟨t,fuel,x,hu,ht⟩,rfl⟩
    · rename_i hu
      cases h
      obtain ⟨i,rfl,_⟩:=DataW.trod_bool hu ht
      exact ⟨_,[],rfl,⟨t,fuel,x,hu,ht⟩,rfl⟩
    · rename_i hu
      cases h
      obtain ⟨i,rfl,_⟩:=DataW.trod_string hu ht
      exact ⟨_,[],rfl,⟨t,fuel,x,hu,ht⟩,rfl⟩
    · rename_i e hu
      cases h
      rcases DataW.trod_slice hu ht with ⟨rfl,_⟩|⟨a,len,cap,elems,rest,n',_,rfl,_⟩ <;>exact ⟨_,[],rfl,⟨t,fuel,x,hu,ht⟩,rfl⟩
    · cases h
theorem rd_int {k:IntKind} {c:Value} (h: ∃ t n x,P.underlying t=some (.int k)∧DataW.trod enc P w 0 (fun _=>true) held n t [c]=some x): ∃ i,c= .int k i∧k.min≤i∧i≤k.max:=by
  obtain ⟨t,n,x,hu,h⟩:=h
  obtain ⟨i,e,_,hw⟩:=DataW.trod_int hu h
  simp only[List.cons.injEq,and_true] at e
  simp only[Lit.wf,Bool.and_eq_true,decide_eq_true_eq] at hw
  exact ⟨i,e,hw⟩
theorem rd_bool {c:Value} (h: ∃ t n x,P.underlying t=some .bool∧DataW.trod enc P w 0 (fun _=>true) held n t [c]=some x): ∃ b,c= .bool b:=by
  obtain ⟨t,n,x,hu,h⟩:=h
  obtain ⟨i,e,_⟩:=DataW.trod_bool hu h
  simp only[List.cons.injEq,and_true] at e
  exact ⟨i,e⟩
theorem rd_str {c:Value} (h: ∃ t n x,P.underlying t=some .string∧DataW.trod enc P w 0 (fun _=>true) held n t [c]=some x): ∃ s:ByteArray,c= .string s:=by
  obtain ⟨t,n,x,hu,h⟩:=h
  obtain ⟨i,e,_⟩:=DataW.trod_string hu h
  simp only[List.cons.injEq,and_true] at e
  exact ⟨i,e⟩
theorem rd_sl {ι:Type} {C:ι→List AV} {G:Blks→ι→Prop} {e k:Nat} (R:Rd enc P w held e ι C G) (he:P.cellsOf e=k) (hk:0<k) {c:Value} {l:RowsL} (hl:OKs w l) (h: ∃ t n x,P.underlying t=some (.slice e)∧DataW.trod enc P w 0 (fun _=>true) held n t [c]=some x):
    ∃ (l':RowsL) (v:AV) (ks:List ι),Pre l l'∧OKs w l'∧VR (rowsR l') v c∧SlAt (rowsB l' ⟨0,.e⟩) k v (ks.map C)∧ ∀ x∈ks,G (rowsB l' ⟨0,.e⟩) x:=by
  obtain ⟨t,n,x,hu,h⟩:=h
  subst he
  obtain ⟨l',v,ks,h1,h2,⟨_,_,e,h3,e'⟩,h4⟩:=R.sl hu hk hl h
  simp only[List.cons.injEq] at e
  obtain ⟨rfl,_⟩:=e
  exact ⟨l',v,ks,h1,h2,h3,h4⟩
end
section
variable {H:Type} {P:Program} {w:World} {held:Bool} {enc:TypeId × Value→H} {t cft plt cmt:TypeId}
theorem u64_ok {i:Int} (h:IntKind.u64.min≤i∧i≤IntKind.u64.max):0≤i∧i≤18446744073709551615:=h
theorem SlAt.up {l l':RowsL} {e:Nat} {v:AV} {es:List (List AV)} (H:SlAt (rowsB l ⟨0,.e⟩) e v es) (p:Pre l l'):SlAt (rowsB l' ⟨0,.e⟩) e v es:=SlAt.keep (m:=⟨rowsB l ⟨0,.e⟩,[],[]⟩) (m':=⟨rowsB l' ⟨0,.e⟩,[],[]⟩) H p.keep
theorem rd_cfg (hp:parts P 8 t=some [.int .i64,.int .u64,.int .u64,.int .u64,.int .u64,.int .i64,.int .i64,.int .i64,.int .i64,.int .i64,.int .i64,.int .i64,.int .i64,.int .i64,.int .i64,.int .i64]) (hc:P.cellsOf t=16):Rd enc P w held t (CfgD) cfgC (fun _ x=>U x.quota∧U x.window∧U x.low) where
  len:=fun k=>by rw[hc];rfl
  up:=fun l l' k p h=>h
  sc:=fun h k _ a ha=>by simp only[cfgC,List.mem_cons,List.not_mem_nil,or_false] at ha;rcases ha with rfl |rfl |rfl |rfl |rfl |rfl |rfl |rfl |rfl |rfl |rfl |rfl |rfl |rfl |rfl |rfl <;>rfl
  rd:=fun fuel cs x l hl h=>by
    obtain ⟨c1,_,rfl,r1,c2,_,rfl,r2,c3,_,rfl,r3,c4,_,rfl,r4,c5,_,rfl,r5,c6,_,rfl,r6,c7,_,rfl,r7,c8,_,rfl,r8,c9,_,rfl,r9,c10,_,rfl,r10,c11,_,rfl,r11,c12,_,rfl,r12,c13,_,rfl,r13,c14,_,rfl,r14,c15,_,rfl,r15,c16,_,rfl,r16,rfl⟩:=parts_read 8 fuel t cs x _ h hp
    obtain ⟨i1,rfl,a1,b1⟩:=rd_int r1
    obtain ⟨i2,rfl,a2,b2⟩:=rd_int r2
    obtain ⟨i3,rfl,a3,b3⟩:=rd_int r3
    obtain ⟨i4,rfl,a4,b4⟩:=rd_int r4
    obtain ⟨i5,rfl,a5,b5⟩:=rd_int r5
    obtain ⟨i6,rfl,a6,b6⟩:=rd_int r6
    obtain ⟨i7,rfl,a7,b7⟩:=rd_int r7
    obtain ⟨i8,rfl,a8,b8⟩:=rd_int r8
    obtain ⟨i9,rfl,a9,b9⟩:=rd_int r9
    obtain ⟨i10,rfl,a10,b10⟩:=rd_int r10
    obtain ⟨i11,rfl,a11,b11⟩:=rd_int r11
    obtain ⟨i12,rfl,a12,b12⟩:=rd_int r12
    obtain ⟨i13,rfl,a13,b13⟩:=rd_int r13
    obtain ⟨i14,rfl,a14,b14⟩:=rd_int r14
    obtain ⟨i15,rfl,a15,b15⟩:=rd_int r15
    obtain ⟨i16,rfl,a16,b16⟩:=rd_int r16
    exact ⟨l,⟨i1,i2,i3,i4,i5,i6,i7,i8,i9,i10,i11,i12,i13,i14,i15,i16⟩,.refl l,hl,⟨_,_,rfl,rfl,_,_,rfl,rfl,_,_,rfl,rfl,_,_,rfl,rfl,_,_,rfl,rfl,_,_,rfl,rfl,_,_,rfl,rfl,_,_,rfl,rfl,_,_,rfl,rfl,_,_,rfl,rfl,_,_,rfl,rfl,_,_,rfl,rfl,_,_,rfl,rfl,_,_,rfl,rfl,_,_,rfl,rfl,_,_,rfl,rfl,rfl⟩,⟨u64_ok ⟨a2,b2⟩,u64_ok ⟨a4,b4⟩,u64_ok ⟨a5,b5⟩⟩⟩
theorem rd_con (hp:parts P 8 t=some [.int .i64,.int .i64,.int .i64,.int .i64,.int .i64,.int .i64]) (hc:P.cellsOf t=6):Rd enc P w held t (ConD) conC (fun _ x=>I x.s∧I x.e∧I x.r∧I x.d) where
  len:=fun k=>by rw[hc];rfl
  up:=fun l l' k p h=>h
  sc:=fun h k _ a ha=>by simp only[conC,List.mem_cons,List.not_mem_nil,or_false] at ha;rcases ha with rfl |rfl |rfl |rfl |rfl |rfl <;>rfl
  rd:=fun fuel cs x l hl h=>by
    obtain ⟨c1,_,rfl,r1,c2,_,rfl,r2,c3,_,rfl,r3,c4,_,rfl,r4,c5,_,rfl,r5,c6,_,rfl,r6,rfl⟩:=parts_read 8 fuel t cs x _ h hp
    obtain ⟨i1,rfl,a1,b1⟩:=rd_int r1
    obtain ⟨i2,rfl,a2,b2⟩:=rd_int r2
    obtain ⟨i3,rfl,a3,b3⟩:=rd_int r3
    obtain ⟨i4,rfl,a4,b4⟩:=rd_int r4
    obtain ⟨i5,rfl,a5,b5⟩:=rd_int r5
    obtain ⟨i6,rfl,a6,b6⟩:=rd_int r6
    exact ⟨l,⟨i1,i2,i3,i4,i5,i6⟩,.refl l,hl,⟨_,_,rfl,rfl,_,_,rfl,rfl,_,_,rfl,rfl,_,_,rfl,rfl,_,_,rfl,rfl,_,_,rfl,rfl,rfl⟩,⟨⟨a3,b3⟩,⟨a4,b4⟩,⟨a5,b5⟩,⟨a6,b6⟩⟩⟩
theorem rd_cmd (hp:parts P 8 t=some [.int .i64,.int .i64,.int .i64,.int .i64,.int .i64,.int .i64,.int .i64,.int .u64,.int .i64,.int .i64,.int .i64,.int .i64,.int .i64,.int .i64,.string]) (hc:P.cellsOf t=15):Rd enc P w held t (CmdD) cmdC (fun _ x=>0≤x.b.id.s∧I x.b.total) where
  len:=fun k=>by rw[hc];rfl
  up:=fun l l' k p h=>h
  sc:=fun h k _ a ha=>by simp only[cmdC,List.mem_cons,List.not_mem_nil,or_false] at ha;rcases ha with rfl |rfl |rfl |rfl |rfl |rfl |rfl |rfl |rfl |rfl |rfl |rfl |rfl |rfl |rfl <;>rfl
  rd:=fun fuel cs x l hl h=>by
    obtain ⟨c1,_,rfl,r1,c2,_,rfl,r2,c3,_,rfl,r3,c4,_,rfl,r4,c5,_,rfl,r5,c6,_,rfl,r6,c7,_,rfl,r7,c8,_,rfl,r8,c9,_,rfl,r9,c10,_,rfl,r10,c11,_,rfl,r11,c12,_,rfl,r12,c13,_,rfl,r13,c14,_,rfl,r14,c15,_,rfl,r15,rfl⟩:=parts_read 8 fuel t cs x _ h hp
    obtain ⟨i1,rfl,a1,b1⟩:=rd_int r1
    obtain ⟨i2,rfl,a2,b2⟩:=rd_int r2
    obtain ⟨i3,rfl,a3,b3⟩:=rd_int r3
    obtain ⟨i4,rfl,a4,b4⟩:=rd_int r4
    obtain ⟨i5,rfl,a5,b5⟩:=rd_int r5
    obtain ⟨i6,rfl,a6,b6⟩:=rd_int r6
    obtain ⟨i7,rfl,a7,b7⟩:=rd_int r7
    obtain ⟨i8,rfl,a8,b8⟩:=rd_int r8
    obtain ⟨i9,rfl,a9,b9⟩:=rd_int r9
    obtain ⟨i10,rfl,a10,b10⟩:=rd_int r10
    obtain ⟨i11,rfl,a11,b11⟩:=rd_int r11
    obtain ⟨i12,rfl,a12,b12⟩:=rd_int r12
    obtain ⟨i13,rfl,a13,b13⟩:=rd_int r13
    obtain ⟨i14,rfl,a14,b14⟩:=rd_int r14
    obtain ⟨i15,rfl⟩:=rd_str r15
    exact ⟨l,⟨i1,i2,i3,i4,i5,i6,⟨⟨i7,i8,i9⟩,i10,i11,i12,i13,i14,i15.data.toList⟩⟩,.refl l,hl,⟨_,_,rfl,rfl,_,_,rfl,rfl,_,_,rfl,rfl,_,_,rfl,rfl,_,_,rfl,rfl,_,_,rfl,rfl,_,_,rfl,rfl,_,_,rfl,rfl,_,_,rfl,rfl,_,_,rfl,rfl,_,_,rfl,rfl,_,_,rfl,rfl,_,_,rfl,rfl,_,_,rfl,rfl,_,_,rfl,⟨i15,rfl,rfl⟩,rfl⟩,⟨(u64_ok ⟨a8,b8⟩).1,⟨a14,b14⟩⟩⟩
structure Tys (P:Program) (t cft plt cmt:TypeId):Prop where
  c:parts P 8 cft=some [.int .i64,.int .u64,.int .u64,.int .u64,.int .u64,.int .i64,.int .i64,.int .i64,.int .i64,.int .i64,.int .i64,.int .i64,.int .i64,.int .i64,.int .i64,.int .i64]∧P.cellsOf cft=16
  p:parts P 8 plt=some [.int .i64,.int .i64,.int .i64,.int .i64,.int .i64,.int .i64]∧P.cellsOf plt=6
  m:parts P 8 cmt=some [.int .i64,.int .i64,.int .i64,.int .i64,.int .i64,.int .i64,.int .i64,.int .u64,.int .i64,.int .i64,.int .i64,.int .i64,.int .i64,.int .i64,.string]∧P.cellsOf cmt=15
  s:parts P 8 t=some [.slice cft,.slice plt,.slice cmt]
theorem rd_sc (T:Tys P t cft plt cmt) {fuel:Nat} {cs:List Value} {x:DataW H × List MemPlace} {l:RowsL} (hl:OKs w l) (h:DataW.trod enc P w 0 (fun _=>true) held fuel t cs=some x):
    ∃ (l':RowsL) (s:ScX),Pre l l'∧OKs w l'∧VRs (rowsR l') (scC s) cs∧ScAt (rowsB l' ⟨0,.e⟩) s∧ScN s:=by
  obtain ⟨c1,_,rfl,r1,c2,_,rfl,r2,c3,_,rfl,r3,rfl⟩:=parts_read 8 fuel t cs x _ h T.s
  obtain ⟨l1,v1,k1,p1,hl1,q1,s1,g1⟩:=rd_sl (rd_cfg T.c.1 T.c.2) T.c.2 (by omega) hl r1
  obtain ⟨l2,v2,k2,p2,hl2,q2,s2,g2⟩:=rd_sl (rd_con T.p.1 T.p.2) T.p.2 (by omega) hl1 r2
  obtain ⟨l3,v3,k3,p3,hl3,q3,s3,g3⟩:=rd_sl (rd_cmd T.m.1 T.m.2) T.m.2 (by omega) hl2 r3
  have p23:=p2.trans p3
  exact ⟨l3,⟨k1,v1,k2,v2,k3,v3⟩,p1.trans p23,hl3,⟨_,_,rfl,q1.mono p23.le,_,_,rfl,q2.mono p3.le,_,_,rfl,q3,rfl⟩,⟨s1.up p23,s2.up p3,s3⟩,⟨g1,g2,g3⟩⟩
end
end Go.Abs
end
