/- Every operation that calls nothing: the model does what the evaluator says.
   Conditions: none. -/
import Derived.Test.YtdmofemokgboeaaGreatDoorEv2
import Derived.MapKept
import Derived.Laws.Externs
set_option linter.unusedSimpArgs false
set_option linter.unusedVariables false
set_option maxRecDepth 100000
noncomputable section
namespace Go.Abs
open Go.RowKit (Below)
section
variable {P:Program} {glob:Nat→Option AV} {K:Kp} {w0 w:World} {ρ:Rho} {h:Blks} {nid:Nat} {T:Tr} {a:Act} {o:Oper}
structure AppT (P:Program) (ts:Array TypeId) (e:TypeId):Prop where
  t: ∃ t,ts[0]? =some t∧P.underlying t=some (.slice e)
  x: ∃ u d,ts[1]? =some u∧P.underlying u=some d∧ ∀ k,d≠ .int k
  pos:P.cellsOf e≠0
  bytes:P.bytesOf e≠0
  zero: ∃ zc,zeroC P e=some zc
theorem run_app_fit {ts:Array TypeId} {e:TypeId} (A:AppT P ts e) {base:Option Addr} {m cap n:Nat} {x':Value} {vs:List Value} (hlen: ∀ w1:World,(Builtin.lenOf x').run P w1= .ok n w1) (hf:(Builtin.firstCells (P.cellsOf e) n x').run P w= .ok vs.toArray w) (hfit:m+n≤cap)
    {w':World} (hst: ∀ ad,base=some ad→(storeCells (ad.add (m*P.cellsOf e)) vs).run P w= .ok () w') (hnone:base=none→w'=w) (ty:TypeId):
    (Builtin.append_ ts ty #[.slice base m cap,x']).run P w= .ok (.slice base (m+n) cap) w':=by
  obtain ⟨t,ht,hu⟩:=A.t
  obtain ⟨u,d,hx,hxu,hd⟩:=A.x
  obtain ⟨zc,hz⟩:=A.zero
  obtain ⟨z,hz1,hz2,hz3,hz4,i,hi,hiz⟩:=zeroC_spec hz
  have hinfo:(P.info? e).isSome=true:=by rw[hi];rfl
  have hni:(match d with | .int _=>true |_=>false)=false:=by cases d <;>first |rfl |exact absurd rfl (hd _)
  unfold Builtin.append_
  simp only[ht,hx,List.getElem?_toArray,List.getElem?_cons_zero,List.getElem?_cons_succ,Sem.run_bind,run_underlying hu,Result.andThen_ok,run_sizeOf' hinfo,run_underlying hxu,Sem.run_pure]
  cases d <;>first |(exact absurd rfl (hd _))|skip
  all_goals
    simp only[Bool.false_eq_true,if_false,hlen,Result.andThen_ok,hfit,if_true,Bool.not_false,hf,Sem.run_bind]
    cases base with
    | none=>
      rw[hnone rfl]
      simp
    |some ad=>simp[hst ad rfl]
theorem run_app_grow {ts:Array TypeId} {e:TypeId} (A:AppT P ts e) {base:Option Addr} {m cap n:Nat} {x':Value} {vs olds:List Value} (hlen: ∀ w1:World,(Builtin.lenOf x').run P w1= .ok n w1) (hfit:cap<m+n) (hroom:(m+n)*P.bytesOf e≤roomMost)
    (hf: ∀ w1:World,Below w.heap.size w w1→w1.heap=w.heap→(Builtin.firstCells (P.cellsOf e) n x').run P w1= .ok vs.toArray w1) (hold: ∀ w1:World,w1.heap=w.heap→(Builtin.firstCells (P.cellsOf e) m (.slice base m cap)).run P w1= .ok olds.toArray w1) (hmax:m+n≤maxLen)
    (ho:olds.length=m*P.cellsOf e) (hv:vs.length=n*P.cellsOf e) (ty:TypeId):
    ∃ (k:Nat) (arr:Array Value) (w':World),m+n≤k∧k≤maxLen∧(Builtin.append_ ts ty #[.slice base m cap,x']).run P w= .ok (.slice (some ⟨w.heap.size,0,none⟩) (m+n) k) w'∧Below w.heap.size w w'∧
      w'.heap[w.heap.size]? =some (.cells arr e (0,0))∧arr.size=k*P.cellsOf e∧(∀ (j:Nat) (v:Value),(olds++vs)[j]? =some v→arr[j]? =some v):=by
  obtain ⟨t,ht,hu⟩:=A.t
  obtain ⟨u,d,hx,hxu,hd⟩:=A.x
  obtain ⟨zc,hz⟩:=A.zero
  obtain ⟨z,hz1,hz2,hz3,hz4,i,hi,hiz⟩:=zeroC_spec hz
  have hinfo:(P.info? e).isSome=true:=by rw[hi];rfl
  have hby:i.bytes=P.bytesOf e:=by unfold Program.bytesOf;rw[hi];rfl
  have hzs:z.cells.size=P.cellsOf e:=by have:=(hz2 (fun _=>none)).length;simp at this;omega
  obtain ⟨k,hk1,hk2,hk3⟩:=newCap_spec (P:=P) w (m+n) cap e hmax
  have hgs:Builtin.nextslicecap (m+n) cap*P.bytesOf e≤281474976710656:=growslice_fits hfit (sizes_le hroom)
  have hw1:Below w.heap.size w {w with drawn:=w.drawn+1}:=⟨rfl,rfl,rfl,Nat.le_refl _,fun _ _=>rfl⟩
  let w1:World:={w with drawn:=w.drawn+1}
  let arr:Array Value:=olds.toArray++vs.toArray++Builtin.zeroCells z.cells (k - (m+n))
  refine ⟨k,arr,w1.alloc (.cells arr e),hk1,hk2,?_,hw1.trans (below_alloc w1 _),heap_alloc_last w1 _,?_,fun j v hj=> ?_⟩
  · unfold Builtin.append_
    simp only[ht,hx,List.getElem?_toArray,List.getElem?_cons_zero,List.getElem?_cons_succ,Sem.run_bind,run_underlying hu,Result.andThen_ok,run_sizeOf' hinfo,run_underlying hxu,Sem.run_pure]
    have hti: ∀ w2:World,(typeInfo e).run P w2= .ok i w2:=fun w2=>by simp[typeInfo,hi]
    have hnf: ¬ (m+n≤cap):=by omega
    have hb0:i.bytes≠0:=by rw[hby];exact A.bytes
    have hgs': ¬ (Builtin.nextslicecap (m+n) cap*i.bytes>2 ^ 48):=by rw[hby];omega
    cases d <;>first |(exact absurd rfl (hd _))|skip
    all_goals
      simp only[Bool.false_eq_true,if_false,hlen,Result.andThen_ok,hnf,Sem.run_bind,hti,hb0,or_false,and_false,hgs',hk3,run_askRoom,hold _ (show ({w with drawn:=w.drawn+1}:World).heap=w.heap from rfl),Bool.not_false,if_true,hf _ hw1 rfl,hz1,newRow,run_newObj,Sem.run_pure,Sem.run_ite]
      rfl
  · show (olds.toArray++vs.toArray++Builtin.zeroCells z.cells (k - (m+n))).size=k*P.cellsOf e
    simp only[Array.size_append,List.size_toArray,size_zeroCells,hzs,ho,hv]
    rw[←Nat.add_mul,←Nat.add_mul]
    congr 1
    omega
  · show (olds.toArray++vs.toArray++Builtin.zeroCells z.cells (k - (m+n)))[j]? =some v
    have hlt:j<(olds++vs).length:=(List.getElem?_eq_some_iff.1 hj).1
    rw[Array.getElem?_append,if_pos (by simpa using hlt)]
    simpa using hj
end
open Go.RowKit (Below)
section
variable {P:Program} {glob:Nat→Option AV} {K:Kp} {w0 w:World} {ρ:Rho} {h:Blks} {nid:Nat} {T:Tr} {a:Act} {o:Oper}
theorem exec_append {c:Call} {s x:Operand} (ho:o.op= .call c) (hc:c.callee= .builtin .append) (ha:c.args= #[s,x]):
    (execOp a.eval o).run P w=((Builtin.append_ c.argTypes o.type #[a.eval s,a.eval x]).run P w).andThen fun v w'=> .ok (.value v) w':=by
  simp only[execOp,ho,Sem.run_bind,resolve,hc,ha,Sem.run_pure,Result.andThen_ok,invoke,builtin]
  simp
theorem take_all {α:Type} {l:List α} {n:Nat} (h:l.length=n):l.take n=l:=List.take_of_length_le (by omega)
theorem flat_pos {xs:List (List AV)} {n:Nat} (hn:0<n) (h: ∀ e∈xs,e.length=n) (hx:xs≠ []):0<xs.length:=by
  cases xs with
  |nil=>exact absurd rfl hx
  |cons=>simp
theorem grown_row (R:Rel K w0 ρ h w) (hid:nid≤h.length) (hn:ρ nid=none) {e:TypeId} {olds xs:List (List AV)} {ov vs:List Value} {k:Nat} {arr:Array Value} {w':World} (hc:P.cellsOf e≠0)
    (h1:VRs ρ olds.flatten ov) (h2:VRs ρ xs.flatten vs) (ho: ∀ x∈olds,x.length=P.cellsOf e) (hx: ∀ x∈xs,x.length=P.cellsOf e) (hk:olds.length+xs.length≤k) (hb:Below w.heap.size w w')
    (hh:w'.heap[w.heap.size]? =some (.cells arr e (0,0))) (hsz:arr.size=k*P.cellsOf e) (hos: ∀ y∈olds.flatten,y.scalar=true) (hxs: ∀ y∈xs.flatten,y.scalar=true) (hall: ∀ (j:Nat) (v:Value),(ov++vs)[j]? =some v→arr[j]? =some v):
    Rel K w0 (ρ.put nid ⟨w.heap.size,0,P.cellsOf e,k⟩) (bput h nid (some (.row true (P.cellsOf e) (olds++xs)))) w':=by
  refine new_row R hid hn hb hh (by omega) (fun x hx'=> ?_) (by simpa using hk) (by omega) (by simp) (fun j x hj=> ?_) (fun y hy=> ?_)
  · rcases List.mem_append.1 hx' with h |h
    · exact ho x h
    · exact hx x h
  · rw[List.flatten_append] at hj
    obtain ⟨v,hv,hr⟩:=(h1.append h2).get hj
    exact ⟨v,hall j v hv,hr⟩
  · rw[List.flatten_append,List.mem_append] at hy
    exact hy.elim (hos y) (hxs y)
theorem d_app (R:Rel K w0 ρ h w) (hg:GR glob ρ) (ht:TR ρ T a) (hid:nid≤h.length) (hn:ρ nid=none) {c:Call} {s x:Operand} {as ax:AOpnd} {e:TypeId} {v:AV} {cs:List Chg} (ho:o.op= .call c) (hc:c.callee= .builtin .append)
    (ha:c.args= #[s,x]) (A:AppT P c.argTypes e) (hs:copnd glob s=some as) (hx:copnd glob x=some ax) (hv:aappend (bget h) nid (P.cellsOf e) (P.bytesOf e) (aev T as) (aev T ax)=some (v,cs)):Done K w0 ρ nid (bputs h cs) v ((execOp a.eval o).run P w):=by
  have hpos:0<P.cellsOf e:=by have:=A.pos;omega
  have hrs:=VR_opnd hg ht hs
  have hrx:=VR_opnd hg ht hx
  rw[exec_append ho hc ha]
  unfold aappend at hv
  split at hv
  · cases hv
  ·
    rename_i hxs
    obtain ⟨⟨e1,e1s⟩,e2,vs,e3,e4,e5⟩:=elems_spec (P:=P) R hpos hxs hrx
    have hv0:vs=[]:=by
      have:=e3.length
      exact List.eq_nil_of_length_eq_zero (by simpa using this.symm)
    subst hv0
    have e6:=e5 0 (Nat.le_refl _) w rfl
    have fin: ∀ {base:Option Addr} {m cap:Nat},a.eval s= .slice base m cap→m≤cap→((Builtin.append_ c.argTypes o.type #[a.eval s,a.eval x]).run P w)= .ok (.slice base m cap) w:=by
      intro base m cap es hle
      rw[es]
      exact run_app_fit A e2 (by simpa using e6) (by simpa using hle) (fun ad _=>rfl) (fun _=>rfl) _
    split at hv
    · rename_i ev
      cases hv
      rw[ev] at hrs ⊢
      have es:a.eval s= .slice none 0 0:=hrs
      exact Done.val R (v':= .slice none 0 0) (by simp[VR]) (by rw[fin es (Nat.le_refl _)];rfl)
    · rename_i ev
      cases hv
      rw[ev] at hrs ⊢
      obtain ⟨ad,es⟩:=hrs
      exact Done.val R (v':= .slice (some ad) 0 0) ⟨ad,rfl⟩ (by rw[fin es (Nat.le_refl _)];rfl)
    · rename_i b i m cc ev
      cases hv
      rw[ev] at hrs ⊢
      obtain ⟨p,ad,cap,hp,es,hle,hrest⟩:=hrs
      exact Done.val R (v':= .slice (some ad) m cap) ⟨p,ad,cap,hp,rfl,hle,hrest⟩ (by rw[fin es hle];rfl)
    · cases hv
  · rename_i xs hxs0 hxs
    obtain ⟨⟨e1,e1s⟩,e2,vs,e3,e4,e5⟩:=elems_spec (P:=P) R hpos hxs hrx
    have hxpos:0<xs.length:=by
      cases xs with
      |nil=>exact absurd rfl hxs0
      |cons=>simp
    have hbpos:0<P.bytesOf e:=by have:=A.bytes;omega
    have e6: ∀ w1:World,w1.heap=w.heap→(Builtin.firstCells (P.cellsOf e) xs.length (a.eval x)).run P w1= .ok vs.toArray w1:=by
      intro w1 hh1
      have:=e5 xs.length (Nat.le_refl _) w1 hh1
      rwa[take_all e4] at this
    have grow0: ∀ {base:Option Addr},a.eval s= .slice base 0 0→xs.length*P.bytesOf e≤roomMost→
        Done K w0 ρ nid (bput h nid (some (.row true (P.cellsOf e) xs))) (.slice nid 0 xs.length none) (((Builtin.append_ c.argTypes o.type #[a.eval s,a.eval x]).run P w).andThen fun v w'=> .ok (.value v) w'):=by
      intro base es hroom
      have hmax:xs.length≤maxLen:=by
        have h1:xs.length*1≤xs.length*P.bytesOf e:=Nat.mul_le_mul_left _ hbpos
        unfold roomMost at hroom
        unfold maxLen
        omega
      obtain ⟨k,arr,w',g1,g2,g3,g4,g5,g6,g7⟩:=run_app_grow (P:=P) (w:=w) A (base:=base) (m:=0) (cap:=0) (n:=xs.length) (x':=a.eval x) (vs:=vs) (olds:=[]) e2 (by omega) (by simpa using hroom) (fun w1 _ hh1=>e6 w1 hh1)
        (fun w1 _=>by cases base <;>simp[Builtin.firstCells,loadCells,loadCellsFrom]) (by simpa using hmax) (by simp) e4 o.type
      rw[es,g3]
      have Rn:=grown_row R hid hn A.pos (olds:=[]) (ov:=[]) (by simp[VRs]) e3 (by simp) e1 (by simpa using g1) g4 g5 g6 (by simp) e1s (by simpa using g7)
      refine done_new hn Rn (v':= .slice (some ⟨w.heap.size,0,none⟩) xs.length k) ⟨_,_,_,Rho.put_self _ _ _,rfl,by simpa using g1,.inr ⟨by rw[at_zero],by simp⟩,by simp,by simp,g2⟩ (by simp)
    split at hv
    · rename_i ev
      split at hv
      · rename_i hroom
        cases hv
        rw[ev] at hrs
        exact grow0 hrs hroom
      · cases hv
    · rename_i ev
      split at hv
      · rename_i hroom
        cases hv
        rw[ev] at hrs
        obtain ⟨ad,es⟩:=hrs
        exact grow0 es hroom
      · cases hv
    · rename_i b i m cc ev
      rw[ev] at hrs
      obtain ⟨p,ad,cap,hp,es,hle,hk,hcap,hend,hmax⟩:=hrs
      split at hv
      · rename_i own ez rs hb
        split at hv
        · cases hv
        · rename_i hcond
          simp only[not_or,Classical.not_not,ne_eq,Nat.not_lt] at hcond
          obtain ⟨hez,hext,hroom⟩:=hcond
          subst hez
          have hesz:=row_place R hb hp
          obtain ⟨q,hq,hB⟩:=R.blk b _ hb
          have eqp:q=p:=Option.some.inj (hq.symm.trans hp)
          subst eqp
          have hBB:=hB
          obtain ⟨b1,b2,b3,b4,barr,bel,bfr,bh,b5,b6,b7,b8⟩:=hB
          have holds:=win_cells R hb hp i m hext
          obtain ⟨ov,ov1,ov2,ov3⟩:=holds
          have hallold: ∀ y∈(rs.drop i).take m,y.length=P.cellsOf e:=fun y hy=>b3 y (List.mem_of_mem_drop (List.mem_of_mem_take hy))
          have hlenold:((rs.drop i).take m).length=m:=by rw[List.length_take,List.length_drop];omega
          have hmaxn:m+xs.length≤maxLen:=by
            have h1:(m+xs.length)*1≤(m+xs.length)*P.bytesOf e:=Nat.mul_le_mul_left _ hbpos
            unfold roomMost at hroom
            unfold maxLen
            omega
          have hfold: ∀ w1:World,w1.heap=w.heap→(Builtin.firstCells (P.cellsOf e) m (.slice (some ad) m cap)).run P w1= .ok ov.toArray w1:=by
            intro w1 hh1
            by_cases hm0:m=0
            · subst hm0
              have:ov=[]:=List.eq_nil_of_length_eq_zero (by simpa using ov2)
              subst this
              simp[Builtin.firstCells,loadCells,loadCellsFrom]
            · have had:ad=q.at_ i 0:=by
                rcases hk with h |h
                · omega
                · exact h.1
              subst had
              have:=run_loadCells_list (P:=P) w1 (q.at_ i 0) ov (fun j v hv=>by
                have h4:=ov3 j v hv
                unfold World.cell? at h4 ⊢
                rw[hh1]
                exact h4)
              rw[ov2] at this
              simp[Builtin.firstCells,this]
          have inplace:m+xs.length≤cap→own=true→ ∃ w',(storeCells (ad.add (m*P.cellsOf e)) vs).run P w= .ok () w'∧(i+m+xs.length≤rs.length→Rel K w0 ρ (bput h b (some (.row true (P.cellsOf e) (rs.take (i+m)++xs++rs.drop (i+m+xs.length))))) w')∧
              (∃ arr':Array Value,w'.heap[q.cb]? =some (.cells arr' bel bfr)∧arr'.size=barr.size∧(∀ k,arr'[k]? =if q.base+(i+m)*P.cellsOf e≤k∧k<q.base+(i+m)*P.cellsOf e+vs.length then vs[k - (q.base+(i+m)*P.cellsOf e)]? else barr[k]?))∧
              (∀ k,k≠q.cb→w'.heap[k]? =w.heap[k]?)∧w'.heap.size=w.heap.size∧w'.os=w.os∧w'.tape=w.tape∧w'.output=w.output:=by
            intro hfit hown
            subst hown
            have had:ad=q.at_ i 0∧i+cap≤q.lim:=by
              rcases hk with h |h
              · omega
              · exact h
            obtain ⟨had,hlim⟩:=had
            subst had
            have hmulim:(i+(m+xs.length))*P.cellsOf e≤q.lim*P.cellsOf e:=Nat.mul_le_mul_right _ (by omega)
            have hsplit:(i+(m+xs.length))*P.cellsOf e=(i+m)*P.cellsOf e+xs.length*P.cellsOf e:=by rw[←Nat.add_mul];congr 1;omega
            have hones: ∀ v∈vs,v.oneCell'=true:=VRs_scalar e3 e1s
            obtain ⟨w',arr',s1,s2,s3,s4,s5,s6,s7,s8,s9⟩:=run_stores P q.cb (q.base+(i+m)*P.cellsOf e) bel bfr vs 0 barr w bh (b7 rfl).2 (by omega) hones
            have eadd:(q.at_ i 0).add (m*P.cellsOf e)=⟨q.cb,q.base+(i+m)*P.cellsOf e,none⟩:=by
              rw[Pl.at_elem q i m hesz]
              unfold Pl.at_
              rw[hesz]
              simp
            rw[eadd]
            refine ⟨w',s1,fun hin=> ?_,⟨arr',s2,s3,by simpa using s4⟩,s5,s6,s7,s8,s9⟩
            obtain ⟨w2,t1,t2⟩:=row_written (P:=P) R (es':=rs.take (i+m)++xs++rs.drop (i+m+xs.length)) (at_:=(i+m)*P.cellsOf e) (cs:=xs.flatten) (vs:=vs) hb hp e3 e1s
              (fun y hy=>by
                simp only[List.mem_append] at hy
                rcases hy with (hy |hy)|hy
                · exact b3 y (List.mem_of_mem_take hy)
                · exact e1 y hy
                · exact b3 y (List.mem_of_mem_drop hy))
              (by simp only[List.length_append,List.length_take,List.length_drop];omega)
              (by
                have:=flatten_len xs e1
                have h9:(i+m+xs.length)*P.cellsOf e≤rs.length*P.cellsOf e:=Nat.mul_le_mul_right _ hin
                rw[Nat.add_mul] at h9
                omega)
              (by
                rw[List.flatten_append,List.flatten_append,flatten_take _ _ b3,flatten_drop _ _ b3,flatten_len xs e1,←Nat.add_mul])
            have:w2=w':=by
              rw[s1] at t1
              injection t1 with _ t
              exact t.symm
            rw[←this]
            exact t2
          have hosc: ∀ y∈((rs.drop i).take m).flatten,y.scalar=true:=fun y hy=>b8 y (by
            simp only[List.mem_flatten] at hy ⊢
            obtain ⟨l,hl,hy⟩:=hy
            exact ⟨l,List.mem_of_mem_drop (List.mem_of_mem_take hl),hy⟩)
          have growold:cap<m+xs.length→ ∃ (k:Nat) (arr:Array Value) (w':World),m+xs.length≤k∧k≤maxLen∧(Builtin.append_ c.argTypes o.type #[a.eval s,a.eval x]).run P w= .ok (.slice (some ⟨w.heap.size,0,none⟩) (m+xs.length) k) w'∧Below w.heap.size w w'∧
              w'.heap[w.heap.size]? =some (.cells arr e (0,0))∧arr.size=k*P.cellsOf e∧(∀ (j:Nat) (v:Value),(ov++vs)[j]? =some v→arr[j]? =some v):=by
            intro hfit
            rw[es]
            exact run_app_grow (P:=P) (w:=w) A (base:=some ad) (m:=m) (cap:=cap) (n:=xs.length) (x':=a.eval x) (vs:=vs) (olds:=ov) e2 hfit hroom (fun w1 _ hh1=>e6 w1 hh1) hfold hmaxn ov2 e4 o.type
          have growdone: ∀ {h':Blks},Rel K w0 ρ h' w→nid≤h'.length→cap<m+xs.length→
              Done K w0 ρ nid (bput h' nid (some (.row true (P.cellsOf e) ((rs.drop i).take m++xs)))) (.slice nid 0 (m+xs.length) none) (((Builtin.append_ c.argTypes o.type #[a.eval s,a.eval x]).run P w).andThen fun v w'=> .ok (.value v) w'):=by
            intro h' R' hid' hfit
            obtain ⟨k,arr,w',g1,g2,g3,g4,g5,g6,g7⟩:=growold hfit
            have Rn:=grown_row R' hid' hn A.pos ov1 e3 hallold e1 (by rw[hlenold];exact g1) g4 g5 g6 hosc e1s g7
            rw[g3]
            exact done_new hn Rn (v':= .slice (some ⟨w.heap.size,0,none⟩) (m+xs.length) k) ⟨_,_,_,Rho.put_self _ _ _,rfl,g1,.inr ⟨by rw[at_zero],by simp⟩,by simp,by simp,g2⟩ (by simp)
          have fitrun: ∀ {w':World},m+xs.length≤cap→(storeCells (ad.add (m*P.cellsOf e)) vs).run P w= .ok () w'→(Builtin.append_ c.argTypes o.type #[a.eval s,a.eval x]).run P w= .ok (.slice (some ad) (m+xs.length) cap) w':=by
            intro w' hfit hst
            rw[es]
            exact run_app_fit A e2 (e6 w rfl) hfit (fun ad' had'=>by cases had';exact hst) (fun h=>by cases h) _
          have inDone:own=true∧i+m+xs.length≤rs.length→m+xs.length≤cap→Done K w0 ρ nid (bput h b (some (.row own (P.cellsOf e) (rs.take (i+m)++xs++rs.drop (i+m+xs.length))))) (.slice b i (m+xs.length) cc) (((Builtin.append_ c.argTypes o.type #[a.eval s,a.eval x]).run P w).andThen fun v w'=> .ok (.value v) w'):=by
            intro hin hfit
            obtain ⟨hown,hin⟩:=hin
            obtain ⟨w',s1,s2,_⟩:=inplace hfit hown
            subst hown
            exact ⟨.value (.slice (some ad) (m+xs.length) cap),_,w',ρ,by rw[fitrun hfit s1];rfl,.inl rfl,⟨q,ad,cap,hp,rfl,hfit,hk,hcap,hend,hmax⟩,s2 hin,Rho.le_refl _,fun _ _=>rfl⟩
          cases cc with
          | some k=>
            have hck:=hcap k rfl
            dsimp only at hv
            by_cases hr:m+xs.length≤k
            · rw[decide_eq_true hr,if_pos rfl] at hv
              split at hv
              · rename_i hin
                cases hv
                exact inDone hin (by omega)
              · cases hv
            · rw[decide_eq_false hr,if_neg (by simp)] at hv
              cases hv
              exact growdone R hid (by omega)
          | none=>
            have hce:=hend rfl
            dsimp only at hv
            by_cases hr:i+m+xs.length≤rs.length
            · rw[decide_eq_true hr,if_pos rfl] at hv
              split at hv
              · rename_i hin
                cases hv
                exact inDone hin (by omega)
              · cases hv
            · rw[decide_eq_false hr,if_neg (by simp)] at hv
              split at hv
              · rename_i hown
                cases hv
                have hblt:=bget_lt hb
                have Rk:=R.kill hblt
                have hlk:(bput h b none).length=h.length:=by rw[length_bput (by omega)];omega
                show Done K w0 ρ nid (bput (bput h b none) nid _) _ _
                by_cases hfit:m+xs.length≤cap
                · obtain ⟨w',s1,_,⟨arr',t1,t2,t3⟩,s5,s6,s7,s8,s9⟩:=inplace hfit hown
                  subst hown
                  have hge:=(b7 rfl).1
                  have had:ad=q.at_ i 0∧i+cap≤q.lim:=by
                    rcases hk with h |h
                    · omega
                    · exact h
                  obtain ⟨had,hlim⟩:=had
                  have Rw:Rel K w0 ρ (bput h b none) w':=Rk.world ⟨s7.trans R.below.os,s8.trans R.below.tape,s9.trans R.below.output,by rw[s6];exact R.below.size,R.below.lt,fun k hk=>(s5 k (fun e=>hge (e ▸ hk))).trans (R.below.block k hk)⟩ (by omega) (fun c' y p' hy hp'=>by
                    rw[bget_bput (by omega)] at hy
                    split at hy
                    · cases hy
                    · rename_i hcb
                      exact s5 _ fun e'=>R.sep b c' _ y q p' hb hy hp hp' rfl (fun e''=>hcb e''.symm) e'.symm)
                  have hflat:=flatten_len rs b3
                  have hmul1:(i+m)*P.cellsOf e≤rs.length*P.cellsOf e:=Nat.mul_le_mul_right _ hext
                  have hmul2:(i+cap)*P.cellsOf e≤q.lim*P.cellsOf e:=Nat.mul_le_mul_right _ hlim
                  have hmul3:(m+xs.length)*P.cellsOf e≤cap*P.cellsOf e:=Nat.mul_le_mul_right _ hfit
                  rw[Nat.add_mul] at hmul1 hmul2 hmul3
                  have hq1:(i+m)*P.cellsOf e=i*P.cellsOf e+m*P.cellsOf e:=Nat.add_mul _ _ _
                  refine done_new (p:=⟨q.cb,q.base+i*P.cellsOf e,P.cellsOf e,cap⟩) hn (Rw.put (by omega) hn ⟨rfl,hpos,?_,?_,arr',bel,bfr,t1,?_,?_,?_,?_⟩ ?_) (v':= .slice (some ad) (m+xs.length) cap) ?_ (by rw[fitrun hfit s1];rfl)
                  · intro y hy
                    rcases List.mem_append.1 hy with h |h
                    · exact hallold y h
                    · exact e1 y h
                  · rw[List.length_append,hlenold];exact hfit
                  · simp only;rw[t2];omega
                  · intro j y hj
                    simp only
                    rw[List.flatten_append] at hj
                    have hl1:((rs.drop i).take m).flatten.length=m*P.cellsOf e:=by rw[flatten_len _ hallold,hlenold]
                    rw[t3]
                    by_cases hjm:j<m*P.cellsOf e
                    · rw[if_neg (by omega)]
                      rw[List.getElem?_append_left (by omega)] at hj
                      rw[flatten_take _ _ (fun y hy=>b3 y (List.mem_of_mem_drop hy)),flatten_drop _ _ b3,List.getElem?_take,if_pos hjm,List.getElem?_drop] at hj
                      obtain ⟨v,hv,hr⟩:=b6 _ y hj
                      refine ⟨v,?_,hr.mono (Rho.le_put _ hn)⟩
                      rw[←hv]
                      congr 1
                      omega
                    · rw[List.getElem?_append_right (by omega),hl1] at hj
                      obtain ⟨v,hv,hr⟩:=e3.get hj
                      have hlt:=(List.getElem?_eq_some_iff.1 hv).1
                      rw[if_pos (by omega)]
                      refine ⟨v,?_,hr.mono (Rho.le_put _ hn)⟩
                      rw[←hv]
                      congr 1
                      omega
                  · intro _
                    exact ⟨hge,by rw[t2];exact (b7 rfl).2⟩
                  · intro y hy
                    rw[List.flatten_append,List.mem_append] at hy
                    exact hy.elim (hosc y) (e1s y)
                  · intro c' y p' hy hp'
                    rw[bget_bput (by omega)] at hy
                    split at hy
                    · cases hy
                    · rename_i hcb
                      exact fun e'=>R.sep b c' _ y q p' hb hy hp hp' rfl (fun e''=>hcb e''.symm) e'.symm
                  · refine ⟨_,ad,cap,Rho.put_self _ _ _,rfl,hfit,.inr ⟨?_,by simp⟩,by simp,by simp,hmax⟩
                    rw[had]
                    unfold Pl.at_
                    simp only[hesz,Nat.zero_mul,Nat.add_zero]
                · exact growdone Rk (by omega) (by omega)
              · cases hv
      · cases hv
    · cases hv
end
open Go.RowKit (Below)
section
variable {P:Program} {glob:Nat→Option AV} {K:Kp} {w0 w:World} {ρ:Rho} {h:Blks} {nid:Nat} {T:Tr} {a:Act} {o:Oper}
theorem exec_copy {c:Call} {s x:Operand} (ho:o.op= .call c) (hc:c.callee= .builtin .copy) (ha:c.args= #[s,x]):
    (execOp a.eval o).run P w=((Builtin.copy_ c.argTypes o.type #[a.eval s,a.eval x]).run P w).andThen fun v w'=> .ok (.value v) w':=by
  simp only[execOp,ho,Sem.run_bind,resolve,hc,ha,Sem.run_pure,Result.andThen_ok,invoke,builtin]
  simp
theorem run_copy {ts:Array TypeId} {t e:TypeId} (ht:ts[0]? =some t) (hu:P.underlying t=some (.slice e)) (hi:(P.info? e).isSome=true) {base:Option Addr} {m cap n:Nat} {x':Value} {vs:List Value} (hlen: ∀ w1:World,(Builtin.lenOf x').run P w1= .ok n w1)
    (hf:(Builtin.firstCells (P.cellsOf e) (Nat.min n m) x').run P w= .ok vs.toArray w) {w':World} (hst: ∀ ad,base=some ad→(storeCells ad vs).run P w= .ok () w') (hnone:base=none→w'=w) (ty:TypeId):
    (Builtin.copy_ ts ty #[.slice base m cap,x']).run P w= .ok (.int .i64 (Nat.min n m)) w':=by
  unfold Builtin.copy_
  simp only[ht,List.getElem?_toArray,List.getElem?_cons_zero,List.getElem?_cons_succ,Sem.run_bind,run_underlying hu,Result.andThen_ok,hlen,run_sizeOf' hi,hf]
  cases base with
  | none=>
    rw[hnone rfl]
    simp[goInt]
  |some ad=>simp[hst ad rfl,goInt]
theorem d_copy (R:Rel K w0 ρ h w) (hg:GR glob ρ) (ht:TR ρ T a) {c:Call} {s x:Operand} {as ax:AOpnd} {t e:TypeId} {v:AV} {cs:List Chg} (ho:o.op= .call c) (hc:c.callee= .builtin .copy)
    (ha:c.args= #[s,x]) (h0:c.argTypes[0]? =some t) (hu:P.underlying t=some (.slice e)) (hi:(P.info? e).isSome=true) (hpos:0<P.cellsOf e) (hs:copnd glob s=some as) (hx:copnd glob x=some ax) (hv:acopy (bget h) (P.cellsOf e) (aev T as) (aev T ax)=some (v,cs)):
    Done K w0 ρ nid (bputs h cs) v ((execOp a.eval o).run P w):=by
  have hrs:=VR_opnd hg ht hs
  have hrx:=VR_opnd hg ht hx
  rw[exec_copy ho hc ha]
  unfold acopy at hv
  split at hv
  · cases hv
  · rename_i xs hxs
    obtain ⟨⟨e1,e1s⟩,e2,vs,e3,e4,e5⟩:=elems_spec (P:=P) R hpos hxs hrx
    have zero: ∀ {base:Option Addr} {m cap:Nat},a.eval s= .slice base m cap→min xs.length m=0→(Builtin.copy_ c.argTypes o.type #[a.eval s,a.eval x]).run P w= .ok (.int .i64 0) w:=by
      intro base m cap es hz
      have hz':Nat.min xs.length m=0:=hz
      have h6:=e5 0 (by omega) w rfl
      rw[es]
      have:=run_copy (P:=P) (w:=w) (w':=w) h0 hu hi (base:=base) (m:=m) (cap:=cap) (n:=xs.length) (x':=a.eval x) (vs:=[]) e2 (by rw[hz'];simpa using h6) (fun ad _=>rfl) (fun _=>rfl) o.type
      rw[hz'] at this
      exact this
    split at hv
    · rename_i ev
      cases hv
      rw[ev] at hrs
      have es:a.eval s= .slice none 0 0:=hrs
      exact Done.val R VR_int (by rw[zero es (by omega)];rfl)
    · rename_i ev
      cases hv
      rw[ev] at hrs
      obtain ⟨ad,es⟩:=hrs
      exact Done.val R VR_int (by rw[zero es (by omega)];rfl)
    · rename_i b i n cc ev
      rw[ev] at hrs
      obtain ⟨p,ad,cap,hp,es,hle,hk,_⟩:=hrs
      dsimp only at hv
      split at hv
      · rename_i hz
        cases hv
        exact Done.val R VR_int (by rw[zero es hz];rfl)
      · rename_i hz
        split at hv
        · rename_i ez rs hb
          split at hv
          · rename_i hcond
            obtain ⟨rfl,hext⟩:=hcond
            cases hv
            obtain ⟨q,hq,hB⟩:=R.blk b _ hb
            have eqp:q=p:=Option.some.inj (hq.symm.trans hp)
            subst eqp
            obtain ⟨b1,b2,b3,b4,_⟩:=hB
            have had:ad=q.at_ i 0:=by
              rcases hk with h |h
              · omega
              · exact h.1
            subst had
            have hkk:min xs.length n≤xs.length:=Nat.min_le_left _ _
            have hmul:min xs.length n*P.cellsOf e≤xs.length*P.cellsOf e:=Nat.mul_le_mul_right _ hkk
            have hall: ∀ y∈xs.take (min xs.length n),y.length=P.cellsOf e:=fun y hy=>e1 y (List.mem_of_mem_take hy)
            have hlt:(xs.take (min xs.length n)).length=min xs.length n:=by rw[List.length_take];omega
            have hrel:VRs ρ (xs.take (min xs.length n)).flatten (vs.take (min xs.length n*P.cellsOf e)):=by
              rw[flatten_take _ _ e1]
              exact e3.take _
            obtain ⟨w',t1,t2⟩:=row_written (P:=P) R (es':=rs.take i++xs.take (min xs.length n)++rs.drop (i+min xs.length n)) (at_:=i*P.cellsOf e) hb hp hrel
              (fun y hy=>e1s y (by
                simp only[List.mem_flatten] at hy ⊢
                obtain ⟨l,hl,hy⟩:=hy
                exact ⟨l,List.mem_of_mem_take hl,hy⟩))
              (fun y hy=>by
                simp only[List.mem_append] at hy
                rcases hy with (hy |hy)|hy
                · exact b3 y (List.mem_of_mem_take hy)
                · exact hall y hy
                · exact b3 y (List.mem_of_mem_drop hy))
              (by simp only[List.length_append,List.length_take,List.length_drop];omega)
              (by
                rw[flatten_len _ hall,hlt]
                have h9:(i+min xs.length n)*P.cellsOf e≤rs.length*P.cellsOf e:=Nat.mul_le_mul_right _ hext
                rw[Nat.add_mul] at h9
                omega)
              (by
                rw[List.flatten_append,List.flatten_append,flatten_take _ i b3,flatten_drop _ _ b3,flatten_len _ hall,hlt,←Nat.add_mul])
            have e6:=e5 (min xs.length n) hkk w rfl
            have hrun:=run_copy (P:=P) (w:=w) (w':=w') h0 hu hi (base:=some (q.at_ i 0)) (m:=n) (cap:=cap) (n:=xs.length) (x':=a.eval x) (vs:=vs.take (min xs.length n*P.cellsOf e)) e2 e6
              (fun ad' h'=>by
                cases h'
                have:q.at_ i 0=⟨q.cb,q.base+i*P.cellsOf e,none⟩:=by unfold Pl.at_;rw[b1];simp
                rw[this]
                exact t1) (fun h'=>by cases h') o.type
            rw[es,hrun]
            refine ⟨.value (.int .i64 (Nat.min xs.length n)),_,w',ρ,rfl,.inl rfl,?_,t2,Rho.le_refl _,fun _ _=>rfl⟩
            have:((min xs.length n:Nat):Int)=((Nat.min xs.length n:Nat):Int):=rfl
            simp only[VR]
          · cases hv
        · cases hv
    · cases hv
theorem d_s2b (R:Rel K w0 ρ h w) (hg:GR glob ρ) (ht:TR ρ T a) (hid:nid≤h.length) (hn:ρ nid=none) {s d e:TypeId} {x:Operand} {ax:AOpnd} {l:List UInt8} (ho:o.op= .convert s d x) (hs:P.underlying s=some .string) (hd:P.underlying d=some (.slice e)) (he:P.underlying e=some (.int .u8))
    (hx:copnd glob x=some ax) (hv:aev T ax= .str l) (hl:l.length≤maxLen):Done K w0 ρ nid (bput h nid (some (.row true 1 (ofBytes l)))) (.slice nid 0 l.length none) ((execOp a.eval o).run P w):=by
  have hr:=VR_opnd hg ht hx
  rw[hv] at hr
  obtain ⟨b,ex,hb⟩:=hr
  have hsz:b.size=l.length:=by rw[←hb,Array.length_toList];rfl
  obtain ⟨k,hk1,hk2,hk3⟩:=newCap_spec (P:=P) w b.size 0 e (by omega)
  let arr:Array Value:=(b.data.map fun c=>Value.int .u8 c.toNat)++Array.replicate (k - b.size) (Value.int .u8 0)
  have harr:arr.size=k:=by
    show ((b.data.map fun c=>Value.int .u8 c.toNat)++Array.replicate (k - b.size) (Value.int .u8 0)).size=k
    have:b.data.size=b.size:=rfl
    simp only[Array.size_append,Array.size_map,Array.size_replicate]
    omega
  let w1:World:={w with drawn:=w.drawn+1}
  let w2:World:=w1.alloc (.cells arr e)
  let w3:World:=w2.freeze {block:=w.heap.size,off:=k} 1
  have hw1:Below w.heap.size w w1:=⟨rfl,rfl,rfl,Nat.le_refl _,fun _ _=>rfl⟩
  have hw2:Below w.heap.size w w2:=hw1.trans (below_alloc w1 _)
  have hh2:w2.heap[w.heap.size]? =some (.cells arr e (0,0)):=heap_alloc_last w1 _
  have hh3:w3.heap[w.heap.size]? =some (.cells arr e (k,k+1)):=by
    show (World.freeze w2 {block:=w.heap.size,off:=k} 1).heap[w.heap.size]? =_
    simp[World.freeze,Array.getElem?_modify,hh2]
  have hw3:Below w.heap.size w w3:=hw2.trans ⟨rfl,rfl,rfl,by simp[w3,World.freeze],fun j hj=>by
    show (World.freeze w2 {block:=w.heap.size,off:=k} 1).heap[j]? =_
    simp only[World.freeze,if_neg (show ¬ (1=0) by omega),Array.getElem?_modify]
    rw[if_neg (by omega)]⟩
  have hrun:(execOp a.eval o).run P w= .ok (.value (.slice (some ⟨w.heap.size,0,none⟩) l.length k)) w3:=by
    have hshape:(w2.shape? w.heap.size)=some (e,k):=by
      unfold World.shape?
      rw[hh2]
      simp[harr]
    have h1:(newRow e arr).run P w1= .ok ⟨w.heap.size,0,none⟩ w2:=rfl
    have h2:(markStringish ⟨w.heap.size,0,none⟩).run P w2= .ok () w3:=by
      simp only[markStringish,Sem.run_bind,run_shape,hshape,Result.andThen_ok,run_freeze]
      rfl
    have h3:(Conv.stringToBytes e b).run P w= .ok (.slice (some ⟨w.heap.size,0,none⟩) b.size k) w3:=by
      unfold Conv.stringToBytes
      rw[Sem.run_bind,hk3,Result.andThen_ok]
      show ((newRow e arr>>=fun a=>markStringish a>>=fun _=>pure (.slice (some a) b.size k)):Sem Value).run P w1=_
      rw[Sem.run_bind,h1,Result.andThen_ok,Sem.run_bind,h2,Result.andThen_ok,Sem.run_pure]
    have hc:(convert s d (.string b)).run P w= .ok (.slice (some ⟨w.heap.size,0,none⟩) l.length k) w3:=by
      simp only[convert,Sem.run_bind,run_underlying hs,run_underlying hd,run_underlying he,Result.andThen_ok,h3,hsz]
    simp only[execOp,ho,ex,Sem.run_bind,hc,Result.andThen_ok,Sem.run_pure]
  refine done_new hn (new_row R hid hn hw3 hh3 (by omega) (ofBytes_all l) (lim:=k) (by rw[ofBytes_len];omega) (by omega) (by intro j hj;rw[harr] at hj;simp only;omega) ?_ (ofBytes_scalar l)) (v':= .slice (some ⟨w.heap.size,0,none⟩) l.length k)
    ⟨_,_,_,Rho.put_self _ _ _,rfl,by omega,.inr ⟨by rw[at_zero],by simp⟩,by simp,by simp,hk2⟩ hrun
  intro j x hj
  have hbr:=ofBytes_rel (ρ:=ρ) l
  obtain ⟨v,hv,hr⟩:=hbr.get hj
  refine ⟨v,?_,hr⟩
  show ((b.data.map fun c=>Value.int .u8 c.toNat)++Array.replicate (k - b.size) (Value.int .u8 0))[j]? =some v
  have hlt:=(List.getElem?_eq_some_iff.1 hv).1
  simp only[List.length_map] at hlt
  rw[Array.getElem?_append,if_pos (by simp only[Array.size_map];have:b.data.size=b.size:=rfl;omega)]
  rw[←hb] at hv
  simpa using hv
theorem d_b2s (R:Rel K w0 ρ h w) (hg:GR glob ρ) (ht:TR ρ T a) {s d e:TypeId} {x:Operand} {ax:AOpnd} {xs:List (List AV)} {l:List UInt8} (ho:o.op= .convert s d x) (hs:P.underlying s=some (.slice e)) (hd:P.underlying d=some .string) (he:P.underlying e=some (.int .u8))
    (hx:copnd glob x=some ax) (hns: ∀ t,aev T ax≠ .str t) (hv:elemsOf (bget h) 1 (aev T ax)=some xs) (hb:bytesOf xs=some l):Done K w0 ρ nid h (.str l) ((execOp a.eval o).run P w):=by
  have hr:=VR_opnd hg ht hx
  obtain ⟨⟨e1,e1s⟩,e2,vs,e3,e4,e5⟩:=elems_spec (P:=P) R (by omega) hv hr
  have key: ∀ (xs:List (List AV)) (l:List UInt8) (vs:List Value) (acc:ByteArray),bytesOf xs=some l→VRs ρ xs.flatten vs→
      ∃ acc':ByteArray,(forIn (m:=Sem) vs acc (fun c r=>match c with
        | .int .u8 n=>pure (ForInStep.yield (r.push (UInt8.ofNat n.toNat)))
        | _=>do
          stuck "bytesToString: byte expected"
          pure (ForInStep.yield r))).run P w= .ok acc' w∧acc'.data.toList=acc.data.toList++l:=by
    intro xs
    induction xs with
    | nil=>
      intro l vs acc hb hr
      simp only[bytesOf] at hb
      cases hb
      simp only[List.flatten_nil,VRs] at hr
      subst hr
      exact ⟨acc,by simp,by simp⟩
    | cons y ys ih=>
      intro l vs acc hb hr
      unfold bytesOf at hb
      split at hb
      · rename_i heq;cases heq
      · rename_i n es heq
        injection heq with heq1 heq2
        subst heq1 heq2
        simp only[Option.map_eq_some_iff] at hb
        obtain ⟨l',hl',rfl⟩:=hb
        obtain ⟨v,vs',rfl,hv1,hv2⟩:=hr
        have hvv:v= .int .u8 n:=hv1
        subst hvv
        obtain ⟨acc',h1,h2⟩:=ih l' vs' (acc.push (UInt8.ofNat n.toNat)) hl' hv2
        refine ⟨acc',?_,?_⟩
        · simp only[List.forIn_cons,Sem.run_bind,Sem.run_pure,Result.andThen_ok]
          exact h1
        · rw[h2]
          show ((acc.data.push _).toList++l')=_
          simp
      · cases hb
  have hsl: ∃ ba n cp,a.eval x= .slice ba n cp:=by
    cases hax:aev T ax <;>rw[hax] at hv hr hns <;>simp only[elemsOf] at hv <;>first |(cases hv;done)|skip
    case nilslice=>exact ⟨none,0,0,hr⟩
    case slice0=>obtain ⟨ad,e⟩:=hr;exact ⟨some ad,0,0,e⟩
    case slice=>obtain ⟨p,ad,k,_,e,_⟩:=hr;exact ⟨some ad,_,k,e⟩
    case osl=>obtain ⟨ad,k,e⟩:=hr;exact ⟨ad,_,k,e⟩
    case str t=>exact absurd rfl (hns t)
  obtain ⟨ba,n,cp,ex⟩:=hsl
  have h6:=e5 xs.length (Nat.le_refl _) w rfl
  rw[take_all e4,ex] at h6
  have hn:n=xs.length:=by
    have:=e2 w
    rw[ex] at this
    simp only[Builtin.lenOf,Sem.run_pure,Result.ok.injEq] at this
    exact this.1
  obtain ⟨acc',h1,h2⟩:=key xs l vs ByteArray.empty hb e3
  have hrun:(Conv.bytesToString (.slice ba n cp)).run P w= .ok (.string acc') w:=by
    cases ba with
    | none=>
      simp only[Builtin.firstCells,Sem.run_pure,Result.ok.injEq] at h6
      have:vs=[]:=by
        have:=h6.1
        simpa using this.symm
      subst this
      simp only[List.forIn_nil,Sem.run_pure,Result.ok.injEq] at h1
      have:=h1.1
      subst this
      simp[Conv.bytesToString]
    | some ad=>
      simp only[Builtin.firstCells,Nat.mul_one] at h6
      rw[←hn] at h6
      simp only[Conv.bytesToString,Sem.run_bind,h6,Result.andThen_ok]
      rw[List.forIn_toArray]
      exact congrArg (fun r=>Result.andThen r fun a w'=>Sem.run P (pure (Value.string a)) w') h1
  exact Done.val R ⟨acc',rfl,h2⟩ (by simp[execOp,ho,convert,run_underlying hs,run_underlying hd,run_underlying he,ex,hrun])
end
open Go.RowKit (Below)
section
variable {P:Program} {glob:Nat→Option AV} {K:Kp} {w0 w:World} {ρ:Rho} {h:Blks} {nid:Nat} {T:Tr} {a:Act} {o:Oper}
theorem done_grow {v:AV} {v':Value} {w1:World} {r:Result Next} (R:Rel K w0 ρ h w) (hb:Below w.heap.size w w1) (hv:VR ρ v v') (hr:r= .ok (.value v') w1):Done K w0 ρ nid h v r:=
  ⟨.value v',v',w1,ρ,hr,.inl rfl,hv,R.grow hb,Rho.le_refl _,fun _ _=>rfl⟩
theorem d_sliceA (R:Rel K w0 ρ h w) (hg:GR glob ρ) (ht:TR ρ T a) {t e:TypeId} {x:Operand} {lo hi mx:Option Operand} {ax:AOpnd} {alo ahi amx:Option AOpnd} {v:AV} {n:Nat} (ho:o.op= .slice t x lo hi mx) (hu:P.underlying t=some (.array n e)) (he:(P.info? e).isSome=true)
    (hx:copnd glob x=some ax) (hlo:copt glob lo=some alo) (hhi:copt glob hi=some ahi) (hmx:copt glob mx=some amx) (hno:mx=none∨hi≠none)
    (hv:asliceA (bget h) (P.cellsOf e) n (aev T ax) (alo.map (aev T)) (ahi.map (aev T)) (amx.map (aev T))=some v):Done K w0 ρ nid h v ((execOp a.eval o).run P w):=by
  have hr:=VR_opnd hg ht hx
  unfold asliceA at hv
  split at hv
  · rename_i b i o' ev
    split at hv
    · rename_i own ez es hb
      split at hv
      · cases hv
      · rename_i hcond
        simp only[not_or,Classical.not_not,ne_eq,Nat.not_lt] at hcond
        obtain ⟨hez,homod,hlen,hmost⟩:=hcond
        split at hv
        · rename_i m hh l bm bh bl
          split at hv
          · rename_i hc
            obtain ⟨h1,h2,h3⟩:=hc
            cases hv
            rw[ev] at hr
            obtain ⟨p,hp,ex⟩:=hr
            have hB:=run_bounds (P:=P) (w:=w) hg ht false (len:=n) (cap:=n) hlo hhi hmx bl bh bm h1 h2 h3 (Nat.le_refl _) hno
            have eM:(if amx.isSome then m else n)=m:=by
              cases amx with
              |none=>simp[bound?] at bm;simp[bm]
              |some y=>rfl
            rw[eM] at hB
            have hesz:p.esz=P.cellsOf e:=(row_place R hb hp).trans hez
            obtain ⟨q,hq,hBR⟩:=R.blk b _ hb
            have eqp:q=p:=Option.some.inj (hq.symm.trans hp)
            subst eqp
            obtain ⟨b1,b2,b3,b4,_⟩:=hBR
            have hat:q.at_ i o'=q.at_ (i+o' / P.cellsOf e) 0:=by
              unfold Pl.at_
              rw[hesz]
              have:=row_norm (esz:=P.cellsOf e) (i:=i) (o:=o')
              rw[homod] at this
              rw[←this]
            rw[hat] at ex
            generalize i+o' / P.cellsOf e=i at*
            refine Done.val R (v':= .slice (some (if m=l then q.at_ i 0 else (q.at_ i 0).add (l*P.cellsOf e))) (hh - l) (m - l)) ⟨q,_,_,hq,rfl,by omega,?_,fun k hk=>(by cases hk;rfl),fun hk=>(by cases hk),?_⟩ ?_
            · by_cases hM:m=l
              · left;omega
              · right
                rw[if_neg hM]
                exact ⟨Pl.at_elem q i l hesz,by omega⟩
            · unfold roomMost at hmost;unfold maxLen;omega
            · have e2:(Instr.sliceAt t (.pointer (some (q.at_ i 0))) (lo.map a.eval) (hi.map a.eval) (mx.map a.eval)).run P w= .ok (.slice (some (if m=l then q.at_ i 0 else (q.at_ i 0).add (l*P.cellsOf e))) (hh - l) (m - l)) w:=by
                simp only[Instr.sliceAt,Sem.run_bind,run_underlying hu,Result.andThen_ok,Instr.sureAddr,Sem.run_pure,hB,run_sizeOf' he]
              simp only[execOp,ho,ex,Sem.run_bind,e2,Result.andThen_ok,Sem.run_pure]
          · cases hv
        · cases hv
    · cases hv
  · cases hv
theorem replicate_flatten {α:Type} {z:List α}: ∀ (n k:Nat),k<n*z.length→(List.replicate n z).flatten[k]? =z[k % z.length]?
  |0,k,h=>by omega
  | n+1,k,h=>by
    simp only[List.replicate_succ,List.flatten_cons]
    by_cases hk:k<z.length
    · rw[List.getElem?_append_left hk,Nat.mod_eq_of_lt hk]
    · rw[List.getElem?_append_right (by omega),replicate_flatten n (k - z.length) (by rw[Nat.add_mul] at h;omega),←Nat.mod_eq_sub_mod (by omega)]
theorem replicate_flatten_len {α:Type} {z:List α} (n:Nat):(List.replicate n z).flatten.length=n*z.length:=by
  induction n with
  |zero=>simp
  |succ n ih=>simp only[List.replicate_succ,List.flatten_cons,List.length_append,ih,Nat.add_mul];omega
theorem zero_fill {zc:List AV} {z:Value} (hz:VRs ρ zc z.cells.toList) (hne:zc.length≠0) (n:Nat):
    VRs ρ (List.replicate n zc).flatten ((Array.range (n*zc.length)).map (z.cells[· % z.cells.size]!)).toList:=by
  have hl:=hz.length
  simp at hl
  refine (VRs_iff ρ _ _).2 ⟨by rw[replicate_flatten_len];simp,fun k x v hx hv=> ?_⟩
  have hk:k<n*zc.length:=by rw[←replicate_flatten_len];exact (List.getElem?_eq_some_iff.1 hx).1
  rw[replicate_flatten n k hk] at hx
  obtain ⟨u,hu,hr⟩:=hz.get hx
  have hlt:k % zc.length<zc.length:=Nat.mod_lt _ (by omega)
  simp only[Array.getElem?_toList] at hu hv
  simp only[Array.getElem?_map] at hv
  rw[Array.getElem?_eq_getElem (by simpa using hk)] at hv
  simp only[Option.map_some,Array.getElem_range] at hv
  cases hv
  have:z.cells[k % z.cells.size]! =u:=by
    rw[←hl]
    rw[getElem!_def,hu]
  rw[this]
  exact hr
theorem set_flatten {n:Nat} {ws:List AV} (hw:ws.length=n): ∀ (es:List (List AV)) (i:Nat),(∀ e∈es,e.length=n)→i<es.length→(es.set i ws).flatten=es.flatten.take (i*n)++ws++es.flatten.drop (i*n+n)
  | [],i,_,hi=>by simp at hi
  | e::es,0,h,_=>by
    have he:=h e (by simp)
    simp[List.set,←he]
  | e::es,i+1,h,hi=>by
    have he:=h e (by simp)
    rw[List.set_cons_succ,List.flatten_cons,set_flatten hw es i (fun x hx=>h x (by simp[hx])) (by simpa using hi),List.flatten_cons]
    have e1:(i+1)*n=e.length+i*n:=by rw[Nat.add_mul,he];omega
    rw[e1,Nat.add_assoc,List.take_length_add_append,List.drop_length_add_append]
    simp
theorem fillE_fillC {n:Nat}: ∀ (parts:List (Nat × AV)) (es es':List (List AV)),(∀ e∈es,e.length=n)→fillE n es parts=some es'→
    fillC es.flatten (parts.map fun (i,v)=>(i*n,n,v))=some es'.flatten∧(∀ e∈es',e.length=n)∧es'.length=es.length
  | [],es,es',h,hf=>by simp only[fillE] at hf;cases hf;exact ⟨rfl,h,rfl⟩
  | (i, v)::parts,es,es',h,hf=>by
    simp only[fillE] at hf
    split at hf
    · rename_i ws hws
      split at hf
      · rename_i hc
        obtain ⟨h1,h2⟩:=hc
        have hset: ∀ e∈es.set i ws,e.length=n:=fun e he=>by
          rcases List.mem_or_eq_of_mem_set he with h3 |h3
          · exact h e h3
          · rw[h3];exact h1
        obtain ⟨g1,g2,g3⟩:=fillE_fillC parts _ _ hset hf
        refine ⟨?_,g2,by rw[g3,List.length_set]⟩
        simp only[List.map_cons,fillC,hws]
        have hle:i*n+n≤es.length*n:=by
          have:=Nat.mul_le_mul_right n (show i+1≤es.length from h2)
          rw[Nat.add_mul] at this
          omega
        rw[if_pos ⟨h1,by rw[flatten_len es h];exact hle⟩,←set_flatten h1 es i h h2]
        exact g1
      · cases hf
    · cases hf
theorem cpartsE_cparts {n:Nat}: ∀ {parts:List (Nat × Operand)} {aparts:List (Nat × AOpnd)},cpartsE glob parts=some aparts→
    cparts glob (fun i=>some (i*n,n)) parts=some (aparts.map fun (i,x)=>(i*n,n,x))
  | [],aparts,hp=>by simp only[cpartsE] at hp;cases hp;rfl
  | (i,x)::parts,aparts,hp=>by
    simp only[cpartsE] at hp
    split at hp
    · rename_i ax rest hx hr
      cases hp
      simp only[cparts,hx,cpartsE_cparts hr,List.map_cons]
    · cases hp
theorem d_slit (R:Rel K w0 ρ h w) (hg:GR glob ρ) (ht:TR ρ T a) (hid:nid≤h.length) (hn:ρ nid=none) {t e:TypeId} {len:Nat} {parts:Array (Nat × Operand)} {aparts:List (Nat × AOpnd)} {zc:List AV} {v:AV} {cs:List Chg}
    (ho:o.op= .buildSlice t len parts) (hu:P.underlying t=some (.slice e)) (hz:zeroC P e=some zc) (hc0:P.cellsOf e≠0) (hbig:len*P.cellsOf e≤2 ^ 20) (hp:cpartsE glob parts.toList=some aparts)
    (hv:aprim (bget h) nid T (.slit (P.cellsOf e) len zc aparts)=some (v,cs)):Done K w0 ρ nid (bputs h cs) v ((execOp a.eval o).run P w):=by
  obtain ⟨z,h1,h2,h3,h4,i,hi,hiz⟩:=zeroC_spec hz
  have hie:(P.info? e).isSome=true:=by rw[hi];rfl
  have hl:=(h2 ρ).length
  have epl:((parts.map fun (i,x)=>(i,a.eval x)).toList)=parts.toList.map fun (i,x)=>(i,a.eval x):=by simp
  simp only[aprim] at hv
  split at hv
  · rename_i hlen
    split at hv
    · rename_i hpe
      cases hv
      subst hlen
      have hap:aparts=[]:=by simpa using hpe
      have hpn:parts.toList=[]:=by
        subst hap
        cases hq:parts.toList with
        |nil=>rfl
        |cons y ys=>rw[hq] at hp;obtain ⟨i,x⟩:=y;simp only[cpartsE] at hp;split at hp <;>cases hp
      refine done_grow R (below_alloc w (.cells #[] e)) (v':= .slice (some ⟨w.heap.size,0,none⟩) 0 0) ⟨_,rfl⟩ ?_
      have:parts= #[]:=by apply Array.ext';simpa using hpn
      subst this
      have e0:(Array.range 0:Array Nat)= #[]:=rfl
      simp[execOp,ho,Instr.buildSlice,run_underlying hu,run_sizeOf' hie,Instr.fill,newRow,e0]
    · cases hv
  · rename_i hlen
    split at hv
    · rename_i es hf
      split at hv
      · rename_i hsc
        cases hv
        have hall: ∀ e'∈List.replicate len zc,e'.length=P.cellsOf e:=fun x hx=>by rw[(List.mem_replicate.1 hx).2];exact h3
        obtain ⟨g1,g2,g3⟩:=fillE_fillC _ _ _ hall hf
        have hz2:=zero_fill (h2 ρ) (by omega) len
        rw[h3] at hz2
        have hpc:=cpartsE_cparts (n:=P.cellsOf e) hp
        have g1:fillC (List.replicate len zc).flatten ((aparts.map fun (i,x)=>(i*P.cellsOf e,P.cellsOf e,x)).map fun (o,s,x)=>(o,s,aev T x))=some es.flatten:=by
          rw[←g1]
          simp[List.map_map,Function.comp_def]
        obtain ⟨X',e1,e2⟩:=fillC_rel (a:=a) parts.toList _ _ _ _ hg ht hpc hz2 g1
        have hlX:=e2.length
        rw[flatten_len es g2,g3,List.length_replicate] at hlX
        simp at hlX
        show Done K w0 ρ nid (bput h nid _) _ _
        refine done_new hn (new_row R hid hn (below_alloc w (.cells X' e)) (heap_alloc_last w _) (by omega) g2 (lim:=len) (by rw[g3,List.length_replicate];exact Nat.le_refl _) (by omega) (by simp) (fun k x hx=> ?_) (fun x hx=> ?_)) (v':= .slice (some ⟨w.heap.size,0,none⟩) len len) ?_ ?_
        · obtain ⟨v,hv,hr⟩:=e2.get hx
          exact ⟨v,by simpa using hv,hr⟩
        · obtain ⟨l,hl1,hl2⟩:=List.mem_flatten.1 hx
          exact List.all_eq_true.1 (List.all_eq_true.1 hsc l hl1) x hl2
        · refine ⟨_,_,_,Rho.put_self _ _ _,rfl,Nat.le_refl _,.inr ⟨(at_zero _ _ _).symm,by simp⟩,fun m hm=>(by cases hm;rfl),fun hm=>(by cases hm),?_⟩
          have:len*1≤len*P.cellsOf e:=Nat.mul_le_mul_left _ (by omega)
          unfold maxLen
          omega
        · have hno: ¬ len*P.cellsOf e>2 ^ 24:=by omega
          have hne: ¬ len*P.cellsOf e=0:=by
            intro h0
            rcases Nat.mul_eq_zero.1 h0 with h0 |h0
            · exact hlen h0
            · exact hc0 h0
          simp only[execOp,ho,Instr.buildSlice,Sem.run_bind,run_underlying hu,run_sizeOf' hie,Result.andThen_ok,if_neg hno,if_neg hne,h1,Sem.run_pure,epl,e1,newRow]
          simp
      · cases hv
    · cases hv
theorem wrap_i64 {n:Int} (h0:0≤n) (h1:n≤1000000000000):IntKind.i64.wrap n=n:=IntWalk.i64_in n (by omega)
theorem d_mkslice (R:Rel K w0 ρ h w) (hg:GR glob ρ) (ht:TR ρ T a) (hid:nid≤h.length) (hn:ρ nid=none) {t e:TypeId} {l c:Operand} {al ac:AOpnd} {zc:List AV} {v:AV} {cs:List Chg}
    (ho:o.op= .makeSlice t l c) (hu:P.underlying t=some (.slice e)) (hz:zeroC P e=some zc) (hc0:P.cellsOf e≠0) (hl:copnd glob l=some al) (hc:copnd glob c=some ac)
    (hv:aprim (bget h) nid T (.mkslice (P.cellsOf e) (P.bytesOf e) zc al ac)=some (v,cs)):Done K w0 ρ nid (bputs h cs) v ((execOp a.eval o).run P w):=by
  obtain ⟨z,h1,h2,h3,h4,i,hi,hiz⟩:=zeroC_spec hz
  have hie:(P.info? e).isSome=true:=by rw[hi];rfl
  have hbi:P.bytesOf e=i.bytes:=by simp[Program.bytesOf,hi]
  have hr1:=VR_opnd hg ht hl
  have hr2:=VR_opnd hg ht hc
  simp only[aprim] at hv
  split at hv
  · rename_i kl nl kc nc el ec
    split at hv
    · rename_i hcond
      obtain ⟨hl0,hlc,hmost⟩:=hcond
      rw[el] at hr1
      rw[ec] at hr2
      have exl:a.eval l= .int kl nl:=hr1
      have exc:a.eval c= .int kc nc:=hr2
      unfold roomMost at hmost
      have hcn:(nc.toNat:Int)=nc:=by omega
      have hle:nc.toNat*1≤nc.toNat*(P.bytesOf e+1):=Nat.mul_le_mul_left _ (by omega)
      have hby:nc.toNat*P.bytesOf e≤1000000000000:=Nat.le_trans (Nat.mul_le_mul_left _ (by omega)) hmost
      have hwl:IntKind.i64.wrap nl=nl:=wrap_i64 (by omega) (by omega)
      have hwc:IntKind.i64.wrap nc=nc:=wrap_i64 (by omega) (by omega)
      have hbm:((P.bytesOf e:Nat):Int)*nc≤1000000000000:=by
        have h5:((nc.toNat*P.bytesOf e:Nat):Int)≤1000000000000:=by omega
        rw[Int.natCast_mul,hcn,Int.mul_comm] at h5
        exact h5
      have hno: ¬ (nc.toNat*P.bytesOf e>roomBytes):=by
        have:roomBytes=2 ^ 47:=rfl
        omega
      have run: ∀ cells:Array Value,(nc.toNat*P.cellsOf e=0→cells= #[])→(nc.toNat*P.cellsOf e≠0→cells=(Array.range (nc.toNat*P.cellsOf e)).map (z.cells[· % z.cells.size]!))→
          (execOp a.eval o).run P w= .ok (.value (.slice (some ⟨w.heap.size,0,none⟩) nl.toNat nc.toNat)) (w.alloc (.cells cells e)):=by
        intro cells hcz hcn0
        have hA: ¬ (281474976710656<((P.bytesOf e:Nat):Int)*nc):=by omega
        have hB: ¬ nc<0:=by omega
        have hC: ¬ nl<0:=by omega
        have hD: ¬ nl>nc:=by omega
        by_cases h0:nc.toNat*P.cellsOf e=0
        · have e0:(Array.range 0:Array Nat)= #[]:=rfl
          have:=hcz h0
          subst this
          simp[execOp,ho,exl,exc,Instr.makeSlice,run_underlying hu,asInt,asIntOf,typeInfo,hi,hwl,hwc,hA,hB,hC,hD,askRoom,←hbi,hno,run_sizeOf' hie,h0,newRow,e0]
        · have:=hcn0 h0
          subst this
          simp[execOp,ho,exl,exc,Instr.makeSlice,run_underlying hu,asInt,asIntOf,typeInfo,hi,hwl,hwc,hA,hB,hC,hD,askRoom,←hbi,hno,run_sizeOf' hie,h0,newRow,h1]
      split at hv
      · rename_i hcz
        cases hv
        subst hcz
        have hl0':nl=0:=by omega
        subst hl0'
        refine done_grow R (below_alloc w (.cells #[] e)) (v':= .slice (some ⟨w.heap.size,0,none⟩) 0 0) ⟨_,rfl⟩ ?_
        exact run #[] (fun _=>rfl) (fun h=>absurd (by simp) h)
      · rename_i hcz
        cases hv
        have hz2:=zero_fill (h2 ρ) (by omega) nc.toNat
        rw[h3] at hz2
        have hlX:=hz2.length
        rw[replicate_flatten_len,h3] at hlX
        show Done K w0 ρ nid (bput h nid _) _ _
        refine done_new hn (new_row R hid hn (below_alloc w (.cells _ e)) (heap_alloc_last w _) (by omega) (fun x hx=>by rw[(List.mem_replicate.1 hx).2];exact h3) (lim:=nc.toNat) (by rw[List.length_replicate];exact Nat.le_refl _) (by simp) (by simp) (fun k x hx=> ?_) (fun x hx=> ?_)) (v':= .slice (some ⟨w.heap.size,0,none⟩) nl.toNat nc.toNat) ?_
          (run _ (fun h0=>by
            rcases Nat.mul_eq_zero.1 h0 with h0 |h0
            · omega
            · exact absurd h0 hc0) (fun _=>rfl))
        · obtain ⟨v,hv,hr⟩:=hz2.get hx
          exact ⟨v,by rwa[Array.getElem?_toList] at hv,hr⟩
        · obtain ⟨l,hl1,hl2⟩:=List.mem_flatten.1 hx
          rw[(List.mem_replicate.1 hl1).2] at hl2
          exact List.all_eq_true.1 h4 x hl2
        · refine ⟨_,_,_,Rho.put_self _ _ _,rfl,by omega,.inr ⟨(at_zero _ _ _).symm,by simp⟩,fun m hm=>(by cases hm;rfl),fun hm=>(by cases hm),?_⟩
          unfold maxLen
          omega
    · cases hv
  · cases hv
theorem d_mkmap (R:Rel K w0 ρ h w) (hid:nid≤h.length) (hn:ρ nid=none) {t:TypeId} (ho:o.op= .makeMap t none):Done K w0 ρ nid (bput h nid (some (.map []))) (.map nid) ((execOp a.eval o).run P w):=by
  have R1:=R.grow (below_alloc w (.map #[] 0))
  refine done_new hn (R1.put hid hn (p:=⟨w.heap.size,0,0,0⟩) ⟨R.fresh, #[],0,heap_alloc_last w _,rfl,fun i x e hx=>(by simp at hx)⟩ fun c y q hy hq=> ?_) (v':= .map (some w.heap.size)) ⟨_,Rho.put_self _ _ _,rfl⟩ (by simp[execOp,ho,Instr.makeMap])
  obtain ⟨q',hq',hB⟩:=R.blk c y hy
  have e:q'=q:=Option.some.inj (hq'.symm.trans hq)
  subst e
  have:=hB.lt
  exact fun e=>by simp at e;omega
theorem d_len (R:Rel K w0 ρ h w) (hg:GR glob ρ) (ht:TR ρ T a) {c:Call} {t:TypeId} {x:Operand} {ax:AOpnd} {k:LK} {v:AV} {cs:List Chg} (ho:o.op= .call c) (hc:c.callee= .builtin .len)
    (h0:c.argTypes[0]? =some t) (ha:c.args[0]? =some x) (hx:copnd glob x=some ax) (hk:match k with | .str=>P.underlying t=some .string | .slice=> ∃ e,P.underlying t=some (.slice e)| .map=> ∃ a b,P.underlying t=some (.map a b))
    (hv:aprim (bget h) nid T (.len k ax)=some (v,cs)):Done K w0 ρ nid (bputs h cs) v ((execOp a.eval o).run P w):=by
  have hr:=VR_opnd hg ht hx
  have harg:(c.args.map a.eval)[0]? =some (a.eval x):=by simp[ha]
  have red: ∀ n:Nat,(Builtin.len_ c.argTypes o.type (c.args.map a.eval)).run P w= .ok (goInt n) w→(execOp a.eval o).run P w= .ok (.value (goInt n)) w:=by
    intro n hb
    simp only[execOp,ho,Sem.run_bind,resolve,hc,Sem.run_pure,Result.andThen_ok,invoke,builtin,hb]
  simp only[aprim] at hv
  split at hv
  · rename_i s ev
    cases hv
    rw[ev] at hr
    obtain ⟨b,ex,hb⟩:=hr
    have hsz:b.size=s.length:=by rw[←hb,Array.length_toList];rfl
    refine Done.val R (v':=goInt s.length) rfl (red _ ?_)
    simp only[Builtin.len_,h0,harg,ex,Sem.run_bind,run_underlying hk,Result.andThen_ok,Sem.run_pure,hsz]
  · rename_i ev
    cases hv
    obtain ⟨e,hk⟩:=hk
    rw[ev] at hr
    have ex:a.eval x= .slice none 0 0:=hr
    refine Done.val R (v':=goInt 0) rfl (red 0 ?_)
    simp only[Builtin.len_,h0,harg,ex,Sem.run_bind,run_underlying hk,Result.andThen_ok,Sem.run_pure]
  · rename_i ev
    cases hv
    obtain ⟨e,hk⟩:=hk
    rw[ev] at hr
    obtain ⟨ad,ex⟩:=hr
    refine Done.val R (v':=goInt 0) rfl (red 0 ?_)
    simp only[Builtin.len_,h0,harg,ex,Sem.run_bind,run_underlying hk,Result.andThen_ok,Sem.run_pure]
  · rename_i b i n cc ev
    cases hv
    obtain ⟨e,hk⟩:=hk
    rw[ev] at hr
    obtain ⟨p,ad,cap,hp,ex,_⟩:=hr
    refine Done.val R (v':=goInt n) rfl (red n ?_)
    simp only[Builtin.len_,h0,harg,ex,Sem.run_bind,run_underlying hk,Result.andThen_ok,Sem.run_pure]
  · rename_i n ev
    cases hv
    obtain ⟨e,hk⟩:=hk
    rw[ev] at hr
    obtain ⟨ad,cap,ex⟩:=hr
    refine Done.val R (v':=goInt n) rfl (red n ?_)
    simp only[Builtin.len_,h0,harg,ex,Sem.run_bind,run_underlying hk,Result.andThen_ok,Sem.run_pure]
  · rename_i ev
    cases hv
    obtain ⟨e,e',hk⟩:=hk
    rw[ev] at hr
    have ex:a.eval x= .map none:=hr
    refine Done.val R (v':=goInt 0) rfl (red 0 ?_)
    simp only[Builtin.len_,h0,harg,ex,Sem.run_bind,run_underlying hk,Result.andThen_ok,Sem.run_pure]
    rfl
  · rename_i b ev
    split at hv
    · rename_i es hb
      cases hv
      obtain ⟨e,e',hk⟩:=hk
      rw[ev] at hr
      obtain ⟨p,hp,ex⟩:=hr
      obtain ⟨q,hq,hB⟩:=R.blk b _ hb
      have eqp:q=p:=Option.some.inj (hq.symm.trans hp)
      subst eqp
      obtain ⟨_,es',clock,hh,hlen,_⟩:=hB
      refine Done.val R (v':=goInt es.length) rfl (red _ ?_)
      have hget:(getObj q.cb).run P w= .ok (.map es' clock) w:=by simp[getObj,Sem.run,hh]
      simp only[Builtin.len_,h0,harg,ex,Sem.run_bind,run_underlying hk,Result.andThen_ok,hget,Sem.run_pure,hlen]
    · cases hv
  · cases hv
theorem aminmax_spec (isMax:Bool): ∀ (xs:List AV) (x v:AV) (x':Value) (xs':List Value),VR ρ x x'→VRs ρ xs xs'→aminmax isMax x xs=some v→
    ∃ v',VR ρ v v'∧(xs'.foldlM (if isMax then Builtin.max2 else Builtin.min2) x').run P w= .ok v' w
  | [],x,v,x',xs',h1,h2,hv=>by
    simp only[VRs] at h2
    subst h2
    unfold aminmax at hv
    split at hv
    · cases hv;exact ⟨x',h1,by simp⟩
    · cases hv
  | y::ys,x,v,x',xs',h1,h2,hv=>by
    obtain ⟨y',ys',rfl,h3,h4⟩:=h2
    cases x <;>try (simp[aminmax] at hv;done)
    rename_i k n
    cases y <;>try (simp[aminmax] at hv;done)
    rename_i k2 m
    simp only[aminmax] at hv
    cases h1;cases h3
    obtain ⟨v',g1,g2⟩:=aminmax_spec isMax ys _ v _ ys' VR_int h4 hv
    refine ⟨v',g1,?_⟩
    simp only[List.foldlM_cons,Sem.run_bind]
    cases isMax
    · simpa[Builtin.min2] using g2
    · simpa[Builtin.max2] using g2
theorem d_minmax (R:Rel K w0 ρ h w) (hg:GR glob ρ) (ht:TR ρ T a) {c:Call} {axs:List AOpnd} {isMax:Bool} {v:AV} {cs:List Chg} (ho:o.op= .call c) (hc:c.callee= .builtin (if isMax then .max else .min))
    (hx:copnds glob c.args.toList=some axs) (hv:aprim (bget h) nid T (.minmax isMax axs)=some (v,cs)):Done K w0 ρ nid (bputs h cs) v ((execOp a.eval o).run P w):=by
  have hr:=VRs_opnds hg ht hx
  simp only[aprim] at hv
  split at hv
  · rename_i x rest ex
    simp only[Option.map_eq_some_iff] at hv
    obtain ⟨u,hu,e⟩:=hv
    cases e
    rw[ex] at hr
    obtain ⟨x',xs',e1,h1,h2⟩:=hr
    obtain ⟨v',g1,g2⟩:=aminmax_spec (P:=P) (w:=w) isMax rest x v x' xs' h1 h2 hu
    have e2:(c.args.map a.eval).toList=x'::xs':=by simpa using e1
    refine Done.val R g1 ?_
    cases isMax
    · simp only[Bool.false_eq_true,if_false] at hc g2
      have:(Builtin.min_ c.argTypes o.type (c.args.map a.eval)).run P w= .ok v' w:=by simp only[Builtin.min_,e2,g2]
      simp only[execOp,ho,Sem.run_bind,resolve,hc,Sem.run_pure,Result.andThen_ok,invoke,builtin,this]
    · simp only[if_true] at hc g2
      have:(Builtin.max_ c.argTypes o.type (c.args.map a.eval)).run P w= .ok v' w:=by simp only[Builtin.max_,e2,g2]
      simp only[execOp,ho,Sem.run_bind,resolve,hc,Sem.run_pure,Result.andThen_ok,invoke,builtin,this]
  · cases hv
def nilV:NK→Value | .p=> .pointer none | .s=> .slice none 0 0 | .m=> .map none | .f=> .nilFunc | .i=> .nilIface
theorem nilK_inv {Y:Operand} {k:NK} (h:nilK Y=some k):Y= .const (nilV k):=by
  unfold nilK at h
  split at h <;>cases h <;>rfl
theorem nilT_inv {t:TypeId} {k:NK} (h:nilT P t=some k):match k with | .p=> ∃ e,P.underlying t=some (.pointer e)| .s=> ∃ e,P.underlying t=some (.slice e)| .m=> ∃ a b,P.underlying t=some (.map a b)| .f=> ∃ a b c,P.underlying t=some (.func a b c)| .i=> ∃ m,P.underlying t=some (.interface m):=by
  unfold nilT at h
  split at h <;>cases h <;>(rename_i hu;simp[hu])
def isnilV (neg:Bool) (k:NK) (x:AV):Option Bool:=
  match k,x with
    | .p,.nilptr | .s,.nilslice | .m,.nilmap | .f,.nilFunc | .i,.nilIface=>some (!neg)
    | .p,.ptr .. | .s,.slice0 | .s,.slice .. | .m,.map _ | .f,.func .. | .i,.iface .. =>some neg
    |_,_=>none
theorem run_isnil {t:TypeId} {k:NK} {x:AV} {x':Value} {neg b:Bool} {X Y:Operand} (ht:nilT P t=some k) (hk:nilK Y=some k) (hr:VR ρ x x') (hv:isnilV neg k x=some b) (a:Act):
    (eqGuard (if neg then .neq else .eql) t X Y x' (a.eval Y)).run P w= .ok () w∧(binOp (if neg then .neq else .eql) t x' (a.eval Y)).run P w= .ok (.bool b) w:=by
  have e1:=nilK_inv hk
  have e2:=nilT_inv ht
  subst e1
  clear hk
  have ev:a.eval (.const (nilV k))=nilV k:=rfl
  rw[ev]
  have key: ∀ r:Bool,(if neg then !r else r)=b→(∀ d,(Op.equalIn (d+1) t x' (nilV k)).run P w= .ok r w)→(binOp (if neg then .neq else .eql) t x' (nilV k)).run P w= .ok (.bool b) w:=by
    intro r hb hd
    have hd:=hd 9999
    have e3:Op.equal t x' (nilV k)=Op.equalIn (9999+1) t x' (nilV k):=rfl
    rw[←e3] at hd
    subst hb
    cases k <;>simp only[nilV] at hd ⊢ <;>cases neg <;>cases x' <;>simp[binOp,hd]
  cases k <;>cases x <;>simp only[isnilV] at hv <;>first |(cases hv;done)|skip
  case p.nilptr=>
    obtain ⟨e,hu⟩:=e2
    cases hr
    cases hv
    refine ⟨by cases neg <;>simp[eqGuard,nilV],key true (by cases neg <;>rfl) fun d=> ?_⟩
    simp[Op.equalIn,nilV,run_underlying hu]
  case p.ptr=>
    obtain ⟨e,hu⟩:=e2
    obtain ⟨p,hp,rfl⟩:=hr
    cases hv
    refine ⟨by cases neg <;>simp[eqGuard,nilV],key false (by cases neg <;>rfl) fun d=> ?_⟩
    simp[Op.equalIn,nilV,run_underlying hu]
  case s.nilslice=>
    obtain ⟨e,hu⟩:=e2
    cases hr
    cases hv
    refine ⟨by cases neg <;>simp[eqGuard,nilV],key true (by cases neg <;>rfl) fun d=> ?_⟩
    simp[Op.equalIn,nilV,run_underlying hu]
  case s.slice0=>
    obtain ⟨e,hu⟩:=e2
    obtain ⟨ad,rfl⟩:=hr
    cases hv
    refine ⟨by cases neg <;>simp[eqGuard,nilV],key false (by cases neg <;>rfl) fun d=> ?_⟩
    simp[Op.equalIn,nilV,run_underlying hu]
  case s.slice=>
    obtain ⟨e,hu⟩:=e2
    obtain ⟨p,ad,cap,hp,rfl,_⟩:=hr
    cases hv
    refine ⟨by cases neg <;>simp[eqGuard,nilV],key false (by cases neg <;>rfl) fun d=> ?_⟩
    simp[Op.equalIn,nilV,run_underlying hu]
  case m.nilmap=>
    obtain ⟨e,e',hu⟩:=e2
    cases hr
    cases hv
    refine ⟨by cases neg <;>simp[eqGuard,nilV],key true (by cases neg <;>rfl) fun d=> ?_⟩
    simp[Op.equalIn,nilV,run_underlying hu]
  case m.map=>
    obtain ⟨e,e',hu⟩:=e2
    obtain ⟨p,hp,rfl⟩:=hr
    cases hv
    refine ⟨by cases neg <;>simp[eqGuard,nilV],key false (by cases neg <;>rfl) fun d=> ?_⟩
    simp[Op.equalIn,nilV,run_underlying hu]
  case f.nilFunc=>
    obtain ⟨e,e',e'',hu⟩:=e2
    cases hr
    cases hv
    refine ⟨by cases neg <;>simp[eqGuard,nilV],key true (by cases neg <;>rfl) fun d=> ?_⟩
    simp[Op.equalIn,nilV,run_underlying hu]
  case f.func=>
    obtain ⟨e,e',e'',hu⟩:=e2
    obtain ⟨p,q,rfl,_⟩:=hr
    cases hv
    refine ⟨by cases neg <;>simp[eqGuard,nilV],key false (by cases neg <;>rfl) fun d=> ?_⟩
    simp[Op.equalIn,nilV,run_underlying hu]
  case i.nilIface=>
    obtain ⟨e,hu⟩:=e2
    cases hr
    cases hv
    refine ⟨by cases neg <;>simp[eqGuard,nilV],key true (by cases neg <;>rfl) fun d=> ?_⟩
    simp[Op.equalIn,nilV,run_underlying hu]
  case i.iface=>
    obtain ⟨e,hu⟩:=e2
    obtain ⟨p,rfl,_⟩:=hr
    cases hv
    refine ⟨by cases neg <;>simp[eqGuard,nilV],key false (by cases neg <;>rfl) fun d=> ?_⟩
    simp[Op.equalIn,nilV,run_underlying hu]
theorem d_isnil (R:Rel K w0 ρ h w) (hg:GR glob ρ) (ht:TR ρ T a) {t u:TypeId} {x y:Operand} {ax:AOpnd} {k:NK} {neg:Bool} {v:AV} {cs:List Chg} (ho:o.op= .binOp (if neg then .neq else .eql) t x y u)
    (h1:nilT P t=some k) (h2:nilK y=some k) (hx:copnd glob x=some ax) (hv:aprim (bget h) nid T (.isnil neg k ax)=some (v,cs)):Done K w0 ρ nid (bputs h cs) v ((execOp a.eval o).run P w):=by
  have hr:=VR_opnd hg ht hx
  have: ∃ b,isnilV neg k (aev T ax)=some b∧v= .bool b∧cs=[]:=by
    simp only[aprim] at hv
    unfold isnilV
    split at hv <;>cases hv <;>simp_all
  obtain ⟨b,hb,rfl,rfl⟩:=this
  obtain ⟨g1,g2⟩:=run_isnil (w:=w) (X:=x) h1 h2 hr hb a
  exact Done.val R VR_bool (by simp[execOp,ho,g1,g2])
end
open Go.RowKit (Below)
section
variable {P:Program} {glob:Nat→Option AV} {K:Kp} {w0 w:World} {ρ:Rho} {h:Blks} {nid:Nat} {T:Tr} {a:Act} {o:Oper}
def ChkAt (P:Program) (ρ:Rho) (d:Nat) (t:TypeId) (sh:List CK):Prop:=
  ∀ (em:Bool) (D:Nat),d≤D→ ∀ (as:List AV) (X:Array Value) (w:World),VRs ρ as X.toList→(peqL sh as as).isSome=true→
    if isAggT P t=true then (Instr.checkKey em D t (.agg X)).run P w= .ok () w
    else ∃ x,X= #[x]∧(Instr.checkKey em D t x).run P w= .ok () w
theorem peqL_self_append {k1 k2:List CK} {as:List AV} (h:(peqL (k1++k2) as as).isSome=true):(peqL k1 (as.take k1.length) (as.take k1.length)).isSome=true∧(peqL k2 (as.drop k1.length) (as.drop k1.length)).isSome=true:=by
  obtain ⟨r,hr⟩:=Option.isSome_iff_exists.1 h
  obtain ⟨r1,r2,p1,p2,_⟩:=peqL_append hr
  rw[p1,p2]
  exact ⟨rfl,rfl⟩
theorem chk_fields {d:Nat} (ih: ∀ {t:TypeId} {sh:List CK},plainShape P d t=some sh→ChkAt P ρ d t sh) (em:Bool):
    ∀ (fs :List Field) (o:Nat) (sh:List CK),plainShape.plainFs (plainShape P d) o fs=some sh→ ∀ (D:Nat),d≤D→ ∀ (as:List AV) (X:Array Value) (w:World),
      VRs ρ as X.toList→(peqL sh (as.drop o) (as.drop o)).isSome=true→
      (forIn fs PUnit.unit fun f _=>do
        if f.name≠ "_" then
          Instr.checkKey em D f.type (←part f.type X f.offset)
        pure (ForInStep.yield PUnit.unit):Sem PUnit).run P w= .ok () w
  | [],o,sh,hs,D,hD,as,X,w,hx,hr=>by simp
  | f ::fs,o,sh,hs,D,hD,as,X,w,hx,hr=>by
    simp only[plainShape.plainFs] at hs
    split at hs
    · cases hs
    · rename_i hcond
      split at hs
      · rename_i s1 h1
        split at hs
        · rename_i s2 h2
          cases hs
          have hname:f.name≠ "_" :=fun e=>hcond (.inl e)
          have hoff:f.offset=o:=Classical.byContradiction fun e=>hcond (.inr e)
          obtain ⟨p1,p2⟩:=peqL_self_append hr
          rw[List.drop_drop] at p2
          have hrest:=chk_fields ih em fs (o+s1.length) s2 h2 D hD as X w hx p2
          have hE:=ih h1 em D hD _ (X.extract o (o+s1.length)) w (extract_rel hx o s1.length) p1
          obtain ⟨px1,px2⟩:=part_rel h1 X o
          by_cases ha:isAggT P f.type=true
          · rw[if_pos ha] at hE
            simp only[List.forIn_cons,Sem.run_bind,hname,ne_eq,not_false_eq_true,if_true,hoff,px1 ha,Result.andThen_ok,hE,Sem.run_pure]
            exact hrest
          · rw[if_neg ha] at hE
            obtain ⟨x,ex,hE⟩:=hE
            have ha':isAggT P f.type=false:=by simpa using ha
            simp only[List.forIn_cons,Sem.run_bind,hname,ne_eq,not_false_eq_true,if_true,hoff,px2 ha' x ex,Result.andThen_ok,hE,Sem.run_pure]
            exact hrest
        · cases hs
      · cases hs
theorem chk_items {d:Nat} {e:TypeId} {sh:List CK} (hs:plainShape P d e=some sh) (hE:ChkAt P ρ d e sh) (em:Bool):
    ∀ (m i:Nat) (D:Nat),d≤D→ ∀ (as:List AV) (X:Array Value) (w:World),
      VRs ρ as X.toList→(peqL (List.replicate m sh).flatten (as.drop (i*sh.length)) (as.drop (i*sh.length))).isSome=true→
      (forIn (List.range' i m) PUnit.unit fun j _=>do Instr.checkKey em D e (←part e X (j*(←sizeOf e)));pure (ForInStep.yield PUnit.unit):Sem PUnit).run P w= .ok () w
  |0,i,D,hD,as,X,w,hx,hr=>by simp
  | m +1,i,D,hD,as,X,w,hx,hr=>by
    rw[List.replicate_succ,List.flatten_cons] at hr
    obtain ⟨p1,p2⟩:=peqL_self_append hr
    rw[List.drop_drop] at p2
    have ei:i*sh.length+sh.length=(i+1)*sh.length:=by rw[Nat.succ_mul]
    rw[ei] at p2
    have hrest:=chk_items hs hE em m (i+1) D hD as X w hx p2
    have hF:=hE em D hD _ (X.extract (i*sh.length) (i*sh.length+sh.length)) w (extract_rel hx _ _) p1
    obtain ⟨px1,px2⟩:=part_rel hs X (i*sh.length)
    have hsz:=run_sizeOf' (P:=P) (info_of_underlying (plainShape_some hs)) w
    rw[←plainShape_len hs] at hsz
    rw[List.range'_succ]
    by_cases ha:isAggT P e=true
    · rw[if_pos ha] at hF
      simp only[List.forIn_cons,Sem.run_bind,hsz,px1 ha,Result.andThen_ok,hF,Sem.run_pure]
      exact hrest
    · rw[if_neg ha] at hF
      obtain ⟨x,ex,hF⟩:=hF
      have ha':isAggT P e=false:=by simpa using ha
      simp only[List.forIn_cons,Sem.run_bind,hsz,px2 ha' x ex,Result.andThen_ok,hF,Sem.run_pure]
      exact hrest
theorem chk_sound: ∀ {d:Nat} {t:TypeId} {sh:List CK},plainShape P d t=some sh→ChkAt P ρ d t sh
  |0,_,_,h=>by simp[plainShape] at h
  | d + 1,t,sh,h=>by
    intro em D hD as X w hx hr
    obtain ⟨D,rfl⟩: ∃ D',D=D'+1:=⟨D - 1,by omega⟩
    obtain ⟨r,hr'⟩:=Option.isSome_iff_exists.1 hr
    unfold plainShape at h
    split at h
    · rename_i hu
      split at h <;>cases h
      have hagg:isAggT P t=false:=by simp[isAggT,hu]
      rw[hagg,if_neg (by simp)]
      obtain ⟨a,x,rfl,rfl,hax⟩:=one_of_len hx (peqL_len hr').1
      exact ⟨x,rfl,by simp[Instr.checkKey,run_underlying hu]⟩
    · rename_i hu
      split at h <;>cases h
      have hagg:isAggT P t=false:=by simp[isAggT,hu]
      rw[hagg,if_neg (by simp)]
      obtain ⟨a,x,rfl,rfl,hax⟩:=one_of_len hx (peqL_len hr').1
      exact ⟨x,rfl,by simp[Instr.checkKey,run_underlying hu]⟩
    · rename_i hu
      split at h <;>cases h
      have hagg:isAggT P t=false:=by simp[isAggT,hu]
      rw[hagg,if_neg (by simp)]
      obtain ⟨a,x,rfl,rfl,hax⟩:=one_of_len hx (peqL_len hr').1
      exact ⟨x,rfl,by simp[Instr.checkKey,run_underlying hu]⟩
    · rename_i fs hu
      split at h
      · cases h
      · split at h
        · rename_i sh' hf
          split at h <;>cases h
          have hagg:isAggT P t=true:=by simp[isAggT,hu]
          rw[if_pos hagg]
          have:=chk_fields (fun h=>chk_sound h) em fs.toList 0 _ hf D (by omega) as X w hx (by simpa using hr)
          rw[Instr.checkKey]
          simp only[Sem.run_bind,run_underlying hu,Result.andThen_ok,←Array.forIn_toList]
          rw[this]
          rfl
        · cases h
    · rename_i n e hu
      split at h
      · rename_i sh' he
        split at h
        · rename_i hl
          cases h
          have hagg:isAggT P t=true:=by simp[isAggT,hu]
          rw[if_pos hagg]
          have:=chk_items he (chk_sound he) em n 0 D (by omega) as X w hx (by simpa using hr)
          rw[Instr.checkKey]
          simp only[Sem.run_bind,run_underlying hu,Result.andThen_ok,Std.Legacy.Range.forIn_eq_forIn_range',Std.Legacy.Range.size,Nat.sub_zero,Nat.add_one_sub_one,Nat.div_one]
          rw[this]
          rfl
        · cases h
      · cases h
    · cases h
theorem run_checkKey' {t:TypeId} {sh:List CK} (hs:plainShape P 20 t=some sh) {x:AV} {x':Value} (hp:(peq (isAggT P t) sh x x).isSome=true) (hx:VR ρ x x') (em:Bool):(Instr.checkKey em 10000 t x').run P w= .ok () w:=by
  have hC:=chk_sound (ρ:=ρ) hs em 10000 (by decide)
  unfold peq at hp
  split at hp
  · rename_i ha
    cases x <;>simp only at hp <;>first |(cases hp;done)|skip
    obtain ⟨X,rfl,h1⟩:=hx
    have:=hC _ X w h1 hp
    rw[if_pos ha] at this
    exact this
  · rename_i ha
    split at hp
    · rename_i k
      have h1:VRs ρ [x] (#[x']:Array Value).toList:=⟨x',[],rfl,hx,rfl⟩
      obtain ⟨r,hr⟩:=Option.isSome_iff_exists.1 hp
      have:=hC [x] #[x'] w h1 (by simp[peqL,hr])
      rw[if_neg ha] at this
      obtain ⟨q,e1,h3⟩:=this
      cases e1
      exact h3
    · cases hp
def ERs (ρ:Rho) (ents:List (AV × AV)) (es:List MapEntry):Prop:=
  ents.length=es.length∧ ∀ (i:Nat) (x:AV × AV) (e:MapEntry),ents[i]? =some x→es[i]? =some e→VR ρ x.1 e.key∧VR ρ x.2 e.val
theorem ERs.tail {x:AV × AV} {e:MapEntry} {ents:List (AV × AV)} {es:List MapEntry} (h:ERs ρ (x::ents) (e::es)):(VR ρ x.1 e.key∧VR ρ x.2 e.val)∧ERs ρ ents es:=
  ⟨h.2 0 x e rfl rfl,by simpa using h.1,fun i y f hy hf=>h.2 (i+1) y f (by simpa using hy) (by simpa using hf)⟩
def Found (agg:Bool) (sh:List CK) (k:AV) (ents:List (AV × AV)) (es:List MapEntry) (i:Nat):Option AV→Option (Nat × Value)→Prop
  |none,none=>True
  |some v,some r=> ∃ j k2 e,ents[j]? =some (k2,v)∧es[j]? =some e∧r=(i+j,e.val)∧peq agg sh k k2=some true∧ ∀ (i:Nat) (x:AV × AV),i<j→ents[i]? =some x→peq agg sh k x.1=some false
  |_,_=>False
theorem Found.cons {agg:Bool} {sh:List CK} {k:AV} {x:AV × AV} {e:MapEntry} {ents:List (AV × AV)} {es:List MapEntry} {i:Nat} {r:Option AV} {r':Option (Nat × Value)} (hp:peq agg sh k x.1=some false) (h:Found agg sh k ents es (i+1) r r'):Found agg sh k (x::ents) (e::es) i r r':=by
  cases r <;>cases r' <;>first |exact h |skip
  obtain ⟨j,k2,e,h1,h2,h3,h4,h5⟩:=h
  refine ⟨j+1,k2,e,by simpa using h1,by simpa using h2,by rw[h3];congr 1;omega,h4,fun i x hi hx=> ?_⟩
  cases i with
  |zero=>simp at hx;subst hx;exact hp
  |succ i=>exact h5 i x (by omega) (by simpa using hx)
theorem run_findAsking' {t:TypeId} {sh:List CK} (hs:plainShape P 20 t=some sh) {k:AV} {k':Value} (hk:VR ρ k k'):
    ∀ (ents:List (AV × AV)) (es:List MapEntry) (i:Nat) (r:Option AV),ERs ρ ents es→findE (isAggT P t) sh k ents=some r→ ∃ r',(Instr.findAsking t k' es i).run P w= .ok r' w∧Found (isAggT P t) sh k ents es i r r'
  | [],es,i,r,hE,hf=>by
    have:es=[]:=List.eq_nil_of_length_eq_zero hE.1.symm
    subst this
    simp only[findE] at hf
    cases hf
    exact ⟨none,by simp[Instr.findAsking],trivial⟩
  |(k2,v)::ents,[],i,r,hE,hf=>by have:=hE.1;simp at this
  | (k2,v)::ents,e::es,i,r,hE,hf=>by
    obtain ⟨⟨h1,h2⟩,h3⟩:=hE.tail
    simp only[findE] at hf
    split at hf
    · rename_i hp
      cases hf
      have hq:=run_peq (w:=w) hs (by decide) hp hk h1
      exact ⟨some (i,e.val),by simp[Instr.findAsking,hq],0,k2,e,rfl,rfl,rfl,hp,fun i x hi _=>by omega⟩
    · rename_i hp
      have hq:=run_peq (w:=w) hs (by decide) hp hk h1
      obtain ⟨r',g1,g2⟩:=run_findAsking' hs hk ents es (i+1) r h3 hf
      exact ⟨r',by simp[Instr.findAsking,hq,g1],g2.cons hp⟩
    · cases hf
theorem sameNow_peq {kd:TypeDesc} {sh:List CK} {x y:AV} {x' y':Value} {b c:Bool} (hx:VR ρ x x') (hy:VR ρ y y') {agg:Bool} (hp:peq agg sh x y=some c) (hs:Instr.sameNow kd x' y'=some b):b=c:=by
  have flat: ∀ {k:CK},peq1 k x y=some c→b=c:=by
    intro k hp
    cases k
    · obtain ⟨p,q,rfl,rfl,rfl⟩:=peq1_b hp
      cases hx;cases hy
      cases kd <;>simp_all[Instr.sameNow]
    · obtain ⟨k,p,q,rfl,rfl,rfl⟩:=peq1_i hp
      cases hx;cases hy
      cases kd <;>simp_all[Instr.sameNow]
    · obtain ⟨p,q,rfl,rfl,rfl⟩:=peq1_s hp
      obtain ⟨p',rfl,e1⟩:=hx
      obtain ⟨q',rfl,e2⟩:=hy
      cases kd <;>simp_all[Instr.sameNow]
      rw[←hs,←e1,←e2,Bool.eq_iff_iff,MapKept.bytes_beq,beq_iff_eq]
      exact ⟨fun e=>by rw[e],fun e=>by cases p';cases q';simp at e;cases e;rfl⟩
  unfold peq at hp
  split at hp
  · split at hp
    · obtain ⟨p,rfl,_⟩:=hx
      cases kd <;>simp[Instr.sameNow] at hs
    · cases hp
  · split at hp
    · exact flat hp
    · cases hp
theorem run_findNow' {kd:TypeDesc} {agg:Bool} {sh:List CK} {k:AV} {k':Value} (hk:VR ρ k k'):
    ∀ (ents:List (AV × AV)) (es:List MapEntry) (i:Nat) (r:Option AV) (r':Option (Nat × Value)),ERs ρ ents es→findE agg sh k ents=some r→Instr.findNow kd k' es i=some r'→Found agg sh k ents es i r r'
  | [],es,i,r,r',hE,hf,hn=>by
    have:es=[]:=List.eq_nil_of_length_eq_zero hE.1.symm
    subst this
    simp only[findE] at hf
    simp only[Instr.findNow] at hn
    cases hf;cases hn
    trivial
  |(k2,v)::ents,[],i,r,r',hE,hf,hn=>by have:=hE.1;simp at this
  | (k2,v)::ents,e::es,i,r,r',hE,hf,hn=>by
    obtain ⟨⟨h1,h2⟩,h3⟩:=hE.tail
    simp only[findE] at hf
    simp only[Instr.findNow] at hn
    split at hn
    · rename_i hsn
      cases hn
      split at hf
      · rename_i hp
        cases hf
        exact ⟨0,k2,e,rfl,rfl,rfl,hp,fun i x hi _=>by omega⟩
      · rename_i hp
        have:=sameNow_peq hk h1 hp hsn
        cases this
      · cases hf
    · rename_i hsn
      split at hf
      · rename_i hp
        have:=sameNow_peq hk h1 hp hsn
        cases this
      · rename_i hp
        exact (run_findNow' hk ents es (i+1) r r' h3 hf hn).cons hp
      · cases hf
    · cases hn
theorem run_findKey' {t:TypeId} {sh:List CK} (hs:plainShape P 20 t=some sh) {k:AV} {k':Value} (hk:VR ρ k k') {ents:List (AV × AV)} {es:List MapEntry} {r:Option AV} (hE:ERs ρ ents es) (hf:findE (isAggT P t) sh k ents=some r):
    ∃ r',(Instr.findKey t k' es).run P w= .ok r' w∧Found (isAggT P t) sh k ents es 0 r r':=by
  obtain ⟨kd,hu⟩:=Option.isSome_iff_exists.1 (plainShape_some hs)
  simp only[Instr.findKey,Sem.run_bind,run_underlying hu,Result.andThen_ok]
  cases hn:Instr.findNow kd k' es 0 with
  |none=>exact run_findAsking' hs hk ents es 0 r hE hf
  |some r'=>exact ⟨r',by simp,run_findNow' hk ents es 0 r r' hE hf hn⟩
theorem zeroV_spec {t:TypeId} {z:AV} (hz:zeroV P t=some z): ∃ z':Value,(∀ w:World,(zeroValue t).run P w= .ok z' w)∧ ∀ ρ,VR ρ z z':=by
  unfold zeroV at hz
  obtain ⟨z',h1,h2⟩:=Option.bind_eq_some_iff.1 hz
  obtain ⟨i,hi,hiz⟩:=Option.bind_eq_some_iff.1 h1
  exact ⟨z',fun w=>by simp[zeroValue,typeInfo,hi,hiz],fun ρ=>VR_absV ρ h2⟩
theorem map_place (R:Rel K w0 ρ h w) {b:Nat} {ents:List (AV × AV)} {p:Pl} (hb:bget h b=some (.map ents)) (hp:ρ b=some p): ¬ K p.cb∧ ∃ es clock,w.heap[p.cb]? =some (.map es clock)∧ERs ρ ents es.toList:=by
  obtain ⟨q,hq,hB⟩:=R.blk b _ hb
  have e:q=p:=Option.some.inj (hq.symm.trans hp)
  subst e
  obtain ⟨h1,es,clock,h2,h3,h4⟩:=hB
  exact ⟨h1,es,clock,h2,by simpa using h3,fun i x e hx he=>h4 i x e hx (by simpa using he)⟩
theorem d_look (R:Rel K w0 ρ h w) (hg:GR glob ρ) (ht:TR ρ T a) {t kt e:TypeId} {m k:Operand} {am ak:AOpnd} {sh:List CK} {z:AV} {ok:Bool} {v:AV} {cs:List Chg} (ho:o.op= .lookup t m k ok) (hu:P.underlying t=some (.map kt e))
    (hs:plainShape P 20 kt=some sh) (hz:zeroV P e=some z) (hm:copnd glob m=some am) (hk:copnd glob k=some ak) (hv:aprim (bget h) nid T (.look (isAggT P kt) sh z ok am ak)=some (v,cs)):
    Done K w0 ρ nid (bputs h cs) v ((execOp a.eval o).run P w):=by
  have hrm:=VR_opnd hg ht hm
  have hrk:=VR_opnd hg ht hk
  obtain ⟨z',hz1,hz2⟩:=zeroV_spec hz
  have fin: ∀ (es:Array MapEntry) (r:Option (Nat × Value)),((a.eval m= .map none∧es= #[])∨ ∃ r clock,a.eval m= .map (some r)∧(getObj r).run P w= .ok (.map es clock) w)→(Instr.checkKey es.isEmpty 10000 kt (a.eval k)).run P w= .ok () w→(Instr.findKey kt (a.eval k) es.toList).run P w= .ok r w→
      (execOp a.eval o).run P w= .ok (.value (if ok then .tuple #[(r.map (·.2)).getD z',.bool r.isSome] else (r.map (·.2)).getD z')) w:=by
    intro es r h1 h2 h3
    have h4:(Instr.lookup t (a.eval m) (a.eval k) ok).run P w= .ok (if ok then .tuple #[(r.map (·.2)).getD z',.bool r.isSome] else (r.map (·.2)).getD z') w:=by
      rcases h1 with ⟨e1,rfl⟩|⟨q,clock,e1,e2⟩
      · simp only[Instr.lookup,Sem.run_bind,run_underlying hu,Result.andThen_ok,e1,Sem.run_pure,h2,h3]
        cases r with
        |none=>simp[hz1]
        |some r=>obtain ⟨i,v⟩:=r;simp
      · simp only[Instr.lookup,Sem.run_bind,run_underlying hu,Result.andThen_ok,e1,e2,Sem.run_pure,h2,h3]
        cases r with
        |none=>simp[hz1]
        |some r=>obtain ⟨i,v⟩:=r;simp
    simp only[execOp,ho,Sem.run_bind,h4,Result.andThen_ok,Sem.run_pure]
  have pair: ∀ {x:AV} {x':Value} {b:Bool},VR ρ x x'→VR ρ (if ok then .tuple [x,.bool b] else x) (if ok then .tuple #[x',.bool b] else x'):=by
    intro x x' b hx
    cases ok
    · exact hx
    · exact ⟨_,rfl,_,_,rfl,hx,_,_,rfl,rfl,rfl⟩
  simp only[aprim] at hv
  split at hv
  · rename_i em
    split at hv
    · rename_i hp
      cases hv
      rw[em] at hrm
      have ex:a.eval m= .map none:=hrm
      have hc:=run_checkKey' (w:=w) hs hp hrk true
      obtain ⟨kd,hkd⟩:=Option.isSome_iff_exists.1 (plainShape_some hs)
      have hf:(Instr.findKey kt (a.eval k) []).run P w= .ok none w:=by simp[Instr.findKey,run_underlying hkd,Instr.findNow]
      have:=fin #[] none (.inl ⟨ex,rfl⟩) hc hf
      refine Done.val R ?_ this
      have h2:=pair (b:=false) (hz2 ρ)
      cases ok <;>exact h2
    · cases hv
  · rename_i b em
    split at hv
    · rename_i ents hb
      split at hv
      · rename_i hp
        rw[em] at hrm
        obtain ⟨p,hpp,ex⟩:=hrm
        obtain ⟨_,es,clock,hh,hE⟩:=map_place R hb hpp
        have hget:=MapKept.run_getObj_map (P:=P) hh
        have hc:=fun em=>run_checkKey' (w:=w) hs hp hrk em
        split at hv
        · rename_i x hf
          cases hv
          obtain ⟨r',g1,g2⟩:=run_findKey' (w:=w) hs hrk hE hf
          cases r' with
          |none=>exact g2.elim
          | some r'=>
            obtain ⟨j,k2,e2,q1,q2,q3,q4,_⟩:=g2
            have:=fin es (some r') (.inr ⟨_,_,ex,hget⟩) (hc _) g1
            refine Done.val R ?_ this
            have h2:=pair (b:=true) (hE.2 j _ _ q1 q2).2
            rw[q3]
            cases ok <;>exact h2
        · rename_i hf
          cases hv
          obtain ⟨r',g1,g2⟩:=run_findKey' (w:=w) hs hrk hE hf
          cases r' with
          |some r'=>exact g2.elim
          | none=>
            have:=fin es none (.inr ⟨_,_,ex,hget⟩) (hc _) g1
            refine Done.val R ?_ this
            have h2:=pair (b:=false) (hz2 ρ)
            cases ok <;>exact h2
        · cases hv
      · cases hv
    · cases hv
  · cases hv
theorem setE_spec {agg:Bool} {sh:List CK} {k v:AV}: ∀ (ents ents':List (AV × AV)),setE agg sh k v ents=some ents'→
    (findE agg sh k ents=some none∧ents'=ents++ [(k,v)])∨
    ∃ j k2 v2,ents[j]? =some (k2,v2)∧findE agg sh k ents=some (some v2)∧peq agg sh k k2=some true∧(∀ (i:Nat) (x:AV × AV),i<j→ents[i]? =some x→peq agg sh k x.1=some false)∧ents'=ents.set j (k,v)
  | [],ents',h=>by simp only[setE] at h;cases h;exact .inl ⟨rfl,rfl⟩
  | (k2,v2)::ents,ents',h=>by
    simp only[setE] at h
    split at h
    · rename_i hp
      cases h
      exact .inr ⟨0,k2,v2,rfl,by simp[findE,hp],hp,fun i x hi _=>by omega,rfl⟩
    · rename_i hp
      simp only[Option.map_eq_some_iff] at h
      obtain ⟨r,hr,rfl⟩:=h
      rcases setE_spec ents r hr with ⟨h1,rfl⟩|⟨j,k3,v3,g1,g2,g3,g4,rfl⟩
      · exact .inl ⟨by simp[findE,hp,h1],rfl⟩
      · refine .inr ⟨j+1,k3,v3,by simpa using g1,by simp[findE,hp,g2],g3,fun i x hi hx=> ?_,rfl⟩
        cases i with
        |zero=>simp at hx;subst hx;exact hp
        |succ i=>exact g4 i x (by omega) (by simpa using hx)
    · cases h
theorem sameBits_flat {k:CK} {x y:AV} {x' y':Value} (hp:peq1 k x y=some true) (hx:VR ρ x x') (hy:VR ρ y y') (n:Nat):Instr.sameBits n y' x'=true:=by
  cases k
  · obtain ⟨p,q,rfl,rfl,e⟩:=peq1_b hp
    cases hx;cases hy
    have:p=q:=by simpa using e
    subst this
    cases n <;>simp[Instr.sameBits]
  · obtain ⟨k,p,q,rfl,rfl,e⟩:=peq1_i hp
    cases hx;cases hy
    have:p=q:=by simpa using e
    subst this
    cases n <;>simp[Instr.sameBits]
  · obtain ⟨p,q,rfl,rfl,e⟩:=peq1_s hp
    obtain ⟨p',rfl,e1⟩:=hx
    obtain ⟨q',rfl,e2⟩:=hy
    have:p=q:=by simpa using e
    subst this
    have:q'=p':=by
      cases p';cases q'
      simp at e1 e2
      rw[←e1] at e2
      simp[Array.toList_inj.1 e2]
    subst this
    have:=(MapKept.bytes_beq q' q').2 rfl
    cases n <;>simp[Instr.sameBits,this]
theorem sameBits_list {n:Nat}: ∀ (ks:List CK) (as bs:List AV) (X Y:List Value),peqL ks as bs=some true→VRs ρ as X→VRs ρ bs Y→((Y.zip X).all fun (x,y)=>Instr.sameBits n x y)=true∧Y.length=X.length
  | [],as,bs,X,Y,h,hx,hy=>by
    have:=peqL_len h
    have e1:as=[]:=List.eq_nil_of_length_eq_zero this.1
    have e2:bs=[]:=List.eq_nil_of_length_eq_zero this.2
    subst e1 e2
    simp only[VRs] at hx hy
    subst hx hy
    simp
  | k ::ks,as,bs,X,Y,h,hx,hy=>by
    have hl:=peqL_len h
    cases as with
    |nil=>simp at hl
    | cons a as=>
      cases bs with
      |nil=>simp at hl
      | cons b bs=>
        obtain ⟨x,xs,rfl,h1,h2⟩:=hx
        obtain ⟨y,ys,rfl,h3,h4⟩:=hy
        simp only[peqL] at h
        split at h
        · rename_i p q e1 e2
          have h:=Option.some.inj h
          simp only[Bool.and_eq_true] at h
          obtain ⟨rfl,rfl⟩:=h
          obtain ⟨r1,r2⟩:=sameBits_list ks as bs xs ys e2 h2 h4
          have r0:=sameBits_flat e1 h1 h3 n
          simp[r0,r2]
          simpa using r1
        · cases h
theorem sameBits_peq {agg:Bool} {sh:List CK} {x y:AV} {x' y':Value} (hp:peq agg sh x y=some true) (hx:VR ρ x x') (hy:VR ρ y y'):Instr.sameBits 10000 y' x'=true:=by
  unfold peq at hp
  split at hp
  · split at hp
    · obtain ⟨X,rfl,h1⟩:=hx
      obtain ⟨Y,rfl,h2⟩:=hy
      obtain ⟨r1,r2⟩:=sameBits_list (n:=9999) sh _ _ _ _ hp h1 h2
      have:Instr.sameBits (9999+1) (.agg Y) (.agg X)=true:=by
        simp only[Instr.sameBits,Bool.and_eq_true,beq_iff_eq]
        exact ⟨by simpa using r2,r1⟩
      exact this
    · cases hp
  · split at hp
    · exact sameBits_flat hp hx hy _
    · cases hp
theorem d_mapset (R :Rel K w0 ρ h w) (hg:GR glob ρ) (ht:TR ρ T a) {t kt e:TypeId} {m k x:Operand} {am ak ax:AOpnd} {sh:List CK} {v:AV} {cs:List Chg} (ho:o.op= .mapUpdate t m k x∨o.op= .insert t m k x) (hu:P.underlying t=some (.map kt e))
    (hs:plainShape P 20 kt=some sh) (hm:copnd glob m=some am) (hk:copnd glob k=some ak) (hx:copnd glob x=some ax) (hv:aprim (bget h) nid T (.mapset (isAggT P kt) sh am ak ax)=some (v,cs)):
    Done K w0 ρ nid (bputs h cs) v ((execOp a.eval o).run P w):=by
  have hrm:=VR_opnd hg ht hm
  have hrk:=VR_opnd hg ht hk
  have hrx:=VR_opnd hg ht hx
  simp only[aprim] at hv
  split at hv
  · rename_i b em
    split at hv
    · rename_i ents hb
      split at hv
      · rename_i hp
        split at hv
        · rename_i ents' hset
          cases hv
          rw[em] at hrm
          obtain ⟨p,hpp,ex⟩:=hrm
          obtain ⟨hK,es,clock,hh,hE⟩:=map_place R hb hpp
          have hget:=MapKept.run_getObj_map (P:=P) hh
          have hc:=run_checkKey' (w:=w) hs hp hrk false
          have fin: ∀ (es':Array MapEntry) (clock':Nat),(Instr.mapUpdate t (a.eval m) (a.eval k) (a.eval x)).run P w= .ok () {w with heap:=w.heap.setIfInBounds p.cb (.map es' clock')}→ERs ρ ents' es'.toList→
              Done K w0 ρ nid (bput h b (some (.map ents'))) .undef ((execOp a.eval o).run P w):=by
            intro es' clock' h1 h2
            have hs2:=MapKept.heap_set (o':= .map es' clock') hh
            refine ⟨.skip,undef,_,ρ,?_,.inr ⟨rfl,rfl⟩,by simp[VR,undef],R.set (w':={w with heap:=w.heap.setIfInBounds p.cb (.map es' clock')}) hb hpp rfl (by simp) rfl rfl rfl (fun k hk=>hs2.2 k hk) ⟨hK,es',clock',hs2.1,by simpa using h2.1,fun i x e hx he=>h2.2 i x e hx (by simpa using he)⟩,Rho.le_refl _,fun _ _=>rfl⟩
            rcases ho with ho |ho <;>simp only[execOp,ho,Sem.run_bind,h1,Result.andThen_ok,Sem.run_pure]
          show Done K w0 ρ nid (bput h b _) _ _
          rcases setE_spec ents ents' hset with ⟨h1,rfl⟩|⟨j,k2,v2,g1,g2,g3,g4,rfl⟩
          · obtain ⟨r',q1,q2⟩:=run_findKey' (w:=w) hs hrk hE h1
            cases r' with
            |some r'=>exact q2.elim
            | none=>
              refine fin (es.push {key:=a.eval k,val:=a.eval x,born:=clock}) (clock+1) ?_ ⟨by simp[hE.1],fun i y f hy hf=> ?_⟩
              · simp only[Instr.mapUpdate,Sem.run_bind,run_underlying hu,Result.andThen_ok,ex,hget,hc,q1,MapKept.run_setObj_map _ hh]
              · simp only[Array.toList_push] at hf
                have hl:=hE.1
                by_cases hi:i<ents.length
                · rw[List.getElem?_append_left hi] at hy
                  rw[List.getElem?_append_left (by omega)] at hf
                  exact hE.2 i y f hy hf
                · have hlt:i<(ents++ [(aev T ak,aev T ax)]).length:=by
                    have:=(List.getElem?_eq_some_iff.1 hy).1
                    simpa using this
                  have ei:i=ents.length:=by simp at hlt;omega
                  subst ei
                  rw[List.getElem?_append_right (Nat.le_refl _)] at hy
                  rw[List.getElem?_append_right (by omega),hl] at hf
                  simp at hy hf
                  subst hy hf
                  exact ⟨hrk,hrx⟩
          · obtain ⟨r',q1,q2⟩:=run_findKey' (w:=w) hs hrk hE g2
            cases r' with
            |none=>exact q2.elim
            | some r'=>
              obtain ⟨j',k3,e3,s1,s2,s3,s4,s5⟩:=q2
              have ej:j'=j:=by
                rcases Nat.lt_trichotomy j' j with hlt |heq |hgt
                · have:=g4 j' _ hlt s1
                  simp only at this
                  rw[s4] at this
                  cases this
                · exact heq
                · have:=s5 j _ hgt g1
                  simp only at this
                  rw[g3] at this
                  cases this
              subst ej
              have s2':es[j']? =some e3:=by simpa using s2
              have hbits:Instr.sameBits 10000 e3.key (a.eval k)=true:=sameBits_peq s4 hrk (hE.2 j' _ _ s1 s2).1
              refine fin (es.modify j' fun e=>{e with key:=a.eval k,val:=a.eval x}) clock ?_ ⟨by simp[hE.1],fun i y f hy hf=> ?_⟩
              · have hks:(Instr.keyThatStays e3.key (a.eval k)).run P w= .ok (a.eval k) w:=by simp[Instr.keyThatStays,hbits]
                simp only[Instr.mapUpdate,Sem.run_bind,run_underlying hu,Result.andThen_ok,ex,hget,hc,q1,s3,Nat.zero_add,s2',Option.map_some,Option.getD_some,hks,MapKept.run_setObj_map _ hh]
              · have hl:=hE.1
                simp only[Array.getElem?_toList,Array.getElem?_modify] at hf
                by_cases hi:i=j'
                · subst hi
                  rw[List.getElem?_set_self (List.getElem?_eq_some_iff.1 s1).1] at hy
                  cases hy
                  simp[s2'] at hf
                  subst hf
                  exact ⟨hrk,hrx⟩
                · rw[List.getElem?_set_ne (fun e=>hi e.symm)] at hy
                  rw[if_neg (fun e=>hi e.symm)] at hf
                  exact hE.2 i y f hy (by simpa using hf)
        · cases hv
      · cases hv
    · cases hv
  · cases hv
end
open Go.RowKit (Below)
section
variable {P:Program} {glob:Nat→Option AV} {K:Kp} {w0 w:World} {ρ:Rho} {h:Blks} {nid:Nat} {T:Tr} {a:Act} {o:Oper}
theorem d_capb (R:Rel K w0 ρ h w) (hg:GR glob ρ) (ht:TR ρ T a) {c:Call} {t e:TypeId} {x:Operand} {ax:AOpnd} {v:AV} {cs:List Chg} (ho:o.op= .call c) (hc:c.callee= .builtin .cap)
    (h0:c.argTypes[0]? =some t) (ha:c.args[0]? =some x) (hx:copnd glob x=some ax) (hk:P.underlying t=some (.slice e)) (hv:aprim (bget h) nid T (.capb ax)=some (v,cs)):Done K w0 ρ nid (bputs h cs) v ((execOp a.eval o).run P w):=by
  have hr:=VR_opnd hg ht hx
  have harg:(c.args.map a.eval)[0]? =some (a.eval x):=by simp[ha]
  have red: ∀ n:Nat,(Builtin.cap_ c.argTypes o.type (c.args.map a.eval)).run P w= .ok (goInt n) w→(execOp a.eval o).run P w= .ok (.value (goInt n)) w:=by
    intro n hb
    simp only[execOp,ho,Sem.run_bind,resolve,hc,Sem.run_pure,Result.andThen_ok,invoke,builtin,hb]
  simp only[aprim] at hv
  split at hv
  · rename_i ev
    cases hv
    rw[ev] at hr
    have ex:a.eval x= .slice none 0 0:=hr
    refine Done.val R (v':=goInt 0) rfl (red 0 ?_)
    simp only[Builtin.cap_,h0,harg,ex,Sem.run_bind,run_underlying hk,Result.andThen_ok,Sem.run_pure]
  · rename_i ev
    cases hv
    rw[ev] at hr
    obtain ⟨ad,ex⟩:=hr
    refine Done.val R (v':=goInt 0) rfl (red 0 ?_)
    simp only[Builtin.cap_,h0,harg,ex,Sem.run_bind,run_underlying hk,Result.andThen_ok,Sem.run_pure]
  · rename_i b i n k ev
    cases hv
    rw[ev] at hr
    obtain ⟨p,ad,cap,hp,ex,_,_,hcap,_⟩:=hr
    have:cap=k:=hcap k rfl
    subst this
    refine Done.val R (v':=goInt cap) rfl (red cap ?_)
    simp only[Builtin.cap_,h0,harg,ex,Sem.run_bind,run_underlying hk,Result.andThen_ok,Sem.run_pure]
  · cases hv
theorem d_s2a (R:Rel K w0 ρ h w) (hg:GR glob ρ) (ht:TR ρ T a) {t e:TypeId} {n:Nat} {x:Operand} {ax:AOpnd} {v:AV} {cs:List Chg} (ho:o.op= .sliceToArrayPointer t x) (hu:P.underlying t=some (.array n e)) (hx:copnd glob x=some ax)
    (hv:aprim (bget h) nid T (.s2a n ax)=some (v,cs)):Done K w0 ρ nid (bputs h cs) v ((execOp a.eval o).run P w):=by
  have hr:=VR_opnd hg ht hx
  simp only[aprim] at hv
  split at hv
  · rename_i b i len c ev
    split at hv
    · rename_i hcond
      cases hv
      rw[ev] at hr
      obtain ⟨p,ad,k,hp,ex,hle,hk,_⟩:=hr
      have hak:ad=p.at_ i 0:=by
        rcases hk with hk |hk
        · omega
        · exact hk.1
      subst hak
      refine Done.val R (v':= .pointer (some (p.at_ i 0))) ⟨p,hp,rfl⟩ ?_
      have hno: ¬ len<n:=by omega
      simp[execOp,ho,Instr.arrayAt,ex,run_underlying hu,hno]
    · cases hv
  · cases hv
theorem d_add64 (R:Rel K w0 ρ h w) (hg:GR glob ρ) (ht:TR ρ T a) {c:Call} {f:FuncId} {x y z:Operand} {ax ay az:AOpnd} {v:AV} {cs:List Chg} (ho:o.op= .call c) (hc:c.callee= .value (.func f)) (hf:addName P f=true)
    (ha:c.args.toList=[x,y,z]) (hx:copnd glob x=some ax) (hy:copnd glob y=some ay) (hz:copnd glob z=some az) (hv:aprim (bget h) nid T (.add64 ax ay az)=some (v,cs)):Done K w0 ρ nid (bputs h cs) v ((execOp a.eval o).run P w):=by
  have h1:=VR_opnd hg ht hx
  have h2:=VR_opnd hg ht hy
  have h3:=VR_opnd hg ht hz
  simp only[aprim] at hv
  split at hv
  · rename_i nx ny nz e1 e2 e3
    split at hv
    · rename_i hcond
      obtain ⟨c1,c2,c3,c4⟩:=hcond
      cases hv
      rw[e1] at h1
      rw[e2] at h2
      rw[e3] at h3
      have ex:a.eval x= .int .u64 nx:=h1
      have ey:a.eval y= .int .u64 ny:=h2
      have ez:a.eval z= .int .u64 nz:=h3
      unfold addName at hf
      split at hf
      · rename_i fn hfn
        simp only[Bool.and_eq_true,beq_iff_eq] at hf
        obtain ⟨hb,hname,hnext⟩:=hf
        have hargs:c.args.map a.eval= #[.int .u64 nx,.int .u64 ny,.int .u64 nz]:=by
          apply Array.ext'
          rw[Array.toList_map,ha]
          simp[ex,ey,ez]
        have hfind:Extern.find fn=some add64Entry:=by
          have g1:Extern.allGenericRows.lookup "math/bits.Add64" =none:=by kernel_rfl
          have g2:Extern.allTypedRows.lookup "math/bits.Add64" =none:=by kernel_rfl
          have g3:Extern.allRows.lookup "math/bits.Add64" =some add64Entry:=by kernel_rfl
          simp only[Extern.find,hname,g1,g2,g3]
          rfl
        have hnn:(fn.name== "runtime.NumGoroutine")=false:=by rw[hname];rfl
        have hnext':Extern.findNext fn=none:=by simpa using hnext
        refine Done.val R (v':= .tuple #[.int .u64 ((nx+ny+nz) % 18446744073709551616),.int .u64 ((nx+ny+nz) / 18446744073709551616)]) ⟨_,rfl,_,_,rfl,rfl,_,_,rfl,rfl,rfl⟩ ?_
        simp only[execOp,ho,Sem.run_bind,resolve,hc,Act.eval,Deferred.ofValue,Sem.run_pure,Result.andThen_ok,invoke]
        have key:(callFunc f (c.args.map a.eval)).run P w= .ok (.value (.tuple #[.int .u64 ((nx+ny+nz) % 18446744073709551616),.int .u64 ((nx+ny+nz) / 18446744073709551616)])) w:=by
          rw[run_callFunc_extern hfn hnn hb hnext' hfind,hargs,run_add64 nx ny nz c1 c2 c3 c4]
          rfl
        simpa using key
      · cases hf
    · cases hv
  · cases hv
theorem d_appz (R:Rel K w0 ρ h w) (hg:GR glob ρ) (ht:TR ρ T a) (hid:nid≤h.length) (hn:ρ nid=none) {c:Call} {s x:Operand} {as ax:AOpnd} {t u e:TypeId} {kk:IntKind} {zc:List AV} {v:AV} {cs:List Chg} (ho:o.op= .call c) (hc:c.callee= .builtin .append)
    (ha:c.args= #[s,x]) (h0:c.argTypes[0]? =some t) (hu:P.underlying t=some (.slice e)) (h1:c.argTypes[1]? =some u) (hxu:P.underlying u=some (.int kk)) (hpos:P.cellsOf e≠0) (hby0:P.bytesOf e≠0) (hz:zeroC P e=some zc)
    (hs:copnd glob s=some as) (hx:copnd glob x=some ax) (hv:aprim (bget h) nid T (.appz (P.cellsOf e) (P.bytesOf e) zc as ax)=some (v,cs)):Done K w0 ρ nid (bputs h cs) v ((execOp a.eval o).run P w):=by
  have hrs:=VR_opnd hg ht hs
  have hrx:=VR_opnd hg ht hx
  rw[exec_append ho hc ha]
  obtain ⟨z,hz1,hz2,hz3,hz4,i,hi,hiz⟩:=zeroC_spec hz
  have hinfo:(P.info? e).isSome=true:=by rw[hi];rfl
  have hbi:i.bytes=P.bytesOf e:=by unfold Program.bytesOf;rw[hi];rfl
  have hzs:z.cells.size=P.cellsOf e:=by have:=(hz2 (fun _=>none)).length;simp at this;omega
  simp only[aprim] at hv
  split at hv
  · rename_i k m ev
    split at hv
    · rename_i hcond
      obtain ⟨hm0,hroom⟩:=hcond
      rw[ev] at hrx
      have ex:a.eval x= .int k m:=hrx
      have hmul:m.toNat*1≤m.toNat*P.bytesOf e:=Nat.mul_le_mul_left _ (by omega)
      unfold roomMost at hroom
      have hmn:(m.toNat:Int)=m:=by omega
      have hwm:IntKind.i64.wrap m=m:=wrap_i64 (by omega) (by omega)
      have grow: ∀ {base:Option Addr},a.eval s= .slice base 0 0→
          Done K w0 ρ nid (bput h nid (some (.row true (P.cellsOf e) (List.replicate m.toNat zc)))) (.slice nid 0 m.toNat none) (((Builtin.append_ c.argTypes o.type #[a.eval s,a.eval x]).run P w).andThen fun v w'=> .ok (.value v) w'):=by
        intro base es
        rw[es,ex]
        obtain ⟨kc,hk1,hk2,hk3⟩:=newCap_spec (P:=P) w m.toNat 0 e (by unfold maxLen;omega)
        have hgs:Builtin.nextslicecap m.toNat 0*P.bytesOf e≤281474976710656:=growslice_fits (by omega) (by omega)
        have hw1:Below w.heap.size w {w with drawn:=w.drawn+1}:=⟨rfl,rfl,rfl,Nat.le_refl _,fun _ _=>rfl⟩
        have hw2:Below w.heap.size w ((({w with drawn:=w.drawn+1}:World)).alloc (.cells (#[]++Builtin.zeroCells z.cells m.toNat++Builtin.zeroCells z.cells (kc - m.toNat)) e)):=hw1.trans (below_alloc {w with drawn:=w.drawn+1} _)
        have hlast:=heap_alloc_last {w with drawn:=w.drawn+1} (.cells (#[]++Builtin.zeroCells z.cells m.toNat++Builtin.zeroCells z.cells (kc - m.toNat)) e)
        have hrun:(Builtin.append_ c.argTypes o.type #[.slice base 0 0,.int k m]).run P w= .ok (.slice (some ⟨w.heap.size,0,none⟩) m.toNat kc) ((({w with drawn:=w.drawn+1}:World)).alloc (.cells (#[]++Builtin.zeroCells z.cells m.toNat++Builtin.zeroCells z.cells (kc - m.toNat)) e)):=by
          have hti: ∀ w2:World,(typeInfo e).run P w2= .ok i w2:=fun w2=>by simp[typeInfo,hi]
          have hA: ¬ m<0:=by omega
          have hB: ¬ (m*(i.bytes:Int)>2 ^ 48):=by
            rw[hbi]
            have:((m.toNat*P.bytesOf e:Nat):Int)≤1000000000000:=by omega
            rw[Int.natCast_mul,hmn] at this
            have h48:(2:Int) ^ 48=281474976710656:=rfl
            omega
          have hC: ¬ (m.toNat*P.cellsOf e=0):=by
            intro h
            rcases Nat.mul_eq_zero.1 h with h |h
            · omega
            · exact hpos h
          have hD: ¬ ((m.toNat:Int)>IntKind.i64.max):=by
            have:IntKind.i64.max=9223372036854775807:=rfl
            omega
          have hE: ¬ (Builtin.nextslicecap m.toNat 0*i.bytes>2 ^ 48):=by rw[hbi];omega
          have hF: ¬ (m.toNat≤0):=by omega
          unfold Builtin.append_
          simp only[h0,h1,List.getElem?_toArray,List.getElem?_cons_zero,List.getElem?_cons_succ,Sem.run_bind,run_underlying hu,Result.andThen_ok,run_sizeOf' hinfo,run_underlying hxu,Sem.run_pure]
          simp only[asInt,asIntOf,Sem.run_pure,Result.andThen_ok,hwm,hA,if_false,if_true,hti,hB,Nat.zero_add,hF,hD,false_and,hE,hk3,run_askRoom,Bool.not_true,Bool.false_eq_true,hC,hz1,newRow,run_newObj,Sem.run_bind,Sem.run_ite]
          cases base <;>simp[Builtin.firstCells,loadCells,loadCellsFrom]
        have hzf:=zero_fill (hz2 ρ) (by omega) m.toNat
        have hl:=hzf.length
        rw[replicate_flatten_len] at hl
        refine done_new hn (new_row R hid hn hw2 hlast (by omega) (fun x hx=>by rw[(List.mem_replicate.1 hx).2];exact hz3) (lim:=kc) (by rw[List.length_replicate];exact hk1) ?_ (by simp) (fun j x hx=> ?_) (fun x hx=> ?_)) (v':= .slice (some ⟨w.heap.size,0,none⟩) m.toNat kc) ?_ (by rw[hrun];rfl)
        · simp only[Array.size_append,size_zeroCells,hzs]
          rw[Array.size_empty,Nat.zero_add,←Nat.add_mul]
          exact Nat.mul_le_mul_right _ (by omega)
        · obtain ⟨v,hv,hr⟩:=hzf.get hx
          refine ⟨v,?_,hr⟩
          rw[Array.getElem?_toList] at hv
          have hj:=(Array.getElem?_eq_some_iff.1 hv).1
          have e:Builtin.zeroCells z.cells m.toNat=(Array.range (m.toNat*zc.length)).map (z.cells[· % z.cells.size]!):=by
            unfold Builtin.zeroCells
            rw[hzs,hz3]
          rw[e,Array.getElem?_append,if_pos (by simp only[Array.size_append];simpa using hj)]
          rw[Array.empty_append]
          exact hv
        · obtain ⟨l,hl1,hl2⟩:=List.mem_flatten.1 hx
          rw[(List.mem_replicate.1 hl1).2] at hl2
          exact List.all_eq_true.1 hz4 x hl2
        · refine ⟨_,_,_,Rho.put_self _ _ _,rfl,hk1,.inr ⟨(at_zero _ _ _).symm,by simp⟩,fun m hm=>(by cases hm),fun _=>by simp,hk2⟩
      split at hv
      · rename_i es
        cases hv
        rw[es] at hrs
        exact grow hrs
      · rename_i es
        cases hv
        rw[es] at hrs
        obtain ⟨ad,es⟩:=hrs
        exact grow es
      · cases hv
    · cases hv
  · cases hv
end
section
variable {P:Program} {glob:Nat→Option AV} {K:Kp} {w0 w:World} {ρ:Rho} {h:Blks} {nid:Nat} {T:Tr} {a:Act} {o:Oper}
theorem prim_sound (R:Rel K w0 ρ h w) (hg:GR glob ρ) (ht:TR ρ T a) (hid:nid≤h.length) (hn:ρ nid=none) {ao:AOp} {v:AV} {cs:List Chg} (hc:cop P glob o=some ao) (hv:aprim (bget h) nid T ao=some (v,cs)):
    Done K w0 ρ nid (bputs h cs) v ((execOp a.eval o).run P w):=by
  unfold cop at hc
  split at hc
  · rename_i x ho
    simp only[Option.map_eq_some_iff] at hc
    obtain ⟨ax,hx,rfl⟩:=hc
    simp only[aprim] at hv
    cases hv
    exact d_mv R hg ht (.inl ho) hx
  · rename_i x ho
    simp only[Option.map_eq_some_iff] at hc
    obtain ⟨ax,hx,rfl⟩:=hc
    simp only[aprim] at hv
    cases hv
    exact d_mv R hg ht (.inr ho) hx
  · rename_i c x y ho
    simp only[Option.pure_def,Option.bind_eq_bind,Option.bind_eq_some_iff] at hc
    obtain ⟨ac,hc,ax,hx,ay,hy,e⟩:=hc
    cases e
    simp only[aprim] at hv
    split at hv
    · rename_i eb
      cases hv
      exact d_pick R hg ht ho hc hx hy eb
    · rename_i eb
      cases hv
      exact d_pick R hg ht ho hc hx hy eb
    · cases hv
  · rename_i t ho
    simp only[Option.pure_def,Option.bind_eq_bind,Option.bind_eq_some_iff] at hc
    obtain ⟨z,hz,e⟩:=hc
    split at e
    · rename_i hcond
      cases e
      simp only[aprim] at hv
      cases hv
      exact d_alloc R hid hn ho hz hcond.1 hcond.2
    · cases e
  · rename_i t x ho
    simp only at hc
    split at hc
    · rename_i hcond
      simp only[Option.pure_def,Option.bind_eq_bind,Option.bind_eq_some_iff] at hc
      obtain ⟨ax,hx,e⟩:=hc
      cases e
      simp only[aprim] at hv
      split at hv
      · rename_i cs' hcs
        split at hv
        · rename_i hh
          cases hv
          exact d_box R hg ht hid hn ho hx hcs hh.1 hcond.1 hh.2.1 hh.2.2
        · cases hv
      · cases hv
    · cases hc
  · rename_i t parts ho
    simp only[Option.pure_def,Option.bind_eq_bind,Option.bind_eq_some_iff] at hc
    obtain ⟨z,hz,e⟩:=hc
    split at e
    · rename_i fs hu
      split at e
      · cases e
      · rename_i hall
        simp only[Option.pure_def,Option.bind_eq_bind,Option.bind_eq_some_iff] at e
        obtain ⟨ps,hp,e⟩:=e
        cases e
        simp only[aprim] at hv
        split at hv
        · rename_i cs' hf
          cases hv
          refine d_build R hg ht ho hz (.inl ⟨fs,hu,?_,rfl⟩) hp hf
          have:fs.all (fun f=>(P.info? f.type).isSome)=true:=by simpa only[Bool.not_eq_true,Bool.not_eq_false,Bool.not_eq_eq_eq_not,Bool.not_true] using hall
          exact fun f hf=>Array.all_eq_true_iff_forall_mem.1 this f hf
        · cases hv
    · rename_i n e' hu
      split at e
      · cases e
      · rename_i hall
        simp only[Option.pure_def,Option.bind_eq_bind,Option.bind_eq_some_iff] at e
        obtain ⟨ps,hp,e⟩:=e
        cases e
        simp only[aprim] at hv
        split at hv
        · rename_i cs' hf
          cases hv
          exact d_build R hg ht ho hz (.inr ⟨n,e',hu,by cases hh:P.info? e' <;>simp_all,rfl⟩) hp hf
        · cases hv
    · cases e
  · rename_i t len parts ho
    split at hc
    · rename_i e hu
      simp only[Option.pure_def,Option.bind_eq_bind,Option.bind_eq_some_iff] at hc
      obtain ⟨z,hz,e'⟩:=hc
      split at e'
      · rename_i hcond
        simp only[Option.pure_def,Option.bind_eq_bind,Option.bind_eq_some_iff] at e'
        obtain ⟨ps,hp,e'⟩:=e'
        cases e'
        exact d_slit R hg ht hid hn ho hu hz hcond.1 hcond.2 hp hv
      · cases e'
    · cases hc
  · rename_i t x ho
    split at hc
    · rename_i hcond
      simp only[Option.pure_def,Option.bind_eq_bind,Option.bind_eq_some_iff] at hc
      obtain ⟨ax,hx,e⟩:=hc
      cases e
      simp only[aprim] at hv
      split at hv
      · rename_i b i f ev
        split at hv
        · rename_i own esz es hb
          split at hv
          · rename_i cs' hr
            split at hv
            · rename_i hagg
              cases hv
              exact d_load R hg ht ho hcond hx ev hb hr (by rw[if_pos hagg])
            · rename_i hagg
              split at hv
              · cases hv
                exact d_load R hg ht ho hcond hx ev hb hr (by rw[if_neg hagg])
              · cases hv
          · cases hv
        · cases hv
      · cases hv
    · cases hc
  · rename_i t x y ho
    split at hc
    · rename_i hcond
      simp only[Option.pure_def,Option.bind_eq_bind,Option.bind_eq_some_iff] at hc
      obtain ⟨ax,hx,ay,hy,e⟩:=hc
      cases e
      simp only[aprim] at hv
      split at hv
      · rename_i b i f vs ev ec
        split at hv
        · rename_i esz es hb
          split at hv
          · rename_i hh
            split at hv
            · rename_i es' hr
              cases hv
              exact d_store R hg ht ho hcond hx hy ev ec hb hh.1 hh.2 hr
            · cases hv
          · cases hv
        · cases hv
      · cases hv
    · cases hc
  · rename_i x ho
    simp only[Option.map_eq_some_iff] at hc
    obtain ⟨ax,hx,rfl⟩:=hc
    simp only[aprim] at hv
    split at hv
    · rename_i b i f ev
      cases hv
      have:=d_nilc (P:=P) R hg ht (nid:=nid) ho hx (.inl ⟨b,i,f,ev⟩)
      rwa[ev] at this
    · rename_i f c d ev
      cases hv
      have:=d_nilc (P:=P) R hg ht (nid:=nid) ho hx (.inr ⟨f,c,d,ev⟩)
      rwa[ev] at this
    · cases hv
  · rename_i op t x y u ho
    split at hc
    · rename_i hop
      have hop':op= .eql∨op= .neq:=by cases op <;>simp[isEq] at hop <;>simp
      split at hc
      · rename_i k hk
        split at hc
        · rename_i h1
          simp only[Option.pure_def,Option.bind_eq_bind,Option.bind_eq_some_iff] at hc
          obtain ⟨ax,hx,e⟩:=hc
          cases e
          refine d_isnil R hg ht (neg:=isNe op) (by rw[ho];rcases hop' with rfl |rfl <;>rfl) h1 hk hx hv
        · cases hc
      · split at hc
        · cases hc
        · rename_i hgt
          simp only[Option.pure_def,Option.bind_eq_bind,Option.bind_eq_some_iff] at hc
          obtain ⟨sh,hs,ax,hx,ay,hy,e⟩:=hc
          cases e
          simp only[aprim,Option.map_eq_some_iff] at hv
          obtain ⟨b,hb,e⟩:=hv
          cases e
          have:=d_eql (P:=P) R hg ht (nid:=nid) hop' ho hs (by simpa using hgt) hx hy hb
          rcases hop' with rfl |rfl <;>exact this
    · simp only[Option.pure_def,Option.bind_eq_bind,Option.bind_eq_some_iff] at hc
      obtain ⟨ax,hx,ay,hy,e⟩:=hc
      cases e
      simp only[aprim,Option.map_eq_some_iff] at hv
      obtain ⟨b,hb,e⟩:=hv
      cases e
      exact d_bin R hg ht ho hx hy hb
  · rename_i op t x ho
    simp only[Option.map_eq_some_iff] at hc
    obtain ⟨ax,hx,rfl⟩:=hc
    simp only[aprim,Option.map_eq_some_iff] at hv
    obtain ⟨b,hb,e⟩:=hv
    cases e
    exact d_un R hg ht ho hx hb
  · rename_i s d x ho
    split at hc
    · rename_i j k hs hd
      simp only[Option.pure_def,Option.bind_eq_bind,Option.bind_eq_some_iff] at hc
      obtain ⟨ax,hx,e⟩:=hc
      cases e
      simp only[aprim] at hv
      cases ev:aev T ax <;>rw[ev] at hv <;>simp only at hv <;>first |(cases hv;done)|skip
      cases hv
      exact d_conv_int R hg ht ho hs hd hx ev
    · rename_i hs hd
      simp only[Option.pure_def,Option.bind_eq_bind,Option.bind_eq_some_iff] at hc
      obtain ⟨ax,hx,e⟩:=hc
      cases e
      simp only[aprim] at hv
      cases ev:aev T ax <;>rw[ev] at hv <;>simp only at hv <;>first |(cases hv;done)|skip
      cases hv
      exact d_conv_same R hg ht ho hs hd hx ev
    · rename_i e hs hd
      split at hc
      · rename_i hu8
        have he:P.underlying e=some (.int .u8):=by unfold isU8 at hu8;split at hu8 <;>first |assumption |cases hu8
        simp only[Option.pure_def,Option.bind_eq_bind,Option.bind_eq_some_iff] at hc
        obtain ⟨ax,hx,e'⟩:=hc
        cases e'
        have fin: ∀ xs l,(∀ t,aev T ax≠ .str t)→elemsOf (bget h) 1 (aev T ax)=some xs→bytesOf xs=some l→Done K w0 ρ nid h (.str l) ((execOp a.eval o).run P w):=fun xs l h1 h2 h3=>d_b2s R hg ht ho hs hd he hx h1 h2 h3
        simp only[aprim] at hv
        cases ev:aev T ax <;>rw[ev] at hv fin <;>simp only at hv
        all_goals first |(cases hv;done)|skip
        all_goals (
          split at hv
          · rename_i es hes
            simp only[Option.map_eq_some_iff] at hv
            obtain ⟨l,hl,e'⟩:=hv
            cases e'
            exact fin es l (fun t=>by intro hh;cases hh) hes hl
          · cases hv)
      · cases hc
    · rename_i e hs hd
      split at hc
      · rename_i hu8
        have he:P.underlying e=some (.int .u8):=by unfold isU8 at hu8;split at hu8 <;>first |assumption |cases hu8
        simp only[Option.pure_def,Option.bind_eq_bind,Option.bind_eq_some_iff] at hc
        obtain ⟨ax,hx,e'⟩:=hc
        cases e'
        simp only[aprim] at hv
        cases ev:aev T ax <;>rw[ev] at hv <;>simp only at hv <;>first |(cases hv;done)|skip
        split at hv
        · rename_i hl
          cases hv
          exact d_s2b R hg ht hid hn ho hs hd he hx ev (by unfold roomMost at hl;unfold maxLen;omega)
        · cases hv
      · cases hc
    · cases hc
  · rename_i t x ho
    split at hc
    · cases hc
    · rename_i hnp
      simp only[Option.map_eq_some_iff] at hc
      obtain ⟨ax,hx,rfl⟩:=hc
      simp only[aprim] at hv
      cases hv
      exact d_iface R hg ht ho hx ⟨fun ms e=>hnp (by rw[e];rfl),fun e=>hnp (by rw[e];rfl)⟩
  · rename_i f xs ys ho
    simp only[Option.pure_def,Option.bind_eq_bind,Option.bind_eq_some_iff] at hc
    obtain ⟨axs,hx,ays,hy,e⟩:=hc
    cases e
    simp only[aprim] at hv
    cases hv
    exact d_mkfunc R hg ht ho hx hy
  · rename_i s x f ho
    split at hc
    · rename_i fs hu
      simp only[Option.pure_def,Option.bind_eq_bind,Option.bind_eq_some_iff] at hc
      obtain ⟨fd,hf,hc⟩:=hc
      split at hc
      · rename_i hz
        simp only[Option.bind_eq_some_iff] at hc
        obtain ⟨ax,hx,e⟩:=hc
        cases e
        simp only[aprim] at hv
        cases ev:aev T ax <;>rw[ev] at hv <;>simp only at hv <;>first |(cases hv;done)|skip
        cases hv
        exact d_fieldA R hg ht ho hu hf hz hx ev
      · cases hc
    · cases hc
  · rename_i s x f ho
    split at hc
    · rename_i fs hu
      simp only[Option.pure_def,Option.bind_eq_bind,Option.bind_eq_some_iff] at hc
      obtain ⟨fd,hf,hc⟩:=hc
      split at hc
      · cases hc
      · rename_i hd
        simp only[Option.bind_eq_some_iff] at hc
        obtain ⟨ax,hx,e⟩:=hc
        cases e
        simp only[aprim] at hv
        split at hv
        · rename_i cs' ev
          split at hv
          · rename_i hl
            have hd':(P.underlying fd.type).isSome=true:=by cases hh:P.underlying fd.type <;>simp_all
            split at hv
            · rename_i hagg
              cases hv
              exact d_field R hg ht ho hu hf hd' hx ev hl (by rw[if_pos hagg])
            · rename_i hagg
              split at hv
              · rename_i v' hone
                cases hv
                exact d_field R hg ht ho hu hf hd' hx ev hl (by rw[if_neg hagg];exact hone)
              · cases hv
          · cases hv
        · cases hv
    · cases hc
  · rename_i t x ix ho
    split at hc
    · rename_i e hu
      split at hc
      · cases hc
      · rename_i hi
        have hi':(P.info? e).isSome=true:=by cases hh:P.info? e <;>simp_all
        simp only[Option.pure_def,Option.bind_eq_bind,Option.bind_eq_some_iff] at hc
        obtain ⟨ax,hx,ai,hix,e'⟩:=hc
        cases e'
        simp only[aprim] at hv
        split at hv
        · rename_i b j n c k m ev em
          split at hv
          · rename_i own ez es hb
            split at hv
            · rename_i hh
              obtain ⟨rfl,h0,hlt⟩:=hh
              cases hv
              exact d_idxS R hg ht ho hu hx hix ev em hb hi' h0 hlt
            · cases hv
          · cases hv
        · cases hv
    · rename_i n e hu
      split at hc
      · cases hc
      · rename_i hi
        have hi':(P.info? e).isSome=true:=by cases hh:P.info? e <;>simp_all
        simp only[Option.pure_def,Option.bind_eq_bind,Option.bind_eq_some_iff] at hc
        obtain ⟨ax,hx,ai,hix,e'⟩:=hc
        cases e'
        simp only[aprim] at hv
        split at hv
        · rename_i b j f k m ev em
          split at hv
          · rename_i own ez es hb
            split at hv
            · rename_i hh
              have:=d_idxA (P:=P) R hg ht (nid:=nid) ho hu hx hix ev em hb hi' hh.1 hh.2
              split at hv
              · rename_i hq
                cases hv
                rwa[if_pos hq] at this
              · rename_i hq
                cases hv
                rwa[if_neg hq] at this
            · cases hv
          · cases hv
        · cases hv
    · cases hc
  · rename_i t x ix ho
    split at hc
    · rename_i n e hu
      split at hc
      · cases hc
      · rename_i hi
        have hi':(P.underlying e).isSome=true:=by cases hh:P.underlying e <;>simp_all
        simp only[Option.pure_def,Option.bind_eq_bind,Option.bind_eq_some_iff] at hc
        obtain ⟨ax,hx,ai,hix,e'⟩:=hc
        cases e'
        simp only[aprim] at hv
        split at hv
        · rename_i cs' k m ev em
          split at hv
          · rename_i hh
            obtain ⟨h0,hlt,_⟩:=hh
            split at hv
            · rename_i hagg
              cases hv
              exact d_idxV R hg ht ho hu hx hix ev em hi' h0 hlt (by rw[if_pos hagg])
            · rename_i hagg
              split at hv
              · rename_i v' hone
                cases hv
                exact d_idxV R hg ht ho hu hx hix ev em hi' h0 hlt (by rw[if_neg hagg];exact hone)
              · cases hv
          · cases hv
        · cases hv
    · rename_i hu
      simp only[Option.pure_def,Option.bind_eq_bind,Option.bind_eq_some_iff] at hc
      obtain ⟨ax,hx,ai,hix,e'⟩:=hc
      cases e'
      simp only[aprim] at hv
      split at hv
      · rename_i s k m ev em
        split at hv
        · rename_i h0
          split at hv
          · rename_i b hb
            cases hv
            exact d_idxStr R hg ht ho hu hx hix ev em h0 hb
          · cases hv
        · cases hv
      · cases hv
    · cases hc
  · rename_i t x lo hi mx ho
    split at hc
    · rename_i hu
      split at hc
      · cases hc
      · rename_i hmx
        have hmx':mx=none:=by cases mx <;>simp_all
        subst hmx'
        simp only[Option.pure_def,Option.bind_eq_bind,Option.bind_eq_some_iff] at hc
        obtain ⟨ax,hx,alo,hlo,ahi,hhi,e'⟩:=hc
        cases e'
        simp only[aprim] at hv
        split at hv
        · rename_i s ev
          split at hv
          · rename_i hh ll bh bl
            split at hv
            · rename_i hcond
              cases hv
              exact d_sliceStr R hg ht ho hu hx hlo hhi ev bl bh hcond.1 hcond.2
            · cases hv
          · cases hv
        · cases hv
    · rename_i e hu
      split at hc
      · cases hc
      · rename_i hcond
        have hi':(P.info? e).isSome=true:=by cases hh:P.info? e <;>simp_all
        have hno:mx=none∨hi≠none:=by cases mx <;>cases hi <;>simp_all
        simp only[Option.pure_def,Option.bind_eq_bind,Option.bind_eq_some_iff] at hc
        obtain ⟨ax,hx,alo,hlo,ahi,hhi,amx,hmx,e'⟩:=hc
        cases e'
        simp only[aprim,Option.map_eq_some_iff] at hv
        obtain ⟨v',hv,e'⟩:=hv
        cases e'
        exact d_sliceS R hg ht ho hu hi' hx hlo hhi hmx hno hv
    · rename_i n e hu
      split at hc
      · cases hc
      · rename_i hcond
        have hi':(P.info? e).isSome=true:=by cases hh:P.info? e <;>simp_all
        have hno:mx=none∨hi≠none:=by cases mx <;>cases hi <;>simp_all
        simp only[Option.pure_def,Option.bind_eq_bind,Option.bind_eq_some_iff] at hc
        obtain ⟨ax,hx,alo,hlo,ahi,hhi,amx,hmx,e'⟩:=hc
        cases e'
        simp only[aprim,Option.map_eq_some_iff] at hv
        obtain ⟨v',hv,e'⟩:=hv
        cases e'
        exact d_sliceA R hg ht ho hu hi' hx hlo hhi hmx hno hv
    · cases hc
  · rename_i t x ho
    simp only[Option.bind_eq_bind] at hc
    split at hc
    · rename_i n e hu
      simp only[Option.pure_def,Option.bind_eq_some_iff] at hc
      obtain ⟨ax,hx,e'⟩:=hc
      cases e'
      exact d_s2a R hg ht ho hu hx hv
    · cases hc
  · rename_i x ix ho
    simp only[Option.pure_def,Option.bind_eq_bind,Option.bind_eq_some_iff] at hc
    obtain ⟨ax,hx,e'⟩:=hc
    cases e'
    simp only[aprim] at hv
    split at hv
    · rename_i vs ev
      split at hv
      · rename_i v' hi
        cases hv
        exact d_ext R hg ht ho hx ev hi
      · cases hv
    · cases hv
  · rename_i x xt t ok ho
    split at hc
    · cases hc
    · rename_i hnp
      simp only[Option.pure_def,Option.bind_eq_bind,Option.bind_eq_some_iff] at hc
      obtain ⟨ax,hx,e'⟩:=hc
      cases e'
      simp only[aprim] at hv
      split at hv
      · rename_i t' v' ev
        split at hv
        · rename_i et
          subst et
          cases hv
          exact d_tassert R hg ht ho hx ⟨fun ms e=>hnp (by rw[e];rfl),fun e=>hnp (by rw[e];rfl)⟩ ev
        · cases hv
      · cases hv
  · rename_i t ho
    split at hc
    · cases hc
      simp only[aprim] at hv
      cases hv
      exact d_mkmap R hid hn ho
    · cases hc
  · cases hc
  · rename_i t l c ho
    split at hc
    · rename_i e hu
      simp only[Option.pure_def,Option.bind_eq_bind,Option.bind_eq_some_iff] at hc
      obtain ⟨z,hz,hc⟩:=hc
      split at hc
      · rename_i hz0
        simp only[Option.bind_eq_some_iff] at hc
        obtain ⟨al,hl,ac,hcc,e'⟩:=hc
        cases e'
        exact d_mkslice R hg ht hid hn ho hu hz hz0 hl hcc hv
      · cases hc
    · cases hc
  · rename_i t m k ok ho
    split at hc
    · rename_i kt e hu
      simp only[Option.pure_def,Option.bind_eq_bind,Option.bind_eq_some_iff] at hc
      obtain ⟨sh,hs,z,hz,am,hm,ak,hk,e'⟩:=hc
      cases e'
      exact d_look R hg ht ho hu hs hz hm hk hv
    · cases hc
  · rename_i t m k x ho
    split at hc
    · rename_i kt e hu
      simp only[Option.pure_def,Option.bind_eq_bind,Option.bind_eq_some_iff] at hc
      obtain ⟨sh,hs,am,hm,ak,hk,ax,hx,e'⟩:=hc
      cases e'
      exact d_mapset R hg ht (.inl ho) hu hs hm hk hx hv
    · cases hc
  · rename_i t m k x ho
    split at hc
    · rename_i kt e hu
      simp only[Option.pure_def,Option.bind_eq_bind,Option.bind_eq_some_iff] at hc
      obtain ⟨sh,hs,am,hm,ak,hk,ax,hx,e'⟩:=hc
      cases e'
      exact d_mapset R hg ht (.inr ho) hu hs hm hk hx hv
    · cases hc
  · rename_i c ho
    split at hc
    · rename_i f hcl
      split at hc
      · simp only[Option.map_eq_some_iff] at hc
        obtain ⟨xs,hx,rfl⟩:=hc
        simp only[aprim] at hv
        cases hv
      · split at hc
        · rename_i hadd
          split at hc
          · rename_i x y z hargs
            simp only[Option.pure_def,Option.bind_eq_bind,Option.bind_eq_some_iff] at hc
            obtain ⟨ax,hx,ay,hy,az,hz,e'⟩:=hc
            cases e'
            exact d_add64 R hg ht ho hcl hadd hargs hx hy hz hv
          · cases hc
        · cases hc
    · simp only[Option.pure_def,Option.bind_eq_bind,Option.bind_eq_some_iff] at hc
      obtain ⟨ax,hx,axs,hxs,e'⟩:=hc
      cases e'
      simp only[aprim] at hv
      cases hv
    · simp only[Option.pure_def,Option.bind_eq_bind,Option.bind_eq_some_iff] at hc
      obtain ⟨ax,hx,axs,hxs,e'⟩:=hc
      cases e'
      simp only[aprim] at hv
      cases hv
    · rename_i b hb
      split at hc
      · simp only [Option.pure_def,Option.bind_eq_bind,Option.bind_eq_some_iff] at hc
        obtain ⟨t,h0,hc⟩:=hc
        split at hc
        · rename_i e s x xt hu ha0 ha1 hxt
          split at hc
          · rename_i hcond
            obtain ⟨hsz,hz,hpos,hni,hxu,hby⟩:=hcond
            simp only[Option.bind_eq_some_iff] at hc
            obtain ⟨as,hs,ax,hx,e'⟩:=hc
            cases e'
            simp only[aprim] at hv
            obtain ⟨zc,hz⟩:=Option.isSome_iff_exists.1 hz
            obtain ⟨d,hd⟩:=Option.isSome_iff_exists.1 hxu
            refine d_app R hg ht hid hn ho hb (s:=s) (x:=x) ?_ ⟨⟨t,h0,hu⟩,⟨xt,d,hxt,hd,fun k ek=> ?_⟩,hpos,hby,⟨zc,hz⟩⟩ hs hx hv
            · apply Array.ext
              · simpa using hsz
              · intro i h1 h2
                have:i=0∨i=1:=by simp at h2;omega
                rcases this with rfl |rfl
                · have:=Array.getElem?_eq_some_iff.1 ha0
                  simpa using this.2
                · have:=Array.getElem?_eq_some_iff.1 ha1
                  simpa using this.2
            · subst ek
              rw[hd] at hni
              simp[isIntT] at hni
          · split at hc
            · rename_i hcond
              obtain ⟨hsz,hint,hpos,hby⟩:=hcond
              simp only[Option.bind_eq_some_iff] at hc
              obtain ⟨zc,hz,as,hs,ax,hx,e'⟩:=hc
              cases e'
              have hxu: ∃ kk,P.underlying xt=some (.int kk):=by
                unfold isIntT at hint
                split at hint
                · rename_i kk hk
                  exact ⟨kk,hk⟩
                · cases hint
              obtain ⟨kk,hxu⟩:=hxu
              refine d_appz R hg ht hid hn ho hb (s:=s) (x:=x) ?_ h0 hu hxt hxu hpos hby hz hs hx hv
              apply Array.ext
              · simpa using hsz
              · intro i h1 h2
                have:i=0∨i=1:=by simp at h2;omega
                rcases this with rfl |rfl
                · have:=Array.getElem?_eq_some_iff.1 ha0
                  simpa using this.2
                · have:=Array.getElem?_eq_some_iff.1 ha1
                  simpa using this.2
            · cases hc
        · cases hc
      · simp only[Option.pure_def,Option.bind_eq_bind,Option.bind_eq_some_iff] at hc
        obtain ⟨t,h0,hc⟩:=hc
        split at hc
        · rename_i e x hu ha0
          simp only[Option.bind_eq_some_iff] at hc
          obtain ⟨ax,hx,e'⟩:=hc
          cases e'
          exact d_capb R hg ht ho hb h0 ha0 hx hu hv
        · cases hc
      · simp only[Option.pure_def,Option.bind_eq_bind,Option.bind_eq_some_iff] at hc
        obtain ⟨t,h0,hc⟩:=hc
        split at hc
        · rename_i n e' x hu ha0
          cases hc
          simp only[aprim] at hv
          cases hv
          refine Done.val R (v':=goInt n) rfl ?_
          have harg:(c.args.map a.eval)[0]? =some (a.eval x):=by simp[ha0]
          have:(Builtin.len_ c.argTypes o.type (c.args.map a.eval)).run P w= .ok (goInt n) w:=by
            simp only[Builtin.len_,h0,harg,Sem.run_bind,run_underlying hu,Result.andThen_ok,Sem.run_pure]
          simp only[execOp,ho,Sem.run_bind,resolve,hb,Sem.run_pure,Result.andThen_ok,invoke,builtin,this]
        · rename_i x hu ha0
          simp only[Option.bind_eq_some_iff] at hc
          obtain ⟨ax,hx,e'⟩:=hc
          cases e'
          exact d_len (k:= .str) R hg ht ho hb h0 ha0 hx hu hv
        · rename_i e x hu ha0
          simp only[Option.bind_eq_some_iff] at hc
          obtain ⟨ax,hx,e'⟩:=hc
          cases e'
          exact d_len (k:= .slice) R hg ht ho hb h0 ha0 hx ⟨e,hu⟩ hv
        · rename_i kt e x hu ha0
          simp only[Option.bind_eq_some_iff] at hc
          obtain ⟨ax,hx,e'⟩:=hc
          cases e'
          exact d_len (k:= .map) R hg ht ho hb h0 ha0 hx ⟨kt,e,hu⟩ hv
        · cases hc
      · simp only[Option.pure_def,Option.bind_eq_bind,Option.bind_eq_some_iff] at hc
        obtain ⟨t,h0,hc⟩:=hc
        split at hc
        · rename_i e s x hu ha0 ha1
          split at hc
          · rename_i hcond
            obtain ⟨hsz,hi,hpos⟩:=hcond
            simp only[Option.bind_eq_some_iff] at hc
            obtain ⟨as,hs,ax,hx,e'⟩:=hc
            cases e'
            simp only[aprim] at hv
            refine d_copy R hg ht ho hb (s:=s) (x:=x) ?_ h0 hu hi (by omega) hs hx hv
            apply Array.ext
            · simpa using hsz
            · intro i h1 h2
              have:i=0∨i=1:=by simp at h2;omega
              rcases this with rfl |rfl
              · have:=Array.getElem?_eq_some_iff.1 ha0
                simpa using this.2
              · have:=Array.getElem?_eq_some_iff.1 ha1
                simpa using this.2
          · cases hc
        · cases hc
      · simp only[Option.map_eq_some_iff] at hc
        obtain ⟨xs,hx,rfl⟩:=hc
        exact d_minmax R hg ht (isMax:=true) ho hb hx hv
      · simp only[Option.map_eq_some_iff] at hc
        obtain ⟨xs,hx,rfl⟩:=hc
        exact d_minmax R hg ht (isMax:=false) ho hb hx hv
      · cases hc
  · cases hc
end
end Go.Abs
end
