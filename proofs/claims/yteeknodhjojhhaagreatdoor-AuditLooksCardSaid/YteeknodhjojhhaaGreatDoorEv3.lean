/- Every operation that calls nothing
   Conditions: none. -/
import Derived.Test.YteeknodhjojhhaaGreatDoorEv2
import Derived.MapKept
import Derived.Laws.Externs
set_option linter.unusedSimpArgs false
set_option linter.unusedVariables false
set_option maxRecDepth 100000
noncomputable section
namespace Go.Abs
open List Option IntKind
open Go.RowKit (Below)
section
variable{P:Program}{aM:Nat->Option AV}{K:Kp}{w0 w:World}{ρ:dR}{h:aN}{bU:Nat}{T:Tr}{a:Act}{o:Oper}
structure Vy(P:Program)(ts:Array TypeId)(e:TypeId):Prop where
 t:∃t,ts[0]?=some t/\P.underlying t=some (.slice e)
 x:∃u d,ts[1]?=some u/\P.underlying u=some d/\∀k,d≠.int k
 pos:P.cellsOf e≠0
 bytes:P.bytesOf e≠0
 zero:∃zc,qj P e=some zc
theorem Ad{ts:Array TypeId}{e:TypeId}(A:Vy P ts e){bC:Option Addr}{m cap n:Nat}{x':Value}{vs:List Value}(eV:∀w1:World,(Builtin.lenOf x').run P w1=.ok n w1)(hf:(Builtin.firstCells (P.cellsOf e) n x').run P w=.ok vs.toArray w)(rR:m+n<=cap)
 {w':World} (wZ:∀ad,bC=some ad->(storeCells (ad.add (m*P.cellsOf e)) vs).run P w=.ok () w') (NW:bC=none->w'=w) (ty:TypeId):
 (Builtin.append_ ts ty #[.slice bC m cap,x']).run P w=.ok (.slice bC (m+n) cap) w':=by
 obtain⟨t,ht,hu⟩:=A.t;obtain⟨u,d,hx,NX,hd⟩:=A.x;obtain⟨zc,hz⟩:=A.zero;obtain⟨z,Lx,tS,hz3,hz4,i,hi,RK⟩:=lW hz;have FL:(P.info? e).isSome=true:=by rw[hi];rfl
 have hni:(match d with|.int _=>true|_=>false)=false:=by cases d<;>first|rfl|exact absurd rfl (hd _)
 unfold Builtin.append_;simp only[ht,hx,getElem?_toArray,getElem?_cons_zero,getElem?_cons_succ,Sem.run_bind,run_underlying hu,Result.andThen_ok,dK FL,run_underlying NX,Sem.run_pure];cases d<;>first|(exact absurd rfl (hd _))|skip
 all_goals
  simp only[Bool.false_eq_true,if_false,eV,Result.andThen_ok,rR,if_true,Bool.not_false,hf,Sem.run_bind];cases bC with
  |none=>
   rw[NW rfl];simp
  |some ad=>simp[wZ ad rfl]
theorem xV{ts:Array TypeId}{e:TypeId}(A:Vy P ts e){bC:Option Addr}{m cap n:Nat}{x':Value}{vs v8:List Value}(eV:∀w1:World,(Builtin.lenOf x').run P w1=.ok n w1)(rR:cap<m+n)(pG:(m+n)*P.bytesOf e<=dQ)
 (hf:∀w1:World,Below w.heap.size w w1->w1.heap=w.heap->(Builtin.firstCells (P.cellsOf e) n x').run P w1=.ok vs.toArray w1) (hold:∀w1:World,w1.heap=w.heap->(Builtin.firstCells (P.cellsOf e) m (.slice bC m cap)).run P w1=.ok v8.toArray w1) (Ex:m+n<=maxLen)
 (ho:v8.length=m*P.cellsOf e) (hv:vs.length=n*P.cellsOf e) (ty:TypeId):
 ∃(k:Nat) (gP:Array Value) (w':World),m+n<=k/\k<=maxLen/\(Builtin.append_ ts ty #[.slice bC m cap,x']).run P w=.ok (.slice (some ⟨w.heap.size,0,none⟩) (m+n) k) w'/\Below w.heap.size w w'/\
  w'.heap[w.heap.size]?=some (.cells gP e (0,0))/\gP.size=k*P.cellsOf e/\(∀(j:Nat) (v:Value),(v8++vs)[j]?=some v->gP[j]?=some v):=by
 obtain⟨t,ht,hu⟩:=A.t;obtain⟨u,d,hx,NX,hd⟩:=A.x;obtain⟨zc,hz⟩:=A.zero;obtain⟨z,Lx,tS,hz3,hz4,i,hi,RK⟩:=lW hz;have FL:(P.info? e).isSome=true:=by rw[hi];rfl
 have HC:i.bytes=P.bytesOf e:=by unfold Program.bytesOf;rw[hi];rfl
 have hzs:z.cells.size=P.cellsOf e:=by have:=(tS (λ_=>none)).length;simp at this;omega
 obtain⟨k,Vw,Jm,ZG⟩:=uK (P:=P) w (m+n) cap e Ex;have hgs:Builtin.nextslicecap (m+n) cap*P.bytesOf e<=281474976710656:=growslice_fits rR (NV pG);have Jt:Below w.heap.size w {w with drawn:=w.drawn+1}:=⟨rfl,rfl,rfl,cB,λ_ _=>rfl⟩;let w1:World:={w with drawn:=w.drawn+1};let gP:Array Value:=v8.toArray++vs.toArray++Builtin.zeroCells z.cells (k-(m+n));refine⟨k,gP,w1.alloc (.cells gP e),Vw,Jm,?_,Jt.trans (gF w1 _),fe w1 _,?_,λj v hj=>?_⟩
 .unfold Builtin.append_;simp only[ht,hx,getElem?_toArray,getElem?_cons_zero,getElem?_cons_succ,Sem.run_bind,run_underlying hu,Result.andThen_ok,dK FL,run_underlying NX,Sem.run_pure];have hti:∀w2:World,(typeInfo e).run P w2=.ok i w2:=λw2=>by simp[typeInfo,hi]
  have hnf:¬(m+n<=cap):=Z;have rH:i.bytes≠0:=by rw[HC];exact A.bytes
  have Ag7:¬(Builtin.nextslicecap (m+n) cap*i.bytes>2^48):=by rw[HC];omega
  cases d<;>first|(exact absurd rfl (hd _))|skip
  all_goals
   simp only[Bool.false_eq_true,if_false,eV,Result.andThen_ok,hnf,Sem.run_bind,hti,rH,or_false,and_false,Ag7,ZG,run_askRoom,hold _ (show({w with drawn:=w.drawn+1}:World).heap=w.heap from rfl),Bool.not_false,if_true,hf _ Jt rfl,Lx,newRow,run_newObj,Sem.run_pure,Sem.run_ite];rfl
 .show(v8.toArray++vs.toArray++Builtin.zeroCells z.cells (k-(m+n))).size=k*P.cellsOf e;simp only[Array.size_append,List.size_toArray,size_zeroCells,hzs,ho,hv];rw[<-Nat.add_mul,<-Nat.add_mul];congr 1;omega
 .show(v8.toArray++vs.toArray++Builtin.zeroCells z.cells (k-(m+n)))[j]?=some v;have jU:j<(v8++vs).length:=(List.getElem?_eq_some_iff.1 hj).1;rw[Array.getElem?_append,aG (by simpa using jU)];simpa using hj
end
open Go.RowKit (Below)
section
variable{P:Program}{aM:Nat->Option AV}{K:Kp}{w0 w:World}{ρ:dR}{h:aN}{bU:Nat}{T:Tr}{a:Act}{o:Oper}
theorem Ae{c:Call}{s x:Operand}(ho:o.op=.call c)(hc:c.callee=.builtin .append)(ha:c.args=#[s,x]):
 (execOp a.eval o).run P w=((Builtin.append_ c.argTypes o.type #[a.eval s,a.eval x]).run P w).andThen λv w'=>.ok (.value v) w':=by
 simp only[execOp,ho,Sem.run_bind,resolve,hc,ha,Sem.run_pure,Result.andThen_ok,invoke,builtin];simp
theorem FM{α:Type}{l:List α}{n:Nat}(h:l.length=n):l.take n=l:=take_of_length_le Z
theorem Dn(R:Rel K w0 ρ h w)(wC:bU<=h.length)(hn:ρ bU=none){e:TypeId}{v8 xs:List (List AV)}{ov vs:List Value}{k:Nat}{gP:Array Value}{w':World}(hc:P.cellsOf e≠0)
 (h1:fz ρ v8.flatten ov) (h2:fz ρ xs.flatten vs) (ho:∀x∈v8,x.length=P.cellsOf e) (hx:∀x∈xs,x.length=P.cellsOf e) (hk:v8.length+xs.length<=k) (hb:Below w.heap.size w w')
 (hh:w'.heap[w.heap.size]?=some (.cells gP e (0,0))) (rG:gP.size=k*P.cellsOf e) (hos:∀y∈v8.flatten,y.cU=true) (Ly:∀y∈xs.flatten,y.cU=true) (hG:∀(j:Nat) (v:Value),(ov++vs)[j]?=some v->gP[j]?=some v):
 Rel K w0 (ρ.put bU ⟨w.heap.size,0,P.cellsOf e,k⟩) (aQ h bU (some (.row true (P.cellsOf e) (v8++xs)))) w':=by
 refine sW R wC hn hb hh Z (λx uL=>?_) (by simpa using hk) Z (by simp) (λj x hj=>?_) (λy hy=>?_)
 .rcases mem_append.1 uL with h|h
  .exact ho x h
  .exact hx x h
 .rw[flatten_append]at hj;obtain⟨v,hv,hr⟩:=(h1.append h2).get hj;exact⟨v,hG j v hv,hr⟩
 .rw[flatten_append,mem_append]at hy;exact hy.elim (hos y) (Ly y)
theorem ZH(R:Rel K w0 ρ h w)(hg:GR aM ρ)(ht:TR ρ T a)(wC:bU<=h.length)(hn:ρ bU=none){c:Call}{s x:Operand}{as ax:bE}{e:TypeId}{v:AV}{cs:List j9}(ho:o.op=.call c)(hc:c.callee=.builtin .append)
 (ha:c.args=#[s,x]) (A:Vy P c.argTypes e) (hs:bO aM s=some as) (hx:bO aM x=some ax) (hv:eC (aj h) bU (P.cellsOf e) (P.bytesOf e) (cP T as) (cP T ax)=some (v,cs)):cV K w0 ρ bU (gS h cs) v ((execOp a.eval o).run P w):=by
 have sY:0<P.cellsOf e:=by have:=A.pos;omega
 have AS:=ch hg ht hs;have rP:=ch hg ht hx;rw[Ae ho hc ha];unfold eC at hv;split at hv
 .cases hv
 .rename_i Ly;obtain⟨⟨e1,RM⟩,e2,vs,e3,e4,e5⟩:=sX (P:=P) R sY Ly rP;have hv0:vs=[]:=by
   have:=e3.length;exact eq_nil_of_length_eq_zero (by simpa using this.symm)
  subst hv0;have e6:=e5 0 cB w rfl;have kj:∀{bC:Option Addr} {m cap:Nat},a.eval s=.slice bC m cap->m<=cap->((Builtin.append_ c.argTypes o.type #[a.eval s,a.eval x]).run P w)=.ok (.slice bC m cap) w:=by
   intro bC m cap es oT;rw[es];exact Ad A e2 (by simpa using e6) (by simpa using oT) (λad _=>rfl) (λ_=>rfl) _
  split at hv
  .rename_i ev;cases hv;rw[ev]at AS|-;have es:a.eval s=.slice none 0 0:=AS;exact cV.val R (v':=.slice none 0 0) (by simp[VR]) (by rw[kj es cB];rfl)
  .rename_i ev;cases hv;rw[ev]at AS|-;obtain⟨ad,es⟩:=AS;exact cV.val R (v':=.slice (some ad) 0 0) ⟨ad,rfl⟩ (by rw[kj es cB];rfl)
  .rename_i b i m cc ev;cases hv;rw[ev]at AS|-;obtain⟨p,ad,cap,hp,es,oT,mw⟩:=AS;exact cV.val R (v':=.slice (some ad) m cap) ⟨p,ad,cap,hp,rfl,oT,mw⟩ (by rw[kj es oT];rfl)
  .cases hv
 .rename_i xs Ag8 Ly;obtain⟨⟨e1,RM⟩,e2,vs,e3,e4,e5⟩:=sX (P:=P) R sY Ly rP;have AlW:0<xs.length:=by
   cases xs with
   |nil=>exact absurd rfl Ag8
   |cons=>simp
  have T9:0<P.bytesOf e:=by have:=A.bytes;omega
  have e6:∀w1:World,w1.heap=w.heap->(Builtin.firstCells (P.cellsOf e) xs.length (a.eval x)).run P w1=.ok vs.toArray w1:=by
   intro w1 RN;have:=e5 xs.length cB w1 RN;rwa[FM e4]at this
  have Ua:∀{bC:Option Addr},a.eval s=.slice bC 0 0->xs.length*P.bytesOf e<=dQ->
   cV K w0 ρ bU (aQ h bU (some (.row true (P.cellsOf e) xs))) (.slice bU 0 xs.length none) (((Builtin.append_ c.argTypes o.type #[a.eval s,a.eval x]).run P w).andThen λv w'=>.ok (.value v) w'):=by
   intro bC es pG;have Ex:xs.length<=maxLen:=by
    have h1:xs.length*1<=xs.length*P.bytesOf e:=Nat.mul_le_mul_left _ T9;unfold dQ at pG;unfold maxLen;omega
   obtain⟨k,gP,w',g1,g2,g3,g4,g5,g6,g7⟩:=xV (P:=P) (w:=w) A (bC:=bC) (m:=0) (cap:=0) (n:=xs.length) (x':=a.eval x) (vs:=vs) (v8:=[]) e2 Z (by simpa using pG) (λw1 _ RN=>e6 w1 RN)
    (λw1 _=>by cases bC<;>simp[Builtin.firstCells,loadCells,loadCellsFrom]) (by simpa using Ex) (by simp) e4 o.type
   rw[es,g3];have Rn:=Dn R wC hn A.pos (v8:=[]) (ov:=[]) (by simp[fz]) e3 (by simp) e1 (by simpa using g1) g4 g5 g6 (by simp) RM (by simpa using g7);refine lD hn Rn (v':=.slice (some ⟨w.heap.size,0,none⟩) xs.length k) ⟨_,_,_,dR.iB _ _ _,rfl,by simpa using g1,.inr ⟨by rw[ql],by simp⟩,by simp,by simp,g2⟩ (by simp)
  split at hv
  .rename_i ev;split at hv
   .rename_i pG;cases hv;rw[ev]at AS;exact Ua AS pG
   .cases hv
  .rename_i ev;split at hv
   .rename_i pG;cases hv;rw[ev]at AS;obtain⟨ad,es⟩:=AS;exact Ua es pG
   .cases hv
  .rename_i b i m cc ev;rw[ev]at AS;obtain⟨p,ad,cap,hp,es,oT,hk,uE,xa,Ex⟩:=AS;split at hv
   .rename_i bS ez rs hb;split at hv
    .cases hv
    .rename_i dO;simp only[not_or,Classical.not_not,ne_eq,Nat.not_lt]at dO;obtain⟨RH,Lz,pG⟩:=dO;subst RH;have FH:=rQ R hb hp;obtain⟨q,hq,hB⟩:=R.mV b _ hb;have RO:q=p:=Option.some.inj (hq.symm.trans hp);subst RO;have hBB:=hB;obtain⟨b1,b2,b3,b4,Vz,bel,bfr,bh,b5,b6,b7,b8⟩:=hB;have holds:=Dm R hb hp i m Lz;obtain⟨ov,ov1,ov2,ov3⟩:=holds;have Ey:∀y∈(rs.drop i).take m,y.length=P.cellsOf e:=λy hy=>b3 y (mem_of_mem_drop (mem_of_mem_take hy))
     have Ez:((rs.drop i).take m).length=m:=by rw[length_take,length_drop];omega
     have ZI:m+xs.length<=maxLen:=by
      have h1:(m+xs.length)*1<=(m+xs.length)*P.bytesOf e:=Nat.mul_le_mul_left _ T9;unfold dQ at pG;unfold maxLen;omega
     have Ju:∀w1:World,w1.heap=w.heap->(Builtin.firstCells (P.cellsOf e) m (.slice (some ad) m cap)).run P w1=.ok ov.toArray w1:=by
      intro w1 RN;by_cases VA:m=0
      .subst VA;have:ov=[]:=eq_nil_of_length_eq_zero (by simpa using ov2);subst this;simp[Builtin.firstCells,loadCells,loadCellsFrom]
      .have Fo:ad=q.lA i 0:=by
        rcases hk with h|h
        .omega
        .exact h.1
       subst Fo;have:=run_loadCells_list (P:=P) w1 (q.lA i 0) ov (λj v hv=>by
        have h4:=ov3 j v hv;unfold World.cell? at h4|-;rw[RN];exact h4)
       rw[ov2]at this;simp[Builtin.firstCells,this]
     have Jv:m+xs.length<=cap->bS=true->∃w',(storeCells (ad.add (m*P.cellsOf e)) vs).run P w=.ok () w'/\(i+m+xs.length<=rs.length->Rel K w0 ρ (aQ h b (some (.row true (P.cellsOf e) (rs.take (i+m)++xs++rs.drop (i+m+xs.length))))) w')/\
      (∃xh:Array Value,w'.heap[q.cb]?=some (.cells xh bel bfr)/\xh.size=Vz.size/\(∀k,xh[k]?=if q.bC+(i+m)*P.cellsOf e<=k/\k<q.bC+(i+m)*P.cellsOf e+vs.length then vs[k-(q.bC+(i+m)*P.cellsOf e)]? else Vz[k]?))/\
      (∀k,k≠q.cb->w'.heap[k]?=w.heap[k]?)/\w'.heap.size=w.heap.size/\w'.os=w.os/\w'.tape=w.tape/\w'.output=w.output:=by
      intro rR um;subst um;have Fo:ad=q.lA i 0/\i+cap<=q.xG:=by
       rcases hk with h|h
       .omega
       .exact h
      obtain⟨Fo,NU⟩:=Fo;subst Fo;have Ag9:(i+(m+xs.length))*P.cellsOf e<=q.xG*P.cellsOf e:=Nat.mul_le_mul_right _ Z;have Aha:(i+(m+xs.length))*P.cellsOf e=(i+m)*P.cellsOf e+xs.length*P.cellsOf e:=by rw[<-Nat.add_mul];congr 1;omega
      have ZJ:∀v∈vs,v.oneCell'=true:=Bw e3 RM;obtain⟨w',xh,s1,s2,s3,s4,s5,s6,s7,s8,s9⟩:=xg P q.cb (q.bC+(i+m)*P.cellsOf e) bel bfr vs 0 Vz w bh (b7 rfl).2 Z ZJ;have Ahb:(q.lA i 0).add (m*P.cellsOf e)=⟨q.cb,q.bC+(i+m)*P.cellsOf e,none⟩:=by
       rw[Pl.xT q i m FH];unfold Pl.lA;rw[FH];simp
      rw[Ahb];refine⟨w',s1,λuw=>?_,⟨xh,s2,s3,by simpa using s4⟩,s5,s6,s7,s8,s9⟩;obtain⟨w2,t1,t2⟩:=uG (P:=P) R (pd:=rs.take (i+m)++xs++rs.drop (i+m+xs.length)) (lA:=(i+m)*P.cellsOf e) (cs:=xs.flatten) (vs:=vs) hb hp e3 RM
       (λy hy=>by
        simp only[mem_append]at hy;rcases hy with(hy|hy)|hy
        .exact b3 y (mem_of_mem_take hy)
        .exact e1 y hy
        .exact b3 y (mem_of_mem_drop hy))
       (by simp only[length_append,length_take,length_drop];omega)
       (by
        have:=gd xs e1
        have h9:(i+m+xs.length)*P.cellsOf e<=rs.length*P.cellsOf e:=Nat.mul_le_mul_right _ uw
        rw[Nat.add_mul]at h9
        omega)
       (by
        rw[flatten_append,flatten_append,iU _ _ b3,jO _ _ b3,gd xs e1,<-Nat.add_mul])
      have:w2=w':=by
       rw[s1]at t1;injection t1 with _ t
       exact t.symm
      rw[<-this];exact t2
     have ZK:∀y∈((rs.drop i).take m).flatten,y.cU=true:=λy hy=>b8 y (by
      simp only[mem_flatten]at hy|-
      obtain⟨l,hl,hy⟩:=hy
      exact⟨l,mem_of_mem_drop (mem_of_mem_take hl),hy⟩)
     have RP:cap<m+xs.length->∃(k:Nat) (gP:Array Value) (w':World),m+xs.length<=k/\k<=maxLen/\(Builtin.append_ c.argTypes o.type #[a.eval s,a.eval x]).run P w=.ok (.slice (some ⟨w.heap.size,0,none⟩) (m+xs.length) k) w'/\Below w.heap.size w w'/\
      w'.heap[w.heap.size]?=some (.cells gP e (0,0))/\gP.size=k*P.cellsOf e/\(∀(j:Nat) (v:Value),(ov++vs)[j]?=some v->gP[j]?=some v):=by
      intro rR;rw[es];exact xV (P:=P) (w:=w) A (bC:=some ad) (m:=m) (cap:=cap) (n:=xs.length) (x':=a.eval x) (vs:=vs) (v8:=ov) e2 rR pG (λw1 _ RN=>e6 w1 RN) Ju ZI ov2 e4 o.type
     have FN:∀{h':aN},Rel K w0 ρ h' w->bU<=h'.length->cap<m+xs.length->
      cV K w0 ρ bU (aQ h' bU (some (.row true (P.cellsOf e) ((rs.drop i).take m++xs)))) (.slice bU 0 (m+xs.length) none) (((Builtin.append_ c.argTypes o.type #[a.eval s,a.eval x]).run P w).andThen λv w'=>.ok (.value v) w'):=by
      intro h' R' Ahc rR;obtain⟨k,gP,w',g1,g2,g3,g4,g5,g6,g7⟩:=RP rR;have Rn:=Dn R' Ahc hn A.pos ov1 e3 Ey e1 (by rw[Ez];exact g1) g4 g5 g6 ZK RM g7;rw[g3];exact lD hn Rn (v':=.slice (some ⟨w.heap.size,0,none⟩) (m+xs.length) k) ⟨_,_,_,dR.iB _ _ _,rfl,g1,.inr ⟨by rw[ql],by simp⟩,by simp,by simp,g2⟩ (by simp)
     have NY:∀{w':World},m+xs.length<=cap->(storeCells (ad.add (m*P.cellsOf e)) vs).run P w=.ok () w'->(Builtin.append_ c.argTypes o.type #[a.eval s,a.eval x]).run P w=.ok (.slice (some ad) (m+xs.length) cap) w':=by
      intro w' rR wZ;rw[es];exact Ad A e2 (e6 w rfl) rR (λad' Ahd=>by cases Ahd;exact wZ) (λh=>by cases h) _
     have NZ:bS=true/\i+m+xs.length<=rs.length->m+xs.length<=cap->cV K w0 ρ bU (aQ h b (some (.row bS (P.cellsOf e) (rs.take (i+m)++xs++rs.drop (i+m+xs.length))))) (.slice b i (m+xs.length) cc) (((Builtin.append_ c.argTypes o.type #[a.eval s,a.eval x]).run P w).andThen λv w'=>.ok (.value v) w'):=by
      intro uw rR;obtain⟨um,uw⟩:=uw;obtain⟨w',s1,s2,_⟩:=Jv rR um;subst um;exact⟨.value (.slice (some ad) (m+xs.length) cap),_,w',ρ,by rw[NY rR s1];rfl,.inl rfl,⟨q,ad,cap,hp,rfl,rR,hk,uE,xa,Ex⟩,s2 uw,dR.le_refl _,λ_ _=>rfl⟩
     cases cc with
     |some k=>
      have Af:=uE k rfl;dsimp only at hv;by_cases hr:m+xs.length<=k
      .rw[decide_eq_true hr,aG rfl]at hv;split at hv
       .rename_i uw;cases hv;exact NZ uw Z
       .cases hv
      .rw[decide_eq_false hr,aq (by simp)]at hv;cases hv;exact FN R wC Z
     |none=>
      have hce:=xa rfl;dsimp only at hv;by_cases hr:i+m+xs.length<=rs.length
      .rw[decide_eq_true hr,aG rfl]at hv;split at hv
       .rename_i uw;cases hv;exact NZ uw Z
       .cases hv
      .rw[decide_eq_false hr,aq (by simp)]at hv;split at hv
       .rename_i um;cases hv;have Ahe:=ag hb;have Rk:=R.kill Ahe;have hlk:(aQ h b none).length=h.length:=by rw[kN Z];omega
        show cV K w0 ρ bU (aQ (aQ h b none) bU _) _ _;by_cases rR:m+xs.length<=cap
        .obtain⟨w',s1,_,⟨xh,t1,t2,t3⟩,s5,s6,s7,s8,s9⟩:=Jv rR um;subst um;have Zv:=(b7 rfl).1;have Fo:ad=q.lA i 0/\i+cap<=q.xG:=by
          rcases hk with h|h
          .omega
          .exact h
         obtain⟨Fo,NU⟩:=Fo;have Rw:Rel K w0 ρ (aQ h b none) w':=Rk.world ⟨s7.trans R.below.os,s8.trans R.below.tape,s9.trans R.below.output,by rw[s6];exact R.below.size,R.below.lt,λk hk=>(s5 k (λe=>Zv (e▸hk))).trans (R.below.block k hk)⟩ Z (λc' y p' hy Aa=>by
          rw[dw Z]at hy;split at hy
          .cases hy
          .rename_i hcb;exact s5 _ λe'=>R.sep b c' _ y q p' hb hy hp Aa rfl (λRA=>hcb RA.symm) e'.symm)
         have ZL:(i+m)*P.cellsOf e<=rs.length*P.cellsOf e:=Nat.mul_le_mul_right _ Lz;have ZM:(i+cap)*P.cellsOf e<=q.xG*P.cellsOf e:=Nat.mul_le_mul_right _ NU;have ZN:(m+xs.length)*P.cellsOf e<=cap*P.cellsOf e:=Nat.mul_le_mul_right _ rR;rw[Nat.add_mul]at ZL ZM ZN;have hq1:(i+m)*P.cellsOf e=i*P.cellsOf e+m*P.cellsOf e:=Nat.add_mul _ _ _;refine lD (p:=⟨q.cb,q.bC+i*P.cellsOf e,P.cellsOf e,cap⟩) hn (Rw.put Z hn ⟨rfl,sY,?_,?_,xh,bel,bfr,t1,?_,?_,?_,?_⟩ ?_) (v':=.slice (some ad) (m+xs.length) cap) ?_ (by rw[NY rR s1];rfl)
         .intro y hy;rcases mem_append.1 hy with h|h
          .exact Ey y h
          .exact e1 y h
         .rw[length_append,Ez];exact rR
         .simp only;rw[t2];omega
         .intro j y hj;simp only;rw[flatten_append]at hj;have sZ:((rs.drop i).take m).flatten.length=m*P.cellsOf e:=by rw[gd _ Ey,Ez]
          rw[t3];by_cases hjm:j<m*P.cellsOf e
          .rw[aq Z];rw[getElem?_append_left Z]at hj;rw[iU _ _ (λy hy=>b3 y (mem_of_mem_drop hy)),jO _ _ b3,getElem?_take,aG hjm,getElem?_drop]at hj;obtain⟨v,hv,hr⟩:=b6 _ y hj;refine⟨v,?_,hr.mono (dR.wX _ hn)⟩;rw[<-hv];congr 1;omega
          .rw[getElem?_append_right Z,sZ]at hj;obtain⟨v,hv,hr⟩:=e3.get hj;have jU:=(List.getElem?_eq_some_iff.1 hv).1;rw[aG Z];refine⟨v,?_,hr.mono (dR.wX _ hn)⟩;rw[<-hv];congr 1;omega
         .intro _;exact⟨Zv,by rw[t2];exact(b7 rfl).2⟩
         .intro y hy;rw[flatten_append,mem_append]at hy;exact hy.elim (ZK y) (RM y)
         .intro c' y p' hy Aa;rw[dw Z]at hy;split at hy
          .cases hy
          .rename_i hcb;exactλe'=>R.sep b c' _ y q p' hb hy hp Aa rfl (λRA=>hcb RA.symm) e'.symm
         .refine⟨_,ad,cap,dR.iB _ _ _,rfl,rR,.inr ⟨?_,by simp⟩,by simp,by simp,Ex⟩;rw[Fo];unfold Pl.lA;simp only[FH,Nat.zero_mul,Nat.add_zero]
        .exact FN Rk Z Z
       .cases hv
   .cases hv
  .cases hv
end
open Go.RowKit (Below)
section
variable{P:Program}{aM:Nat->Option AV}{K:Kp}{w0 w:World}{ρ:dR}{h:aN}{bU:Nat}{T:Tr}{a:Act}{o:Oper}
theorem LA{c:Call}{s x:Operand}(ho:o.op=.call c)(hc:c.callee=.builtin .copy)(ha:c.args=#[s,x]):
 (execOp a.eval o).run P w=((Builtin.copy_ c.argTypes o.type #[a.eval s,a.eval x]).run P w).andThen λv w'=>.ok (.value v) w':=by
 simp only[execOp,ho,Sem.run_bind,resolve,hc,ha,Sem.run_pure,Result.andThen_ok,invoke,builtin];simp
theorem FO{ts:Array TypeId}{t e:TypeId}(ht:ts[0]?=some t) (hu:P.underlying t=some (.slice e)) (hi:(P.info? e).isSome=true) {bC:Option Addr} {m cap n:Nat} {x':Value} {vs:List Value} (eV:∀w1:World,(Builtin.lenOf x').run P w1=.ok n w1)
 (hf:(Builtin.firstCells (P.cellsOf e) (Nat.min n m) x').run P w=.ok vs.toArray w) {w':World} (wZ:∀ad,bC=some ad->(storeCells ad vs).run P w=.ok () w') (NW:bC=none->w'=w) (ty:TypeId):
 (Builtin.copy_ ts ty #[.slice bC m cap,x']).run P w=.ok (.int .i64 (Nat.min n m)) w':=by
 unfold Builtin.copy_;simp only[ht,getElem?_toArray,getElem?_cons_zero,getElem?_cons_succ,Sem.run_bind,run_underlying hu,Result.andThen_ok,eV,dK hi,hf];cases bC with
 |none=>
  rw[NW rfl];simp[goInt]
 |some ad=>simp[wZ ad rfl,goInt]
theorem VB(R:Rel K w0 ρ h w)(hg:GR aM ρ)(ht:TR ρ T a){c:Call}{s x:Operand}{as ax:bE}{t e:TypeId}{v:AV}{cs:List j9}(ho:o.op=.call c)(hc:c.callee=.builtin .copy)
 (ha:c.args=#[s,x]) (h0:c.argTypes[0]?=some t) (hu:P.underlying t=some (.slice e)) (hi:(P.info? e).isSome=true) (sY:0<P.cellsOf e) (hs:bO aM s=some as) (hx:bO aM x=some ax) (hv:z8 (aj h) (P.cellsOf e) (cP T as) (cP T ax)=some (v,cs)):
 cV K w0 ρ bU (gS h cs) v ((execOp a.eval o).run P w):=by
 have AS:=ch hg ht hs;have rP:=ch hg ht hx;rw[LA ho hc ha];unfold z8 at hv;split at hv
 .cases hv
 .rename_i xs Ly;obtain⟨⟨e1,RM⟩,e2,vs,e3,e4,e5⟩:=sX (P:=P) R sY Ly rP;have zero:∀{bC:Option Addr} {m cap:Nat},a.eval s=.slice bC m cap->min xs.length m=0->(Builtin.copy_ c.argTypes o.type #[a.eval s,a.eval x]).run P w=.ok (.int .i64 0) w:=by
   intro bC m cap es hz;have Hp:Nat.min xs.length m=0:=hz;have h6:=e5 0 Z w rfl;rw[es];have:=FO (P:=P) (w:=w) (w':=w) h0 hu hi (bC:=bC) (m:=m) (cap:=cap) (n:=xs.length) (x':=a.eval x) (vs:=[]) e2 (by rw[Hp];simpa using h6) (λad _=>rfl) (λ_=>rfl) o.type;rw[Hp]at this;exact this
  split at hv
  .rename_i ev;cases hv;rw[ev]at AS;have es:a.eval s=.slice none 0 0:=AS;exact cV.val R nj (by rw[zero es Z];rfl)
  .rename_i ev;cases hv;rw[ev]at AS;obtain⟨ad,es⟩:=AS;exact cV.val R nj (by rw[zero es Z];rfl)
  .rename_i b i n cc ev;rw[ev]at AS;obtain⟨p,ad,cap,hp,es,oT,hk,_⟩:=AS;dsimp only at hv;split at hv
   .rename_i hz;cases hv;exact cV.val R nj (by rw[zero es hz];rfl)
   .rename_i hz;split at hv
    .rename_i ez rs hb;split at hv
     .rename_i dO;obtain⟨rfl,Lz⟩:=dO;cases hv;obtain⟨q,hq,hB⟩:=R.mV b _ hb;have RO:q=p:=Option.some.inj (hq.symm.trans hp);subst RO;obtain⟨b1,b2,b3,b4,_⟩:=hB;have Fo:ad=q.lA i 0:=by
       rcases hk with h|h
       .omega
       .exact h.1
      subst Fo;have Ub:min xs.length n<=xs.length:=Nat.min_le_left _ _;have hG:∀y∈xs.take (min xs.length n),y.length=P.cellsOf e:=λy hy=>e1 y (mem_of_mem_take hy)
      have jU:(xs.take (min xs.length n)).length=min xs.length n:=by rw[length_take];omega
      have Ahf:fz ρ (xs.take (min xs.length n)).flatten (vs.take (min xs.length n*P.cellsOf e)):=by
       rw[iU _ _ e1];exact e3.take _
      obtain⟨w',t1,t2⟩:=uG (P:=P) R (pd:=rs.take i++xs.take (min xs.length n)++rs.drop (i+min xs.length n)) (lA:=i*P.cellsOf e) hb hp Ahf
       (λy hy=>RM y (by
        simp only[mem_flatten]at hy|-
        obtain⟨l,hl,hy⟩:=hy
        exact⟨l,mem_of_mem_take hl,hy⟩))
       (λy hy=>by
        simp only[mem_append]at hy;rcases hy with(hy|hy)|hy
        .exact b3 y (mem_of_mem_take hy)
        .exact hG y hy
        .exact b3 y (mem_of_mem_drop hy))
       (by simp only[length_append,length_take,length_drop];omega)
       (by
        rw[gd _ hG,jU]
        have h9:(i+min xs.length n)*P.cellsOf e<=rs.length*P.cellsOf e:=Nat.mul_le_mul_right _ Lz
        rw[Nat.add_mul]at h9
        omega)
       (by
        rw[flatten_append,flatten_append,iU _ i b3,jO _ _ b3,gd _ hG,jU,<-Nat.add_mul])
      have e6:=e5 (min xs.length n) Ub w rfl;have v9:=FO (P:=P) (w:=w) (w':=w') h0 hu hi (bC:=some (q.lA i 0)) (m:=n) (cap:=cap) (n:=xs.length) (x':=a.eval x) (vs:=vs.take (min xs.length n*P.cellsOf e)) e2 e6
       (λad' h'=>by
        cases h';have:q.lA i 0=⟨q.cb,q.bC+i*P.cellsOf e,none⟩:=by unfold Pl.lA;rw[b1];simp
        rw[this];exact t1) (λh'=>by cases h') o.type
      rw[es,v9];refine⟨.value (.int .i64 (Nat.min xs.length n)),_,w',ρ,rfl,.inl rfl,?_,t2,dR.le_refl _,λ_ _=>rfl⟩;have:((min xs.length n:Nat):Int)=((Nat.min xs.length n:Nat):Int):=rfl;simp only[VR]
     .cases hv
    .cases hv
  .cases hv
theorem ZO(R:Rel K w0 ρ h w)(hg:GR aM ρ)(ht:TR ρ T a)(wC:bU<=h.length)(hn:ρ bU=none){s d e:TypeId}{x:Operand}{ax:bE}{l:List UInt8}(ho:o.op=.convert s d x)(hs:P.underlying s=some .string)(hd:P.underlying d=some (.slice e))(he:P.underlying e=some (.int .u8))
 (hx:bO aM x=some ax) (hv:cP T ax=.fN l) (hl:l.length<=maxLen):cV K w0 ρ bU (aQ h bU (some (.row true 1 (lR l)))) (.slice bU 0 l.length none) ((execOp a.eval o).run P w):=by
 have hr:=ch hg ht hx;rw[hv]at hr;obtain⟨b,ex,hb⟩:=hr;have rG:b.size=l.length:=by rw[<-hb,Array.length_toList];rfl
 obtain⟨k,Vw,Jm,ZG⟩:=uK (P:=P) w b.size 0 e Z;let gP:Array Value:=(b.data.map λc=>Value.int .u8 c.toNat)++Array.replicate (k-b.size) (Value.int .u8 0);have ZP:gP.size=k:=by
  show((b.data.map λc=>Value.int .u8 c.toNat)++Array.replicate (k-b.size) (Value.int .u8 0)).size=k;have:b.data.size=b.size:=rfl;simp only[Array.size_append,Array.size_map,Array.size_replicate];omega
 let w1:World:={w with drawn:=w.drawn+1};let w2:World:=w1.alloc (.cells gP e);let w3:World:=w2.freeze {block:=w.heap.size,off:=k} 1;have Jt:Below w.heap.size w w1:=⟨rfl,rfl,rfl,cB,λ_ _=>rfl⟩;have og:Below w.heap.size w w2:=Jt.trans (gF w1 _);have hh2:w2.heap[w.heap.size]?=some (.cells gP e (0,0)):=fe w1 _;have hh3:w3.heap[w.heap.size]?=some (.cells gP e (k,k+1)):=by
  show(World.freeze w2 {block:=w.heap.size,off:=k} 1).heap[w.heap.size]?=_;simp[World.freeze,Array.getElem?_modify,hh2]
 have LB:Below w.heap.size w w3:=og.trans ⟨rfl,rfl,rfl,by simp[w3,World.freeze],λj hj=>by
  show(World.freeze w2 {block:=w.heap.size,off:=k} 1).heap[j]?=_;simp only[World.freeze,aq (show¬(1=0) by omega),Array.getElem?_modify];rw[aq Z]⟩
 have v9:(execOp a.eval o).run P w=.ok (.value (.slice (some ⟨w.heap.size,0,none⟩) l.length k)) w3:=by
  have VC:(w2.shape? w.heap.size)=some (e,k):=by
   unfold World.shape?;rw[hh2];simp[ZP]
  have h1:(newRow e gP).run P w1=.ok ⟨w.heap.size,0,none⟩ w2:=rfl;have h2:(markStringish ⟨w.heap.size,0,none⟩).run P w2=.ok () w3:=by
   simp only[markStringish,Sem.run_bind,run_shape,VC,Result.andThen_ok,run_freeze];rfl
  have h3:(Conv.stringToBytes e b).run P w=.ok (.slice (some ⟨w.heap.size,0,none⟩) b.size k) w3:=by
   unfold Conv.stringToBytes;rw[Sem.run_bind,ZG,Result.andThen_ok];show((newRow e gP>>=λa=>markStringish a>>=λ_=>pure (.slice (some a) b.size k)):Sem Value).run P w1=_;rw[Sem.run_bind,h1,Result.andThen_ok,Sem.run_bind,h2,Result.andThen_ok,Sem.run_pure]
  have hc:(convert s d (.string b)).run P w=.ok (.slice (some ⟨w.heap.size,0,none⟩) l.length k) w3:=by
   simp only[convert,Sem.run_bind,run_underlying hs,run_underlying hd,run_underlying he,Result.andThen_ok,h3,rG]
  simp only[execOp,ho,ex,Sem.run_bind,hc,Result.andThen_ok,Sem.run_pure]
 refine lD hn (sW R wC hn LB hh3 Z (Ac l) (xG:=k) (by rw[uH];omega) Z (by intro j hj;rw[ZP]at hj;simp only;omega) ?_ (uJ l)) (v':=.slice (some ⟨w.heap.size,0,none⟩) l.length k)
  ⟨_,_,_,dR.iB _ _ _,rfl,Z,.inr ⟨by rw[ql],by simp⟩,by simp,by simp,Jm⟩ v9
 intro j x hj;have hbr:=Ab (ρ:=ρ) l;obtain⟨v,hv,hr⟩:=hbr.get hj;refine⟨v,?_,hr⟩;show((b.data.map λc=>Value.int .u8 c.toNat)++Array.replicate (k-b.size) (Value.int .u8 0))[j]?=some v;have jU:=(List.getElem?_eq_some_iff.1 hv).1;simp only[length_map]at jU;rw[Array.getElem?_append,aG (by simp only[Array.size_map];have:b.data.size=b.size:=rfl;omega)];rw[<-hb]at hv;simpa using hv
theorem ZQ(R:Rel K w0 ρ h w)(hg:GR aM ρ)(ht:TR ρ T a){s d e:TypeId}{x:Operand}{ax:bE}{xs:List (List AV)}{l:List UInt8}(ho:o.op=.convert s d x)(hs:P.underlying s=some (.slice e))(hd:P.underlying d=some .string)(he:P.underlying e=some (.int .u8))
 (hx:bO aM x=some ax) (hns:∀t,cP T ax≠.fN t) (hv:eW (aj h) 1 (cP T ax)=some xs) (hb:bytesOf xs=some l):cV K w0 ρ bU h (.fN l) ((execOp a.eval o).run P w):=by
 have hr:=ch hg ht hx;obtain⟨⟨e1,RM⟩,e2,vs,e3,e4,e5⟩:=sX (P:=P) R Z hv hr;have key:∀(xs:List (List AV)) (l:List UInt8) (vs:List Value) (acc:ByteArray),bytesOf xs=some l->fz ρ xs.flatten vs->
  ∃HG:ByteArray,(forIn (m:=Sem) vs acc (λc r=>match c with
   |.int .u8 n=>pure (ForInStep.yield (r.push (UInt8.ofNat n.toNat)))
   |_=>do
    stuck "bytesToString: byte expected"
    pure (ForInStep.yield r))).run P w=.ok HG w/\HG.data.toList=acc.data.toList++l:=by
  intro xs;induction xs with
  |nil=>
   intro l vs acc hb hr;simp only[bytesOf]at hb;cases hb;simp only[flatten_nil,fz]at hr;subst hr;exact⟨acc,by simp,by simp⟩
  |cons y ys ih=>
   intro l vs acc hb hr;unfold bytesOf at hb;split at hb
   .rename_i heq;cases heq
   .rename_i n es heq;injection heq with Ahg Ahh
    subst Ahg Ahh;simp only[map_eq_some_iff]at hb;obtain⟨l',Hq,rfl⟩:=hb;obtain⟨v,iA,rfl,Fp,Jw⟩:=hr;have HH:v=.int .u8 n:=Fp;subst HH;obtain⟨HG,h1,h2⟩:=ih l' iA (acc.push (UInt8.ofNat n.toNat)) Hq Jw;refine⟨HG,?_,?_⟩
    .simp only[forIn_cons,Sem.run_bind,Sem.run_pure,Result.andThen_ok];exact h1
    .rw[h2];show((acc.data.push _).toList++l')=_;simp
   .cases hb
 have hsl:∃ba n cp,a.eval x=.slice ba n cp:=by
  cases Nh:cP T ax<;>rw[Nh]at hv hr hns<;>simp only[eW]at hv<;>first|(cases hv;done)|skip
  case aF=>exact⟨none,0,0,hr⟩
  case fg=>obtain⟨ad,e⟩:=hr;exact⟨some ad,0,0,e⟩
  case slice=>obtain⟨p,ad,k,_,e,_⟩:=hr;exact⟨some ad,_,k,e⟩
  case Hl=>obtain⟨ad,k,e⟩:=hr;exact⟨ad,_,k,e⟩
  case fN t=>exact absurd rfl (hns t)
 obtain⟨ba,n,cp,ex⟩:=hsl;have h6:=e5 xs.length cB w rfl;rw[FM e4,ex]at h6;have hn:n=xs.length:=by
  have:=e2 w;rw[ex]at this;simp only[Builtin.lenOf,Sem.run_pure,Result.ok.injEq]at this;exact this.1
 obtain⟨HG,h1,h2⟩:=key xs l vs ByteArray.empty hb e3;have v9:(Conv.bytesToString (.slice ba n cp)).run P w=.ok (.string HG) w:=by
  cases ba with
  |none=>
   simp only[Builtin.firstCells,Sem.run_pure,Result.ok.injEq]at h6;have:vs=[]:=by
    have:=h6.1;simpa using this.symm
   subst this;simp only[forIn_nil,Sem.run_pure,Result.ok.injEq]at h1;have:=h1.1;subst this;simp[Conv.bytesToString]
  |some ad=>
   simp only[Builtin.firstCells,Nat.mul_one]at h6;rw[<-hn]at h6;simp only[Conv.bytesToString,Sem.run_bind,h6,Result.andThen_ok];rw[List.forIn_toArray];exact congrArg (λr=>Result.andThen r λa w'=>Sem.run P (pure (Value.string a)) w') h1
 exact cV.val R ⟨HG,rfl,h2⟩ (by simp[execOp,ho,convert,run_underlying hs,run_underlying hd,run_underlying he,ex,v9])
end
open Go.RowKit (Below)
section
variable{P:Program}{aM:Nat->Option AV}{K:Kp}{w0 w:World}{ρ:dR}{h:aN}{bU:Nat}{T:Tr}{a:Act}{o:Oper}
theorem Dp{v:AV}{v':Value}{w1:World}{r:Result Next}(R:Rel K w0 ρ h w)(hb:Below w.heap.size w w1)(hv:VR ρ v v')(hr:r=.ok (.value v') w1):cV K w0 ρ bU h v r:=
 ⟨.value v',v',w1,ρ,hr,.inl rfl,hv,R.xN hb,dR.le_refl _,λ_ _=>rfl⟩
theorem N1(R:Rel K w0 ρ h w)(hg:GR aM ρ)(ht:TR ρ T a){t e:TypeId}{x:Operand}{lo hi mx:Option Operand}{ax:bE}{Jq Jr Bv:Option bE}{v:AV}{n:Nat}(ho:o.op=.slice t x lo hi mx)(hu:P.underlying t=some (.array n e))(he:(P.info? e).isSome=true)
 (hx:bO aM x=some ax) (Ew:pg aM lo=some Jq) (Ho:pg aM hi=some Jr) (Nj:pg aM mx=some Bv) (Dl:mx=none\/hi≠none)
 (hv:nK (aj h) (P.cellsOf e) n (cP T ax) (Jq.map (cP T)) (Jr.map (cP T)) (Bv.map (cP T))=some v):cV K w0 ρ bU h v ((execOp a.eval o).run P w):=by
 have hr:=ch hg ht hx;unfold nK at hv;split at hv
 .rename_i b i o' ev;split at hv
  .rename_i bS ez es hb;split at hv
   .cases hv
   .rename_i dO;simp only[not_or,Classical.not_not,ne_eq,Nat.not_lt]at dO;obtain⟨RH,ZR,eV,Jx⟩:=dO;split at hv
    .rename_i m hh l bm bh bl;split at hv
     .rename_i hc;obtain⟨h1,h2,h3⟩:=hc;cases hv;rw[ev]at hr;obtain⟨p,hp,ex⟩:=hr;have hB:=pF (P:=P) (w:=w) hg ht false (len:=n) (cap:=n) Ew Ho Nj bl bh bm h1 h2 h3 cB Dl;have eM:(if Bv.isSome then m else n)=m:=by
       cases Bv with
       |none=>simp[fH]at bm;simp[bm]
       |some y=>rfl
      rw[eM]at hB;have FH:p.bZ=P.cellsOf e:=(rQ R hb hp).trans RH;obtain⟨q,hq,hBR⟩:=R.mV b _ hb;have RO:q=p:=Option.some.inj (hq.symm.trans hp);subst RO;obtain⟨b1,b2,b3,b4,_⟩:=hBR;have hat:q.lA i o'=q.lA (i+o'/P.cellsOf e) 0:=by
       unfold Pl.lA;rw[FH];have:=Bm (bZ:=P.cellsOf e) (i:=i) (o:=o');rw[ZR]at this;rw[<-this]
      rw[hat]at ex;generalize i+o'/P.cellsOf e=i at*;refine cV.val R (v':=.slice (some (if m=l then q.lA i 0 else(q.lA i 0).add (l*P.cellsOf e))) (hh-l) (m-l)) ⟨q,_,_,hq,rfl,Z,?_,λk hk=>(by cases hk;rfl),λhk=>(by cases hk),?_⟩ ?_
      .by_cases hM:m=l
       .left;omega
       .right;rw[aq hM];exact⟨Pl.xT q i l FH,Z⟩
      .unfold dQ at Jx;unfold maxLen;omega
      .have e2:(Instr.sliceAt t (.pointer (some (q.lA i 0))) (lo.map a.eval) (hi.map a.eval) (mx.map a.eval)).run P w=.ok (.slice (some (if m=l then q.lA i 0 else(q.lA i 0).add (l*P.cellsOf e))) (hh-l) (m-l)) w:=by
        simp only[Instr.sliceAt,Sem.run_bind,run_underlying hu,Result.andThen_ok,Instr.sureAddr,Sem.run_pure,hB,dK he]
       simp only[execOp,ho,ex,Sem.run_bind,e2,Result.andThen_ok,Sem.run_pure]
     .cases hv
    .cases hv
  .cases hv
 .cases hv
theorem qm{α:Type}{z:List α}:∀(n k:Nat),k<n*z.length->(replicate n z).flatten[k]?=z[k%z.length]?
 |0,k,h=>Z
 |n+1,k,h=>by
  simp only[replicate_succ,flatten_cons];by_cases hk:k<z.length
  .rw[getElem?_append_left hk,Nat.mod_eq_of_lt hk]
  .rw[getElem?_append_right Z,qm n (k-z.length) (by rw[Nat.add_mul]at h;omega),<-Nat.mod_eq_sub_mod Z]
theorem iH{α:Type}{z:List α}(n:Nat):(replicate n z).flatten.length=n*z.length:=by
 induction n with
 |zero=>simp
 |succ n ih=>simp only[replicate_succ,flatten_cons,length_append,ih,Nat.add_mul];omega
theorem zo{zc:List AV}{z:Value}(hz:fz ρ zc z.cells.toList)(jV:zc.length≠0)(n:Nat):
 fz ρ (replicate n zc).flatten ((Array.range (n*zc.length)).map (z.cells[·%z.cells.size]!)).toList:=by
 have hl:=hz.length;simp at hl;refine(nL ρ _ _).2 ⟨by rw[iH];simp,λk x v hx hv=>?_⟩;have hk:k<n*zc.length:=by rw[<-iH];exact(List.getElem?_eq_some_iff.1 hx).1
 rw[qm n k hk]at hx;obtain⟨u,hu,hr⟩:=hz.get hx;simp only[Array.getElem?_toList]at hu hv;simp only[Array.getElem?_map]at hv;rw[Array.getElem?_eq_getElem (by simpa using hk)]at hv;simp only[map_some,Array.getElem_range]at hv;cases hv;have:z.cells[k%z.cells.size]! =u:=by
  rw[<-hl];rw[getElem!_def,hu]
 rw[this];exact hr
theorem Ag{n:Nat}{ws:List AV}(hw:ws.length=n):∀(es:List (List AV)) (i:Nat),(∀e∈es,e.length=n)->i<es.length->(es.set i ws).flatten=es.flatten.take (i*n)++ws++es.flatten.drop (i*n+n)
 |[],i,_,hi=>by simp at hi
 |e::es,0,h,_=>by
  have he:=h e (by simp);simp[List.set,<-he]
 |e::es,i+1,h,hi=>by
  have he:=h e (by simp);rw[set_cons_succ,flatten_cons,Ag hw es i (λx hx=>h x (by simp[hx])) (by simpa using hi),flatten_cons];have e1:(i+1)*n=e.length+i*n:=by rw[Nat.add_mul,he];omega
  rw[e1,Nat.add_assoc,take_length_add_append,drop_length_add_append];simp
theorem Ah{n:Nat}:∀(cM:List (Nat×AV)) (es pd:List (List AV)),(∀e∈es,e.length=n)->Di n es cM=some pd->
 uy es.flatten (cM.map λ(i,v)=>(i*n,n,v))=some pd.flatten/\(∀e∈pd,e.length=n)/\pd.length=es.length
 |[],es,pd,h,hf=>by simp only[Di]at hf;cases hf;exact⟨rfl,h,rfl⟩
 |(i,v)::cM,es,pd,h,hf=>by
  simp only[Di]at hf;split at hf
  .rename_i ws hws;split at hf
   .rename_i hc;obtain⟨h1,h2⟩:=hc;have RQ:∀e∈es.set i ws,e.length=n:=λe he=>by
     rcases mem_or_eq_of_mem_set he with h3|h3
     .exact h e h3
     .rw[h3];exact h1
    obtain⟨g1,g2,g3⟩:=Ah cM _ _ RQ hf;refine⟨?_,g2,by rw[g3,length_set]⟩;simp only[map_cons,uy,hws];have oT:i*n+n<=es.length*n:=by
     have:=Nat.mul_le_mul_right n (show i+1<=es.length from h2);rw[Nat.add_mul]at this;omega
    rw[aG ⟨h1,by rw[gd es h];exact oT⟩,<-Ag h1 es i h h2];exact g1
   .cases hf
  .cases hf
theorem uM{n:Nat}:∀{cM:List (Nat×Operand)} {kg:List (Nat×bE)},sR aM cM=some kg->
 sQ aM (λi=>some (i*n,n)) cM=some (kg.map λ(i,x)=>(i*n,n,x))
 |[],kg,hp=>by simp only[sR]at hp;cases hp;rfl
 |(i,x)::cM,kg,hp=>by
  simp only[sR]at hp;split at hp
  .rename_i ax fX hx hr;cases hp;simp only[sQ,hx,uM hr,map_cons]
  .cases hp
theorem VD(R:Rel K w0 ρ h w)(hg:GR aM ρ)(ht:TR ρ T a)(wC:bU<=h.length)(hn:ρ bU=none){t e:TypeId}{len:Nat}{cM:Array (Nat×Operand)}{kg:List (Nat×bE)}{zc:List AV}{v:AV}{cs:List j9}
 (ho:o.op=.buildSlice t len cM) (hu:P.underlying t=some (.slice e)) (hz:qj P e=some zc) (HI:P.cellsOf e≠0) (Al1:len*P.cellsOf e<=2^20) (hp:sR aM cM.toList=some kg)
 (hv:bG (aj h) bU T (.Aw (P.cellsOf e) len zc kg)=some (v,cs)):cV K w0 ρ bU (gS h cs) v ((execOp a.eval o).run P w):=by
 obtain⟨z,h1,h2,h3,h4,i,hi,RK⟩:=lW hz;have ZS:(P.info? e).isSome=true:=by rw[hi];rfl
 have hl:=(h2 ρ).length;have epl:((cM.map λ(i,x)=>(i,a.eval x)).toList)=cM.toList.map λ(i,x)=>(i,a.eval x):=by simp
 simp only[bG]at hv;split at hv
 .rename_i eV;split at hv
  .rename_i ZT;cases hv;subst eV;have hap:kg=[]:=by simpa using ZT
   have hpn:cM.toList=[]:=by
    subst hap;cases hq:cM.toList with
    |nil=>rfl
    |cons y ys=>rw[hq]at hp;obtain⟨i,x⟩:=y;simp only[sR]at hp;split at hp<;>cases hp
   refine Dp R (gF w (.cells #[] e)) (v':=.slice (some ⟨w.heap.size,0,none⟩) 0 0) ⟨_,rfl⟩ ?_;have:cM=#[]:=by apply Array.ext';simpa using hpn
   subst this;have e0:(Array.range 0:Array Nat)=#[]:=rfl;simp[execOp,ho,Instr.buildSlice,run_underlying hu,dK ZS,Instr.fill,newRow,e0]
  .cases hv
 .rename_i eV;split at hv
  .rename_i es hf;split at hv
   .rename_i NT;cases hv;have hG:∀e'∈replicate len zc,e'.length=P.cellsOf e:=λx hx=>by rw[(mem_replicate.1 hx).2];exact h3
    obtain⟨g1,g2,g3⟩:=Ah _ _ _ hG hf;have tS:=zo (h2 ρ) Z len;rw[h3]at tS;have hpc:=uM (n:=P.cellsOf e) hp;have g1:uy (replicate len zc).flatten ((kg.map λ(i,x)=>(i*P.cellsOf e,P.cellsOf e,x)).map λ(o,s,x)=>(o,s,cP T x))=some es.flatten:=by
     rw[<-g1];simp[List.map_map,Function.comp_def]
    obtain⟨X',e1,e2⟩:=zm (a:=a) cM.toList _ _ _ _ hg ht hpc tS g1;have hlX:=e2.length;rw[gd es g2,g3,length_replicate]at hlX;simp at hlX;show cV K w0 ρ bU (aQ h bU _) _ _;refine lD hn (sW R wC hn (gF w (.cells X' e)) (fe w _) Z g2 (xG:=len) (by rw[g3,length_replicate];exact cB) Z (by simp) (λk x hx=>?_) (λx hx=>?_)) (v':=.slice (some ⟨w.heap.size,0,none⟩) len len) ?_ ?_
    .obtain⟨v,hv,hr⟩:=e2.get hx;exact⟨v,by simpa using hv,hr⟩
    .obtain⟨l,sZ,xU⟩:=mem_flatten.1 hx;exact List.all_eq_true.1 (List.all_eq_true.1 NT l sZ) x xU
    .refine⟨_,_,_,dR.iB _ _ _,rfl,cB,.inr ⟨(ql _ _ _).symm,by simp⟩,λm hm=>(by cases hm;rfl),λhm=>(by cases hm),?_⟩;have:len*1<=len*P.cellsOf e:=Nat.mul_le_mul_left _ Z;unfold maxLen;omega
    .have Dl:¬len*P.cellsOf e>2^24:=Z;have jV:¬len*P.cellsOf e=0:=by
      intro h0;rcases Nat.mul_eq_zero.1 h0 with h0|h0
      .exact eV h0
      .exact HI h0
     simp only[execOp,ho,Instr.buildSlice,Sem.run_bind,run_underlying hu,dK ZS,Result.andThen_ok,aq Dl,aq jV,h1,Sem.run_pure,epl,e1,newRow];simp
   .cases hv
  .cases hv
theorem wrap_i64{n:Int}(h0:0<=n)(h1:n<=1000000000000):i64.wrap n=n:=IntWalk.i64_in n Z
theorem LC(R:Rel K w0 ρ h w)(hg:GR aM ρ)(ht:TR ρ T a)(wC:bU<=h.length)(hn:ρ bU=none){t e:TypeId}{l c:Operand}{al ac:bE}{zc:List AV}{v:AV}{cs:List j9}
 (ho:o.op=.makeSlice t l c) (hu:P.underlying t=some (.slice e)) (hz:qj P e=some zc) (HI:P.cellsOf e≠0) (hl:bO aM l=some al) (hc:bO aM c=some ac)
 (hv:bG (aj h) bU T (.qe (P.cellsOf e) (P.bytesOf e) zc al ac)=some (v,cs)):cV K w0 ρ bU (gS h cs) v ((execOp a.eval o).run P w):=by
 obtain⟨z,h1,h2,h3,h4,i,hi,RK⟩:=lW hz;have ZS:(P.info? e).isSome=true:=by rw[hi];rfl
 have ZU:P.bytesOf e=i.bytes:=by simp[Program.bytesOf,hi]
 have VE:=ch hg ht hl;have N2:=ch hg ht hc;simp only[bG]at hv;split at hv
 .rename_i kl nl kc nc el ec;split at hv
  .rename_i dO;obtain⟨hl0,hlc,Jx⟩:=dO;rw[el]at VE;rw[ec]at N2;have exl:a.eval l=.int kl nl:=VE;have exc:a.eval c=.int kc nc:=N2;unfold dQ at Jx;have hcn:(nc.toNat:Int)=nc:=Z;have oT:nc.toNat*1<=nc.toNat*(P.bytesOf e+1):=Nat.mul_le_mul_left _ Z;have HC:nc.toNat*P.bytesOf e<=1000000000000:=bK (Nat.mul_le_mul_left _ Z) Jx;have hwl:i64.wrap nl=nl:=wrap_i64 Z Z;have hwc:i64.wrap nc=nc:=wrap_i64 Z Z;have hbm:((P.bytesOf e:Nat):Int)*nc<=1000000000000:=by
    have h5:((nc.toNat*P.bytesOf e:Nat):Int)<=1000000000000:=Z;rw[Int.natCast_mul,hcn,Int.mul_comm]at h5;exact h5
   have Dl:¬(nc.toNat*P.bytesOf e>roomBytes):=by
    have:roomBytes=2^47:=rfl;omega
   have run:∀cells:Array Value,(nc.toNat*P.cellsOf e=0->cells=#[])->(nc.toNat*P.cellsOf e≠0->cells=(Array.range (nc.toNat*P.cellsOf e)).map (z.cells[·%z.cells.size]!))->
    (execOp a.eval o).run P w=.ok (.value (.slice (some ⟨w.heap.size,0,none⟩) nl.toNat nc.toNat)) (w.alloc (.cells cells e)):=by
    intro cells hcz Ahi;have hA:¬(281474976710656<((P.bytesOf e:Nat):Int)*nc):=Z;have hB:¬nc<0:=Z;have hC:¬nl<0:=Z;have hD:¬nl>nc:=Z;by_cases h0:nc.toNat*P.cellsOf e=0
    .have e0:(Array.range 0:Array Nat)=#[]:=rfl;have:=hcz h0;subst this;simp[execOp,ho,exl,exc,Instr.makeSlice,run_underlying hu,asInt,asIntOf,typeInfo,hi,hwl,hwc,hA,hB,hC,hD,askRoom,<-ZU,dK ZS,h0,newRow,e0]
    .have:=Ahi h0;subst this;simp[execOp,ho,exl,exc,Instr.makeSlice,run_underlying hu,asInt,asIntOf,typeInfo,hi,hwl,hwc,hA,hB,hC,hD,askRoom,<-ZU,dK ZS,h0,newRow,h1]
   split at hv
   .rename_i hcz;cases hv;subst hcz;have Ahj:nl=0:=Z;subst Ahj;refine Dp R (gF w (.cells #[] e)) (v':=.slice (some ⟨w.heap.size,0,none⟩) 0 0) ⟨_,rfl⟩ ?_;exact run #[] (λ_=>rfl) (λh=>absurd (by simp) h)
   .rename_i hcz;cases hv;have tS:=zo (h2 ρ) Z nc.toNat;rw[h3]at tS;have hlX:=tS.length;rw[iH,h3]at hlX;show cV K w0 ρ bU (aQ h bU _) _ _;refine lD hn (sW R wC hn (gF w (.cells _ e)) (fe w _) Z (λx hx=>by rw[(mem_replicate.1 hx).2];exact h3) (xG:=nc.toNat) (by rw[length_replicate];exact cB) (by simp) (by simp) (λk x hx=>?_) (λx hx=>?_)) (v':=.slice (some ⟨w.heap.size,0,none⟩) nl.toNat nc.toNat) ?_
     (run _ (λh0=>by
      rcases Nat.mul_eq_zero.1 h0 with h0|h0
      .omega
      .exact absurd h0 HI) (λ_=>rfl))
    .obtain⟨v,hv,hr⟩:=tS.get hx;exact⟨v,by rwa[Array.getElem?_toList]at hv,hr⟩
    .obtain⟨l,sZ,xU⟩:=mem_flatten.1 hx;rw[(mem_replicate.1 sZ).2]at xU;exact List.all_eq_true.1 h4 x xU
    .refine⟨_,_,_,dR.iB _ _ _,rfl,Z,.inr ⟨(ql _ _ _).symm,by simp⟩,λm hm=>(by cases hm;rfl),λhm=>(by cases hm),?_⟩;unfold maxLen;omega
  .cases hv
 .cases hv
theorem RR(R:Rel K w0 ρ h w)(wC:bU<=h.length)(hn:ρ bU=none){t:TypeId}(ho:o.op=.makeMap t none):cV K w0 ρ bU (aQ h bU (some (.map []))) (.map bU) ((execOp a.eval o).run P w):=by
 have R1:=R.xN (gF w (.map #[] 0));refine lD hn (R1.put wC hn (p:=⟨w.heap.size,0,0,0⟩) ⟨R.fresh,#[],0,fe w _,rfl,λi x e hx=>(by simp at hx)⟩ λc y q hy hq=>?_) (v':=.map (some w.heap.size)) ⟨_,dR.iB _ _ _,rfl⟩ (by simp[execOp,ho,Instr.makeMap]);obtain⟨q',Jo,hB⟩:=R.mV c y hy;have e:q'=q:=Option.some.inj (Jo.symm.trans hq);subst e;have:=hB.lt;exactλe=>by simp at e;omega
theorem N5(R:Rel K w0 ρ h w)(hg:GR aM ρ)(ht:TR ρ T a){c:Call}{t:TypeId}{x:Operand}{ax:bE}{k:LK}{v:AV}{cs:List j9}(ho:o.op=.call c)(hc:c.callee=.builtin .len)
 (h0:c.argTypes[0]?=some t) (ha:c.args[0]?=some x) (hx:bO aM x=some ax) (hk:match k with|.fN=>P.underlying t=some .string|.slice=>∃e,P.underlying t=some (.slice e)|.map=>∃a b,P.underlying t=some (.map a b))
 (hv:bG (aj h) bU T (.len k ax)=some (v,cs)):cV K w0 ρ bU (gS h cs) v ((execOp a.eval o).run P w):=by
 have hr:=ch hg ht hx;have zp:(c.args.map a.eval)[0]?=some (a.eval x):=by simp[ha]
 have Dq:∀n:Nat,(Builtin.len_ c.argTypes o.type (c.args.map a.eval)).run P w=.ok (goInt n) w->(execOp a.eval o).run P w=.ok (.value (goInt n)) w:=by
  intro n hb;simp only[execOp,ho,Sem.run_bind,resolve,hc,Sem.run_pure,Result.andThen_ok,invoke,builtin,hb]
 simp only[bG]at hv;split at hv
 .rename_i s ev;cases hv;rw[ev]at hr;obtain⟨b,ex,hb⟩:=hr;have rG:b.size=s.length:=by rw[<-hb,Array.length_toList];rfl
  refine cV.val R (v':=goInt s.length) rfl (Dq _ ?_);simp only[Builtin.len_,h0,zp,ex,Sem.run_bind,run_underlying hk,Result.andThen_ok,Sem.run_pure,rG]
 .rename_i ev;cases hv;obtain⟨e,hk⟩:=hk;rw[ev]at hr;have ex:a.eval x=.slice none 0 0:=hr;refine cV.val R (v':=goInt 0) rfl (Dq 0 ?_);simp only[Builtin.len_,h0,zp,ex,Sem.run_bind,run_underlying hk,Result.andThen_ok,Sem.run_pure]
 .rename_i ev;cases hv;obtain⟨e,hk⟩:=hk;rw[ev]at hr;obtain⟨ad,ex⟩:=hr;refine cV.val R (v':=goInt 0) rfl (Dq 0 ?_);simp only[Builtin.len_,h0,zp,ex,Sem.run_bind,run_underlying hk,Result.andThen_ok,Sem.run_pure]
 .rename_i b i n cc ev;cases hv;obtain⟨e,hk⟩:=hk;rw[ev]at hr;obtain⟨p,ad,cap,hp,ex,_⟩:=hr;refine cV.val R (v':=goInt n) rfl (Dq n ?_);simp only[Builtin.len_,h0,zp,ex,Sem.run_bind,run_underlying hk,Result.andThen_ok,Sem.run_pure]
 .rename_i n ev;cases hv;obtain⟨e,hk⟩:=hk;rw[ev]at hr;obtain⟨ad,cap,ex⟩:=hr;refine cV.val R (v':=goInt n) rfl (Dq n ?_);simp only[Builtin.len_,h0,zp,ex,Sem.run_bind,run_underlying hk,Result.andThen_ok,Sem.run_pure]
 .rename_i ev;cases hv;obtain⟨e,e',hk⟩:=hk;rw[ev]at hr;have ex:a.eval x=.map none:=hr;refine cV.val R (v':=goInt 0) rfl (Dq 0 ?_);simp only[Builtin.len_,h0,zp,ex,Sem.run_bind,run_underlying hk,Result.andThen_ok,Sem.run_pure];rfl
 .rename_i b ev;split at hv
  .rename_i es hb;cases hv;obtain⟨e,e',hk⟩:=hk;rw[ev]at hr;obtain⟨p,hp,ex⟩:=hr;obtain⟨q,hq,hB⟩:=R.mV b _ hb;have RO:q=p:=Option.some.inj (hq.symm.trans hp);subst RO;obtain⟨_,pd,clock,hh,eV,_⟩:=hB;refine cV.val R (v':=goInt es.length) rfl (Dq _ ?_);have mB:(getObj q.cb).run P w=.ok (.map pd clock) w:=by simp[getObj,Sem.run,hh]
   simp only[Builtin.len_,h0,zp,ex,Sem.run_bind,run_underlying hk,Result.andThen_ok,mB,Sem.run_pure,eV]
  .cases hv
 .cases hv
theorem xW(nR:Bool):∀(xs:List AV) (x v:AV) (x':Value) (VF:List Value),VR ρ x x'->fz ρ xs VF->qi nR x xs=some v->
 ∃v',VR ρ v v'/\(VF.foldlM (if nR then Builtin.max2 else Builtin.min2) x').run P w=.ok v' w
 |[],x,v,x',VF,h1,h2,hv=>by
  simp only[fz]at h2;subst h2;unfold qi at hv;split at hv
  .cases hv;exact⟨x',h1,by simp⟩
  .cases hv
 |y::ys,x,v,x',VF,h1,h2,hv=>by
  obtain⟨y',ys',rfl,h3,h4⟩:=h2;cases x<;>try (simp[qi]at hv;done)
  rename_i k n;cases y<;>try (simp[qi]at hv;done)
  rename_i k2 m;simp only[qi]at hv;cases h1;cases h3;obtain⟨v',g1,g2⟩:=xW nR ys _ v _ ys' nj h4 hv;refine⟨v',g1,?_⟩;simp only[foldlM_cons,Sem.run_bind];cases nR
  .simpa[Builtin.min2]using g2
  .simpa[Builtin.max2]using g2
theorem FQ(R:Rel K w0 ρ h w)(hg:GR aM ρ)(ht:TR ρ T a){c:Call}{Hn:List bE}{nR:Bool}{v:AV}{cs:List j9}(ho:o.op=.call c)(hc:c.callee=.builtin (if nR then .max else .min))
 (hx:mK aM c.args.toList=some Hn) (hv:bG (aj h) bU T (.sN nR Hn)=some (v,cs)):cV K w0 ρ bU (gS h cs) v ((execOp a.eval o).run P w):=by
 have hr:=ni hg ht hx;simp only[bG]at hv;split at hv
 .rename_i x fX ex;simp only[map_eq_some_iff]at hv;obtain⟨u,hu,e⟩:=hv;cases e;rw[ex]at hr;obtain⟨x',VF,e1,h1,h2⟩:=hr;obtain⟨v',g1,g2⟩:=xW (P:=P) (w:=w) nR fX x v x' VF h1 h2 hu;have e2:(c.args.map a.eval).toList=x'::VF:=by simpa using e1
  refine cV.val R g1 ?_;cases nR
  .simp only[Bool.false_eq_true,if_false]at hc g2;have:(Builtin.min_ c.argTypes o.type (c.args.map a.eval)).run P w=.ok v' w:=by simp only[Builtin.min_,e2,g2]
   simp only[execOp,ho,Sem.run_bind,resolve,hc,Sem.run_pure,Result.andThen_ok,invoke,builtin,this]
  .simp only[if_true]at hc g2;have:(Builtin.max_ c.argTypes o.type (c.args.map a.eval)).run P w=.ok v' w:=by simp only[Builtin.max_,e2,g2]
   simp only[execOp,ho,Sem.run_bind,resolve,hc,Sem.run_pure,Result.andThen_ok,invoke,builtin,this]
 .cases hv
def rS:NK->Value|.p=>.pointer none|.s=>.slice none 0 0|.m=>.map none|.f=>.nilFunc|.i=>.nilIface
theorem Oa{Y:Operand}{k:NK}(h:NF Y=some k):Y=.const (rS k):=by
 unfold NF at h;split at h<;>cases h<;>rfl
theorem Ob{t:TypeId}{k:NK}(h:ND P t=some k):match k with|.p=>∃e,P.underlying t=some (.pointer e)|.s=>∃e,P.underlying t=some (.slice e)|.m=>∃a b,P.underlying t=some (.map a b)|.f=>∃a b c,P.underlying t=some (.func a b c)|.i=>∃m,P.underlying t=some (.interface m):=by
 unfold ND at h;split at h<;>cases h<;>(rename_i hu;simp[hu])
def EA(neg:Bool)(k:NK)(x:AV):Option Bool:=
 match k,x with
  |.p,.qL|.s,.aF|.m,.lT|.f,.nilFunc|.i,.nilIface=>some (!neg)
  |.p,.ptr ..|.s,.fg|.s,.slice ..|.m,.map _|.f,.func ..|.i,.iface ..=>some neg
  |_,_=>none
theorem LF{t:TypeId}{k:NK}{x:AV}{x':Value}{neg b:Bool}{X Y:Operand}(ht:ND P t=some k)(hk:NF Y=some k)(hr:VR ρ x x')(hv:EA neg k x=some b)(a:Act):
 (eqGuard (if neg then .neq else .eql) t X Y x' (a.eval Y)).run P w=.ok () w/\(binOp (if neg then .neq else .eql) t x' (a.eval Y)).run P w=.ok (.bool b) w:=by
 have e1:=Oa hk;have e2:=Ob ht;subst e1;clear hk;have ev:a.eval (.const (rS k))=rS k:=rfl;rw[ev];have key:∀r:Bool,(if neg then !r else r)=b->(∀d,(Op.equalIn (d+1) t x' (rS k)).run P w=.ok r w)->(binOp (if neg then .neq else .eql) t x' (rS k)).run P w=.ok (.bool b) w:=by
  intro r hb hd;have hd:=hd 9999;have e3:Op.equal t x' (rS k)=Op.equalIn (9999+1) t x' (rS k):=rfl;rw[<-e3]at hd;subst hb;cases k<;>simp only[rS]at hd|-<;>cases neg<;>cases x'<;>simp[binOp,hd]
 cases k<;>cases x<;>simp only[EA]at hv<;>first|(cases hv;done)|skip
 case p.qL=>
  obtain⟨e,hu⟩:=e2;cases hr;cases hv;refine⟨by cases neg<;>simp[eqGuard],key true (by cases neg<;>rfl) λd=>?_⟩;simp[Op.equalIn,rS,run_underlying hu]
 case p.ptr=>
  obtain⟨e,hu⟩:=e2;obtain⟨p,hp,rfl⟩:=hr;cases hv;refine⟨by cases neg<;>simp[eqGuard],key false (by cases neg<;>rfl) λd=>?_⟩;simp[Op.equalIn,rS,run_underlying hu]
 case s.aF=>
  obtain⟨e,hu⟩:=e2;cases hr;cases hv;refine⟨by cases neg<;>simp[eqGuard],key true (by cases neg<;>rfl) λd=>?_⟩;simp[Op.equalIn,rS,run_underlying hu]
 case s.fg=>
  obtain⟨e,hu⟩:=e2;obtain⟨ad,rfl⟩:=hr;cases hv;refine⟨by cases neg<;>simp[eqGuard],key false (by cases neg<;>rfl) λd=>?_⟩;simp[Op.equalIn,rS,run_underlying hu]
 case s.slice=>
  obtain⟨e,hu⟩:=e2;obtain⟨p,ad,cap,hp,rfl,_⟩:=hr;cases hv;refine⟨by cases neg<;>simp[eqGuard],key false (by cases neg<;>rfl) λd=>?_⟩;simp[Op.equalIn,rS,run_underlying hu]
 case m.lT=>
  obtain⟨e,e',hu⟩:=e2;cases hr;cases hv;refine⟨by cases neg<;>simp[eqGuard],key true (by cases neg<;>rfl) λd=>?_⟩;simp[Op.equalIn,rS,run_underlying hu]
 case m.map=>
  obtain⟨e,e',hu⟩:=e2;obtain⟨p,hp,rfl⟩:=hr;cases hv;refine⟨by cases neg<;>simp[eqGuard],key false (by cases neg<;>rfl) λd=>?_⟩;simp[Op.equalIn,rS,run_underlying hu]
 case f.nilFunc=>
  obtain⟨e,e',RA,hu⟩:=e2;cases hr;cases hv;refine⟨by cases neg<;>simp[eqGuard],key true (by cases neg<;>rfl) λd=>?_⟩;simp[Op.equalIn,rS,run_underlying hu]
 case f.func=>
  obtain⟨e,e',RA,hu⟩:=e2;obtain⟨p,q,rfl,_⟩:=hr;cases hv;refine⟨by cases neg<;>simp[eqGuard],key false (by cases neg<;>rfl) λd=>?_⟩;simp[Op.equalIn,rS,run_underlying hu]
 case i.nilIface=>
  obtain⟨e,hu⟩:=e2;cases hr;cases hv;refine⟨by cases neg<;>simp[eqGuard,rS],key true (by cases neg<;>rfl) λd=>?_⟩;simp[Op.equalIn,rS,run_underlying hu]
 case i.iface=>
  obtain⟨e,hu⟩:=e2;obtain⟨p,rfl,_⟩:=hr;cases hv;refine⟨by cases neg<;>simp[eqGuard],key false (by cases neg<;>rfl) λd=>?_⟩;simp[Op.equalIn,rS,run_underlying hu]
theorem RS(R:Rel K w0 ρ h w)(hg:GR aM ρ)(ht:TR ρ T a){t u:TypeId}{x y:Operand}{ax:bE}{k:NK}{neg:Bool}{v:AV}{cs:List j9}(ho:o.op=.binOp (if neg then .neq else .eql) t x y u)
 (h1:ND P t=some k) (h2:NF y=some k) (hx:bO aM x=some ax) (hv:bG (aj h) bU T (.Dg neg k ax)=some (v,cs)):cV K w0 ρ bU (gS h cs) v ((execOp a.eval o).run P w):=by
 have hr:=ch hg ht hx;have:∃b,EA neg k (cP T ax)=some b/\v=.bool b/\cs=[]:=by
  simp only[bG]at hv;unfold EA;split at hv<;>cases hv<;>simp_all
 obtain⟨b,hb,rfl,rfl⟩:=this;obtain⟨g1,g2⟩:=LF (w:=w) (X:=x) h1 h2 hr hb a;exact cV.val R xS (by simp[execOp,ho,g1,g2])
end
open Go.RowKit (Below)
section
variable{P:Program}{aM:Nat->Option AV}{K:Kp}{w0 w:World}{ρ:dR}{h:aN}{bU:Nat}{T:Tr}{a:Act}{o:Oper}
def Oc(P:Program)(ρ:dR)(d:Nat)(t:TypeId)(sh:List CK):Prop:=
 ∀(em:Bool) (D:Nat),d<=D->∀(as:List AV) (X:Array Value) (w:World),fz ρ as X.toList->(mG sh as as).isSome=true->
  if cL P t=true then(Instr.checkKey em D t (.agg X)).run P w=.ok () w
  else∃x,X=#[x]/\(Instr.checkKey em D t x).run P w=.ok () w
theorem rT{k1 k2:List CK}{as:List AV}(h:(mG (k1++k2) as as).isSome=true):(mG k1 (as.take k1.length) (as.take k1.length)).isSome=true/\(mG k2 (as.drop k1.length) (as.drop k1.length)).isSome=true:=by
 obtain⟨r,hr⟩:=isSome_iff_exists.1 h;obtain⟨r1,r2,p1,p2,_⟩:=qk hr;rw[p1,p2];exact⟨rfl,rfl⟩
theorem By{d:Nat}(ih:∀{t:TypeId} {sh:List CK},cd P d t=some sh->Oc P ρ d t sh)(em:Bool):
 ∀(fs:List Field) (o:Nat) (sh:List CK),cd.sP (cd P d) o fs=some sh->∀(D:Nat),d<=D->∀(as:List AV) (X:Array Value) (w:World),
  fz ρ as X.toList->(mG sh (as.drop o) (as.drop o)).isSome=true->
  (forIn fs PUnit.unit λf _=>do
   if f.name≠ "_"then
    Instr.checkKey em D f.type (<-part f.type X f.offset)
   pure (ForInStep.yield PUnit.unit):Sem PUnit).run P w=.ok () w
 |[],o,sh,hs,D,hD,as,X,w,hx,hr=>by simp
 |f::fs,o,sh,hs,D,hD,as,X,w,hx,hr=>by
  simp only[cd.sP]at hs;split at hs
  .cases hs
  .rename_i dO;split at hs
   .rename_i s1 h1;split at hs
    .rename_i s2 h2;cases hs;have pE:f.name≠ "_":=λe=>dO (.inl e)
     have RD:f.offset=o:=Classical.byContradiction λe=>dO (.inr e)
     obtain⟨p1,p2⟩:=rT hr;rw[drop_drop]at p2;have mw:=By ih em fs (o+s1.length) s2 h2 D hD as X w hx p2;have hE:=ih h1 em D hD _ (X.extract o (o+s1.length)) w (jH hx o s1.length) p1;obtain⟨Vs,Vt⟩:=rO h1 X o;by_cases ha:cL P f.type=true
     .rw[aG ha]at hE;simp only[forIn_cons,Sem.run_bind,pE,ne_eq,not_false_eq_true,if_true,RD,Vs ha,Result.andThen_ok,hE,Sem.run_pure];exact mw
     .rw[aq ha]at hE;obtain⟨x,ex,hE⟩:=hE;have RE:cL P f.type=false:=by simpa using ha
      simp only[forIn_cons,Sem.run_bind,pE,ne_eq,not_false_eq_true,if_true,RD,Vt RE x ex,Result.andThen_ok,hE,Sem.run_pure];exact mw
    .cases hs
   .cases hs
theorem Dr{d:Nat}{e:TypeId}{sh:List CK}(hs:cd P d e=some sh)(hE:Oc P ρ d e sh)(em:Bool):
 ∀(m i:Nat) (D:Nat),d<=D->∀(as:List AV) (X:Array Value) (w:World),
  fz ρ as X.toList->(mG (replicate m sh).flatten (as.drop (i*sh.length)) (as.drop (i*sh.length))).isSome=true->
  (forIn (range' i m) PUnit.unit λj _=>do Instr.checkKey em D e (<-part e X (j*(<-sizeOf e)));pure (ForInStep.yield PUnit.unit):Sem PUnit).run P w=.ok () w
 |0,i,D,hD,as,X,w,hx,hr=>by simp
 |m+1,i,D,hD,as,X,w,hx,hr=>by
  rw[replicate_succ,flatten_cons]at hr;obtain⟨p1,p2⟩:=rT hr;rw[drop_drop]at p2;have ei:i*sh.length+sh.length=(i+1)*sh.length:=by rw[Nat.succ_mul]
  rw[ei]at p2;have mw:=Dr hs hE em m (i+1) D hD as X w hx p2;have hF:=hE em D hD _ (X.extract (i*sh.length) (i*sh.length+sh.length)) w (jH hx _ _) p1;obtain⟨Vs,Vt⟩:=rO hs X (i*sh.length);have rG:=dK (P:=P) (info_of_underlying (jX hs)) w;rw[<-uD hs]at rG;rw[range'_succ];by_cases ha:cL P e=true
  .rw[aG ha]at hF;simp only[forIn_cons,Sem.run_bind,rG,Vs ha,Result.andThen_ok,hF,Sem.run_pure];exact mw
  .rw[aq ha]at hF;obtain⟨x,ex,hF⟩:=hF;have RE:cL P e=false:=by simpa using ha
   simp only[forIn_cons,Sem.run_bind,rG,Vt RE x ex,Result.andThen_ok,hF,Sem.run_pure];exact mw
theorem zq:∀{d:Nat} {t:TypeId} {sh:List CK},cd P d t=some sh->Oc P ρ d t sh
 |0,_,_,h=>by simp[cd]at h
 |d+1,t,sh,h=>by
  intro em D hD as X w hx hr;obtain⟨D,rfl⟩:∃D',D=D'+1:=⟨D-1,Z⟩;obtain⟨r,xX⟩:=isSome_iff_exists.1 hr;unfold cd at h;split at h
  .rename_i hu;split at h<;>cases h;have jQ:cL P t=false:=by simp[cL,hu]
   rw[jQ,aq (by simp)];obtain⟨a,x,rfl,rfl,Nh⟩:=jP hx (kO xX).1;exact⟨x,rfl,by simp[Instr.checkKey,run_underlying hu]⟩
  .rename_i hu;split at h<;>cases h;have jQ:cL P t=false:=by simp[cL,hu]
   rw[jQ,aq (by simp)];obtain⟨a,x,rfl,rfl,Nh⟩:=jP hx (kO xX).1;exact⟨x,rfl,by simp[Instr.checkKey,run_underlying hu]⟩
  .rename_i hu;split at h<;>cases h;have jQ:cL P t=false:=by simp[cL,hu]
   rw[jQ,aq (by simp)];obtain⟨a,x,rfl,rfl,Nh⟩:=jP hx (kO xX).1;exact⟨x,rfl,by simp[Instr.checkKey,run_underlying hu]⟩
  .rename_i fs hu;split at h
   .cases h
   .split at h
    .rename_i sh' hf;split at h<;>cases h;have jQ:cL P t=true:=by simp[cL,hu]
     rw[aG jQ];have:=By (λh=>zq h) em fs.toList 0 _ hf D Z as X w hx (by simpa using hr);rw[Instr.checkKey];simp only[Sem.run_bind,run_underlying hu,Result.andThen_ok,<-Array.forIn_toList];rw[this];rfl
    .cases h
  .rename_i n e hu;split at h
   .rename_i sh' he;split at h
    .rename_i hl;cases h;have jQ:cL P t=true:=by simp[cL,hu]
     rw[aG jQ];have:=Dr he (zq he) em n 0 D Z as X w hx (by simpa using hr);rw[Instr.checkKey];simp only[Sem.run_bind,run_underlying hu,Result.andThen_ok,Std.Legacy.Range.forIn_eq_forIn_range',Std.Legacy.Range.size,Nat.sub_zero,Nat.add_one_sub_one,Nat.div_one];rw[this];rfl
    .cases h
   .cases h
  .cases h
theorem qQ{t:TypeId}{sh:List CK}(hs:cd P 20 t=some sh){x:AV}{x':Value}(hp:(uv (cL P t) sh x x).isSome=true)(hx:VR ρ x x')(em:Bool):(Instr.checkKey em 10000 t x').run P w=.ok () w:=by
 have hC:=zq (ρ:=ρ) hs em 10000 aZ;unfold uv at hp;split at hp
 .rename_i ha;cases x<;>simp only at hp<;>first|(cases hp;done)|skip
  obtain⟨X,rfl,h1⟩:=hx;have:=hC _ X w h1 hp;rw[aG ha]at this;exact this
 .rename_i ha;split at hp
  .rename_i k;have h1:fz ρ [x] (#[x']:Array Value).toList:=⟨x',[],rfl,hx,rfl⟩;obtain⟨r,hr⟩:=isSome_iff_exists.1 hp;have:=hC [x] #[x'] w h1 (by simp[mG,hr]);rw[aq ha]at this;obtain⟨q,e1,h3⟩:=this;cases e1;exact h3
  .cases hp
def Uc(ρ:dR)(fF:List (AV×AV))(es:List MapEntry):Prop:=
 fF.length=es.length/\∀(i:Nat) (x:AV×AV) (e:MapEntry),fF[i]?=some x->es[i]?=some e->VR ρ x.1 e.key/\VR ρ x.2 e.val
theorem Uc.tail{x:AV×AV}{e:MapEntry}{fF:List (AV×AV)}{es:List MapEntry}(h:Uc ρ (x::fF) (e::es)):(VR ρ x.1 e.key/\VR ρ x.2 e.val)/\Uc ρ fF es:=
 ⟨h.2 0 x e rfl rfl,by simpa using h.1,λi y f hy hf=>h.2 (i+1) y f (by simpa using hy) (by simpa using hf)⟩
def Found(agg:Bool)(sh:List CK)(k:AV)(fF:List (AV×AV))(es:List MapEntry)(i:Nat):Option AV->Option (Nat×Value)->Prop
 |none,none=>True
 |some v,some r=>∃j k2 e,fF[j]?=some (k2,v)/\es[j]?=some e/\r=(i+j,e.val)/\uv agg sh k k2=some true/\∀(i:Nat) (x:AV×AV),i<j->fF[i]?=some x->uv agg sh k x.1=some false
 |_,_=>False
theorem Found.cons{agg:Bool}{sh:List CK}{k:AV}{x:AV×AV}{e:MapEntry}{fF:List (AV×AV)}{es:List MapEntry}{i:Nat}{r:Option AV}{r':Option (Nat×Value)}(hp:uv agg sh k x.1=some false)(h:Found agg sh k fF es (i+1) r r'):Found agg sh k (x::fF) (e::es) i r r':=by
 cases r<;>cases r'<;>first|exact h|skip
 obtain⟨j,k2,e,h1,h2,h3,h4,h5⟩:=h;refine⟨j+1,k2,e,by simpa using h1,by simpa using h2,by rw[h3];congr 1;omega,h4,λi x hi hx=>?_⟩;cases i with
 |zero=>simp at hx;subst hx;exact hp
 |succ i=>exact h5 i x Z (by simpa using hx)
theorem tT{t:TypeId}{sh:List CK}(hs:cd P 20 t=some sh){k:AV}{k':Value}(hk:VR ρ k k'):
 ∀(fF:List (AV×AV)) (es:List MapEntry) (i:Nat) (r:Option AV),Uc ρ fF es->gR (cL P t) sh k fF=some r->∃r',(Instr.findAsking t k' es i).run P w=.ok r' w/\Found (cL P t) sh k fF es i r r'
 |[],es,i,r,hE,hf=>by
  have:es=[]:=eq_nil_of_length_eq_zero hE.1.symm;subst this;simp only[gR]at hf;cases hf;exact⟨none,by simp[Instr.findAsking],trivial⟩
 |(k2,v)::fF,[],i,r,hE,hf=>by have:=hE.1;simp at this
 |(k2,v)::fF,e::es,i,r,hE,hf=>by
  obtain⟨⟨h1,h2⟩,h3⟩:=hE.tail;simp only[gR]at hf;split at hf
  .rename_i hp;cases hf;have hq:=Es (w:=w) hs aZ hp hk h1;exact⟨some (i,e.val),by simp[Instr.findAsking,hq],0,k2,e,rfl,rfl,rfl,hp,λi x hi _=>Z⟩
  .rename_i hp;have hq:=Es (w:=w) hs aZ hp hk h1;obtain⟨r',g1,g2⟩:=tT hs hk fF es (i+1) r h3 hf;exact⟨r',by simp[Instr.findAsking,hq,g1],g2.cons hp⟩
  .cases hf
theorem Ai{kd:TypeDesc}{sh:List CK}{x y:AV}{x' y':Value}{b c:Bool}(hx:VR ρ x x')(hy:VR ρ y y'){agg:Bool}(hp:uv agg sh x y=some c)(hs:Instr.sameNow kd x' y'=some b):b=c:=by
 have flat:∀{k:CK},zg k x y=some c->b=c:=by
  intro k hp;cases k
  .obtain⟨p,q,rfl,rfl,rfl⟩:=Bp hp;cases hx;cases hy;cases kd<;>simp_all [Instr.sameNow]
  .obtain⟨k,p,q,rfl,rfl,rfl⟩:=Bq hp;cases hx;cases hy;cases kd<;>simp_all [Instr.sameNow]
  .obtain⟨p,q,rfl,rfl,rfl⟩:=Br hp;obtain⟨p',rfl,e1⟩:=hx;obtain⟨q',rfl,e2⟩:=hy;cases kd<;>simp_all [Instr.sameNow];rw[<-hs,<-e1,<-e2,Bool.eq_iff_iff,MapKept.bytes_beq,beq_iff_eq];exact⟨λe=>by rw[e],λe=>by cases p';cases q';simp at e;cases e;rfl⟩
 unfold uv at hp;split at hp
 .split at hp
  .obtain⟨p,rfl,_⟩:=hx;cases kd<;>simp[Instr.sameNow]at hs
  .cases hp
 .split at hp
  .exact flat hp
  .cases hp
theorem xY{kd:TypeDesc}{agg:Bool}{sh:List CK}{k:AV}{k':Value}(hk:VR ρ k k'):
 ∀(fF:List (AV×AV)) (es:List MapEntry) (i:Nat) (r:Option AV) (r':Option (Nat×Value)),Uc ρ fF es->gR agg sh k fF=some r->Instr.findNow kd k' es i=some r'->Found agg sh k fF es i r r'
 |[],es,i,r,r',hE,hf,hn=>by
  have:es=[]:=eq_nil_of_length_eq_zero hE.1.symm;subst this;simp only[gR]at hf;simp only[Instr.findNow]at hn;cases hf;cases hn;trivial
 |(k2,v)::fF,[],i,r,r',hE,hf,hn=>by have:=hE.1;simp at this
 |(k2,v)::fF,e::es,i,r,r',hE,hf,hn=>by
  obtain⟨⟨h1,h2⟩,h3⟩:=hE.tail;simp only[gR]at hf;simp only[Instr.findNow]at hn;split at hn
  .rename_i hsn;cases hn;split at hf
   .rename_i hp;cases hf;exact⟨0,k2,e,rfl,rfl,rfl,hp,λi x hi _=>Z⟩
   .rename_i hp;have:=Ai hk h1 hp hsn;cases this
   .cases hf
  .rename_i hsn;split at hf
   .rename_i hp;have:=Ai hk h1 hp hsn;cases this
   .rename_i hp;exact(xY hk fF es (i+1) r r' h3 hf hn).cons hp
   .cases hf
  .cases hn
theorem ox{t:TypeId}{sh:List CK}(hs:cd P 20 t=some sh){k:AV}{k':Value}(hk:VR ρ k k'){fF:List (AV×AV)}{es:List MapEntry}{r:Option AV}(hE:Uc ρ fF es)(hf:gR (cL P t) sh k fF=some r):
 ∃r',(Instr.findKey t k' es).run P w=.ok r' w/\Found (cL P t) sh k fF es 0 r r':=by
 obtain⟨kd,hu⟩:=isSome_iff_exists.1 (jX hs);simp only[Instr.findKey,Sem.run_bind,run_underlying hu,Result.andThen_ok];cases hn:Instr.findNow kd k' es 0 with
 |none=>exact tT hs hk fF es 0 r hE hf
 |some r'=>exact⟨r',by simp,xY hk fF es 0 r r' hE hf hn⟩
theorem HJ{t:TypeId}{z:AV}(hz:Jg P t=some z):∃z':Value,(∀w:World,(zeroValue t).run P w=.ok z' w)/\∀ρ,VR ρ z z':=by
 unfold Jg at hz;obtain⟨z',h1,h2⟩:=bind_eq_some_iff.1 hz;obtain⟨i,hi,RK⟩:=bind_eq_some_iff.1 h1;exact⟨z',λw=>by simp[zeroValue,typeInfo,hi,RK],λρ=>xQ ρ h2⟩
theorem Ds(R:Rel K w0 ρ h w){b:Nat}{fF:List (AV×AV)}{p:Pl}(hb:aj h b=some (.map fF))(hp:ρ b=some p):¬K p.cb/\∃es clock,w.heap[p.cb]?=some (.map es clock)/\Uc ρ fF es.toList:=by
 obtain⟨q,hq,hB⟩:=R.mV b _ hb;have e:q=p:=Option.some.inj (hq.symm.trans hp);subst e;obtain⟨h1,es,clock,h2,h3,h4⟩:=hB;exact⟨h1,es,clock,h2,by simpa using h3,λi x e hx he=>h4 i x e hx (by simpa using he)⟩
theorem VG(R:Rel K w0 ρ h w)(hg:GR aM ρ)(ht:TR ρ T a){t kt e:TypeId}{m k:Operand}{am ak:bE}{sh:List CK}{z:AV}{ok:Bool}{v:AV}{cs:List j9}(ho:o.op=.lookup t m k ok)(hu:P.underlying t=some (.map kt e))
 (hs:cd P 20 kt=some sh) (hz:Jg P e=some z) (hm:bO aM m=some am) (hk:bO aM k=some ak) (hv:bG (aj h) bU T (.look (cL P kt) sh z ok am ak)=some (v,cs)):
 cV K w0 ρ bU (gS h cs) v ((execOp a.eval o).run P w):=by
 have Od:=ch hg ht hm;have Oe:=ch hg ht hk;obtain⟨z',Lx,tS⟩:=HJ hz;have kj:∀(es:Array MapEntry) (r:Option (Nat×Value)),((a.eval m=.map none/\es=#[])\/∃r clock,a.eval m=.map (some r)/\(getObj r).run P w=.ok (.map es clock) w)->(Instr.checkKey es.isEmpty 10000 kt (a.eval k)).run P w=.ok () w->(Instr.findKey kt (a.eval k) es.toList).run P w=.ok r w->
  (execOp a.eval o).run P w=.ok (.value (if ok then .tuple #[(r.map (·.2)).getD z',.bool r.isSome]else(r.map (·.2)).getD z')) w:=by
  intro es r h1 h2 h3;have h4:(Instr.lookup t (a.eval m) (a.eval k) ok).run P w=.ok (if ok then .tuple #[(r.map (·.2)).getD z',.bool r.isSome]else(r.map (·.2)).getD z') w:=by
   rcases h1 with⟨e1,rfl⟩|⟨q,clock,e1,e2⟩
   .simp only[Instr.lookup,Sem.run_bind,run_underlying hu,Result.andThen_ok,e1,Sem.run_pure,h2,h3];cases r with
    |none=>simp[Lx]
    |some r=>obtain⟨i,v⟩:=r;simp
   .simp only[Instr.lookup,Sem.run_bind,run_underlying hu,Result.andThen_ok,e1,e2,Sem.run_pure,h2,h3];cases r with
    |none=>simp[Lx]
    |some r=>obtain⟨i,v⟩:=r;simp
  simp only[execOp,ho,Sem.run_bind,h4,Result.andThen_ok,Sem.run_pure]
 have pair:∀{x:AV} {x':Value} {b:Bool},VR ρ x x'->VR ρ (if ok then .tuple [x,.bool b]else x) (if ok then .tuple #[x',.bool b]else x'):=by
  intro x x' b hx;cases ok
  .exact hx
  .exact⟨_,rfl,_,_,rfl,hx,_,_,rfl,rfl,rfl⟩
 simp only[bG]at hv;split at hv
 .rename_i em;split at hv
  .rename_i hp;cases hv;rw[em]at Od;have ex:a.eval m=.map none:=Od;have hc:=qQ (w:=w) hs hp Oe true;obtain⟨kd,hkd⟩:=isSome_iff_exists.1 (jX hs);have hf:(Instr.findKey kt (a.eval k) []).run P w=.ok none w:=by simp[Instr.findKey,run_underlying hkd,Instr.findNow]
   have:=kj #[] none (.inl ⟨ex,rfl⟩) hc hf;refine cV.val R ?_ this;have h2:=pair (b:=false) (tS ρ);cases ok<;>exact h2
  .cases hv
 .rename_i b em;split at hv
  .rename_i fF hb;split at hv
   .rename_i hp;rw[em]at Od;obtain⟨p,YG,ex⟩:=Od;obtain⟨_,es,clock,hh,hE⟩:=Ds R hb YG;have mB:=MapKept.run_getObj_map (P:=P) hh;have hc:=λem=>qQ (w:=w) hs hp Oe em
    split at hv
    .rename_i x hf;cases hv;obtain⟨r',g1,g2⟩:=ox (w:=w) hs Oe hE hf;cases r' with
     |none=>exact g2.elim
     |some r'=>
      obtain⟨j,k2,e2,q1,q2,q3,q4,_⟩:=g2;have:=kj es (some r') (.inr ⟨_,_,ex,mB⟩) (hc _) g1;refine cV.val R ?_ this;have h2:=pair (b:=true) (hE.2 j _ _ q1 q2).2;rw[q3];cases ok<;>exact h2
    .rename_i hf;cases hv;obtain⟨r',g1,g2⟩:=ox (w:=w) hs Oe hE hf;cases r' with
     |some r'=>exact g2.elim
     |none=>
      have:=kj es none (.inr ⟨_,_,ex,mB⟩) (hc _) g1;refine cV.val R ?_ this;have h2:=pair (b:=false) (tS ρ);cases ok<;>exact h2
    .cases hv
   .cases hv
  .cases hv
 .cases hv
theorem Dt{agg:Bool}{sh:List CK}{k v:AV}:∀(fF xZ:List (AV×AV)),wV agg sh k v fF=some xZ->
 (gR agg sh k fF=some none/\xZ=fF++[(k,v)])\/
 ∃j k2 v2,fF[j]?=some (k2,v2)/\gR agg sh k fF=some (some v2)/\uv agg sh k k2=some true/\(∀(i:Nat) (x:AV×AV),i<j->fF[i]?=some x->uv agg sh k x.1=some false)/\xZ=fF.set j (k,v)
 |[],xZ,h=>by simp only[wV]at h;cases h;exact .inl ⟨rfl,rfl⟩
 |(k2,v2)::fF,xZ,h=>by
  simp only[wV]at h;split at h
  .rename_i hp;cases h;exact .inr ⟨0,k2,v2,rfl,by simp[gR,hp],hp,λi x hi _=>Z,rfl⟩
  .rename_i hp;simp only[map_eq_some_iff]at h;obtain⟨r,hr,rfl⟩:=h;rcases Dt fF r hr with⟨h1,rfl⟩|⟨j,k3,v3,g1,g2,g3,g4,rfl⟩
   .exact .inl ⟨by simp[gR,hp,h1],rfl⟩
   .refine .inr ⟨j+1,k3,v3,by simpa using g1,by simp[gR,hp,g2],g3,λi x hi hx=>?_,rfl⟩;cases i with
    |zero=>simp at hx;subst hx;exact hp
    |succ i=>exact g4 i x Z (by simpa using hx)
  .cases h
theorem wD{k:CK}{x y:AV}{x' y':Value}(hp:zg k x y=some true)(hx:VR ρ x x')(hy:VR ρ y y')(n:Nat):Instr.sameBits n y' x'=true:=by
 cases k
 .obtain⟨p,q,rfl,rfl,e⟩:=Bp hp;cases hx;cases hy;have:p=q:=by simpa using e
  subst this;cases n<;>simp[Instr.sameBits]
 .obtain⟨k,p,q,rfl,rfl,e⟩:=Bq hp;cases hx;cases hy;have:p=q:=by simpa using e
  subst this;cases n<;>simp[Instr.sameBits]
 .obtain⟨p,q,rfl,rfl,e⟩:=Br hp;obtain⟨p',rfl,e1⟩:=hx;obtain⟨q',rfl,e2⟩:=hy;have:p=q:=by simpa using e
  subst this;have:q'=p':=by
   cases p';cases q';simp at e1 e2;rw[<-e1]at e2;simp[Array.toList_inj.1 e2]
  subst this;have:=(MapKept.bytes_beq q' q').2 rfl;cases n<;>simp[Instr.sameBits,this]
theorem wF{n:Nat}:∀(ks:List CK) (as bs:List AV) (X Y:List Value),mG ks as bs=some true->fz ρ as X->fz ρ bs Y->((Y.zip X).all λ(x,y)=>Instr.sameBits n x y)=true/\Y.length=X.length
 |[],as,bs,X,Y,h,hx,hy=>by
  have:=kO h;have e1:as=[]:=eq_nil_of_length_eq_zero this.1;have e2:bs=[]:=eq_nil_of_length_eq_zero this.2;subst e1 e2;simp only[fz]at hx hy;subst hx hy;simp
 |k::ks,as,bs,X,Y,h,hx,hy=>by
  have hl:=kO h;cases as with
  |nil=>simp at hl
  |cons a as=>
   cases bs with
   |nil=>simp at hl
   |cons b bs=>
    obtain⟨x,xs,rfl,h1,h2⟩:=hx;obtain⟨y,ys,rfl,h3,h4⟩:=hy;simp only[mG]at h;split at h
    .rename_i p q e1 e2;have h:=Option.some.inj h;simp only[Bool.and_eq_true]at h;obtain⟨rfl,rfl⟩:=h;obtain⟨r1,r2⟩:=wF ks as bs xs ys e2 h2 h4;have r0:=wD e1 h1 h3 n;simp[r0,r2];simpa using r1
    .cases h
theorem EB{agg:Bool}{sh:List CK}{x y:AV}{x' y':Value}(hp:uv agg sh x y=some true)(hx:VR ρ x x')(hy:VR ρ y y'):Instr.sameBits 10000 y' x'=true:=by
 unfold uv at hp;split at hp
 .split at hp
  .obtain⟨X,rfl,h1⟩:=hx;obtain⟨Y,rfl,h2⟩:=hy;obtain⟨r1,r2⟩:=wF (n:=9999) sh _ _ _ _ hp h1 h2;have:Instr.sameBits (9999+1) (.agg Y) (.agg X)=true:=by
    simp only[Instr.sameBits,Bool.and_eq_true,beq_iff_eq];exact⟨by simpa using r2,r1⟩
   exact this
  .cases hp
 .split at hp
  .exact wD hp hx hy _
  .cases hp
theorem FR(R:Rel K w0 ρ h w)(hg:GR aM ρ)(ht:TR ρ T a){t kt e:TypeId}{m k x:Operand}{am ak ax:bE}{sh:List CK}{v:AV}{cs:List j9}(ho:o.op=.mapUpdate t m k x\/o.op=.insert t m k x)(hu:P.underlying t=some (.map kt e))
 (hs:cd P 20 kt=some sh) (hm:bO aM m=some am) (hk:bO aM k=some ak) (hx:bO aM x=some ax) (hv:bG (aj h) bU T (.qO (cL P kt) sh am ak ax)=some (v,cs)):
 cV K w0 ρ bU (gS h cs) v ((execOp a.eval o).run P w):=by
 have Od:=ch hg ht hm;have Oe:=ch hg ht hk;have rP:=ch hg ht hx;simp only[bG]at hv;split at hv
 .rename_i b em;split at hv
  .rename_i fF hb;split at hv
   .rename_i hp;split at hv
    .rename_i xZ RQ;cases hv;rw[em]at Od;obtain⟨p,YG,ex⟩:=Od;obtain⟨hK,es,clock,hh,hE⟩:=Ds R hb YG;have mB:=MapKept.run_getObj_map (P:=P) hh;have hc:=qQ (w:=w) hs hp Oe false;have kj:∀(pd:Array MapEntry) (Bz:Nat),(Instr.mapUpdate t (a.eval m) (a.eval k) (a.eval x)).run P w=.ok () {w with heap:=w.heap.setIfInBounds p.cb (.map pd Bz)}->Uc ρ xZ pd.toList->
      cV K w0 ρ bU (aQ h b (some (.map xZ))) .undef ((execOp a.eval o).run P w):=by
      intro pd Bz h1 h2;have QX:=MapKept.heap_set (o':=.map pd Bz) hh;refine⟨.skip,undef,_,ρ,?_,.inr ⟨rfl,rfl⟩,by simp[VR,undef],R.set (w':={w with heap:=w.heap.setIfInBounds p.cb (.map pd Bz)}) hb YG rfl (by simp) rfl rfl rfl (λk hk=>QX.2 k hk) ⟨hK,pd,Bz,QX.1,by simpa using h2.1,λi x e hx he=>h2.2 i x e hx (by simpa using he)⟩,dR.le_refl _,λ_ _=>rfl⟩;rcases ho with ho|ho<;>simp only[execOp,ho,Sem.run_bind,h1,Result.andThen_ok,Sem.run_pure]
     show cV K w0 ρ bU (aQ h b _) _ _;rcases Dt fF xZ RQ with⟨h1,rfl⟩|⟨j,k2,v2,g1,g2,g3,g4,rfl⟩
     .obtain⟨r',q1,q2⟩:=ox (w:=w) hs Oe hE h1;cases r' with
      |some r'=>exact q2.elim
      |none=>
       refine kj (es.push {key:=a.eval k,val:=a.eval x,born:=clock}) (clock+1) ?_ ⟨by simp[hE.1],λi y f hy hf=>?_⟩
       .simp only[Instr.mapUpdate,Sem.run_bind,run_underlying hu,Result.andThen_ok,ex,mB,hc,q1,MapKept.run_setObj_map _ hh]
       .simp only[Array.toList_push]at hf;have hl:=hE.1;by_cases hi:i<fF.length
        .rw[getElem?_append_left hi]at hy;rw[getElem?_append_left Z]at hf;exact hE.2 i y f hy hf
        .have jU:i<(fF++[(cP T ak,cP T ax)]).length:=by
          have:=(List.getElem?_eq_some_iff.1 hy).1;simpa using this
         have ei:i=fF.length:=by simp at jU;omega
         subst ei;rw[getElem?_append_right cB]at hy;rw[getElem?_append_right Z,hl]at hf;simp at hy hf;subst hy hf;exact⟨Oe,rP⟩
     .obtain⟨r',q1,q2⟩:=ox (w:=w) hs Oe hE g2;cases r' with
      |none=>exact q2.elim
      |some r'=>
       obtain⟨j',k3,e3,s1,s2,s3,s4,s5⟩:=q2;have ej:j'=j:=by
        rcases Nat.lt_trichotomy j' j with jU|heq|RB
        .have:=g4 j' _ jU s1;simp only at this;rw[s4]at this;cases this
        .exact heq
        .have:=s5 j _ RB g1;simp only at this;rw[g3]at this;cases this
       subst ej;have s2':es[j']?=some e3:=by simpa using s2
       have ZV:Instr.sameBits 10000 e3.key (a.eval k)=true:=EB s4 Oe (hE.2 j' _ _ s1 s2).1;refine kj (es.modify j' λe=>{e with key:=a.eval k,val:=a.eval x}) clock ?_ ⟨by simp[hE.1],λi y f hy hf=>?_⟩
       .have hks:(Instr.keyThatStays e3.key (a.eval k)).run P w=.ok (a.eval k) w:=by simp[Instr.keyThatStays,ZV]
        simp only[Instr.mapUpdate,Sem.run_bind,run_underlying hu,Result.andThen_ok,ex,mB,hc,q1,s3,Nat.zero_add,s2',map_some,getD_some,hks,MapKept.run_setObj_map _ hh]
       .have hl:=hE.1;simp only[Array.getElem?_toList,Array.getElem?_modify]at hf;by_cases hi:i=j'
        .subst hi;rw[getElem?_set_self (List.getElem?_eq_some_iff.1 s1).1]at hy;cases hy;simp[s2']at hf;subst hf;exact⟨Oe,rP⟩
        .rw[getElem?_set_ne (λe=>hi e.symm)]at hy;rw[aq (λe=>hi e.symm)]at hf;exact hE.2 i y f hy (by simpa using hf)
    .cases hv
   .cases hv
  .cases hv
 .cases hv
end
open Go.RowKit (Below)
section
variable{P:Program}{aM:Nat->Option AV}{K:Kp}{w0 w:World}{ρ:dR}{h:aN}{bU:Nat}{T:Tr}{a:Act}{o:Oper}
theorem VH(R:Rel K w0 ρ h w)(hg:GR aM ρ)(ht:TR ρ T a){c:Call}{t e:TypeId}{x:Operand}{ax:bE}{v:AV}{cs:List j9}(ho:o.op=.call c)(hc:c.callee=.builtin .cap)
 (h0:c.argTypes[0]?=some t) (ha:c.args[0]?=some x) (hx:bO aM x=some ax) (hk:P.underlying t=some (.slice e)) (hv:bG (aj h) bU T (.Rx ax)=some (v,cs)):cV K w0 ρ bU (gS h cs) v ((execOp a.eval o).run P w):=by
 have hr:=ch hg ht hx;have zp:(c.args.map a.eval)[0]?=some (a.eval x):=by simp[ha]
 have Dq:∀n:Nat,(Builtin.cap_ c.argTypes o.type (c.args.map a.eval)).run P w=.ok (goInt n) w->(execOp a.eval o).run P w=.ok (.value (goInt n)) w:=by
  intro n hb;simp only[execOp,ho,Sem.run_bind,resolve,hc,Sem.run_pure,Result.andThen_ok,invoke,builtin,hb]
 simp only[bG]at hv;split at hv
 .rename_i ev;cases hv;rw[ev]at hr;have ex:a.eval x=.slice none 0 0:=hr;refine cV.val R (v':=goInt 0) rfl (Dq 0 ?_);simp only[Builtin.cap_,h0,zp,ex,Sem.run_bind,run_underlying hk,Result.andThen_ok,Sem.run_pure]
 .rename_i ev;cases hv;rw[ev]at hr;obtain⟨ad,ex⟩:=hr;refine cV.val R (v':=goInt 0) rfl (Dq 0 ?_);simp only[Builtin.cap_,h0,zp,ex,Sem.run_bind,run_underlying hk,Result.andThen_ok,Sem.run_pure]
 .rename_i b i n k ev;cases hv;rw[ev]at hr;obtain⟨p,ad,cap,hp,ex,_,_,uE,_⟩:=hr;have:cap=k:=uE k rfl;subst this;refine cV.val R (v':=goInt cap) rfl (Dq cap ?_);simp only[Builtin.cap_,h0,zp,ex,Sem.run_bind,run_underlying hk,Result.andThen_ok,Sem.run_pure]
 .cases hv
theorem ZW(R:Rel K w0 ρ h w)(hg:GR aM ρ)(ht:TR ρ T a){t e:TypeId}{n:Nat}{x:Operand}{ax:bE}{v:AV}{cs:List j9}(ho:o.op=.sliceToArrayPointer t x)(hu:P.underlying t=some (.array n e))(hx:bO aM x=some ax)
 (hv:bG (aj h) bU T (.YC n ax)=some (v,cs)):cV K w0 ρ bU (gS h cs) v ((execOp a.eval o).run P w):=by
 have hr:=ch hg ht hx;simp only[bG]at hv;split at hv
 .rename_i b i len c ev;split at hv
  .rename_i dO;cases hv;rw[ev]at hr;obtain⟨p,ad,k,hp,ex,oT,hk,_⟩:=hr;have hak:ad=p.lA i 0:=by
    rcases hk with hk|hk
    .omega
    .exact hk.1
   subst hak;refine cV.val R (v':=.pointer (some (p.lA i 0))) ⟨p,hp,rfl⟩ ?_;have Dl:¬len<n:=Z;simp[execOp,ho,Instr.arrayAt,ex,run_underlying hu,Dl]
  .cases hv
 .cases hv
theorem RT(R:Rel K w0 ρ h w)(hg:GR aM ρ)(ht:TR ρ T a){c:Call}{f:FuncId}{x y z:Operand}{ax ay az:bE}{v:AV}{cs:List j9}(ho:o.op=.call c)(hc:c.callee=.value (.func f))(hf:En P f=true)
 (ha:c.args.toList=[x,y,z]) (hx:bO aM x=some ax) (hy:bO aM y=some ay) (hz:bO aM z=some az) (hv:bG (aj h) bU T (.Dh ax ay az)=some (v,cs)):cV K w0 ρ bU (gS h cs) v ((execOp a.eval o).run P w):=by
 have h1:=ch hg ht hx;have h2:=ch hg ht hy;have h3:=ch hg ht hz;simp only[bG]at hv;split at hv
 .rename_i nx ny nz e1 e2 e3;split at hv
  .rename_i dO;obtain⟨c1,c2,c3,c4⟩:=dO;cases hv;rw[e1]at h1;rw[e2]at h2;rw[e3]at h3;have ex:a.eval x=.int .u64 nx:=h1;have ey:a.eval y=.int .u64 ny:=h2;have ez:a.eval z=.int .u64 nz:=h3;unfold En at hf;split at hf
   .rename_i fn rI;simp only[Bool.and_eq_true,beq_iff_eq]at hf;obtain⟨hb,pE,ZX⟩:=hf;have Du:c.args.map a.eval=#[.int .u64 nx,.int .u64 ny,.int .u64 nz]:=by
     apply Array.ext';rw[Array.toList_map,ha];simp[ex,ey,ez]
    have BA:Extern.find fn=some add64Entry:=by
     have g1:Extern.allGenericRows.lookup "math/bits.Add64"=none:=by kernel_rfl
     have g2:Extern.allTypedRows.lookup "math/bits.Add64"=none:=by kernel_rfl
     have g3:Extern.allRows.lookup "math/bits.Add64"=some add64Entry:=by kernel_rfl
     simp only[Extern.find,pE,g1,g2,g3];rfl
    have ZY:(fn.name== "runtime.NumGoroutine")=false:=by rw[pE];rfl
    have VI:Extern.findNext fn=none:=by simpa using ZX
    refine cV.val R (v':=.tuple #[.int .u64 ((nx+ny+nz)%18446744073709551616),.int .u64 ((nx+ny+nz)/18446744073709551616)]) ⟨_,rfl,_,_,rfl,rfl,_,_,rfl,rfl,rfl⟩ ?_;simp only[execOp,ho,Sem.run_bind,resolve,hc,Act.eval,Deferred.ofValue,Sem.run_pure,Result.andThen_ok,invoke];have key:(callFunc f (c.args.map a.eval)).run P w=.ok (.value (.tuple #[.int .u64 ((nx+ny+nz)%18446744073709551616),.int .u64 ((nx+ny+nz)/18446744073709551616)])) w:=by
     rw[run_callFunc_extern rI ZY hb VI BA,Du,run_add64 nx ny nz c1 c2 c3 c4];rfl
    simpa using key
   .cases hf
  .cases hv
 .cases hv
theorem VJ(R:Rel K w0 ρ h w)(hg:GR aM ρ)(ht:TR ρ T a)(wC:bU<=h.length)(hn:ρ bU=none){c:Call}{s x:Operand}{as ax:bE}{t u e:TypeId}{kk:IntKind}{zc:List AV}{v:AV}{cs:List j9}(ho:o.op=.call c)(hc:c.callee=.builtin .append)
 (ha:c.args=#[s,x]) (h0:c.argTypes[0]?=some t) (hu:P.underlying t=some (.slice e)) (h1:c.argTypes[1]?=some u) (NX:P.underlying u=some (.int kk)) (sY:P.cellsOf e≠0) (Al2:P.bytesOf e≠0) (hz:qj P e=some zc)
 (hs:bO aM s=some as) (hx:bO aM x=some ax) (hv:bG (aj h) bU T (.Lp (P.cellsOf e) (P.bytesOf e) zc as ax)=some (v,cs)):cV K w0 ρ bU (gS h cs) v ((execOp a.eval o).run P w):=by
 have AS:=ch hg ht hs;have rP:=ch hg ht hx;rw[Ae ho hc ha];obtain⟨z,Lx,tS,hz3,hz4,i,hi,RK⟩:=lW hz;have FL:(P.info? e).isSome=true:=by rw[hi];rfl
 have ZU:i.bytes=P.bytesOf e:=by unfold Program.bytesOf;rw[hi];rfl
 have hzs:z.cells.size=P.cellsOf e:=by have:=(tS (λ_=>none)).length;simp at this;omega
 simp only[bG]at hv;split at hv
 .rename_i k m ev;split at hv
  .rename_i dO;obtain⟨VA,pG⟩:=dO;rw[ev]at rP;have ex:a.eval x=.int k m:=rP;have hmul:m.toNat*1<=m.toNat*P.bytesOf e:=Nat.mul_le_mul_left _ Z;unfold dQ at pG;have hmn:(m.toNat:Int)=m:=Z;have hwm:i64.wrap m=m:=wrap_i64 Z Z;have xN:∀{bC:Option Addr},a.eval s=.slice bC 0 0->
    cV K w0 ρ bU (aQ h bU (some (.row true (P.cellsOf e) (replicate m.toNat zc)))) (.slice bU 0 m.toNat none) (((Builtin.append_ c.argTypes o.type #[a.eval s,a.eval x]).run P w).andThen λv w'=>.ok (.value v) w'):=by
    intro bC es;rw[es,ex];obtain⟨kc,Vw,Jm,ZG⟩:=uK (P:=P) w m.toNat 0 e (by unfold maxLen;omega);have hgs:Builtin.nextslicecap m.toNat 0*P.bytesOf e<=281474976710656:=growslice_fits Z Z;have Jt:Below w.heap.size w {w with drawn:=w.drawn+1}:=⟨rfl,rfl,rfl,cB,λ_ _=>rfl⟩;have og:Below w.heap.size w ((({w with drawn:=w.drawn+1}:World)).alloc (.cells (#[]++Builtin.zeroCells z.cells m.toNat++Builtin.zeroCells z.cells (kc-m.toNat)) e)):=Jt.trans (gF {w with drawn:=w.drawn+1} _);have ZZ:=fe {w with drawn:=w.drawn+1} (.cells (#[]++Builtin.zeroCells z.cells m.toNat++Builtin.zeroCells z.cells (kc-m.toNat)) e);have v9:(Builtin.append_ c.argTypes o.type #[.slice bC 0 0,.int k m]).run P w=.ok (.slice (some ⟨w.heap.size,0,none⟩) m.toNat kc) ((({w with drawn:=w.drawn+1}:World)).alloc (.cells (#[]++Builtin.zeroCells z.cells m.toNat++Builtin.zeroCells z.cells (kc-m.toNat)) e)):=by
     have hti:∀w2:World,(typeInfo e).run P w2=.ok i w2:=λw2=>by simp[typeInfo,hi]
     have hA:¬m<0:=Z;have hB:¬(m*(i.bytes:Int)>2^48):=by
      rw[ZU];have:((m.toNat*P.bytesOf e:Nat):Int)<=1000000000000:=Z;rw[Int.natCast_mul,hmn]at this;omega
     have hC:¬(m.toNat*P.cellsOf e=0):=by
      intro h;rcases Nat.mul_eq_zero.1 h with h|h
      .omega
      .exact sY h
     have hD:¬((m.toNat:Int)>i64.max):=by
      have:i64.max=9223372036854775807:=rfl;omega
     have hE:¬(Builtin.nextslicecap m.toNat 0*i.bytes>2^48):=by rw[ZU];omega
     have hF:¬(m.toNat<=0):=Z;unfold Builtin.append_;simp only[h0,h1,getElem?_toArray,getElem?_cons_zero,getElem?_cons_succ,Sem.run_bind,run_underlying hu,Result.andThen_ok,dK FL,run_underlying NX,Sem.run_pure];simp only[asInt,asIntOf,Sem.run_pure,Result.andThen_ok,hwm,hA,if_false,if_true,hti,hB,Nat.zero_add,hF,hD,false_and,hE,ZG,run_askRoom,Bool.not_true,Bool.false_eq_true,hC,Lx,newRow,run_newObj,Sem.run_bind,Sem.run_ite];cases bC<;>simp[Builtin.firstCells,loadCells,loadCellsFrom]
    have hzf:=zo (tS ρ) Z m.toNat;have hl:=hzf.length;rw[iH]at hl;refine lD hn (sW R wC hn og ZZ Z (λx hx=>by rw[(mem_replicate.1 hx).2];exact hz3) (xG:=kc) (by rw[length_replicate];exact Vw) ?_ (by simp) (λj x hx=>?_) (λx hx=>?_)) (v':=.slice (some ⟨w.heap.size,0,none⟩) m.toNat kc) ?_ (by rw[v9];rfl)
    .simp only[Array.size_append,size_zeroCells,hzs];rw[Array.size_empty,Nat.zero_add,<-Nat.add_mul];exact Nat.mul_le_mul_right _ Z
    .obtain⟨v,hv,hr⟩:=hzf.get hx;refine⟨v,?_,hr⟩;rw[Array.getElem?_toList]at hv;have hj:=(Array.getElem?_eq_some_iff.1 hv).1;have e:Builtin.zeroCells z.cells m.toNat=(Array.range (m.toNat*zc.length)).map (z.cells[·%z.cells.size]!):=by
      unfold Builtin.zeroCells;rw[hzs,hz3]
     rw[e,Array.getElem?_append,aG (by simp only[Array.size_append];simpa using hj)];rw[Array.empty_append];exact hv
    .obtain⟨l,sZ,xU⟩:=mem_flatten.1 hx;rw[(mem_replicate.1 sZ).2]at xU;exact List.all_eq_true.1 hz4 x xU
    .refine⟨_,_,_,dR.iB _ _ _,rfl,Vw,.inr ⟨(ql _ _ _).symm,by simp⟩,λm hm=>(by cases hm),λ_=>by simp,Jm⟩
   split at hv
   .rename_i es;cases hv;rw[es]at AS;exact xN AS
   .rename_i es;cases hv;rw[es]at AS;obtain⟨ad,es⟩:=AS;exact xN es
   .cases hv
  .cases hv
 .cases hv
end
section
variable{P:Program}{aM:Nat->Option AV}{K:Kp}{w0 w:World}{ρ:dR}{h:aN}{bU:Nat}{T:Tr}{a:Act}{o:Oper}
theorem BB(R:Rel K w0 ρ h w)(hg:GR aM ρ)(ht:TR ρ T a)(wC:bU<=h.length)(hn:ρ bU=none){ao:j6}{v:AV}{cs:List j9}(hc:Lq P aM o=some ao)(hv:bG (aj h) bU T ao=some (v,cs)):
 cV K w0 ρ bU (gS h cs) v ((execOp a.eval o).run P w):=by
 unfold Lq at hc;split at hc
 .rename_i x ho;simp only[map_eq_some_iff]at hc;obtain⟨ax,hx,rfl⟩:=hc;simp only[bG]at hv;cases hv;exact Zx R hg ht (.inl ho) hx
 .rename_i x ho;simp only[map_eq_some_iff]at hc;obtain⟨ax,hx,rfl⟩:=hc;simp only[bG]at hv;cases hv;exact Zx R hg ht (.inr ho) hx
 .rename_i c x y ho;simp only[pure_def,bind_eq_bind,bind_eq_some_iff]at hc;obtain⟨ac,hc,ax,hx,ay,hy,e⟩:=hc;cases e;simp only[bG]at hv;split at hv
  .rename_i eb;cases hv;exact NH R hg ht ho hc hx hy eb
  .rename_i eb;cases hv;exact NH R hg ht ho hc hx hy eb
  .cases hv
 .rename_i t ho;simp only[pure_def,bind_eq_bind,bind_eq_some_iff]at hc;obtain⟨z,hz,e⟩:=hc;split at e
  .rename_i dO;cases e;simp only[bG]at hv;cases hv;exact RL R wC hn ho hz dO.1 dO.2
  .cases e
 .rename_i t x ho;simp only at hc;split at hc
  .rename_i dO;simp only[pure_def,bind_eq_bind,bind_eq_some_iff]at hc;obtain⟨ax,hx,e⟩:=hc;cases e;simp only[bG]at hv;split at hv
   .rename_i AA FI;split at hv
    .rename_i hh;cases hv;exact ZE R hg ht wC hn ho hx FI hh.1 dO.1 hh.2.1 hh.2.2
    .cases hv
   .cases hv
  .cases hc
 .rename_i t cM ho;simp only[pure_def,bind_eq_bind,bind_eq_some_iff]at hc;obtain⟨z,hz,e⟩:=hc;split at e
  .rename_i fs hu;split at e
   .cases e
   .rename_i hG;simp only[bind_eq_some_iff]at e;obtain⟨ps,hp,e⟩:=e;cases e;simp only[bG]at hv;split at hv
    .rename_i AA hf;cases hv;refine Js R hg ht ho hz (.inl ⟨fs,hu,?_,rfl⟩) hp hf;have:fs.all (λf=>(P.info? f.type).isSome)=true:=by simpa only[Bool.not_eq_true,Bool.not_eq_false,Bool.not_eq_eq_eq_not,Bool.not_true]using hG
     exactλf hf=>Array.all_eq_true_iff_forall_mem.1 this f hf
    .cases hv
  .rename_i n e' hu;split at e
   .cases e
   .rename_i hG;simp only[bind_eq_some_iff]at e;obtain⟨ps,hp,e⟩:=e;cases e;simp only[bG]at hv;split at hv
    .rename_i AA hf;cases hv;exact Js R hg ht ho hz (.inr ⟨n,e',hu,by cases hh:P.info? e'<;>simp_all,rfl⟩) hp hf
    .cases hv
  .cases e
 .rename_i t len cM ho;split at hc
  .rename_i e hu;simp only[pure_def,bind_eq_bind,bind_eq_some_iff]at hc;obtain⟨z,hz,e'⟩:=hc;split at e'
   .rename_i dO;simp only[bind_eq_some_iff]at e';obtain⟨ps,hp,e'⟩:=e';cases e';exact VD R hg ht wC hn ho hu hz dO.1 dO.2 hp hv
   .cases e'
  .cases hc
 .rename_i t x ho;split at hc
  .rename_i dO;simp only[pure_def,bind_eq_bind,bind_eq_some_iff]at hc;obtain⟨ax,hx,e⟩:=hc;cases e;simp only[bG]at hv;split at hv
   .rename_i b i f ev;split at hv
    .rename_i bS bZ es hb;split at hv
     .rename_i AA hr;split at hv
      .rename_i jQ;cases hv;exact NR R hg ht ho dO hx ev hb hr (by rw[aG jQ])
      .rename_i jQ;split at hv
       .cases hv;exact NR R hg ht ho dO hx ev hb hr (by rw[aq jQ])
       .cases hv
     .cases hv
    .cases hv
   .cases hv
  .cases hc
 .rename_i t x y ho;split at hc
  .rename_i dO;simp only[pure_def,bind_eq_bind,bind_eq_some_iff]at hc;obtain⟨ax,hx,ay,hy,e⟩:=hc;cases e;simp only[bG]at hv;split at hv
   .rename_i b i f vs ev ec;split at hv
    .rename_i bZ es hb;split at hv
     .rename_i hh;split at hv
      .rename_i pd hr;cases hv;exact RJ R hg ht ho dO hx hy ev ec hb hh.1 hh.2 hr
      .cases hv
     .cases hv
    .cases hv
   .cases hv
  .cases hc
 .rename_i x ho;simp only[map_eq_some_iff]at hc;obtain⟨ax,hx,rfl⟩:=hc;simp only[bG]at hv;split at hv
  .rename_i b i f ev;cases hv;have:=NI (P:=P) R hg ht (bU:=bU) ho hx (.inl ⟨b,i,f,ev⟩);rwa[ev]at this
  .rename_i f c d ev;cases hv;have:=NI (P:=P) R hg ht (bU:=bU) ho hx (.inr ⟨f,c,d,ev⟩);rwa[ev]at this
  .cases hv
 .rename_i op t x y u ho;split at hc
  .rename_i Ni;have VK:op=.eql\/op=.neq:=by cases op<;>simp[isEq]at Ni<;>simp
   split at hc
   .rename_i k hk;split at hc
    .rename_i h1;simp only[pure_def,bind_eq_bind,bind_eq_some_iff]at hc;obtain⟨ax,hx,e⟩:=hc;cases e;refine RS R hg ht (neg:=isNe op) (by rw[ho];rcases VK with rfl|rfl<;>rfl) h1 hk hx hv
    .cases hc
   .split at hc
    .cases hc
    .rename_i RB;simp only[pure_def,bind_eq_bind,bind_eq_some_iff]at hc;obtain⟨sh,hs,ax,hx,ay,hy,e⟩:=hc;cases e;simp only[bG,map_eq_some_iff]at hv;obtain⟨b,hb,e⟩:=hv;cases e;have:=Zz (P:=P) R hg ht (bU:=bU) VK ho hs (by simpa using RB) hx hy hb;rcases VK with rfl|rfl<;>exact this
  .simp only[pure_def,bind_eq_bind,bind_eq_some_iff]at hc;obtain⟨ax,hx,ay,hy,e⟩:=hc;cases e;simp only[bG,map_eq_some_iff]at hv;obtain⟨b,hb,e⟩:=hv;cases e;exact Zy R hg ht ho hx hy hb
 .rename_i op t x ho;simp only[map_eq_some_iff]at hc;obtain⟨ax,hx,rfl⟩:=hc;simp only[bG,map_eq_some_iff]at hv;obtain⟨b,hb,e⟩:=hv;cases e;exact Ag3 R hg ht ho hx hb
 .rename_i s d x ho;split at hc
  .rename_i j k hs hd;simp only[pure_def,bind_eq_bind,bind_eq_some_iff]at hc;obtain⟨ax,hx,e⟩:=hc;cases e;simp only[bG]at hv;cases ev:cP T ax<;>rw[ev]at hv<;>simp only at hv<;>first|(cases hv;done)|skip
   cases hv;exact HD R hg ht ho hs hd hx ev
  .rename_i hs hd;simp only[pure_def,bind_eq_bind,bind_eq_some_iff]at hc;obtain⟨ax,hx,e⟩:=hc;cases e;simp only[bG]at hv;cases ev:cP T ax<;>rw[ev]at hv<;>simp only at hv<;>first|(cases hv;done)|skip
   cases hv;exact FG R hg ht ho hs hd hx ev
  .rename_i e hs hd;split at hc
   .rename_i VL;have he:P.underlying e=some (.int .u8):=by unfold Rz at VL;split at VL<;>first|assumption|cases VL
    simp only[pure_def,bind_eq_bind,bind_eq_some_iff]at hc;obtain⟨ax,hx,e'⟩:=hc;cases e';have kj:∀xs l,(∀t,cP T ax≠.fN t)->eW (aj h) 1 (cP T ax)=some xs->bytesOf xs=some l->cV K w0 ρ bU h (.fN l) ((execOp a.eval o).run P w):=λxs l h1 h2 h3=>ZQ R hg ht ho hs hd he hx h1 h2 h3
    simp only[bG]at hv;cases ev:cP T ax<;>rw[ev]at hv kj<;>simp only at hv;all_goals first|(cases hv;done)|skip
    all_goals (
     split at hv
     .rename_i es hes
      simp only[map_eq_some_iff]at hv
      obtain⟨l,hl,e'⟩:=hv
      cases e'
      exact kj es l (λt=>by intro hh;cases hh) hes hl
     .cases hv)
   .cases hc
  .rename_i e hs hd;split at hc
   .rename_i VL;have he:P.underlying e=some (.int .u8):=by unfold Rz at VL;split at VL<;>first|assumption|cases VL
    simp only[pure_def,bind_eq_bind,bind_eq_some_iff]at hc;obtain⟨ax,hx,e'⟩:=hc;cases e';simp only[bG]at hv;cases ev:cP T ax<;>rw[ev]at hv<;>simp only at hv<;>first|(cases hv;done)|skip
    split at hv
    .rename_i hl;cases hv;exact ZO R hg ht wC hn ho hs hd he hx ev (by unfold dQ at hl;unfold maxLen;omega)
    .cases hv
   .cases hc
  .cases hc
 .rename_i t x ho;split at hc
  .cases hc
  .rename_i YH;simp only[map_eq_some_iff]at hc;obtain⟨ax,hx,rfl⟩:=hc;simp only[bG]at hv;cases hv;exact RG R hg ht ho hx ⟨λms e=>YH (by rw[e];rfl),λe=>YH (by rw[e];rfl)⟩
 .rename_i f xs ys ho;simp only[pure_def,bind_eq_bind,bind_eq_some_iff]at hc;obtain⟨Hn,hx,ays,hy,e⟩:=hc;cases e;simp only[bG]at hv;cases hv;exact NJ R hg ht ho hx hy
 .rename_i s x f ho;split at hc
  .rename_i fs hu;simp only[pure_def,bind_eq_bind,bind_eq_some_iff]at hc;obtain⟨fd,hf,hc⟩:=hc;split at hc
   .rename_i hz;simp only[bind_eq_some_iff]at hc;obtain⟨ax,hx,e⟩:=hc;cases e;simp only[bG]at hv;cases ev:cP T ax<;>rw[ev]at hv<;>simp only at hv<;>first|(cases hv;done)|skip
    cases hv;exact NL R hg ht ho hu hf hz hx ev
   .cases hc
  .cases hc
 .rename_i s x f ho;split at hc
  .rename_i fs hu;simp only[pure_def,bind_eq_bind,bind_eq_some_iff]at hc;obtain⟨fd,hf,hc⟩:=hc;split at hc
   .cases hc
   .rename_i hd;simp only[bind_eq_some_iff]at hc;obtain⟨ax,hx,e⟩:=hc;cases e;simp only[bG]at hv;split at hv
    .rename_i AA ev;split at hv
     .rename_i hl;have HK:(P.underlying fd.type).isSome=true:=by cases hh:P.underlying fd.type<;>simp_all
      split at hv
      .rename_i jQ;cases hv;exact Jp R hg ht ho hu hf HK hx ev hl (by rw[aG jQ])
      .rename_i jQ;split at hv
       .rename_i v' VM;cases hv;exact Jp R hg ht ho hu hf HK hx ev hl (by rw[aq jQ];exact VM)
       .cases hv
     .cases hv
    .cases hv
  .cases hc
 .rename_i t x ix ho;split at hc
  .rename_i e hu;split at hc
   .cases hc
   .rename_i hi;have lV:(P.info? e).isSome=true:=by cases hh:P.info? e<;>simp_all
    simp only[pure_def,bind_eq_bind,bind_eq_some_iff]at hc;obtain⟨ax,hx,ai,Ud,e'⟩:=hc;cases e';simp only[bG]at hv;split at hv
    .rename_i b j n c k m ev em;split at hv
     .rename_i bS ez es hb;split at hv
      .rename_i hh;obtain⟨rfl,h0,jU⟩:=hh;cases hv;exact Vu R hg ht ho hu hx Ud ev em hb lV h0 jU
      .cases hv
     .cases hv
    .cases hv
  .rename_i n e hu;split at hc
   .cases hc
   .rename_i hi;have lV:(P.info? e).isSome=true:=by cases hh:P.info? e<;>simp_all
    simp only[pure_def,bind_eq_bind,bind_eq_some_iff]at hc;obtain⟨ax,hx,ai,Ud,e'⟩:=hc;cases e';simp only[bG]at hv;split at hv
    .rename_i b j f k m ev em;split at hv
     .rename_i bS ez es hb;split at hv
      .rename_i hh;have:=Vv (P:=P) R hg ht (bU:=bU) ho hu hx Ud ev em hb lV hh.1 hh.2;split at hv
       .rename_i hq;cases hv;rwa[aG hq]at this
       .rename_i hq;cases hv;rwa[aq hq]at this
      .cases hv
     .cases hv
    .cases hv
  .cases hc
 .rename_i t x ix ho;split at hc
  .rename_i n e hu;split at hc
   .cases hc
   .rename_i hi;have lV:(P.underlying e).isSome=true:=by cases hh:P.underlying e<;>simp_all
    simp only[pure_def,bind_eq_bind,bind_eq_some_iff]at hc;obtain⟨ax,hx,ai,Ud,e'⟩:=hc;cases e';simp only[bG]at hv;split at hv
    .rename_i AA k m ev em;split at hv
     .rename_i hh;obtain⟨h0,jU,_⟩:=hh;split at hv
      .rename_i jQ;cases hv;exact NO R hg ht ho hu hx Ud ev em lV h0 jU (by rw[aG jQ])
      .rename_i jQ;split at hv
       .rename_i v' VM;cases hv;exact NO R hg ht ho hu hx Ud ev em lV h0 jU (by rw[aq jQ];exact VM)
       .cases hv
     .cases hv
    .cases hv
  .rename_i hu;simp only[pure_def,bind_eq_bind,bind_eq_some_iff]at hc;obtain⟨ax,hx,ai,Ud,e'⟩:=hc;cases e';simp only[bG]at hv;split at hv
   .rename_i s k m ev em;split at hv
    .rename_i h0;split at hv
     .rename_i b hb;cases hv;exact NP R hg ht ho hu hx Ud ev em h0 hb
     .cases hv
    .cases hv
   .cases hv
  .cases hc
 .rename_i t x lo hi mx ho;split at hc
  .rename_i hu;split at hc
   .cases hc
   .rename_i Nj;have Ahk:mx=none:=by cases mx<;>simp_all
    subst Ahk;simp only[pure_def,bind_eq_bind,bind_eq_some_iff]at hc;obtain⟨ax,hx,Jq,Ew,Jr,Ho,e'⟩:=hc;cases e';simp only[bG]at hv;split at hv
    .rename_i s ev;split at hv
     .rename_i hh ll bh bl;split at hv
      .rename_i dO;cases hv;exact HE R hg ht ho hu hx Ew Ho ev bl bh dO.1 dO.2
      .cases hv
     .cases hv
    .cases hv
  .rename_i e hu;split at hc
   .cases hc
   .rename_i dO;have lV:(P.info? e).isSome=true:=by cases hh:P.info? e<;>simp_all
    have Dl:mx=none\/hi≠none:=by cases mx<;>cases hi<;>simp_all
    simp only[pure_def,bind_eq_bind,bind_eq_some_iff]at hc;obtain⟨ax,hx,Jq,Ew,Jr,Ho,Bv,Nj,e'⟩:=hc;cases e';simp only[bG,map_eq_some_iff]at hv;obtain⟨v',hv,e'⟩:=hv;cases e';exact NQ R hg ht ho hu lV hx Ew Ho Nj Dl hv
  .rename_i n e hu;split at hc
   .cases hc
   .rename_i dO;have lV:(P.info? e).isSome=true:=by cases hh:P.info? e<;>simp_all
    have Dl:mx=none\/hi≠none:=by cases mx<;>cases hi<;>simp_all
    simp only[pure_def,bind_eq_bind,bind_eq_some_iff]at hc;obtain⟨ax,hx,Jq,Ew,Jr,Ho,Bv,Nj,e'⟩:=hc;cases e';simp only[bG,map_eq_some_iff]at hv;obtain⟨v',hv,e'⟩:=hv;cases e';exact N1 R hg ht ho hu lV hx Ew Ho Nj Dl hv
  .cases hc
 .rename_i t x ho;simp only[bind_eq_bind]at hc;split at hc
  .rename_i n e hu;simp only[pure_def,bind_eq_some_iff]at hc;obtain⟨ax,hx,e'⟩:=hc;cases e';exact ZW R hg ht ho hu hx hv
  .cases hc
 .rename_i x ix ho;simp only[pure_def,bind_eq_bind,bind_eq_some_iff]at hc;obtain⟨ax,hx,e'⟩:=hc;cases e';simp only[bG]at hv;split at hv
  .rename_i vs ev;split at hv
   .rename_i v' hi;cases hv;exact ZA R hg ht ho hx ev hi
   .cases hv
  .cases hv
 .rename_i x xt t ok ho;split at hc
  .cases hc
  .rename_i YH;simp only[pure_def,bind_eq_bind,bind_eq_some_iff]at hc;obtain⟨ax,hx,e'⟩:=hc;cases e';simp only[bG]at hv;split at hv
   .rename_i t' v' ev;split at hv
    .rename_i et;subst et;cases hv;exact Lv R hg ht ho hx ⟨λms e=>YH (by rw[e];rfl),λe=>YH (by rw[e];rfl)⟩ ev
    .cases hv
   .cases hv
 .rename_i t ho;split at hc
  .cases hc;simp only[bG]at hv;cases hv;exact RR R wC hn ho
  .cases hc
 .cases hc
 .rename_i t l c ho;split at hc
  .rename_i e hu;simp only[pure_def,bind_eq_bind,bind_eq_some_iff]at hc;obtain⟨z,hz,hc⟩:=hc;split at hc
   .rename_i AB;simp only[bind_eq_some_iff]at hc;obtain⟨al,hl,ac,hcc,e'⟩:=hc;cases e';exact LC R hg ht wC hn ho hu hz AB hl hcc hv
   .cases hc
  .cases hc
 .rename_i t m k ok ho;split at hc
  .rename_i kt e hu;simp only[pure_def,bind_eq_bind,bind_eq_some_iff]at hc;obtain⟨sh,hs,z,hz,am,hm,ak,hk,e'⟩:=hc;cases e';exact VG R hg ht ho hu hs hz hm hk hv
  .cases hc
 .rename_i t m k x ho;split at hc
  .rename_i kt e hu;simp only[pure_def,bind_eq_bind,bind_eq_some_iff]at hc;obtain⟨sh,hs,am,hm,ak,hk,ax,hx,e'⟩:=hc;cases e';exact FR R hg ht (.inl ho) hu hs hm hk hx hv
  .cases hc
 .rename_i t m k x ho;split at hc
  .rename_i kt e hu;simp only[pure_def,bind_eq_bind,bind_eq_some_iff]at hc;obtain⟨sh,hs,am,hm,ak,hk,ax,hx,e'⟩:=hc;cases e';exact FR R hg ht (.inr ho) hu hs hm hk hx hv
  .cases hc
 .rename_i c ho;split at hc
  .rename_i f wg;split at hc
   .simp only[map_eq_some_iff]at hc;obtain⟨xs,hx,rfl⟩:=hc;simp only[bG]at hv;cases hv
   .split at hc
    .rename_i Vx;split at hc
     .rename_i x y z Du;simp only[pure_def,bind_eq_bind,bind_eq_some_iff]at hc;obtain⟨ax,hx,ay,hy,az,hz,e'⟩:=hc;cases e';exact RT R hg ht ho wg Vx Du hx hy hz hv
     .cases hc
    .cases hc
  .simp only[pure_def,bind_eq_bind,bind_eq_some_iff]at hc;obtain⟨ax,hx,Hn,Ly,e'⟩:=hc;cases e';simp only[bG]at hv;cases hv
  .simp only[pure_def,bind_eq_bind,bind_eq_some_iff]at hc;obtain⟨ax,hx,Hn,Ly,e'⟩:=hc;cases e';simp only[bG]at hv;cases hv
  .rename_i b hb;split at hc
   .simp only[pure_def,bind_eq_bind,bind_eq_some_iff]at hc;obtain⟨t,h0,hc⟩:=hc;split at hc
    .rename_i e s x xt hu Jy ha1 hxt;split at hc
     .rename_i dO;obtain⟨rG,hz,sY,hni,NX,HC⟩:=dO;simp only[bind_eq_some_iff]at hc;obtain⟨as,hs,ax,hx,e'⟩:=hc;cases e';simp only[bG]at hv;obtain⟨zc,hz⟩:=isSome_iff_exists.1 hz;obtain⟨d,hd⟩:=isSome_iff_exists.1 NX;refine ZH R hg ht wC hn ho hb (s:=s) (x:=x) ?_ ⟨⟨t,h0,hu⟩,⟨xt,d,hxt,hd,λk ek=>?_⟩,sY,HC,⟨zc,hz⟩⟩ hs hx hv
      .apply Array.ext
       .simpa using rG
       .intro i h1 h2;have:i=0\/i=1:=by simp at h2;omega
        rcases this with rfl|rfl
        .have:=Array.getElem?_eq_some_iff.1 Jy;simpa using this.2
        .have:=Array.getElem?_eq_some_iff.1 ha1;simpa using this.2
      .subst ek;rw[hd]at hni;simp[Em]at hni
     .split at hc
      .rename_i dO;obtain⟨rG,hint,sY,HC⟩:=dO;simp only[bind_eq_some_iff]at hc;obtain⟨zc,hz,as,hs,ax,hx,e'⟩:=hc;cases e';have NX:∃kk,P.underlying xt=some (.int kk):=by
        unfold Em at hint;split at hint
        .rename_i kk hk;exact⟨kk,hk⟩
        .cases hint
       obtain⟨kk,NX⟩:=NX;refine VJ R hg ht wC hn ho hb (s:=s) (x:=x) ?_ h0 hu hxt NX sY HC hz hs hx hv;apply Array.ext
       .simpa using rG
       .intro i h1 h2;have:i=0\/i=1:=by simp at h2;omega
        rcases this with rfl|rfl
        .have:=Array.getElem?_eq_some_iff.1 Jy;simpa using this.2
        .have:=Array.getElem?_eq_some_iff.1 ha1;simpa using this.2
      .cases hc
    .cases hc
   .simp only[pure_def,bind_eq_bind,bind_eq_some_iff]at hc;obtain⟨t,h0,hc⟩:=hc;split at hc
    .rename_i e x hu Jy;simp only[bind_eq_some_iff]at hc;obtain⟨ax,hx,e'⟩:=hc;cases e';exact VH R hg ht ho hb h0 Jy hx hu hv
    .cases hc
   .simp only[pure_def,bind_eq_bind,bind_eq_some_iff]at hc;obtain⟨t,h0,hc⟩:=hc;split at hc
    .rename_i n e' x hu Jy;cases hc;simp only[bG]at hv;cases hv;refine cV.val R (v':=goInt n) rfl ?_;have zp:(c.args.map a.eval)[0]?=some (a.eval x):=by simp[Jy]
     have:(Builtin.len_ c.argTypes o.type (c.args.map a.eval)).run P w=.ok (goInt n) w:=by
      simp only[Builtin.len_,h0,zp,Sem.run_bind,run_underlying hu,Result.andThen_ok,Sem.run_pure]
     simp only[execOp,ho,Sem.run_bind,resolve,hb,Sem.run_pure,Result.andThen_ok,invoke,builtin,this]
    .rename_i x hu Jy;simp only[bind_eq_some_iff]at hc;obtain⟨ax,hx,e'⟩:=hc;cases e';exact N5 (k:=.fN) R hg ht ho hb h0 Jy hx hu hv
    .rename_i e x hu Jy;simp only[bind_eq_some_iff]at hc;obtain⟨ax,hx,e'⟩:=hc;cases e';exact N5 (k:=.slice) R hg ht ho hb h0 Jy hx ⟨e,hu⟩ hv
    .rename_i kt e x hu Jy;simp only[bind_eq_some_iff]at hc;obtain⟨ax,hx,e'⟩:=hc;cases e';exact N5 (k:=.map) R hg ht ho hb h0 Jy hx ⟨kt,e,hu⟩ hv
    .cases hc
   .simp only[pure_def,bind_eq_bind,bind_eq_some_iff]at hc;obtain⟨t,h0,hc⟩:=hc;split at hc
    .rename_i e s x hu Jy ha1;split at hc
     .rename_i dO;obtain⟨rG,hi,sY⟩:=dO;simp only[bind_eq_some_iff]at hc;obtain⟨as,hs,ax,hx,e'⟩:=hc;cases e';simp only[bG]at hv;refine VB R hg ht ho hb (s:=s) (x:=x) ?_ h0 hu hi Z hs hx hv;apply Array.ext
      .simpa using rG
      .intro i h1 h2;have:i=0\/i=1:=by simp at h2;omega
       rcases this with rfl|rfl
       .have:=Array.getElem?_eq_some_iff.1 Jy;simpa using this.2
       .have:=Array.getElem?_eq_some_iff.1 ha1;simpa using this.2
     .cases hc
    .cases hc
   .simp only[map_eq_some_iff]at hc;obtain⟨xs,hx,rfl⟩:=hc;exact FQ R hg ht (nR:=true) ho hb hx hv
   .simp only[map_eq_some_iff]at hc;obtain⟨xs,hx,rfl⟩:=hc;exact FQ R hg ht (nR:=false) ho hb hx hv
   .cases hc
 .cases hc
end
end Go.Abs
end
