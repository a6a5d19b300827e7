/- The law BoundLooks returns true for every script, and leaves it as it was.
   Conditions: those of the given row; the tables packhorse/wire.heads and packhorse/script.uses are laid as listed. -/
import Derived.Test.YtdmofemokgboeaaGreatDoorL
import Derived.Test.YtdmofemokgboeaaGreatDoorR
import Derived.Test.YtdmofemokgboeaaGreatDoorRun
import Derived.ProofKit
import Derived.LaidMore
import Derived.OpenShut
import Derived.ChangeStays
import Derived.ChangeBook
import Derived.Stop.Joined
namespace Go.Proofs.YtdmofemokgboeaaGreatDoor
open Go.ChangeShapes Go.WideShapes Go.ChangeAt Go.RowKit Go.Abs
theorem own:ownKnob Tryz.prog.godebug=none:=by kernel_rfl
theorem gHeads:Tryz.prog.globalNamed "packhorse/wire.heads" =some 1:=by kernel_rfl
theorem gUses:Tryz.prog.globalNamed "packhorse/script.uses" =some 0:=by kernel_rfl
theorem mixed:Tryz.prog.follows .mixedOrders=true:=by kernel_rfl
theorem laidOut:laidOutB Tryz.prog=true:=by kernel_rfl
abbrev laidV:List (String × DataW Unit):=[("packhorse/wire.heads",Rows.laid_packhorse_wire_heads),("packhorse/script.uses",Rows.laid_packhorse_script_uses)]
theorem heads_lit (t:TypeId) (ht:(Tryz.prog.globals[1]?).map (·.type)=some t):litC Tryz.prog 4 t Rows.laid_packhorse_wire_heads=some headsR.flatten:=by
  have e:(Tryz.prog.globals[1]?).map (·.type)=some 152:=by kernel_rfl
  obtain rfl:=Option.some.inj (e.symm.trans ht)
  show litC Tryz.prog 4 152 Rows.laid_packhorse_wire_heads=some headsR.flatten
  kernel_rfl
theorem uses_lit (t:TypeId) (ht:(Tryz.prog.globals[0]?).map (·.type)=some t):litC Tryz.prog 4 t Rows.laid_packhorse_script_uses=some usesR.flatten:=by
  have e:(Tryz.prog.globals[0]?).map (·.type)=some 143:=by kernel_rfl
  obtain rfl:=Option.some.inj (e.symm.trans ht)
  show litC Tryz.prog 4 143 Rows.laid_packhorse_script_uses=some usesR.flatten
  kernel_rfl
theorem tabs_met {W:World} (h:laidMetH Tryz.prog laidV W): ∀ x∈tabs,TabAt W x:=by
  rw[MakeChecks.laidMetH_plain _ _ _ (by kernel_rfl)] at h
  obtain ⟨ps,hv,_,_⟩:=h
  intro x hx
  obtain ⟨g,t,cs,fuel,p,q,h1,h2,h3,h4,h5,h6⟩:=id hv
  obtain rfl:=Option.some.inj (gHeads.symm.trans h1)
  obtain ⟨g',t',cs',fuel',p',q',k1,k2,k3,k4,k5,k6⟩:=id h5
  obtain rfl:=Option.some.inj (gUses.symm.trans k1)
  simp only[tabs,List.mem_cons,List.not_mem_nil,or_false] at hx
  rcases hx with rfl |rfl
  · exact ⟨by decide,by simp[headsR],by simp[headsR],by simp[headsR,AV.scalar],fun ρ=>laid_cells hv (by simp) gHeads h2 (heads_lit t h2)⟩
  · exact ⟨by decide,by simp[usesR],by simp[usesR],by simp[usesR,AV.scalar],fun ρ=>laid_cells hv (by simp) gUses k2 (uses_lit t' k2)⟩
theorem tabs_plain: ∀ x∈tabs,0<x.2.1∧x.2.2.flatten≠ []∧ ∀ a∈x.2.2.flatten,a.plain=true:=by
  intro x hx
  simp only[tabs,List.mem_cons,List.not_mem_nil,or_false] at hx
  rcases hx with rfl |rfl
  · exact ⟨by decide,by simp[headsR],by simp[headsR,AV.plain]⟩
  · exact ⟨by decide,by simp[usesR],by simp[usesR,AV.plain]⟩
theorem SumOK.layers {P:Program} {glob:Nat→Option AV} {F:FuncId→Option AFunc} {sm0:Summ} (hs:SumOK P glob sm0) (hF:FOK P glob F) (hmix:P.follows .mixedOrders=true): ∀ i,SumOK P glob (smN F (cmeth P) sm0 i)
  |0=>hs
  |i+1=>SumOK.pure (SumOK.layers hs hF hmix i) hF hmix
theorem ft:FT F:=by constructor <;>rfl
theorem mth:Mth (cmeth Tryz.prog):=by constructor <;>kernel_rfl
theorem z0:Z0 (sumOf tabs 5 (.bool true)):=fun f vs m hf=>by unfold sumOf;rw[if_neg (fun h=>hf h.1)]
theorem tabs_in {m:Mem} (h0:bget m.blks 0=some (.row false 1 headsR)) (h1:bget m.blks 1=some (.row false 8 usesR)):TabsIn tabs m:=fun b x hb=>by
  rcases b with _ |_ |b
  · cases hb;exact h0
  · cases hb;exact h1
  · cases hb
theorem tys:Tys Tryz.prog 26 64 59 46:=⟨⟨by kernel_rfl,by kernel_rfl⟩,⟨by kernel_rfl,by kernel_rfl⟩,⟨by kernel_rfl,by kernel_rfl⟩,by kernel_rfl⟩
theorem law_any {H:Type} {enc:TypeId × Value→H} {W:World} {c0:Array Value} {d0:DataW H} {p0:List MemPlace} (hL:laidMetH Tryz.prog laidV W)
    (h0:DataW.Trod enc Tryz.prog W 0 (fun _=>true) true 26 (.agg c0) d0 p0):
    Calls Tryz.prog 3 #[.agg c0] W fun e W'=>e= .returned (.bool true)∧Below W.heap.size W W':=by
  obtain ⟨m1,hm1⟩:=isT_some run
  have hsum:SumOK Tryz.prog (globOf tabs 0) (sumOf tabs 5 (.bool true)):=sum_ok fOK mixed tabs_plain (by decide) hm1
  obtain ⟨f0,h0⟩:=h0
  have hT:=tabs_met hL
  have ok0:OKs W (tabRows tabs):=fun x hx=>by
    obtain ⟨y,hy,rfl⟩:=List.mem_map.1 hx
    exact (hT y hy).row.rowIn _
  obtain ⟨l1,s,k1,ok1,q1,R1,n1⟩:=rd_sc tys ok0 h0
  obtain ⟨l3,rfl⟩:=k1
  obtain ⟨m',he⟩:=law_all (meth:=cmeth Tryz.prog) ft mth z0 (fun m h0 h1=>by unfold sumOf;rw[if_pos ⟨rfl,rfl,tabs_in h0 h1⟩]) 0 _ [] (by rw[rows_get];rfl) (by rw[rows_get];rfl) R1 n1
  refine (fn_calls (SumOK.layers hsum fOK mixed 13) fOK mixed (K:=keepK Tryz.prog (globOf tabs 0) W) (w0:=W) (ρ:=rowsR (tabRows tabs++l3)) rfl he (oks_rel _ ok1) (tabs_glob tabs _) (vs':= #[.agg c0]) ⟨_,_,rfl,⟨c0,rfl,q1⟩,rfl⟩ (smN_none z0 (by decide) (.inl (by decide)) _ _)).mono fun e w' h=> ?_
  obtain ⟨v',ρ',rfl,hv,R,_⟩:=h
  have hv:v'= .bool true:=hv
  subst hv
  exact ⟨rfl,R.below.below⟩
theorem door_met (os:Os) (args:Array Value):laidMetH Tryz.prog laidV ((World.doorLaid Tryz.prog 34 os).forCall (fun _ _=>0) ⟨#[],args,[]⟩).memory:=
  laidMetH_of_parts3 (fuel:=8) (laidMet_of_run' 8 (by kernel_rfl) (by kernel_rfl)) (by kernel_rfl) (by kernel_rfl)
section
variable {H:Type} {enc:TypeId × Value→H} {P:Program}
theorem post_of_below {f:Func} {s:ChangeSpec} {apart fresh handsOn again:Bool} {W W':World} {args:Array Value} {v:Value} {ds gs:List (DataW H)} {before pa pv:List MemPlace}
    (hW:DataW.Whole enc P f.params.toList s.vars apart W args.toList ds gs before)
    (hres: ∀ (b:Nat) (sp:Nat→Bool) (hd:Bool),DataW.TrodAll enc P W' b sp hd f.resultTypes.toList (v.resultList f.resultTypes.size) (s.fn H (ds++gs)).results [])
    (hargs: ∀ sp:Nat→Bool,(∀ p∈before,sp p.block=true)→DataW.TrodAll enc P W' 0 sp true f.params.toList args.toList (s.fn H (ds++gs)).args pa)
    (hvars: ∀ sp:Nat→Bool,(∀ p∈before,sp p.block=true)→DataW.TrodVars enc P W' sp s.vars (s.fn H (ds++gs)).vars pv)
    (hps:before=pa++pv) (hb:Below W.heap.size W W')
    (hok: ∀ (j:Nat) (t:TypeId) (r:Value),f.resultTypes[j]? =some t→(v.resultList f.resultTypes.size)[j]? =some r→Value.okWide P W' .any 0 t r):
    s.post enc P f apart fresh handsOn again W args v W':=by
  have hlt: ∀ p∈before,p.block<W.heap.size:=fun p hp=>hW.lt p hp
  have hold: ∀ p∈before,(fun b=>decide (b<W.heap.size)) p.block=true:=fun p hp=>by simpa using hlt p hp
  refine ⟨ds,gs,before,[],pa,pv,hW,hres _ _ _,hargs _ hold,hvars _ hold,World.keptBut_mono (fun p hp=>⟨hp,?_⟩) (hb.frame (· ∈before)),fun _=> ?_⟩
  · rw[hps,List.mem_append] at hp
    exact Or.inr hp
  · obtain ⟨_,_,_,_,_,hz,hn⟩:=hW
    refine ⟨hok,_,_,([]++pa)++pv,⟨[]++pa,pv,trodAll_append (hargs _ (fun _ _=>rfl)) (hres _ _ _),hvars _ (fun _ _=>rfl),rfl,?_,?_⟩,?_⟩
    · intro b off hp
      have hin:MemPlace.cell b off∈before:=by rw[hps];simpa using hp
      rw[hb.frozen (hlt _ hin)]
      exact hz b off hin
    · intro ha
      have:=hn ha
      rw[hps] at this
      simpa using this
    · intro p hp _
      rw[hps]
      simpa using hp
end
set_option maxRecDepth 100000 in
theorem lifted (os:Os) (started:os.Started) (H:Type) (enc:TypeId × Value→H):
    ReturnsInHanded {} Tryz.checked os 3 .any (fun w args=>(Rows.boundLooksSpec.pre enc Tryz.prog Tryz.f3 [] false w args∧laidMetH Tryz.prog laidV w)∧sizedMet enc Tryz.prog Tryz.f3 (OpenSpec.ofChange Rows.boundLooksSpec) false w args)
      (Rows.boundLooksSpec.post enc Tryz.prog Tryz.f3 false true false false):=by
  refine returnsInHanded_of_change_and (C:=Tryz.checked) (X:=fun w _=>laidMetH Tryz.prog laidV w) (fun _ _ _ hh h=>h.of_heap hh) own started (by kernel_rfl) Tryz.func3
    (ChangeSpec.witness_shaped (enc:=enc) (C:=Tryz.checked) (os:=os) (X:=fun w _=>laidMetH Tryz.prog laidV w) false (World.doorLaid Tryz.prog 34 os) #[.agg #[.slice none 0 0,.slice none 0 0,.slice none 0 0]] 8 rfl (World.shaped_of_RefB (by kernel_rfl) (by kernel_rfl)) (by kernel_rfl) (by kernel_rfl) (by kernel_rfl) (door_met os _)) ?_
  intro W base args ds gs before hval0 hW _ _ hL _
  have hval: ∀ (j:Nat) t v,Tryz.f3.params[j]? =some t→args[j]? =some v→Value.okWide Tryz.prog W .any base t v:=hval0
  have hW':=hW
  obtain ⟨p,q,hA0,hV,rfl,hfz,hnd⟩:=hW
  have hA:DataW.TrodAll enc Tryz.prog W 0 (fun _=>true) true Tryz.f3.params.toList args.toList ds p:=hA0
  rw[Tryz.params3] at hA hval
  obtain ⟨v0,d0,rfl,rfl,h0⟩:=trodAll_one hA
  obtain ⟨rfl,rfl⟩:=trodVars_none hV
  have hv: ∃ cs,v0= .agg cs:=by
    have:=hval 0 26 v0 rfl rfl
    simp only[Value.okWide,Tryz.underlying26] at this
    obtain ⟨cs,e,_⟩:=this
    exact ⟨cs,e⟩
  obtain ⟨c0,rfl⟩:=hv
  refine (law_any hL h0).mono fun e W' ⟨he,hb⟩=> ?_
  subst he
  refine ⟨_,rfl,post_of_below (pa:=p) (pv:=[]) hW' (fun _ _ _=>trodAll_mk1 (shut_bool Tryz.underlying4 _)) (fun sp hsp=> ?_) (fun _ _=>rfl) (by simp) hb (ok_one (by kernel_rfl) rfl (okWide_bool_mk Tryz.underlying4 _))⟩
  rw[Tryz.params3]
  obtain ⟨n,hn⟩:=h0
  refine trodAll_mk1 ⟨n,DataW.trod_stays (kids_book laidOut (t0:=26) (by kernel_rfl)) (book_sized (by kernel_rfl)) (fun h=>by cases h) ⟨of_decide_eq_true (by kernel_rfl),book_self 26⟩ hn (fun p hp=>hb.same (hW'.lt p (by simpa using hp))) (fun p hp=>hsp p (by simpa using hp))⟩
theorem boundLooks_holds:Rows.BoundLooksSaid:=
  OpenClaim.holds_of_wide 3 Tryz.f3 rfl rfl rfl rfl rfl rfl rfl ⟨rfl,rfl,rfl,rfl,rfl⟩ rfl rfl rfl rfl rfl (by kernel_rfl) Tryz.func3 (by kernel_rfl)
    (of_decide_eq_true (by kernel_rfl)) (by unfold Func.isWrapper;first |(rw[if_pos (by decide+kernel)];kernel_rfl)|(rw[if_neg (by decide+kernel)];exact ⟨rfl,rfl⟩))
    (fun os started H enc _=>lifted os started H enc)
#print axioms boundLooks_holds
end Go.Proofs.YtdmofemokgboeaaGreatDoor
