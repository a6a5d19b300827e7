/- The law BoundLooks returns true for every script, and leaves it as it was: the tied card.
   Conditions: those that the given card says. -/
import Derived.Test.YtdmofemokgboeaaGreatDoorProofs
import Derived.Test.YtdmofemokgboeaaGreatDoorCards
import Derived.Test.YtdmofemokgboeaaGreatDoorTie
import Derived.SevenTiedAt
namespace Go.Proofs.YtdmofemokgboeaaGreatDoor
open Go
theorem boundLooks_card_holds:Rows.BoundLooksCardSaid:=
  Claim7.holds_tied_plain_at .later [] [.widerDeep,.widerDeep] true Rows.boundLooksCard.stood.harness true
    boundLooks_holds (fun _ h=>by cases h) (by kernel_rfl) (fun _ h=>by cases h) boundLooks_row_tie rfl ⟨rfl,rfl⟩ (by kernel_rfl) rfl
    (fun f fn hf hfn=>by
      obtain rfl:f=3:=Option.some.inj ((show Tryz.prog.funcNamed Rows.boundLooksRow.func=some 3 by kernel_rfl).symm.trans hf) |>.symm
      obtain rfl:fn=Tryz.f3:=(Option.some.inj (Tryz.func3.symm.trans hfn)).symm
      exact ⟨by kernel_rfl,fun j t ht=>by
        rw[Tryz.params3] at ht
        have hm:t∈ [26]:=by simpa using Array.mem_of_getElem? ht
        have hall:([26].all fun u=> !Tryz.prog.wantsStandIn u)=true:=by kernel_rfl
        exact (show Tryz.prog.wantsStandIn t=false by simpa using List.all_eq_true.1 hall t hm)⟩)
    (by kernel_rfl)
#print axioms boundLooks_card_holds
end Go.Proofs.YtdmofemokgboeaaGreatDoor
