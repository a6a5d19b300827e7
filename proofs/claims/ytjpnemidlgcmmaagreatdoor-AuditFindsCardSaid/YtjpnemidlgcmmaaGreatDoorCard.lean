/- The law AuditFinds returns true for every snapshot and every list of bundles, and leaves both as they were: the tied card.
   Conditions: those that the given card says. -/
import Derived.Test.YtjpnemidlgcmmaaGreatDoorProofs
import Derived.Test.YtjpnemidlgcmmaaGreatDoorCards
import Derived.Test.YtjpnemidlgcmmaaGreatDoorTie
import Derived.SevenTiedAt
namespace Go.Proofs.YtjpnemidlgcmmaaGreatDoor
open Go
theorem auditFinds_card_holds:Rows.AuditFindsCardSaid:=
  Claim7.holds_tied_plain_at .later [] [.widerDeep] true Rows.auditFindsCard.stood.harness false
    auditFinds_holds (fun _ h=>by cases h) (by kernel_rfl) (fun _ h=>by cases h) auditFinds_row_tie rfl ⟨rfl,rfl⟩ (by kernel_rfl) rfl
    (fun f fn hf hfn=>by
      obtain rfl:f=3:=Option.some.inj ((show Tryz.prog.funcNamed Rows.auditFindsRow.func=some 3 by kernel_rfl).symm.trans hf) |>.symm
      obtain rfl:fn=Tryz.f3:=(Option.some.inj (Tryz.func3.symm.trans hfn)).symm
      exact ⟨by kernel_rfl,fun j t ht=>by
        rw[Tryz.params3] at ht
        have hm:t∈ [25,26]:=by simpa using Array.mem_of_getElem? ht
        have hall:([25,26].all fun u=> !Tryz.prog.wantsStandIn u)=true:=by kernel_rfl
        exact (show Tryz.prog.wantsStandIn t=false by simpa using List.all_eq_true.1 hall t hm)⟩)
    (by kernel_rfl)
#print axioms auditFinds_card_holds
end Go.Proofs.YtjpnemidlgcmmaaGreatDoor
