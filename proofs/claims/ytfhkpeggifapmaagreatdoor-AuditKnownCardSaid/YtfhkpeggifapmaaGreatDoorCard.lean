/- The law AuditKnown returns true for every input (it takes none): the tied card.
   Conditions: those that the given card says. -/
import Derived.Test.YtfhkpeggifapmaaGreatDoorProofs
import Derived.Test.YtfhkpeggifapmaaGreatDoorCards
import Derived.Test.YtfhkpeggifapmaaGreatDoorTie
import Derived.SevenTiedAt
namespace Go.Proofs.YtfhkpeggifapmaaGreatDoor
open Go

theorem auditKnown_card_holds : Rows.AuditKnownCardSaid :=
  Claim7.holds_tied_plain_at .later [] [.widerDeep] true Rows.auditKnownCard.stood.harness true
    auditKnown_holds (fun _ h => by cases h) (by kernel_rfl) (fun _ h => by cases h) auditKnown_row_tie rfl ⟨rfl, rfl⟩ (by kernel_rfl) rfl
    (fun f fn hf hfn => by
      obtain rfl : f = 3 := Option.some.inj ((show Tryz.prog.funcNamed Rows.auditKnownRow.func = some 3 by kernel_rfl).symm.trans hf) |>.symm
      obtain rfl : fn = Tryz.f3 := (Option.some.inj (Tryz.func3.symm.trans hfn)).symm
      exact ⟨by kernel_rfl, fun j t ht => by
        rw [Tryz.params3] at ht
        simp at ht⟩)
    (by kernel_rfl)
#print axioms auditKnown_card_holds
end Go.Proofs.YtfhkpeggifapmaaGreatDoor
