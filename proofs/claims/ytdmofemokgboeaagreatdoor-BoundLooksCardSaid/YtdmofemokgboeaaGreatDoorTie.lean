/-
  DERIVED. GIVEN WITH THE SEED: THE PROGRAM's TIES (one call each: nine closed facts by the kernel) AND EACH ROW's TIE, after the 31st guide's Derived/Test/Toyas{Tie, Card}.lean. No idea stands in it: it is a product of the set-up. Laid BY PROGRAM, IN A SANDBOX (cutbox-door.mjs). By AI agents, Wed Nov 11 2026. No macro, syntax, notation, axiom, sorry.
-/
import Derived.Test.YtdmofemokgboeaaGreatDoorRows
import Derived.LaidByTextLater
import Derived.SevenTiedAt
import Derived.LaidSub
import Derived.LaidOnce
namespace Go.Proofs.YtdmofemokgboeaaGreatDoor
open Go
set_option maxRecDepth 100000
theorem seatTie1 : Tryz.prog.laidByTextLater [("packhorse/wire.heads", Rows.laid_packhorse_wire_heads), ("packhorse/script.uses", Rows.laid_packhorse_script_uses)] [.widerDeep, .widerDeep] true :=
  Program.laidByTextLater_by_one 34 8 121 (by kernel_rfl) (by kernel_rfl) (by kernel_rfl) (by kernel_rfl) (by kernel_rfl) (by kernel_rfl) (fun _ _ => by kernel_rfl)
theorem noOwnUnsafe : Tryz.pinned.checked.prog.headLifts.contains "ownunsafe" = false := by kernel_rfl
theorem tie : Tryz.prog.laidByTextLater [("packhorse/wire.heads", Rows.laid_packhorse_wire_heads), ("packhorse/script.uses", Rows.laid_packhorse_script_uses)] [.widerDeep, .widerDeep] true :=
  Program.laidByTextLater.sub seatTie1 ["packhorse/wire.heads", "packhorse/script.uses"] (by kernel_rfl) (by kernel_rfl)
theorem boundLooks_row_tie : Rows.boundLooksRow.laidByTextAt .later Tryz.pinned [.widerDeep, .widerDeep] true :=
  OpenClaim.laidByTextAt_later rfl rfl tie noOwnUnsafe
theorem boundLooksUpto_row_tie : Rows.boundLooksUptoRow.laidByTextAt .later Tryz.pinned [.widerDeep, .widerDeep] true :=
  OpenClaim.laidByTextAt_later rfl rfl tie noOwnUnsafe
end Go.Proofs.YtdmofemokgboeaaGreatDoor
