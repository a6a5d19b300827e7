/- A closed fact about the program that the card asks for: no function that the law reaches starts a goroutine.
   Conditions: none. -/
import Derived.Test.YteeknodhjojhhaaGreatDoorCards
import Derived.SevenTiedAt
import Derived.KernelRfl
namespace Go.Proofs.YteeknodhjojhhaaGreatDoor
open Go
set_option maxRecDepth 100000
theorem kg : false = Rows.auditLooksRow.goesBy Tryz.prog := by kernel_rfl
end Go.Proofs.YteeknodhjojhhaaGreatDoor
