/- The package's table that the run reads, as the evaluator has it.
   Conditions: none. -/
import Derived.Test.YtfhkpeggifapmaaGreatDoorEv5
noncomputable section
namespace Go.Proofs.YtfhkpeggifapmaaGreatDoor
open Go Go.Abs
def headsRow : List (List AV) := [[.int .u8 176], [.int .u8 177], [.int .u8 178], [.int .u8 180], [.int .u8 181], [.int .u8 182]]
def tabs : Tabs := [(0, 1, headsRow)]
def glob : Nat → Option AV := globOf tabs 0
end Go.Proofs.YtfhkpeggifapmaaGreatDoor
end
