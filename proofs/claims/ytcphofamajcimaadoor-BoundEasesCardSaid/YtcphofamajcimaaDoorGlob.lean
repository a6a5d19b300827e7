/- The package's tables that the run reads, as the evaluator has them.
   Conditions: none. -/
import Derived.Test.YtcphofamajcimaaDoorEv5
set_option linter.unusedSimpArgs false
set_option linter.unusedVariables false
noncomputable section
namespace Go.Proofs.YtcphofamajcimaaDoor
open Go Go.Abs
def headsRow : List (List AV) := [[.int .u8 176], [.int .u8 177], [.int .u8 178], [.int .u8 180], [.int .u8 181], [.int .u8 182]]
def usesRow : List (List AV) := [
  [(.str []), (.bool false), (.bool false), (.int .i64 0), (.int .i64 0), (.int .i64 0), (.int .i64 0), (.bool false)],
  [(.str [115, 117, 98, 109, 105, 116]), (.bool true), (.bool false), (.int .i64 0), (.int .i64 (-1)), (.int .i64 (-1)), (.int .i64 (-1)), (.bool true)],
  [(.str [111, 112, 101, 110]), (.bool true), (.bool true), (.int .i64 0), (.int .i64 (-1)), (.int .i64 (-1)), (.int .i64 (-1)), (.bool false)],
  [(.str [99, 108, 111, 115, 101]), (.bool true), (.bool true), (.int .i64 0), (.int .i64 (-1)), (.int .i64 (-1)), (.int .i64 (-1)), (.bool false)],
  [(.str [116, 105, 99, 107]), (.bool false), (.bool false), (.int .i64 1), (.int .i64 1000), (.int .i64 (-1)), (.int .i64 (-1)), (.bool false)],
  [(.str [100, 101, 108, 105, 118, 101, 114]), (.bool true), (.bool true), (.int .i64 0), (.int .i64 63), (.int .i64 (-1)), (.int .i64 (-1)), (.bool false)],
  [(.str [108, 111, 115, 101]), (.bool true), (.bool true), (.int .i64 0), (.int .i64 63), (.int .i64 (-1)), (.int .i64 (-1)), (.bool false)],
  [(.str [100, 111, 117, 98, 108, 101]), (.bool true), (.bool true), (.int .i64 0), (.int .i64 63), (.int .i64 (-1)), (.int .i64 (-1)), (.bool false)],
  [(.str [115, 119, 97, 112]), (.bool true), (.bool true), (.int .i64 0), (.int .i64 63), (.int .i64 63), (.int .i64 (-1)), (.bool false)],
  [(.str [115, 112, 111, 105, 108]), (.bool true), (.bool true), (.int .i64 0), (.int .i64 63), (.int .i64 1199), (.int .i64 255), (.bool false)],
  [(.str [99, 117, 116]), (.bool true), (.bool true), (.int .i64 0), (.int .i64 63), (.int .i64 1199), (.int .i64 (-1)), (.bool false)],
  [(.str [99, 114, 97, 115, 104]), (.bool true), (.bool false), (.int .i64 0), (.int .i64 (-1)), (.int .i64 (-1)), (.int .i64 (-1)), (.bool false)],
  [(.str [116, 114, 105, 112]), (.bool true), (.bool false), (.int .i64 0), (.int .i64 1000), (.int .i64 262144), (.int .i64 (-1)), (.bool false)],
  [(.str [114, 101, 115, 116, 97, 114, 116]), (.bool true), (.bool false), (.int .i64 0), (.int .i64 (-1)), (.int .i64 (-1)), (.int .i64 (-1)), (.bool false)],
  [(.str [100, 114, 97, 105, 110]), (.bool false), (.bool false), (.int .i64 1), (.int .i64 1000), (.int .i64 (-1)), (.int .i64 (-1)), (.bool false)]]
def tabs : Tabs := [(0, 8, usesRow), (1, 1, headsRow)]
def glob : Nat → Option AV := globOf tabs 0
end Go.Proofs.YtcphofamajcimaaDoor
end
