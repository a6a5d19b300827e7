/- The functions of the program as the evaluator's code: tables.
   Conditions: none. -/
import Derived.Test.YtcphofamajcimaaDoorEv1
set_option linter.unusedSimpArgs false
set_option linter.unusedVariables false
noncomputable section
namespace Go.Proofs.YtcphofamajcimaaDoor
open Go Go.Abs
set_option maxRecDepth 100000
def AF87 : AFunc := ⟨23, [],
  (.block 0 (.loop (.block 1 (.seq (.region false 0 [
       ⟨(some (.l (.r .z))), .mv (.t (.l .z)), none, none, []⟩,
       ⟨(some (.r (.r .z))), .bin .sub (.t (.l (.r .z))) (.c (.int .i64 1)), none, none, []⟩,
       ⟨(some (.l (.l (.l .z)))), .bin .quo (.t (.r (.r .z))) (.c (.int .i64 2)), none, none, []⟩,
       ⟨(some (.r (.l .z))), .mv (.t (.l (.l (.l .z)))), none, none, []⟩])
     (.seq (.seq (.region false 0 [
       ⟨(some (.r (.l (.l .z)))), .mv (.t (.r (.l .z))), none, none, []⟩,
       ⟨(some (.l (.r (.l .z)))), .mv (.t (.l .z)), none, none, []⟩,
       ⟨(some (.r (.r (.l .z)))), .eql false false [.i] (.t (.r (.l (.l .z)))) (.t (.l (.r (.l .z)))), none, none, []⟩,
       ⟨(some (.l (.l (.r .z)))), .mv (.t (.r (.r (.l .z)))), none, none, []⟩,
       ⟨(some (.r (.l (.r .z)))), .mv (.t .z), (some ((.l (.l (.r .z))), false)), none, []⟩,
       ⟨(some (.l (.r (.r .z)))), .mv (.t (.l .z)), (some ((.l (.l (.r .z))), false)), none, []⟩,
       ⟨(some (.r (.r (.r .z)))), .mv (.t (.r (.l .z))), (some ((.l (.l (.r .z))), false)), none, []⟩,
       ⟨(some (.l (.l (.l (.l .z))))), .invoke (.t (.r (.l (.r .z)))) "Less" [(.t (.l (.r (.r .z)))), (.t (.r (.r (.r .z))))], (some ((.l (.l (.r .z))), false)), none, []⟩,
       ⟨(some (.r (.l (.l (.l .z))))), .un .not (.t (.l (.l (.l (.l .z))))), (some ((.l (.l (.r .z))), false)), none, []⟩,
       ⟨(some (.l (.r (.l (.l .z))))), .pick (.t (.l (.l (.r .z)))) (.c (.bool true)) (.t (.r (.l (.l (.l .z))))), none, none, []⟩])
     (.cond (.t (.l (.r (.l (.l .z)))))
     (.exit 0)
     .skip))
     (.seq (.region false 0 [
       ⟨(some (.r (.r (.l (.l .z))))), .mv (.t .z), none, none, []⟩,
       ⟨(some (.l (.l (.r (.l .z))))), .mv (.t (.r (.l .z))), none, none, []⟩,
       ⟨(some (.r (.l (.r (.l .z))))), .mv (.t (.l .z)), none, none, []⟩,
       ⟨(some (.l (.r (.r (.l .z))))), .invoke (.t (.r (.r (.l (.l .z))))) "Swap" [(.t (.l (.l (.r (.l .z))))), (.t (.r (.l (.r (.l .z)))))], none, none, []⟩])
     (.region false 0 [
       ⟨(some (.r (.r (.r (.l .z))))), .mv (.t (.r (.l .z))), none, none, []⟩,
       ⟨(some (.l .z)), .mv (.t (.r (.r (.r (.l .z))))), none, none, []⟩])))))))⟩
def AF88 : AFunc := ⟨6, [.tmp (.r .z)],
  (.seq (.region false 0 [
    ⟨(some (.r .z)), .mv (.c (.bool false)), none, none, []⟩])
  (.seq (.region false 0 [
    ⟨(some (.l (.l .z))), .mv (.t .z), none, none, []⟩,
    ⟨(some (.r (.l .z))), .mv (.t .z), none, none, []⟩,
    ⟨(some (.l (.r .z))), .eql true false [.i] (.t (.l (.l .z))) (.t (.r (.l .z))), none, none, []⟩,
    ⟨(some (.r .z)), .mv (.t (.l (.r .z))), none, none, []⟩])
  .ret))⟩
def AF89 : AFunc := ⟨18, [],
  (.seq (.region false 0 [
    ⟨(some (.l (.l .z))), .mv (.c (.int .i64 0)), none, none, []⟩])
  (.block 0 (.loop (.seq (.seq (.region false 0 [
      ⟨(some (.r (.l .z))), .mv (.t .z), none, none, []⟩,
      ⟨(some (.l (.r .z))), .mv (.t (.l (.l .z))), none, none, []⟩,
      ⟨(some (.r (.r .z))), .load false 1 (.t (.l .z)), none, none, []⟩,
      ⟨(some (.l (.l (.l .z)))), .bin .rem (.t (.r (.r .z))) (.c (.int .u64 128)), none, none, []⟩,
      ⟨(some (.r (.l (.l .z)))), .conv (.toInt .u8) (.t (.l (.l (.l .z)))), none, none, []⟩,
      ⟨(some (.l (.r (.l .z)))), .callv (.t (.r (.l .z))) [(.t (.l (.r .z))), (.t (.r (.l (.l .z))))], none, none, []⟩,
      ⟨(some (.r (.r (.l .z)))), .mv (.t (.l (.r (.l .z)))), none, none, []⟩,
      ⟨(some (.l (.l (.r .z)))), .load false 1 (.t (.l .z)), (some ((.r (.r (.l .z))), true)), none, []⟩,
      ⟨(some (.r (.l (.r .z)))), .bin .geq (.t (.l (.l (.r .z)))) (.c (.int .u64 128)), (some ((.r (.r (.l .z))), true)), none, []⟩,
      ⟨(some (.l (.r (.r .z)))), .pick (.t (.r (.r (.l .z)))) (.t (.r (.l (.r .z)))) (.c (.bool false)), none, none, []⟩])
    (.cond (.t (.l (.r (.r .z))))
    .skip
    (.exit 0)))
    (.seq (.block 1 (.region false 0 [
       ⟨(some (.r (.l (.l (.l .z))))), .load false 1 (.t (.l .z)), none, none, []⟩,
       ⟨(some (.l (.r (.l (.l .z))))), .bin .quo (.t (.r (.l (.l (.l .z))))) (.c (.int .u64 128)), none, none, []⟩,
       ⟨none, .store 1 (.t (.l .z)) (.t (.l (.r (.l (.l .z))))), none, none, []⟩]))
    (.region false 0 [
      ⟨(some (.r (.r (.r .z)))), .mv (.t (.l (.l .z))), none, none, []⟩,
      ⟨(some (.l (.l (.l (.l .z))))), .bin .add (.t (.r (.r (.r .z)))) (.c (.int .i64 1)), none, none, []⟩,
      ⟨(some (.l (.l .z))), .mv (.t (.l (.l (.l (.l .z))))), none, none, []⟩]))))))⟩
def AF90 : AFunc := ⟨50, [.tmp (.r (.l (.l .z))), .tmp (.l (.r (.l .z))), .tmp (.r (.r (.l .z)))],
  (.seq (.region false 0 [
    ⟨(some (.r (.l .z))), .box 6 6 (.t .z), none, none, []⟩,
    ⟨(some (.r (.l (.l .z)))), .mv (.c (.int .i64 0)), none, none, []⟩,
    ⟨(some (.l (.r (.l .z)))), .mv (.c (.int .i64 0)), none, none, []⟩,
    ⟨(some (.r (.r (.l .z)))), .mv (.c (.int .i64 0)), none, none, []⟩])
  (.seq (.seq (.region false 0 [
    ⟨(some (.r (.l (.r .z)))), .load true 6 (.t (.r (.l .z))), none, none, []⟩,
    ⟨(some (.l (.r (.r .z)))), .call 56 [(.t (.r (.l (.r .z))))], none, none, []⟩,
    ⟨(some (.r (.r (.l .z)))), .mv (.t (.l (.r (.r .z)))), none, none, []⟩])
  (.seq (.region false 0 [
    ⟨(some (.r (.r (.r .z)))), .mv (.t (.r (.r (.l .z)))), none, none, []⟩,
    ⟨(some (.l (.l (.l (.l .z))))), .eql true false [.i] (.t (.r (.r (.r .z)))) (.c (.int .i64 0)), none, none, []⟩])
  (.cond (.t (.l (.l (.l (.l .z)))))
  (.seq (.region false 0 [
     ⟨(some (.r (.l (.l (.l .z))))), .mv (.t (.r (.r (.l .z)))), none, none, []⟩,
     ⟨(some (.r (.l (.l .z)))), .mv (.c (.int .i64 0)), none, none, []⟩,
     ⟨(some (.l (.r (.l .z)))), .mv (.c (.int .i64 0)), none, none, []⟩,
     ⟨(some (.r (.r (.l .z)))), .mv (.t (.r (.l (.l (.l .z))))), none, none, []⟩])
   .ret)
  .skip)))
  (.seq (.region false 0 [
    ⟨(some (.l (.r (.l (.l .z))))), .load true 6 (.t (.r (.l .z))), none, none, []⟩,
    ⟨(some (.l (.l (.r .z)))), .alloc 6 [[(.int .i64 0), (.int .i64 0), (.int .i64 0), (.int .i64 0), (.int .i64 0), (.int .i64 0)]], none, none, []⟩,
    ⟨none, .store 6 (.t (.l (.l (.r .z)))) (.t (.l (.r (.l (.l .z))))), none, none, []⟩])
  (.seq (.seq (.region false 0 [
    ⟨(some (.r (.r (.l (.l .z))))), .mv (.t (.r .z)), none, none, []⟩,
    ⟨(some (.l (.l (.r (.l .z))))), .call 91 [(.t (.r (.r (.l (.l .z)))))], none, none, []⟩,
    ⟨(some (.r (.l (.r (.l .z))))), .un .not (.t (.l (.l (.r (.l .z))))), none, none, []⟩,
    ⟨(some (.l (.r (.r (.l .z))))), .mv (.t (.r (.l (.r (.l .z))))), none, none, []⟩,
    ⟨(some (.r (.r (.r (.l .z))))), .mv (.t (.l .z)), (some ((.l (.r (.r (.l .z)))), false)), none, []⟩,
    ⟨(some (.l (.l (.l (.r .z))))), .bin .lss (.t (.r (.r (.r (.l .z))))) (.c (.int .i64 0)), (some ((.l (.r (.r (.l .z)))), false)), none, []⟩,
    ⟨(some (.r (.l (.l (.r .z))))), .pick (.t (.l (.r (.r (.l .z))))) (.c (.bool true)) (.t (.l (.l (.l (.r .z))))), none, none, []⟩,
    ⟨(some (.l (.r (.l (.r .z))))), .mv (.t (.r (.l (.l (.r .z))))), none, none, []⟩,
    ⟨(some (.r (.r (.l (.r .z))))), .mv (.t (.l .z)), (some ((.l (.r (.l (.r .z)))), false)), none, []⟩,
    ⟨(some (.l (.l (.r (.r .z))))), .load true 6 (.t (.l (.l (.r .z)))), (some ((.l (.r (.l (.r .z)))), false)), none, []⟩,
    ⟨(some (.r (.l (.r (.r .z))))), .call 92 [(.t (.l (.l (.r (.r .z)))))], (some ((.l (.r (.l (.r .z)))), false)), none, []⟩,
    ⟨(some (.l (.r (.r (.r .z))))), .bin .gtr (.t (.r (.r (.l (.r .z))))) (.t (.r (.l (.r (.r .z))))), (some ((.l (.r (.l (.r .z)))), false)), none, []⟩,
    ⟨(some (.r (.r (.r (.r .z))))), .pick (.t (.l (.r (.l (.r .z))))) (.c (.bool true)) (.t (.l (.r (.r (.r .z))))), none, none, []⟩,
    ⟨(some (.l (.l (.l (.l (.l .z)))))), .mv (.t (.r (.r (.r (.r .z))))), none, none, []⟩,
    ⟨(some (.r (.l (.l (.l (.l .z)))))), .mv (.t (.l (.l .z))), (some ((.l (.l (.l (.l (.l .z))))), false)), none, []⟩,
    ⟨(some (.l (.r (.l (.l (.l .z)))))), .call 93 [(.t (.r (.l (.l (.l (.l .z))))))], (some ((.l (.l (.l (.l (.l .z))))), false)), none, []⟩,
    ⟨(some (.r (.r (.l (.l (.l .z)))))), .un .not (.t (.l (.r (.l (.l (.l .z)))))), (some ((.l (.l (.l (.l (.l .z))))), false)), none, []⟩,
    ⟨(some (.l (.l (.r (.l (.l .z)))))), .pick (.t (.l (.l (.l (.l (.l .z)))))) (.c (.bool true)) (.t (.r (.r (.l (.l (.l .z)))))), none, none, []⟩])
  (.cond (.t (.l (.l (.r (.l (.l .z))))))
  (.seq (.region false 0 [
     ⟨(some (.r (.l (.l .z)))), .mv (.c (.int .i64 0)), none, none, []⟩,
     ⟨(some (.l (.r (.l .z)))), .mv (.c (.int .i64 0)), none, none, []⟩,
     ⟨(some (.r (.r (.l .z)))), .mv (.c (.int .i64 2)), none, none, []⟩])
   .ret)
  .skip))
  (.seq (.seq (.region false 0 [
    ⟨(some (.r (.l (.r (.l (.l .z)))))), .load true 6 (.t (.l (.l (.r .z)))), none, none, []⟩,
    ⟨(some (.l (.r (.r (.l (.l .z)))))), .mv (.t (.l .z)), none, none, []⟩,
    ⟨(some (.r (.r (.r (.l (.l .z)))))), .mv (.t (.r .z)), none, none, []⟩,
    ⟨(some (.l (.l (.l (.r (.l .z)))))), .call 94 [(.t (.r (.l (.r (.l (.l .z)))))), (.t (.l (.r (.r (.l (.l .z)))))), (.t (.r (.r (.r (.l (.l .z))))))], none, none, []⟩,
    ⟨(some (.r (.l (.l (.r (.l .z)))))), .mv (.t (.l (.l .z))), none, none, []⟩,
    ⟨(some (.l (.r (.l (.r (.l .z)))))), .bin .add (.t (.l (.l (.l (.r (.l .z)))))) (.t (.r (.l (.l (.r (.l .z)))))), none, none, []⟩,
    ⟨(some (.l (.r (.l .z)))), .mv (.t (.l (.r (.l (.r (.l .z)))))), none, none, []⟩])
  (.seq (.region false 0 [
    ⟨(some (.r (.r (.l (.r (.l .z)))))), .mv (.t (.l (.r (.l .z)))), none, none, []⟩,
    ⟨(some (.l (.l (.r (.r (.l .z)))))), .load true 6 (.t (.l (.l (.r .z)))), none, none, []⟩,
    ⟨(some (.r (.l (.r (.r (.l .z)))))), .call 92 [(.t (.l (.l (.r (.r (.l .z))))))], none, none, []⟩,
    ⟨(some (.l (.r (.r (.r (.l .z)))))), .bin .gtr (.t (.r (.r (.l (.r (.l .z)))))) (.t (.r (.l (.r (.r (.l .z)))))), none, none, []⟩])
  (.cond (.t (.l (.r (.r (.r (.l .z))))))
  (.seq (.region false 0 [
     ⟨(some (.r (.l (.l .z)))), .mv (.c (.int .i64 0)), none, none, []⟩,
     ⟨(some (.l (.r (.l .z)))), .mv (.c (.int .i64 0)), none, none, []⟩,
     ⟨(some (.r (.r (.l .z)))), .mv (.c (.int .i64 16)), none, none, []⟩])
   .ret)
  .skip)))
  (.seq (.region false 0 [
    ⟨(some (.r (.r (.r (.r (.l .z)))))), .load true 6 (.t (.l (.l (.r .z)))), none, none, []⟩,
    ⟨(some (.l (.l (.l (.l (.r .z)))))), .mv (.t (.l (.r (.l .z)))), none, none, []⟩,
    ⟨(some (.r (.l (.l (.l (.r .z)))))), .call 95 [(.t (.r (.r (.r (.r (.l .z)))))), (.t (.l (.l (.l (.l (.r .z))))))], none, none, []⟩,
    ⟨(some (.l (.r (.l (.l (.r .z)))))), .mv (.t (.l (.r (.l .z)))), none, none, []⟩,
    ⟨(some (.r (.l (.l .z)))), .mv (.t (.r (.l (.l (.l (.r .z)))))), none, none, []⟩,
    ⟨(some (.l (.r (.l .z)))), .mv (.t (.l (.r (.l (.l (.r .z)))))), none, none, []⟩,
    ⟨(some (.r (.r (.l .z)))), .mv (.c (.int .i64 0)), none, none, []⟩])
  .ret))))))⟩
def AF91 : AFunc := ⟨5, [.tmp (.r .z)],
  (.seq (.region false 0 [
    ⟨(some (.r .z)), .mv (.c (.bool false)), none, none, []⟩])
  (.seq (.region false 0 [
    ⟨(some (.l (.l .z))), .mv (.t .z), none, none, []⟩,
    ⟨(some (.r (.l .z))), .call 96 [(.t (.l (.l .z))), (.c (.int .i64 0)), (.c (.int .i64 1099511627776))], none, none, []⟩,
    ⟨(some (.r .z)), .mv (.t (.r (.l .z))), none, none, []⟩])
  .ret))⟩
def AF92 : AFunc := ⟨11, [.tmp (.r .z)],
  (.seq (.region false 0 [
    ⟨(some (.l .z)), .box 6 6 (.t .z), none, none, []⟩,
    ⟨(some (.r .z)), .mv (.c (.int .i64 0)), none, none, []⟩])
  (.seq (.region false 0 [
    ⟨(some (.l (.l .z))), .fieldA 4 (.t (.l .z)), none, none, []⟩,
    ⟨(some (.r (.l .z))), .load false 1 (.t (.l (.l .z))), none, none, []⟩,
    ⟨(some (.l (.r .z))), .fieldA 3 (.t (.l .z)), none, none, []⟩,
    ⟨(some (.r (.r .z))), .load false 1 (.t (.l (.r .z))), none, none, []⟩,
    ⟨(some (.l (.l (.l .z)))), .fieldA 2 (.t (.l .z)), none, none, []⟩,
    ⟨(some (.r (.l (.l .z)))), .load false 1 (.t (.l (.l (.l .z)))), none, none, []⟩,
    ⟨(some (.l (.r (.l .z)))), .bin .sub (.t (.r (.r .z))) (.t (.r (.l (.l .z)))), none, none, []⟩,
    ⟨(some (.r (.r (.l .z)))), .bin .mul (.t (.r (.l .z))) (.t (.l (.r (.l .z)))), none, none, []⟩,
    ⟨(some (.r .z)), .mv (.t (.r (.r (.l .z)))), none, none, []⟩])
  .ret))⟩
def AF93 : AFunc := ⟨5, [.tmp (.r .z)],
  (.seq (.region false 0 [
    ⟨(some (.r .z)), .mv (.c (.bool false)), none, none, []⟩])
  (.seq (.region false 0 [
    ⟨(some (.l (.l .z))), .mv (.t .z), none, none, []⟩,
    ⟨(some (.r (.l .z))), .call 96 [(.t (.l (.l .z))), (.c (.int .i64 1)), (.c (.int .i64 1099511627776))], none, none, []⟩,
    ⟨(some (.r .z)), .mv (.t (.r (.l .z))), none, none, []⟩])
  .ret))⟩
def AF94 : AFunc := ⟨12, [.tmp (.r (.r .z))],
  (.seq (.region false 0 [
    ⟨(some (.l (.l .z))), .box 6 6 (.t .z), none, none, []⟩,
    ⟨(some (.r (.r .z))), .mv (.c (.int .i64 0)), none, none, []⟩])
  (.seq (.region false 0 [
    ⟨(some (.l (.l (.l .z)))), .mv (.t (.l .z)), none, none, []⟩,
    ⟨(some (.r (.l (.l .z)))), .load true 6 (.t (.l (.l .z))), none, none, []⟩,
    ⟨(some (.l (.r (.l .z)))), .mv (.t (.r .z)), none, none, []⟩,
    ⟨(some (.r (.r (.l .z)))), .call 97 [(.t (.r (.l (.l .z)))), (.t (.l (.r (.l .z))))], none, none, []⟩,
    ⟨(some (.l (.l (.r .z)))), .minmax true [(.t (.l (.l (.l .z)))), (.t (.r (.r (.l .z))))], none, none, []⟩,
    ⟨(some (.r (.r .z))), .mv (.t (.l (.l (.r .z)))), none, none, []⟩])
  .ret))⟩
def AF95 : AFunc := ⟨16, [.tmp (.r (.l .z))],
  (.seq (.region false 0 [
    ⟨(some (.r .z)), .box 6 6 (.t .z), none, none, []⟩,
    ⟨(some (.r (.l .z))), .mv (.c (.int .i64 0)), none, none, []⟩])
  (.seq (.region true 0 [
    ⟨(some (.l (.r .z))), .fieldA 2 (.t (.r .z)), none, none, []⟩,
    ⟨(some (.r (.r .z))), .load false 1 (.t (.l (.r .z))), none, none, [0]⟩,
    ⟨(some (.l (.l (.l .z)))), .mv (.t (.l .z)), none, none, []⟩,
    ⟨(some (.r (.l (.l .z)))), .fieldA 4 (.t (.r .z)), none, none, []⟩,
    ⟨(some (.l (.r (.l .z)))), .load false 1 (.t (.r (.l (.l .z)))), none, none, [3]⟩,
    ⟨(some (.r (.r (.l .z)))), .bin .add (.t (.l (.l (.l .z)))) (.t (.l (.r (.l .z)))), none, none, [2, 3, 4]⟩,
    ⟨(some (.l (.l (.r .z)))), .bin .sub (.t (.r (.r (.l .z)))) (.c (.int .i64 1)), none, none, [2, 3, 4, 5]⟩,
    ⟨(some (.r (.l (.r .z)))), .fieldA 4 (.t (.r .z)), none, none, []⟩,
    ⟨(some (.l (.r (.r .z)))), .load false 1 (.t (.r (.l (.r .z)))), none, none, [7]⟩,
    ⟨(some (.r (.r (.r .z)))), .bin .quo (.t (.l (.l (.r .z)))) (.t (.l (.r (.r .z)))), none, none, [2, 3, 4, 5, 6, 7, 8]⟩,
    ⟨(some (.l (.l (.l (.l .z))))), .bin .add (.t (.r (.r .z))) (.t (.r (.r (.r .z)))), none, none, [0, 1, 2, 3, 4, 5, 6, 7, 8, 9]⟩,
    ⟨(some (.r (.l .z))), .mv (.t (.l (.l (.l (.l .z))))), none, none, [0, 1, 2, 3, 4, 5, 6, 7, 8, 9, 10]⟩])
  .ret))⟩
def AF96 : AFunc := ⟨15, [.tmp (.r (.r .z))],
  (.seq (.region false 0 [
    ⟨(some (.r (.r .z))), .mv (.c (.bool false)), none, none, []⟩])
  (.seq (.region false 0 [
    ⟨(some (.l (.l (.l .z)))), .mv (.t .z), none, none, []⟩,
    ⟨(some (.r (.l (.l .z)))), .mv (.t (.l .z)), none, none, []⟩,
    ⟨(some (.l (.r (.l .z)))), .bin .geq (.t (.l (.l (.l .z)))) (.t (.r (.l (.l .z)))), none, none, []⟩,
    ⟨(some (.r (.r (.l .z)))), .mv (.t (.l (.r (.l .z)))), none, none, []⟩,
    ⟨(some (.l (.l (.r .z)))), .mv (.t .z), (some ((.r (.r (.l .z))), true)), none, []⟩,
    ⟨(some (.r (.l (.r .z)))), .mv (.t (.r .z)), (some ((.r (.r (.l .z))), true)), none, []⟩,
    ⟨(some (.l (.r (.r .z)))), .bin .leq (.t (.l (.l (.r .z)))) (.t (.r (.l (.r .z)))), (some ((.r (.r (.l .z))), true)), none, []⟩,
    ⟨(some (.r (.r (.r .z)))), .pick (.t (.r (.r (.l .z)))) (.t (.l (.r (.r .z)))) (.c (.bool false)), none, none, []⟩,
    ⟨(some (.r (.r .z))), .mv (.t (.r (.r (.r .z)))), none, none, []⟩])
  .ret))⟩
def AF97 : AFunc := ⟨19, [.tmp (.r (.l .z))],
  (.seq (.region false 0 [
    ⟨(some (.r .z)), .box 6 6 (.t .z), none, none, []⟩,
    ⟨(some (.r (.l .z))), .mv (.c (.int .i64 0)), none, none, []⟩])
  (.seq (.seq (.region false 0 [
    ⟨(some (.l (.r .z))), .mv (.t (.l .z)), none, none, []⟩,
    ⟨(some (.r (.r .z))), .fieldA 2 (.t (.r .z)), none, none, []⟩,
    ⟨(some (.l (.l (.l .z)))), .load false 1 (.t (.r (.r .z))), none, none, []⟩,
    ⟨(some (.r (.l (.l .z)))), .bin .leq (.t (.l (.r .z))) (.t (.l (.l (.l .z)))), none, none, []⟩])
  (.cond (.t (.r (.l (.l .z))))
  (.seq (.region false 0 [
     ⟨(some (.r (.l .z))), .mv (.c (.int .i64 0)), none, none, []⟩])
   .ret)
  .skip))
  (.seq (.region false 0 [
    ⟨(some (.l (.r (.l .z)))), .fieldA 4 (.t (.r .z)), none, none, []⟩,
    ⟨(some (.r (.r (.l .z)))), .load false 1 (.t (.l (.r (.l .z)))), none, none, []⟩,
    ⟨(some (.l (.l (.r .z)))), .mv (.t (.l .z)), none, none, []⟩,
    ⟨(some (.r (.l (.r .z)))), .fieldA 3 (.t (.r .z)), none, none, []⟩,
    ⟨(some (.l (.r (.r .z)))), .load false 1 (.t (.r (.l (.r .z)))), none, none, []⟩,
    ⟨(some (.r (.r (.r .z)))), .minmax false [(.t (.l (.l (.r .z)))), (.t (.l (.r (.r .z))))], none, none, []⟩,
    ⟨(some (.l (.l (.l (.l .z))))), .fieldA 2 (.t (.r .z)), none, none, []⟩,
    ⟨(some (.r (.l (.l (.l .z))))), .load false 1 (.t (.l (.l (.l (.l .z))))), none, none, []⟩,
    ⟨(some (.l (.r (.l (.l .z))))), .bin .sub (.t (.r (.r (.r .z)))) (.t (.r (.l (.l (.l .z))))), none, none, []⟩,
    ⟨(some (.r (.r (.l (.l .z))))), .bin .mul (.t (.r (.r (.l .z)))) (.t (.l (.r (.l (.l .z))))), none, none, []⟩,
    ⟨(some (.r (.l .z))), .mv (.t (.r (.r (.l (.l .z))))), none, none, []⟩])
  .ret)))⟩
def AF115 : AFunc := ⟨18, [.tmp (.r (.r .z))],
  (.seq (.region false 0 [
    ⟨(some (.r (.r .z))), .mv (.c (.bool false)), none, none, []⟩])
  (.seq (.region true 0 [
    ⟨(some (.l (.l (.l .z)))), .mv (.t .z), none, none, []⟩,
    ⟨(some (.r (.l (.l .z)))), .mv (.t (.l .z)), none, none, []⟩,
    ⟨(some (.l (.r (.l .z)))), .idxS 2 (.t (.l (.l (.l .z)))) (.t (.r (.l (.l .z)))), none, none, [0, 1]⟩,
    ⟨(some (.r (.r (.l .z)))), .fieldA 1 (.t (.l (.r (.l .z)))), none, none, [0, 1, 2]⟩,
    ⟨(some (.l (.l (.r .z)))), .load false 1 (.t (.r (.r (.l .z)))), none, none, [0, 1, 2, 3]⟩,
    ⟨(some (.r (.l (.r .z)))), .mv (.t .z), none, none, []⟩,
    ⟨(some (.l (.r (.r .z)))), .mv (.t (.r .z)), none, none, []⟩,
    ⟨(some (.r (.r (.r .z)))), .idxS 2 (.t (.r (.l (.r .z)))) (.t (.l (.r (.r .z)))), none, none, [5, 6]⟩,
    ⟨(some (.l (.l (.l (.l .z))))), .fieldA 1 (.t (.r (.r (.r .z)))), none, none, [5, 6, 7]⟩,
    ⟨(some (.r (.l (.l (.l .z))))), .load false 1 (.t (.l (.l (.l (.l .z))))), none, none, [5, 6, 7, 8]⟩,
    ⟨(some (.l (.r (.l (.l .z))))), .bin .lss (.t (.l (.l (.r .z)))) (.t (.r (.l (.l (.l .z))))), none, none, [0, 1, 2, 3, 4, 5, 6, 7, 8, 9]⟩,
    ⟨(some (.r (.r .z))), .mv (.t (.l (.r (.l (.l .z))))), none, none, [0, 1, 2, 3, 4, 5, 6, 7, 8, 9, 10]⟩])
  .ret))⟩
def AF116 : AFunc := ⟨27, [.tmp (.r .z)],
  (.seq (.region false 0 [
    ⟨(some (.r .z)), .mv (.c .nilIface), none, none, []⟩])
  (.seq (.region true 1 [
    ⟨(some (.r (.l .z))), .mv (.t .z), none, none, []⟩,
    ⟨(some (.l (.r .z))), .nilc (.t (.r (.l .z))), none, none, [0]⟩,
    ⟨(some (.r (.r .z))), .load false 1 (.t (.l (.r .z))), none, none, [0, 1]⟩,
    ⟨(some (.l (.l (.l .z)))), .mv (.t .z), none, none, []⟩,
    ⟨(some (.r (.l (.l .z)))), .nilc (.t (.l (.l (.l .z)))), none, none, [3]⟩,
    ⟨(some (.l (.r (.l .z)))), .load false 1 (.t (.r (.l (.l .z)))), none, none, [3, 4]⟩,
    ⟨(some (.r (.r (.l .z)))), .len .slice (.t (.l (.r (.l .z)))), none, none, [3, 4, 5]⟩,
    ⟨(some (.l (.l (.r .z)))), .bin .sub (.t (.r (.r (.l .z)))) (.c (.int .i64 1)), none, none, [3, 4, 5, 6]⟩,
    ⟨(some (.r (.l (.r .z)))), .idxS 2 (.t (.r (.r .z))) (.t (.l (.l (.r .z)))), none, none, [0, 1, 2, 3, 4, 5, 6, 7]⟩,
    ⟨(some (.l (.r (.r .z)))), .load true 2 (.t (.r (.l (.r .z)))), none, none, [0, 1, 2, 3, 4, 5, 6, 7, 8]⟩,
    ⟨(some (.l (.l .z))), .alloc 2 [[(.int .i64 0), (.int .i64 0)]], none, (some 0), []⟩,
    ⟨none, .store 2 (.t (.l (.l .z))) (.t (.l (.r (.r .z)))), none, none, [0, 1, 2, 3, 4, 5, 6, 7, 8, 9, 10]⟩])
  (.seq (.region true 0 [
    ⟨(some (.r (.r (.r .z)))), .mv (.t .z), none, none, []⟩,
    ⟨(some (.l (.l (.l (.l .z))))), .mv (.t .z), none, none, []⟩,
    ⟨(some (.r (.l (.l (.l .z))))), .nilc (.t (.l (.l (.l (.l .z))))), none, none, [1]⟩,
    ⟨(some (.l (.r (.l (.l .z))))), .load false 1 (.t (.r (.l (.l (.l .z))))), none, none, [1, 2]⟩,
    ⟨(some (.r (.r (.l (.l .z))))), .mv (.t .z), none, none, []⟩,
    ⟨(some (.l (.l (.r (.l .z))))), .nilc (.t (.r (.r (.l (.l .z))))), none, none, [4]⟩,
    ⟨(some (.r (.l (.r (.l .z))))), .load false 1 (.t (.l (.l (.r (.l .z))))), none, none, [4, 5]⟩,
    ⟨(some (.l (.r (.r (.l .z))))), .len .slice (.t (.r (.l (.r (.l .z))))), none, none, [4, 5, 6]⟩,
    ⟨(some (.r (.r (.r (.l .z))))), .bin .sub (.t (.l (.r (.r (.l .z))))) (.c (.int .i64 1)), none, none, [4, 5, 6, 7]⟩,
    ⟨(some (.l (.l (.l (.r .z))))), .sliceS 2 (.t (.l (.r (.l (.l .z))))) none (some (.t (.r (.r (.r (.l .z)))))) none, none, none, [1, 2, 3, 4, 5, 6, 7, 8]⟩,
    ⟨(some (.r (.l (.l (.r .z))))), .nilc (.t (.r (.r (.r .z)))), none, none, [0, 1, 2, 3, 4, 5, 6, 7, 8, 9]⟩,
    ⟨none, .store 1 (.t (.r (.l (.l (.r .z))))) (.t (.l (.l (.l (.r .z))))), none, none, [0, 1, 2, 3, 4, 5, 6, 7, 8, 9, 10]⟩])
  (.seq (.region false 0 [
    ⟨(some (.l (.r (.l (.r .z))))), .load true 2 (.t (.l (.l .z))), none, none, []⟩,
    ⟨(some (.r (.r (.l (.r .z))))), .iface 128 (.t (.l (.r (.l (.r .z))))), none, none, []⟩,
    ⟨(some (.r .z)), .mv (.t (.r (.r (.l (.r .z))))), none, none, []⟩])
  .ret))))⟩
def AF117 : AFunc := ⟨13, [],
  (.region true 1 [
    ⟨(some (.r (.l .z))), .mv (.t .z), none, none, []⟩,
    ⟨(some (.l (.r .z))), .mv (.t .z), none, none, []⟩,
    ⟨(some (.r (.r .z))), .nilc (.t (.l (.r .z))), none, none, [1]⟩,
    ⟨(some (.l (.l (.l .z)))), .load false 1 (.t (.r (.r .z))), none, none, [1, 2]⟩,
    ⟨(some (.r (.l (.l .z)))), .mv (.t (.l .z)), none, none, []⟩,
    ⟨(some (.l (.r (.l .z)))), .tassert 128 false (.t (.r (.l (.l .z)))), none, none, [4]⟩,
    ⟨(some (.r (.r (.l .z)))), .slit 2 1 [(.int .i64 0), (.int .i64 0)] [(0, (.t (.l (.r (.l .z)))))], none, (some 0), [4, 5]⟩,
    ⟨(some (.l (.l (.r .z)))), .app 2 16 (.t (.l (.l (.l .z)))) (.t (.r (.r (.l .z)))), none, none, [1, 2, 3, 4, 5, 6]⟩,
    ⟨(some (.r (.l (.r .z)))), .nilc (.t (.r (.l .z))), none, none, [0, 1, 2, 3, 4, 5, 6, 7]⟩,
    ⟨none, .store 1 (.t (.r (.l (.r .z)))) (.t (.l (.l (.r .z)))), none, none, [0, 1, 2, 3, 4, 5, 6, 7, 8]⟩])⟩
def AF118 : AFunc := ⟨20, [],
  (.region true 0 [
    ⟨(some (.r (.r .z))), .mv (.t .z), none, none, []⟩,
    ⟨(some (.l (.l (.l .z)))), .mv (.t (.l .z)), none, none, []⟩,
    ⟨(some (.r (.l (.l .z)))), .mv (.t .z), none, none, []⟩,
    ⟨(some (.l (.r (.l .z)))), .mv (.t (.r .z)), none, none, []⟩,
    ⟨(some (.r (.r (.l .z)))), .mv (.t .z), none, none, []⟩,
    ⟨(some (.l (.l (.r .z)))), .mv (.t (.r .z)), none, none, []⟩,
    ⟨(some (.r (.l (.r .z)))), .idxS 2 (.t (.r (.r (.l .z)))) (.t (.l (.l (.r .z)))), none, none, [4, 5]⟩,
    ⟨(some (.l (.r (.r .z)))), .load true 2 (.t (.r (.l (.r .z)))), none, none, [4, 5, 6]⟩,
    ⟨(some (.r (.r (.r .z)))), .mv (.t .z), none, none, []⟩,
    ⟨(some (.l (.l (.l (.l .z))))), .mv (.t (.l .z)), none, none, []⟩,
    ⟨(some (.r (.l (.l (.l .z))))), .idxS 2 (.t (.r (.r (.r .z)))) (.t (.l (.l (.l (.l .z))))), none, none, [8, 9]⟩,
    ⟨(some (.l (.r (.l (.l .z))))), .load true 2 (.t (.r (.l (.l (.l .z))))), none, none, [8, 9, 10]⟩,
    ⟨(some (.r (.r (.l (.l .z))))), .idxS 2 (.t (.r (.r .z))) (.t (.l (.l (.l .z)))), none, none, [0, 1, 4, 5, 6, 7, 8, 9, 10, 11]⟩,
    ⟨none, .store 2 (.t (.r (.r (.l (.l .z))))) (.t (.l (.r (.r .z)))), none, none, [0, 1, 4, 5, 6, 7, 8, 9, 10, 11, 12]⟩,
    ⟨(some (.l (.l (.r (.l .z))))), .idxS 2 (.t (.r (.l (.l .z)))) (.t (.l (.r (.l .z)))), none, none, [0, 1, 2, 3, 4, 5, 6, 7, 8, 9, 10, 11, 12, 13]⟩,
    ⟨none, .store 2 (.t (.l (.l (.r (.l .z))))) (.t (.l (.r (.l (.l .z))))), none, none, [0, 1, 2, 3, 4, 5, 6, 7, 8, 9, 10, 11, 12, 13, 14]⟩])⟩
end Go.Proofs.YtcphofamajcimaaDoor
end
