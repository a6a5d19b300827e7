/- The functions of the program as the evaluator's code: tables.
   Conditions: none. -/
import Derived.Test.YtfhkpeggifapmaaGreatDoorEv1
noncomputable section
namespace Go.Proofs.YtfhkpeggifapmaaGreatDoor
open Go Go.Abs
set_option maxRecDepth 100000
def AF3 : AFunc := ⟨167, [.tmp .z],
  (.seq (.region false 0 [
    ⟨(some .z), .mv (.c (.bool false)), none, none, []⟩])
  (.seq (.region false 0 [
    ⟨(some (.r (.r (.l .z)))), .call 5 [], none, none, []⟩,
    ⟨(some (.l (.l (.r .z)))), .call 4 [(.t (.r (.r (.l .z)))), (.c .nilslice)], none, none, []⟩,
    ⟨(some (.l (.r (.l .z)))), .mv (.t (.l (.l (.r .z)))), none, none, []⟩,
    ⟨(some (.r (.l (.r .z)))), .ext (.t (.l (.r (.l .z)))) 0, none, none, []⟩,
    ⟨(some (.l (.r (.r .z)))), .ext (.t (.l (.r (.l .z)))) 1, none, none, []⟩,
    ⟨(some (.l .z)), .mv (.t (.r (.l (.r .z)))), none, none, []⟩,
    ⟨(some (.r .z)), .mv (.t (.l (.r (.r .z)))), none, none, []⟩])
  (.seq (.region false 0 [
    ⟨(some (.l (.l (.l (.l .z))))), .call 7 [], none, none, []⟩,
    ⟨(some (.r (.l (.l (.l .z))))), .call 8 [], none, none, []⟩,
    ⟨(some (.l (.r (.l (.l .z))))), .field 0 3 true (.t (.r (.l (.l (.l .z))))), none, none, []⟩,
    ⟨(some (.r (.r (.l (.l .z))))), .call 6 [(.t (.l (.l (.l (.l .z))))), (.t (.l (.r (.l (.l .z)))))], none, none, []⟩,
    ⟨(some (.r (.r (.r .z)))), .mv (.t (.r (.r (.l (.l .z))))), none, none, []⟩,
    ⟨(some (.l (.l (.r (.l .z))))), .ext (.t (.r (.r (.r .z)))) 0, none, none, []⟩,
    ⟨(some (.r (.l (.r (.l .z))))), .ext (.t (.r (.r (.r .z)))) 1, none, none, []⟩,
    ⟨(some (.l (.l .z))), .mv (.t (.l (.l (.r (.l .z))))), none, none, []⟩,
    ⟨(some (.r (.l .z))), .mv (.t (.r (.l (.r (.l .z))))), none, none, []⟩])
  (.seq (.seq (.region false 0 [
    ⟨(some (.l (.r (.r (.l .z))))), .mv (.t (.l .z)), none, none, []⟩,
    ⟨(some (.r (.r (.r (.l .z))))), .len .slice (.t (.l (.r (.r (.l .z))))), none, none, []⟩,
    ⟨(some (.l (.l (.l (.r .z))))), .eql true false [.i] (.t (.r (.r (.r (.l .z))))) (.c (.int .i64 0)), none, none, []⟩,
    ⟨(some (.r (.l (.l (.r .z))))), .mv (.t (.l (.l (.l (.r .z))))), none, none, []⟩,
    ⟨(some (.l (.r (.l (.r .z))))), .mv (.t (.r .z)), (some ((.r (.l (.l (.r .z)))), false)), none, []⟩,
    ⟨(some (.r (.r (.l (.r .z))))), .eql true false [.i] (.t (.l (.r (.l (.r .z))))) (.c (.int .i64 0)), (some ((.r (.l (.l (.r .z)))), false)), none, []⟩,
    ⟨(some (.l (.l (.r (.r .z))))), .pick (.t (.r (.l (.l (.r .z))))) (.c (.bool true)) (.t (.r (.r (.l (.r .z))))), none, none, []⟩,
    ⟨(some (.r (.l (.r (.r .z))))), .mv (.t (.l (.l (.r (.r .z))))), none, none, []⟩,
    ⟨(some (.l (.r (.r (.r .z))))), .mv (.t (.l (.l .z))), (some ((.r (.l (.r (.r .z)))), false)), none, []⟩,
    ⟨(some (.r (.r (.r (.r .z))))), .slit 1 1 [(.int .i64 0)] [(0, (.c (.int .i64 1)))], (some ((.r (.l (.r (.r .z)))), false)), none, []⟩,
    ⟨(some (.l (.l (.l (.l (.l .z)))))), .call 9 [(.t (.l (.r (.r (.r .z))))), (.t (.r (.r (.r (.r .z)))))], (some ((.r (.l (.r (.r .z)))), false)), none, []⟩,
    ⟨(some (.r (.l (.l (.l (.l .z)))))), .un .not (.t (.l (.l (.l (.l (.l .z)))))), (some ((.r (.l (.r (.r .z)))), false)), none, []⟩,
    ⟨(some (.l (.r (.l (.l (.l .z)))))), .pick (.t (.r (.l (.r (.r .z))))) (.c (.bool true)) (.t (.r (.l (.l (.l (.l .z)))))), none, none, []⟩,
    ⟨(some (.r (.r (.l (.l (.l .z)))))), .mv (.t (.l (.r (.l (.l (.l .z)))))), none, none, []⟩,
    ⟨(some (.l (.l (.r (.l (.l .z)))))), .mv (.t (.r (.l .z))), (some ((.r (.r (.l (.l (.l .z))))), false)), none, []⟩,
    ⟨(some (.r (.l (.r (.l (.l .z)))))), .eql true false [.i] (.t (.l (.l (.r (.l (.l .z)))))) (.c (.int .i64 0)), (some ((.r (.r (.l (.l (.l .z))))), false)), none, []⟩,
    ⟨(some (.l (.r (.r (.l (.l .z)))))), .pick (.t (.r (.r (.l (.l (.l .z)))))) (.c (.bool true)) (.t (.r (.l (.r (.l (.l .z)))))), none, none, []⟩,
    ⟨(some (.r (.r (.r (.l (.l .z)))))), .mv (.t (.l (.r (.r (.l (.l .z)))))), none, none, []⟩,
    ⟨(some (.l (.l (.l (.r (.l .z)))))), .call 7 [], (some ((.r (.r (.r (.l (.l .z))))), false)), none, []⟩,
    ⟨(some (.r (.l (.l (.r (.l .z)))))), .call 8 [], (some ((.r (.r (.r (.l (.l .z))))), false)), none, []⟩,
    ⟨(some (.l (.r (.l (.r (.l .z)))))), .field 0 3 true (.t (.r (.l (.l (.r (.l .z)))))), (some ((.r (.r (.r (.l (.l .z))))), false)), none, []⟩,
    ⟨(some (.r (.r (.l (.r (.l .z)))))), .build [(.int .i64 0), (.int .i64 0), (.int .i64 0), (.int .i64 0), (.int .u64 0), (.int .i64 0)] [(0, 1, (.c (.int .i64 4))), (1, 1, (.c (.int .i64 1))), (3, 3, (.t (.l (.r (.l (.r (.l .z)))))))], (some ((.r (.r (.r (.l (.l .z))))), false)), none, []⟩,
    ⟨(some (.l (.l (.r (.r (.l .z)))))), .slit 6 1 [(.int .i64 0), (.int .i64 0), (.int .i64 0), (.int .i64 0), (.int .u64 0), (.int .i64 0)] [(0, (.t (.r (.r (.l (.r (.l .z)))))))], (some ((.r (.r (.r (.l (.l .z))))), false)), none, []⟩,
    ⟨(some (.r (.l (.r (.r (.l .z)))))), .call 10 [(.t (.l (.l (.l (.r (.l .z)))))), (.c .nilslice), (.t (.l (.l (.r (.r (.l .z))))))], (some ((.r (.r (.r (.l (.l .z))))), false)), none, []⟩,
    ⟨(some (.l (.r (.r (.r (.l .z)))))), .un .not (.t (.r (.l (.r (.r (.l .z)))))), (some ((.r (.r (.r (.l (.l .z))))), false)), none, []⟩,
    ⟨(some (.r (.r (.r (.r (.l .z)))))), .pick (.t (.r (.r (.r (.l (.l .z)))))) (.c (.bool true)) (.t (.l (.r (.r (.r (.l .z)))))), none, none, []⟩,
    ⟨(some (.l (.l (.l (.l (.r .z)))))), .mv (.t (.r (.r (.r (.r (.l .z)))))), none, none, []⟩,
    ⟨(some (.r (.l (.l (.l (.r .z)))))), .call 7 [], (some ((.l (.l (.l (.l (.r .z))))), false)), none, []⟩,
    ⟨(some (.l (.r (.l (.l (.r .z)))))), .call 8 [], (some ((.l (.l (.l (.l (.r .z))))), false)), none, []⟩,
    ⟨(some (.r (.r (.l (.l (.r .z)))))), .slit 9 1 [(.int .i64 0), (.int .u64 0), (.int .i64 0), (.int .i64 0), (.int .i64 0), (.int .i64 0), (.int .i64 0), (.int .i64 0), (.str [])] [(0, (.t (.l (.r (.l (.l (.r .z)))))))], (some ((.l (.l (.l (.l (.r .z))))), false)), none, []⟩,
    ⟨(some (.l (.l (.r (.l (.r .z)))))), .call 10 [(.t (.r (.l (.l (.l (.r .z)))))), (.t (.r (.r (.l (.l (.r .z)))))), (.c .nilslice)], (some ((.l (.l (.l (.l (.r .z))))), false)), none, []⟩,
    ⟨(some (.r (.l (.r (.l (.r .z)))))), .un .not (.t (.l (.l (.r (.l (.r .z)))))), (some ((.l (.l (.l (.l (.r .z))))), false)), none, []⟩,
    ⟨(some (.l (.r (.r (.l (.r .z)))))), .pick (.t (.l (.l (.l (.l (.r .z)))))) (.c (.bool true)) (.t (.r (.l (.r (.l (.r .z)))))), none, none, []⟩])
  (.cond (.t (.l (.r (.r (.l (.r .z))))))
  (.seq (.region false 0 [
     ⟨(some .z), .mv (.c (.bool false)), none, none, []⟩])
   .ret)
  .skip))
  (.seq (.region false 0 [
    ⟨(some (.r (.r (.r (.l (.r .z)))))), .call 7 [], none, none, []⟩,
    ⟨(some (.l (.l (.l (.r (.r .z)))))), .call 7 [], none, none, []⟩,
    ⟨(some (.l (.r .z))), .alloc 3 [[(.int .i64 0), .nilslice, .nilslice]], none, none, []⟩,
    ⟨(some (.r (.r .z))), .alloc 3 [[(.int .i64 0), .nilslice, .nilslice]], none, none, []⟩,
    ⟨none, .store 3 (.t (.l (.r .z))) (.t (.r (.r (.r (.l (.r .z)))))), none, none, []⟩,
    ⟨none, .store 3 (.t (.r (.r .z))) (.t (.l (.l (.l (.r (.r .z)))))), none, none, []⟩])
  (.seq (.region true 0 [
    ⟨(some (.r (.l (.l (.r (.r .z)))))), .fieldA 1 (.t (.l (.r .z))), none, none, []⟩,
    ⟨(some (.l (.r (.l (.r (.r .z)))))), .load false 1 (.t (.r (.l (.l (.r (.r .z)))))), none, none, [0]⟩,
    ⟨(some (.r (.r (.l (.r (.r .z)))))), .fieldA 1 (.t (.r (.r .z))), none, none, []⟩,
    ⟨(some (.l (.l (.r (.r (.r .z)))))), .load false 1 (.t (.r (.r (.l (.r (.r .z)))))), none, none, [2]⟩,
    ⟨(some (.r (.l (.r (.r (.r .z)))))), .idxS 26 (.t (.l (.r (.l (.r (.r .z)))))) (.c (.int .i64 0)), none, none, [0, 1]⟩,
    ⟨(some (.l (.r (.r (.r (.r .z)))))), .fieldA 0 (.t (.r (.l (.r (.r (.r .z)))))), none, none, [0, 1, 4]⟩,
    ⟨(some (.r (.r (.r (.r (.r .z)))))), .fieldA 1 (.t (.l (.r (.r (.r (.r .z)))))), none, none, [0, 1, 4, 5]⟩,
    ⟨none, .store 1 (.t (.r (.r (.r (.r (.r .z)))))) (.c (.int .u64 13)), none, none, [0, 1, 4, 5, 6]⟩,
    ⟨(some (.l (.l (.l (.l (.l (.l .z))))))), .idxS 26 (.t (.l (.l (.r (.r (.r .z)))))) (.c (.int .i64 0)), none, none, [0, 1, 2, 3, 4, 5, 6, 7]⟩,
    ⟨(some (.r (.l (.l (.l (.l (.l .z))))))), .fieldA 0 (.t (.l (.l (.l (.l (.l (.l .z))))))), none, none, [0, 1, 2, 3, 4, 5, 6, 7, 8]⟩,
    ⟨(some (.l (.r (.l (.l (.l (.l .z))))))), .fieldA 1 (.t (.r (.l (.l (.l (.l (.l .z))))))), none, none, [0, 1, 2, 3, 4, 5, 6, 7, 8, 9]⟩,
    ⟨none, .store 1 (.t (.l (.r (.l (.l (.l (.l .z))))))) (.c (.int .u64 14)), none, none, [0, 1, 2, 3, 4, 5, 6, 7, 8, 9, 10]⟩])
  (.seq (.region true 0 [
    ⟨(some (.r (.r (.l (.l (.l (.l .z))))))), .fieldA 1 (.t (.l (.r .z))), none, none, []⟩,
    ⟨(some (.l (.l (.r (.l (.l (.l .z))))))), .load false 1 (.t (.r (.r (.l (.l (.l (.l .z))))))), none, none, [0]⟩,
    ⟨(some (.r (.l (.r (.l (.l (.l .z))))))), .fieldA 1 (.t (.l (.r .z))), none, none, []⟩,
    ⟨(some (.l (.r (.r (.l (.l (.l .z))))))), .load false 1 (.t (.r (.l (.r (.l (.l (.l .z))))))), none, none, [2]⟩,
    ⟨(some (.r (.r (.r (.l (.l (.l .z))))))), .fieldA 1 (.t (.r (.r .z))), none, none, []⟩,
    ⟨(some (.l (.l (.l (.r (.l (.l .z))))))), .load false 1 (.t (.r (.r (.r (.l (.l (.l .z))))))), none, none, [4]⟩,
    ⟨(some (.r (.l (.l (.r (.l (.l .z))))))), .fieldA 1 (.t (.r (.r .z))), none, none, []⟩,
    ⟨(some (.l (.r (.l (.r (.l (.l .z))))))), .load false 1 (.t (.r (.l (.l (.r (.l (.l .z))))))), none, none, [6]⟩,
    ⟨(some (.r (.r (.l (.r (.l (.l .z))))))), .idxS 26 (.t (.l (.l (.r (.l (.l (.l .z))))))) (.c (.int .i64 0)), none, none, [0, 1]⟩,
    ⟨(some (.l (.l (.r (.r (.l (.l .z))))))), .fieldA 0 (.t (.r (.r (.l (.r (.l (.l .z))))))), none, none, [0, 1, 8]⟩,
    ⟨(some (.r (.l (.r (.r (.l (.l .z))))))), .fieldA 3 (.t (.l (.l (.r (.r (.l (.l .z))))))), none, none, [0, 1, 8, 9]⟩,
    ⟨none, .store 1 (.t (.r (.l (.r (.r (.l (.l .z))))))) (.c (.int .u64 0)), none, none, [0, 1, 8, 9, 10]⟩,
    ⟨(some (.l (.r (.r (.r (.l (.l .z))))))), .idxS 26 (.t (.l (.r (.r (.l (.l (.l .z))))))) (.c (.int .i64 0)), none, none, [0, 1, 2, 3, 8, 9, 10, 11]⟩,
    ⟨(some (.r (.r (.r (.r (.l (.l .z))))))), .fieldA 0 (.t (.l (.r (.r (.r (.l (.l .z))))))), none, none, [0, 1, 2, 3, 8, 9, 10, 11, 12]⟩,
    ⟨(some (.l (.l (.l (.l (.r (.l .z))))))), .fieldA 4 (.t (.r (.r (.r (.r (.l (.l .z))))))), none, none, [0, 1, 2, 3, 8, 9, 10, 11, 12, 13]⟩,
    ⟨none, .store 1 (.t (.l (.l (.l (.l (.r (.l .z))))))) (.c (.int .u64 0)), none, none, [0, 1, 2, 3, 8, 9, 10, 11, 12, 13, 14]⟩,
    ⟨(some (.r (.l (.l (.l (.r (.l .z))))))), .idxS 26 (.t (.l (.l (.l (.r (.l (.l .z))))))) (.c (.int .i64 0)), none, none, [0, 1, 2, 3, 4, 5, 8, 9, 10, 11, 12, 13, 14, 15]⟩,
    ⟨(some (.l (.r (.l (.l (.r (.l .z))))))), .fieldA 0 (.t (.r (.l (.l (.l (.r (.l .z))))))), none, none, [0, 1, 2, 3, 4, 5, 8, 9, 10, 11, 12, 13, 14, 15, 16]⟩,
    ⟨(some (.r (.r (.l (.l (.r (.l .z))))))), .fieldA 3 (.t (.l (.r (.l (.l (.r (.l .z))))))), none, none, [0, 1, 2, 3, 4, 5, 8, 9, 10, 11, 12, 13, 14, 15, 16, 17]⟩,
    ⟨none, .store 1 (.t (.r (.r (.l (.l (.r (.l .z))))))) (.c (.int .u64 0)), none, none, [0, 1, 2, 3, 4, 5, 8, 9, 10, 11, 12, 13, 14, 15, 16, 17, 18]⟩,
    ⟨(some (.l (.l (.r (.l (.r (.l .z))))))), .idxS 26 (.t (.l (.r (.l (.r (.l (.l .z))))))) (.c (.int .i64 0)), none, none, [0, 1, 2, 3, 4, 5, 6, 7, 8, 9, 10, 11, 12, 13, 14, 15, 16, 17, 18, 19]⟩,
    ⟨(some (.r (.l (.r (.l (.r (.l .z))))))), .fieldA 0 (.t (.l (.l (.r (.l (.r (.l .z))))))), none, none, [0, 1, 2, 3, 4, 5, 6, 7, 8, 9, 10, 11, 12, 13, 14, 15, 16, 17, 18, 19, 20]⟩,
    ⟨(some (.l (.r (.r (.l (.r (.l .z))))))), .fieldA 4 (.t (.r (.l (.r (.l (.r (.l .z))))))), none, none, [0, 1, 2, 3, 4, 5, 6, 7, 8, 9, 10, 11, 12, 13, 14, 15, 16, 17, 18, 19, 20, 21]⟩,
    ⟨none, .store 1 (.t (.l (.r (.r (.l (.r (.l .z))))))) (.c (.int .u64 0)), none, none, [0, 1, 2, 3, 4, 5, 6, 7, 8, 9, 10, 11, 12, 13, 14, 15, 16, 17, 18, 19, 20, 21, 22]⟩])
  (.seq (.region false 0 [
    ⟨(some (.l (.l (.l (.r (.r (.l .z))))))), .load true 3 (.t (.l (.r .z))), none, none, []⟩,
    ⟨(some (.r (.l (.l (.r (.r (.l .z))))))), .call 11 [(.t (.l (.l (.l (.r (.r (.l .z)))))))], none, none, []⟩,
    ⟨(some (.r (.r (.r (.l (.r (.l .z))))))), .mv (.t (.r (.l (.l (.r (.r (.l .z))))))), none, none, []⟩,
    ⟨(some (.l (.r (.l (.r (.r (.l .z))))))), .ext (.t (.r (.r (.r (.l (.r (.l .z))))))) 0, none, none, []⟩,
    ⟨(some (.r (.r (.l (.r (.r (.l .z))))))), .ext (.t (.r (.r (.r (.l (.r (.l .z))))))) 1, none, none, []⟩,
    ⟨(some (.l (.l (.l .z)))), .mv (.t (.l (.r (.l (.r (.r (.l .z))))))), none, none, []⟩,
    ⟨(some (.r .z)), .mv (.t (.r (.r (.l (.r (.r (.l .z))))))), none, none, []⟩])
  (.seq (.region false 0 [
    ⟨(some (.r (.l (.r (.r (.r (.l .z))))))), .load true 3 (.t (.r (.r .z))), none, none, []⟩,
    ⟨(some (.l (.r (.r (.r (.r (.l .z))))))), .call 11 [(.t (.r (.l (.r (.r (.r (.l .z)))))))], none, none, []⟩,
    ⟨(some (.l (.l (.r (.r (.r (.l .z))))))), .mv (.t (.l (.r (.r (.r (.r (.l .z))))))), none, none, []⟩,
    ⟨(some (.r (.r (.r (.r (.r (.l .z))))))), .ext (.t (.l (.l (.r (.r (.r (.l .z))))))) 0, none, none, []⟩,
    ⟨(some (.l (.l (.l (.l (.l (.r .z))))))), .ext (.t (.l (.l (.r (.r (.r (.l .z))))))) 1, none, none, []⟩,
    ⟨(some (.r (.l (.l .z)))), .mv (.t (.r (.r (.r (.r (.r (.l .z))))))), none, none, []⟩,
    ⟨(some (.r (.l .z))), .mv (.t (.l (.l (.l (.l (.l (.r .z))))))), none, none, []⟩])
  (.seq (.seq (.region false 0 [
    ⟨(some (.r (.l (.l (.l (.l (.r .z))))))), .mv (.t (.l (.l (.l .z)))), none, none, []⟩,
    ⟨(some (.l (.r (.l (.l (.l (.r .z))))))), .build [(.int .i64 0), (.int .i64 0), (.int .i64 0), (.int .i64 0), (.int .u64 0), (.int .i64 0)] [(0, 1, (.c (.int .i64 1))), (1, 1, (.c (.int .i64 1)))], none, none, []⟩,
    ⟨(some (.r (.r (.l (.l (.l (.r .z))))))), .slit 6 1 [(.int .i64 0), (.int .i64 0), (.int .i64 0), (.int .i64 0), (.int .u64 0), (.int .i64 0)] [(0, (.t (.l (.r (.l (.l (.l (.r .z))))))))], none, none, []⟩,
    ⟨(some (.l (.l (.r (.l (.l (.r .z))))))), .call 12 [(.t (.r (.l (.l (.l (.l (.r .z))))))), (.t (.r (.r (.l (.l (.l (.r .z)))))))], none, none, []⟩,
    ⟨(some (.r (.l (.r (.l (.l (.r .z))))))), .un .not (.t (.l (.l (.r (.l (.l (.r .z))))))), none, none, []⟩,
    ⟨(some (.l (.r (.r (.l (.l (.r .z))))))), .mv (.t (.r (.l (.r (.l (.l (.r .z))))))), none, none, []⟩,
    ⟨(some (.r (.r (.r (.l (.l (.r .z))))))), .mv (.t (.r .z)), (some ((.l (.r (.r (.l (.l (.r .z)))))), false)), none, []⟩,
    ⟨(some (.l (.l (.l (.r (.l (.r .z))))))), .eql true false [.i] (.t (.r (.r (.r (.l (.l (.r .z))))))) (.c (.int .i64 0)), (some ((.l (.r (.r (.l (.l (.r .z)))))), false)), none, []⟩,
    ⟨(some (.r (.l (.l (.r (.l (.r .z))))))), .pick (.t (.l (.r (.r (.l (.l (.r .z))))))) (.c (.bool true)) (.t (.l (.l (.l (.r (.l (.r .z))))))), none, none, []⟩,
    ⟨(some (.l (.r (.l (.r (.l (.r .z))))))), .mv (.t (.r (.l (.l (.r (.l (.r .z))))))), none, none, []⟩,
    ⟨(some (.r (.r (.l (.r (.l (.r .z))))))), .mv (.t (.r (.l (.l .z)))), (some ((.l (.r (.l (.r (.l (.r .z)))))), false)), none, []⟩,
    ⟨(some (.l (.l (.r (.r (.l (.r .z))))))), .len .slice (.t (.r (.r (.l (.r (.l (.r .z))))))), (some ((.l (.r (.l (.r (.l (.r .z)))))), false)), none, []⟩,
    ⟨(some (.r (.l (.r (.r (.l (.r .z))))))), .eql true false [.i] (.t (.l (.l (.r (.r (.l (.r .z))))))) (.c (.int .i64 0)), (some ((.l (.r (.l (.r (.l (.r .z)))))), false)), none, []⟩,
    ⟨(some (.l (.r (.r (.r (.l (.r .z))))))), .pick (.t (.l (.r (.l (.r (.l (.r .z))))))) (.c (.bool true)) (.t (.r (.l (.r (.r (.l (.r .z))))))), none, none, []⟩,
    ⟨(some (.r (.r (.r (.r (.l (.r .z))))))), .mv (.t (.l (.r (.r (.r (.l (.r .z))))))), none, none, []⟩,
    ⟨(some (.l (.l (.l (.l (.r (.r .z))))))), .mv (.t (.r (.l .z))), (some ((.r (.r (.r (.r (.l (.r .z)))))), false)), none, []⟩,
    ⟨(some (.r (.l (.l (.l (.r (.r .z))))))), .eql true false [.i] (.t (.l (.l (.l (.l (.r (.r .z))))))) (.c (.int .i64 0)), (some ((.r (.r (.r (.r (.l (.r .z)))))), false)), none, []⟩,
    ⟨(some (.l (.r (.l (.l (.r (.r .z))))))), .pick (.t (.r (.r (.r (.r (.l (.r .z))))))) (.c (.bool true)) (.t (.r (.l (.l (.l (.r (.r .z))))))), none, none, []⟩])
  (.cond (.t (.l (.r (.l (.l (.r (.r .z)))))))
  (.seq (.region false 0 [
     ⟨(some .z), .mv (.c (.bool false)), none, none, []⟩])
   .ret)
  .skip))
  (.seq (.region false 0 [
    ⟨(some (.r (.r (.l (.l (.r (.r .z))))))), .call 5 [], none, none, []⟩,
    ⟨none, .store 3 (.t (.l (.r .z))) (.t (.r (.r (.l (.l (.r (.r .z))))))), none, none, []⟩])
  (.seq (.region false 0 [
    ⟨(some (.l (.l (.r (.l (.r (.r .z))))))), .fieldA 1 (.t (.l (.r .z))), none, none, []⟩,
    ⟨(some (.r (.l (.r (.l (.r (.r .z))))))), .load false 1 (.t (.l (.l (.r (.l (.r (.r .z))))))), none, none, []⟩,
    ⟨(some (.l (.r (.r (.l (.r (.r .z))))))), .build [(.int .u64 0), (.int .u64 0), (.int .u64 0), .nilslice] [(0, 1, (.c (.int .u64 5)))], none, none, []⟩,
    ⟨(some (.r (.r (.r (.l (.r (.r .z))))))), .build [(.int .i64 0), (.int .u64 0), (.bool false), (.int .u64 0), (.int .u64 0), (.int .u64 0), (.int .u64 0), .nilslice, (.int .u64 0), (.int .u64 0), (.int .u64 0), .nilslice, .nilslice] [(0, 1, (.c (.int .i64 2))), (1, 1, (.c (.int .u64 1))), (2, 1, (.c (.bool true))), (4, 4, (.t (.l (.r (.r (.l (.r (.r .z))))))))], none, none, []⟩,
    ⟨(some (.l (.l (.l (.r (.r (.r .z))))))), .slit 13 1 [(.int .i64 0), (.int .u64 0), (.bool false), (.int .u64 0), (.int .u64 0), (.int .u64 0), (.int .u64 0), .nilslice, (.int .u64 0), (.int .u64 0), (.int .u64 0), .nilslice, .nilslice] [(0, (.t (.r (.r (.r (.l (.r (.r .z))))))))], none, none, []⟩,
    ⟨(some (.r (.l (.l (.r (.r (.r .z))))))), .idxS 26 (.t (.r (.l (.r (.l (.r (.r .z))))))) (.c (.int .i64 0)), none, none, []⟩,
    ⟨(some (.l (.r (.l (.r (.r (.r .z))))))), .fieldA 25 (.t (.r (.l (.l (.r (.r (.r .z))))))), none, none, []⟩,
    ⟨none, .store 1 (.t (.l (.r (.l (.r (.r (.r .z))))))) (.t (.l (.l (.l (.r (.r (.r .z))))))), none, none, []⟩])
  (.seq (.region false 0 [
    ⟨(some (.r (.r (.l (.r (.r (.r .z))))))), .fieldA 1 (.t (.l (.r .z))), none, none, []⟩,
    ⟨(some (.l (.l (.r (.r (.r (.r .z))))))), .load false 1 (.t (.r (.r (.l (.r (.r (.r .z))))))), none, none, []⟩,
    ⟨(some (.r (.l (.r (.r (.r (.r .z))))))), .build [(.int .u64 0), (.int .u64 0), (.int .u64 0), .nilslice, .nilslice] [(0, 1, (.c (.int .u64 4)))], none, none, []⟩,
    ⟨(some (.l (.r (.r (.r (.r (.r .z))))))), .build [(.int .i64 0), (.int .u64 0), (.bool false), (.int .u64 0), (.int .u64 0), (.int .u64 0), (.int .u64 0), .nilslice, (.int .u64 0), (.int .u64 0), (.int .u64 0), .nilslice, .nilslice] [(0, 1, (.c (.int .i64 1))), (1, 1, (.c (.int .u64 1))), (2, 1, (.c (.bool true))), (8, 5, (.t (.r (.l (.r (.r (.r (.r .z))))))))], none, none, []⟩,
    ⟨(some (.r (.r (.r (.r (.r (.r .z))))))), .slit 13 1 [(.int .i64 0), (.int .u64 0), (.bool false), (.int .u64 0), (.int .u64 0), (.int .u64 0), (.int .u64 0), .nilslice, (.int .u64 0), (.int .u64 0), (.int .u64 0), .nilslice, .nilslice] [(0, (.t (.l (.r (.r (.r (.r (.r .z))))))))], none, none, []⟩,
    ⟨(some (.l (.l (.l (.l (.l (.l (.l .z)))))))), .idxS 26 (.t (.l (.l (.r (.r (.r (.r .z))))))) (.c (.int .i64 1)), none, none, []⟩,
    ⟨(some (.r (.l (.l (.l (.l (.l (.l .z)))))))), .fieldA 25 (.t (.l (.l (.l (.l (.l (.l (.l .z)))))))), none, none, []⟩,
    ⟨none, .store 1 (.t (.r (.l (.l (.l (.l (.l (.l .z)))))))) (.t (.r (.r (.r (.r (.r (.r .z))))))), none, none, []⟩])
  (.seq (.region false 0 [
    ⟨(some (.r (.r (.l (.l (.l (.l (.l .z)))))))), .load true 3 (.t (.l (.r .z))), none, none, []⟩,
    ⟨(some (.l (.l (.r (.l (.l (.l (.l .z)))))))), .call 13 [(.t (.r (.r (.l (.l (.l (.l (.l .z))))))))], none, none, []⟩,
    ⟨(some (.l (.r (.l (.l (.l (.l (.l .z)))))))), .mv (.t (.l (.l (.r (.l (.l (.l (.l .z)))))))), none, none, []⟩,
    ⟨(some (.r (.l (.r (.l (.l (.l (.l .z)))))))), .ext (.t (.l (.r (.l (.l (.l (.l (.l .z)))))))) 0, none, none, []⟩,
    ⟨(some (.l (.r (.r (.l (.l (.l (.l .z)))))))), .ext (.t (.l (.r (.l (.l (.l (.l (.l .z)))))))) 1, none, none, []⟩,
    ⟨(some (.l (.l (.l .z)))), .mv (.t (.r (.l (.r (.l (.l (.l (.l .z)))))))), none, none, []⟩,
    ⟨(some (.r .z)), .mv (.t (.l (.r (.r (.l (.l (.l (.l .z)))))))), none, none, []⟩])
  (.seq (.region false 0 [
    ⟨(some (.r (.r (.r (.l (.l (.l (.l .z)))))))), .fieldA 1 (.t (.l (.r .z))), none, none, []⟩,
    ⟨(some (.l (.l (.l (.r (.l (.l (.l .z)))))))), .load false 1 (.t (.r (.r (.r (.l (.l (.l (.l .z)))))))), none, none, []⟩,
    ⟨(some (.r (.l (.l (.r (.l (.l (.l .z)))))))), .idxS 26 (.t (.l (.l (.l (.r (.l (.l (.l .z)))))))) (.c (.int .i64 1)), none, none, []⟩,
    ⟨(some (.l (.r (.l (.r (.l (.l (.l .z)))))))), .fieldA 25 (.t (.r (.l (.l (.r (.l (.l (.l .z)))))))), none, none, []⟩,
    ⟨(some (.r (.r (.l (.r (.l (.l (.l .z)))))))), .load false 1 (.t (.l (.r (.l (.r (.l (.l (.l .z)))))))), none, none, []⟩,
    ⟨(some (.l (.l (.r (.r (.l (.l (.l .z)))))))), .idxS 13 (.t (.r (.r (.l (.r (.l (.l (.l .z)))))))) (.c (.int .i64 0)), none, none, []⟩,
    ⟨(some (.r (.l (.r (.r (.l (.l (.l .z)))))))), .fieldA 8 (.t (.l (.l (.r (.r (.l (.l (.l .z)))))))), none, none, []⟩,
    ⟨(some (.l (.r (.r (.r (.l (.l (.l .z)))))))), .fieldA 0 (.t (.r (.l (.r (.r (.l (.l (.l .z)))))))), none, none, []⟩,
    ⟨none, .store 1 (.t (.l (.r (.r (.r (.l (.l (.l .z)))))))) (.c (.int .u64 5)), none, none, []⟩])
  (.seq (.region false 0 [
    ⟨(some (.l (.l (.l (.l (.r (.l (.l .z)))))))), .load true 3 (.t (.l (.r .z))), none, none, []⟩,
    ⟨(some (.r (.l (.l (.l (.r (.l (.l .z)))))))), .call 13 [(.t (.l (.l (.l (.l (.r (.l (.l .z))))))))], none, none, []⟩,
    ⟨(some (.r (.r (.r (.r (.l (.l (.l .z)))))))), .mv (.t (.r (.l (.l (.l (.r (.l (.l .z)))))))), none, none, []⟩,
    ⟨(some (.l (.r (.l (.l (.r (.l (.l .z)))))))), .ext (.t (.r (.r (.r (.r (.l (.l (.l .z)))))))) 0, none, none, []⟩,
    ⟨(some (.r (.r (.l (.l (.r (.l (.l .z)))))))), .ext (.t (.r (.r (.r (.r (.l (.l (.l .z)))))))) 1, none, none, []⟩,
    ⟨(some (.r (.l (.l .z)))), .mv (.t (.l (.r (.l (.l (.r (.l (.l .z)))))))), none, none, []⟩,
    ⟨(some (.r (.l .z))), .mv (.t (.r (.r (.l (.l (.r (.l (.l .z)))))))), none, none, []⟩])
  (.seq (.region false 0 [
    ⟨(some (.l (.l (.r (.l (.r (.l (.l .z)))))))), .mv (.t (.l (.l (.l .z)))), none, none, []⟩,
    ⟨(some (.r (.l (.r (.l (.r (.l (.l .z)))))))), .build [(.int .i64 0), (.int .i64 0), (.int .i64 0), (.int .i64 0), (.int .u64 0), (.int .i64 0)] [(0, 1, (.c (.int .i64 2))), (1, 1, (.c (.int .i64 1))), (2, 1, (.c (.int .i64 2)))], none, none, []⟩,
    ⟨(some (.l (.r (.r (.l (.r (.l (.l .z)))))))), .slit 6 1 [(.int .i64 0), (.int .i64 0), (.int .i64 0), (.int .i64 0), (.int .u64 0), (.int .i64 0)] [(0, (.t (.r (.l (.r (.l (.r (.l (.l .z)))))))))], none, none, []⟩,
    ⟨(some (.r (.r (.r (.l (.r (.l (.l .z)))))))), .call 12 [(.t (.l (.l (.r (.l (.r (.l (.l .z)))))))), (.t (.l (.r (.r (.l (.r (.l (.l .z))))))))], none, none, []⟩,
    ⟨(some (.l (.l (.l (.r (.r (.l (.l .z)))))))), .mv (.t (.r (.r (.r (.l (.r (.l (.l .z)))))))), none, none, []⟩,
    ⟨(some (.r (.l (.l (.r (.r (.l (.l .z)))))))), .mv (.t (.r .z)), (some ((.l (.l (.l (.r (.r (.l (.l .z))))))), true)), none, []⟩,
    ⟨(some (.l (.r (.l (.r (.r (.l (.l .z)))))))), .eql false false [.i] (.t (.r (.l (.l (.r (.r (.l (.l .z)))))))) (.c (.int .i64 0)), (some ((.l (.l (.l (.r (.r (.l (.l .z))))))), true)), none, []⟩,
    ⟨(some (.r (.r (.l (.r (.r (.l (.l .z)))))))), .pick (.t (.l (.l (.l (.r (.r (.l (.l .z)))))))) (.t (.l (.r (.l (.r (.r (.l (.l .z)))))))) (.c (.bool false)), none, none, []⟩,
    ⟨(some (.l (.l (.r (.r (.r (.l (.l .z)))))))), .mv (.t (.r (.r (.l (.r (.r (.l (.l .z)))))))), none, none, []⟩,
    ⟨(some (.r (.l (.r (.r (.r (.l (.l .z)))))))), .mv (.t (.r (.l (.l .z)))), (some ((.l (.l (.r (.r (.r (.l (.l .z))))))), true)), none, []⟩,
    ⟨(some (.l (.r (.r (.r (.r (.l (.l .z)))))))), .len .slice (.t (.r (.l (.r (.r (.r (.l (.l .z)))))))), (some ((.l (.l (.r (.r (.r (.l (.l .z))))))), true)), none, []⟩,
    ⟨(some (.r (.r (.r (.r (.r (.l (.l .z)))))))), .eql false false [.i] (.t (.l (.r (.r (.r (.r (.l (.l .z)))))))) (.c (.int .i64 0)), (some ((.l (.l (.r (.r (.r (.l (.l .z))))))), true)), none, []⟩,
    ⟨(some (.l (.l (.l (.l (.l (.r (.l .z)))))))), .pick (.t (.l (.l (.r (.r (.r (.l (.l .z)))))))) (.t (.r (.r (.r (.r (.r (.l (.l .z)))))))) (.c (.bool false)), none, none, []⟩,
    ⟨(some (.r (.l (.l (.l (.l (.r (.l .z)))))))), .mv (.t (.l (.l (.l (.l (.l (.r (.l .z)))))))), none, none, []⟩,
    ⟨(some (.l (.r (.l (.l (.l (.r (.l .z)))))))), .mv (.t (.r (.l .z))), (some ((.r (.l (.l (.l (.l (.r (.l .z))))))), true)), none, []⟩,
    ⟨(some (.r (.r (.l (.l (.l (.r (.l .z)))))))), .eql false false [.i] (.t (.l (.r (.l (.l (.l (.r (.l .z)))))))) (.c (.int .i64 0)), (some ((.r (.l (.l (.l (.l (.r (.l .z))))))), true)), none, []⟩,
    ⟨(some (.l (.l (.r (.l (.l (.r (.l .z)))))))), .pick (.t (.r (.l (.l (.l (.l (.r (.l .z)))))))) (.t (.r (.r (.l (.l (.l (.r (.l .z)))))))) (.c (.bool false)), none, none, []⟩,
    ⟨(some (.r (.l (.r (.l (.l (.r (.l .z)))))))), .mv (.t (.l (.l (.r (.l (.l (.r (.l .z)))))))), none, none, []⟩,
    ⟨(some (.l (.r (.r (.l (.l (.r (.l .z)))))))), .call 14 [], (some ((.r (.l (.r (.l (.l (.r (.l .z))))))), true)), none, []⟩,
    ⟨(some (.r (.r (.r (.l (.l (.r (.l .z)))))))), .pick (.t (.r (.l (.r (.l (.l (.r (.l .z)))))))) (.t (.l (.r (.r (.l (.l (.r (.l .z)))))))) (.c (.bool false)), none, none, []⟩,
    ⟨(some .z), .mv (.t (.r (.r (.r (.l (.l (.r (.l .z)))))))), none, none, []⟩])
  .ret)))))))))))))))))⟩
def AF4 : AFunc := ⟨71, [.tmp (.r (.l .z)), .tmp (.l (.r .z))],
  (.seq (.region false 0 [
    ⟨(some (.r .z)), .box 3 3 (.t .z), none, none, []⟩,
    ⟨(some (.r (.l .z))), .mv (.c .nilslice), none, none, []⟩,
    ⟨(some (.l (.r .z))), .mv (.c (.int .i64 0)), none, none, []⟩])
  (.seq (.region false 0 [
    ⟨(some (.l (.l (.r (.l .z))))), .load true 3 (.t (.r .z)), none, none, []⟩,
    ⟨(some (.r (.l (.r (.l .z))))), .mv (.t (.l .z)), none, none, []⟩,
    ⟨(some (.l (.r (.r (.l .z))))), .call 15 [(.t (.l (.l (.r (.l .z))))), (.t (.r (.l (.r (.l .z)))))], none, none, []⟩,
    ⟨(some (.r (.r (.l (.l .z))))), .mv (.t (.l (.r (.r (.l .z))))), none, none, []⟩,
    ⟨(some (.r (.r (.r (.l .z))))), .ext (.t (.r (.r (.l (.l .z))))) 0, none, none, []⟩,
    ⟨(some (.l (.l (.l (.r .z))))), .ext (.t (.r (.r (.l (.l .z))))) 1, none, none, []⟩,
    ⟨(some (.r (.r .z))), .mv (.t (.r (.r (.r (.l .z))))), none, none, []⟩,
    ⟨(some (.l (.l (.l .z)))), .mv (.t (.l (.l (.l (.r .z))))), none, none, []⟩])
  (.seq (.seq (.region false 0 [
    ⟨(some (.r (.l (.l (.r .z))))), .mv (.t (.l (.l (.l .z)))), none, none, []⟩,
    ⟨(some (.l (.r (.l (.r .z))))), .eql true false [.i] (.t (.r (.l (.l (.r .z))))) (.c (.int .i64 0)), none, none, []⟩])
  (.cond (.t (.l (.r (.l (.r .z)))))
  (.seq (.region false 0 [
     ⟨(some (.r (.r (.l (.r .z))))), .mv (.t (.l (.l (.l .z)))), none, none, []⟩,
     ⟨(some (.r (.l .z))), .mv (.c .nilslice), none, none, []⟩,
     ⟨(some (.l (.r .z))), .mv (.t (.r (.r (.l (.r .z))))), none, none, []⟩])
   .ret)
  .skip))
  (.seq (.region false 0 [
    ⟨(some (.l (.l (.r (.r .z))))), .mkmap, none, none, []⟩,
    ⟨(some (.r (.l (.l .z)))), .alloc 1 [[.nilmap]], none, none, []⟩,
    ⟨none, .store 1 (.t (.r (.l (.l .z)))) (.t (.l (.l (.r (.r .z))))), none, none, []⟩])
  (.seq (.seq (.region false 0 [
    ⟨(some (.r (.l (.r (.r .z))))), .mv (.t (.r (.r .z))), none, none, []⟩,
    ⟨(some (.l (.r (.r (.r .z))))), .len .slice (.t (.r (.l (.r (.r .z))))), none, none, []⟩,
    ⟨(some (.r (.r (.r (.r .z))))), .mv (.c (.int .i64 0)), none, none, []⟩])
  (.block 0 (.loop (.seq (.region false 0 [
      ⟨(some (.l (.l (.l (.l (.l .z)))))), .bin .lss (.t (.r (.r (.r (.r .z))))) (.t (.l (.r (.r (.r .z))))), none, none, []⟩])
    (.seq (.cond (.t (.l (.l (.l (.l (.l .z))))))
    .skip
    (.exit 0))
    (.seq (.block 1 (.seq (.region false 0 [
       ⟨(some (.r (.l (.l (.l (.l .z)))))), .idxS 2 (.t (.r (.l (.r (.r .z))))) (.t (.r (.r (.r (.r .z))))), none, none, []⟩,
       ⟨(some (.l (.r (.l (.l (.l .z)))))), .load true 2 (.t (.r (.l (.l (.l (.l .z)))))), none, none, []⟩,
       ⟨(some (.r (.r (.l .z)))), .alloc 1 [[(.int .i64 0)], [(.int .i64 0)]], none, none, []⟩,
       ⟨none, .store 2 (.t (.r (.r (.l .z)))) (.t (.l (.r (.l (.l (.l .z)))))), none, none, []⟩])
     (.region true 1 [
       ⟨(some (.r (.r (.l (.l (.l .z)))))), .load false 1 (.t (.r (.l (.l .z)))), none, none, []⟩,
       ⟨(some (.l (.l (.r (.l (.l .z)))))), .idxA 1 2 (.t (.r (.r (.l .z)))) (.c (.int .i64 0)), none, none, []⟩,
       ⟨(some (.r (.l (.r (.l (.l .z)))))), .load false 1 (.t (.l (.l (.r (.l (.l .z)))))), none, none, [1]⟩,
       ⟨(some (.l (.r (.r (.l (.l .z)))))), .load false 1 (.t (.r (.l (.l .z)))), none, none, []⟩,
       ⟨(some (.r (.r (.r (.l (.l .z)))))), .idxA 1 2 (.t (.r (.r (.l .z)))) (.c (.int .i64 0)), none, none, []⟩,
       ⟨(some (.l (.l (.l (.r (.l .z)))))), .load false 1 (.t (.r (.r (.r (.l (.l .z)))))), none, none, [4]⟩,
       ⟨(some (.r (.l (.l (.r (.l .z)))))), .look false [.i] .nilslice false (.t (.l (.r (.r (.l (.l .z)))))) (.t (.l (.l (.l (.r (.l .z)))))), none, none, [3, 4, 5]⟩,
       ⟨(some (.l (.r (.l (.r (.l .z)))))), .idxA 1 2 (.t (.r (.r (.l .z)))) (.c (.int .i64 1)), none, none, []⟩,
       ⟨(some (.r (.r (.l (.r (.l .z)))))), .load false 1 (.t (.l (.r (.l (.r (.l .z)))))), none, none, [7]⟩,
       ⟨(some (.l (.l (.r (.r (.l .z)))))), .slit 1 1 [(.int .i64 0)] [(0, (.t (.r (.r (.l (.r (.l .z)))))))], none, (some 0), [7, 8]⟩,
       ⟨(some (.r (.l (.r (.r (.l .z)))))), .app 1 8 (.t (.r (.l (.l (.r (.l .z)))))) (.t (.l (.l (.r (.r (.l .z)))))), none, none, [3, 4, 5, 6, 7, 8, 9]⟩,
       ⟨none, .mapset false [.i] (.t (.r (.r (.l (.l (.l .z)))))) (.t (.r (.l (.r (.l (.l .z)))))) (.t (.r (.l (.r (.r (.l .z)))))), none, none, [0, 1, 2, 3, 4, 5, 6, 7, 8, 9, 10]⟩])))
    (.region false 0 [
      ⟨(some (.l (.r (.r (.r (.l .z)))))), .bin .add (.t (.r (.r (.r (.r .z))))) (.c (.int .i64 1)), none, none, []⟩,
      ⟨(some (.r (.r (.r (.r .z))))), .mv (.t (.l (.r (.r (.r (.l .z)))))), none, none, []⟩])))))))
  (.seq (.region false 0 [
    ⟨(some (.r (.r (.r (.r (.l .z)))))), .mkmap, none, none, []⟩,
    ⟨(some (.l (.l (.l (.l (.r .z)))))), .mkmap, none, none, []⟩,
    ⟨(some (.l (.l (.r .z)))), .alloc 1 [[.nilmap]], none, none, []⟩,
    ⟨(some (.r (.l (.r .z)))), .alloc 1 [[.nilmap]], none, none, []⟩,
    ⟨none, .store 1 (.t (.l (.l (.r .z)))) (.t (.r (.r (.r (.r (.l .z)))))), none, none, []⟩,
    ⟨none, .store 1 (.t (.r (.l (.r .z)))) (.t (.l (.l (.l (.l (.r .z)))))), none, none, []⟩])
  (.seq (.region false 0 [
    ⟨(some (.l (.r (.r .z)))), .alloc 1 [[.nilslice]], none, none, []⟩])
  (.seq (.region false 0 [
    ⟨(some (.r (.r (.r .z)))), .alloc 1 [[.nilslice]], none, none, []⟩])
  (.seq (.region false 0 [
    ⟨(some (.l (.l (.l (.l .z))))), .alloc 1 [[.nilFunc]], none, none, []⟩])
  (.seq (.region false 0 [
    ⟨(some (.r (.l (.l (.l (.r .z)))))), .mkfunc 16 [] [(.t (.l (.l (.r .z)))), (.t (.r (.l (.r .z)))), (.t (.l (.r (.r .z)))), (.t (.r (.l (.l .z)))), (.t (.l (.l (.l (.l .z))))), (.t (.r (.r (.r .z))))], none, none, []⟩,
    ⟨none, .store 1 (.t (.l (.l (.l (.l .z))))) (.t (.r (.l (.l (.l (.r .z)))))), none, none, []⟩])
  (.seq (.seq (.region false 0 [
    ⟨(some (.l (.r (.l (.l (.r .z)))))), .fieldA 1 (.t (.r .z)), none, none, []⟩,
    ⟨(some (.r (.r (.l (.l (.r .z)))))), .load false 1 (.t (.l (.r (.l (.l (.r .z)))))), none, none, []⟩,
    ⟨(some (.l (.l (.r (.l (.r .z)))))), .len .slice (.t (.r (.r (.l (.l (.r .z)))))), none, none, []⟩,
    ⟨(some (.r (.l (.r (.l (.r .z)))))), .mv (.c (.int .i64 0)), none, none, []⟩])
  (.block 2 (.loop (.seq (.region false 0 [
      ⟨(some (.l (.r (.r (.l (.r .z)))))), .bin .lss (.t (.r (.l (.r (.l (.r .z)))))) (.t (.l (.l (.r (.l (.r .z)))))), none, none, []⟩])
    (.seq (.cond (.t (.l (.r (.r (.l (.r .z))))))
    .skip
    (.exit 2))
    (.seq (.block 3 (.seq (.region false 0 [
       ⟨(some (.r (.r (.r (.l (.r .z)))))), .idxS 26 (.t (.r (.r (.l (.l (.r .z)))))) (.t (.r (.l (.r (.l (.r .z)))))), none, none, []⟩,
       ⟨(some (.l (.l (.l (.r (.r .z)))))), .load true 26 (.t (.r (.r (.r (.l (.r .z)))))), none, none, []⟩,
       ⟨(some (.l (.r (.l (.l .z))))), .alloc 1 [[(.int .i64 0)], [(.int .u64 0)], [(.int .u64 0)], [(.int .u64 0)], [(.int .u64 0)], [(.int .i64 0)], [(.int .i64 0)], [(.int .i64 0)], [(.int .i64 0)], [(.int .i64 0)], [(.int .i64 0)], [(.int .i64 0)], [(.int .i64 0)], [(.int .i64 0)], [(.int .i64 0)], [(.int .i64 0)], [(.bool false)], [(.int .i64 0)], [(.int .u64 0)], [(.int .i64 0)], [(.int .u64 0)], [(.int .i64 0)], [.nilslice], [.nilslice], [.nilslice], [.nilslice]], none, none, []⟩,
       ⟨none, .store 26 (.t (.l (.r (.l (.l .z))))) (.t (.l (.l (.l (.r (.r .z)))))), none, none, []⟩])
     (.seq (.region false 0 [
       ⟨(some (.r (.l (.l (.r (.r .z)))))), .load false 1 (.t (.l (.l (.r .z)))), none, none, []⟩,
       ⟨(some (.l (.r (.l (.r (.r .z)))))), .fieldA 0 (.t (.l (.r (.l (.l .z))))), none, none, []⟩,
       ⟨(some (.r (.r (.l (.r (.r .z)))))), .fieldA 0 (.t (.l (.r (.l (.r (.r .z)))))), none, none, []⟩,
       ⟨(some (.l (.l (.r (.r (.r .z)))))), .load false 1 (.t (.r (.r (.l (.r (.r .z)))))), none, none, []⟩,
       ⟨(some (.r (.l (.r (.r (.r .z)))))), .look false [.i] (.int .i64 0) false (.t (.r (.l (.l (.r (.r .z)))))) (.t (.l (.l (.r (.r (.r .z)))))), none, none, []⟩,
       ⟨(some (.l (.r (.r (.r (.r .z)))))), .eql false false [.i] (.t (.r (.l (.r (.r (.r .z)))))) (.c (.int .i64 0)), none, none, []⟩])
     (.cond (.t (.l (.r (.r (.r (.r .z))))))
     (.region false 0 [
        ⟨(some (.r (.r (.r (.r (.r .z)))))), .load false 1 (.t (.l (.l (.l (.l .z))))), none, none, []⟩,
        ⟨(some (.l (.l (.l (.l (.l (.l .z))))))), .fieldA 0 (.t (.l (.r (.l (.l .z))))), none, none, []⟩,
        ⟨(some (.r (.l (.l (.l (.l (.l .z))))))), .fieldA 0 (.t (.l (.l (.l (.l (.l (.l .z))))))), none, none, []⟩,
        ⟨(some (.l (.r (.l (.l (.l (.l .z))))))), .load false 1 (.t (.r (.l (.l (.l (.l (.l .z))))))), none, none, []⟩,
        ⟨(some (.r (.r (.l (.l (.l (.l .z))))))), .callv (.t (.r (.r (.r (.r (.r .z)))))) [(.t (.l (.r (.l (.l (.l (.l .z)))))))], none, none, []⟩])
     .skip))))
    (.region false 0 [
      ⟨(some (.l (.l (.r (.l (.l (.l .z))))))), .bin .add (.t (.r (.l (.r (.l (.r .z)))))) (.c (.int .i64 1)), none, none, []⟩,
      ⟨(some (.r (.l (.r (.l (.r .z)))))), .mv (.t (.l (.l (.r (.l (.l (.l .z))))))), none, none, []⟩])))))))
  (.seq (.region false 0 [
    ⟨(some (.r (.l (.r (.l (.l (.l .z))))))), .load false 1 (.t (.r (.r (.r .z)))), none, none, []⟩,
    ⟨(some (.l (.r (.r (.l (.l (.l .z))))))), .call 21 [(.t (.r (.l (.r (.l (.l (.l .z))))))), (.c (.func 22 [] []))], none, none, []⟩])
  (.seq (.region false 0 [
    ⟨(some (.r (.r (.r (.l (.l (.l .z))))))), .load false 1 (.t (.r (.r (.r .z)))), none, none, []⟩,
    ⟨(some (.r (.l .z))), .mv (.t (.r (.r (.r (.l (.l (.l .z))))))), none, none, []⟩,
    ⟨(some (.l (.r .z))), .mv (.c (.int .i64 0)), none, none, []⟩])
  .ret)))))))))))))⟩
def AF5 : AFunc := ⟨18, [.cell .z true 3],
  (.seq (.region false 0 [
    ⟨(some .z), .alloc 3 [[(.int .i64 0), .nilslice, .nilslice]], none, none, []⟩])
  (.seq (.region false 0 [
    ⟨(some (.l .z)), .alloc 3 [[(.int .i64 0), .nilslice, .nilslice]], none, none, []⟩])
  (.seq (.seq (.region false 0 [
    ⟨(some (.r .z)), .mv (.c (.int .i64 1)), none, none, []⟩])
  (.block 0 (.loop (.seq (.seq (.region false 0 [
      ⟨(some (.l (.l .z))), .mv (.t (.r .z)), none, none, []⟩,
      ⟨(some (.r (.l .z))), .bin .leq (.t (.l (.l .z))) (.c (.int .i64 2)), none, none, []⟩])
    (.cond (.t (.r (.l .z)))
    .skip
    (.exit 0)))
    (.seq (.block 1 (.region true 1 [
       ⟨(some (.l (.l (.l .z)))), .fieldA 1 (.t (.l .z)), none, none, []⟩,
       ⟨(some (.r (.l (.l .z)))), .load false 1 (.t (.l (.l (.l .z)))), none, none, [0]⟩,
       ⟨(some (.l (.r (.l .z)))), .mv (.t (.r .z)), none, none, []⟩,
       ⟨(some (.r (.r (.l .z)))), .call 23 [(.t (.l (.r (.l .z))))], none, none, [2]⟩,
       ⟨(some (.l (.l (.r .z)))), .mv (.t (.r .z)), none, none, []⟩,
       ⟨(some (.r (.l (.r .z)))), .build [(.int .i64 0), (.int .u64 0), (.int .i64 0), (.int .u64 0), (.int .i64 0), .nilslice, .nilslice, .nilslice] [(0, 1, (.t (.l (.l (.r .z))))), (1, 1, (.c (.int .u64 1)))], none, none, [4]⟩,
       ⟨(some (.l (.r (.r .z)))), .build [(.int .i64 0), (.int .u64 0), (.int .u64 0), (.int .u64 0), (.int .u64 0), (.int .i64 0), (.int .i64 0), (.int .i64 0), (.int .i64 0), (.int .i64 0), (.int .i64 0), (.int .i64 0), (.int .i64 0), (.int .i64 0), (.int .i64 0), (.int .i64 0), (.bool false), (.int .i64 0), (.int .u64 0), (.int .i64 0), (.int .u64 0), (.int .i64 0), .nilslice, .nilslice, .nilslice, .nilslice] [(0, 16, (.t (.r (.r (.l .z))))), (16, 1, (.c (.bool true))), (17, 8, (.t (.r (.l (.r .z)))))], none, none, [2, 3, 4, 5]⟩,
       ⟨(some (.r (.r (.r .z)))), .slit 26 1 [(.int .i64 0), (.int .u64 0), (.int .u64 0), (.int .u64 0), (.int .u64 0), (.int .i64 0), (.int .i64 0), (.int .i64 0), (.int .i64 0), (.int .i64 0), (.int .i64 0), (.int .i64 0), (.int .i64 0), (.int .i64 0), (.int .i64 0), (.int .i64 0), (.bool false), (.int .i64 0), (.int .u64 0), (.int .i64 0), (.int .u64 0), (.int .i64 0), .nilslice, .nilslice, .nilslice, .nilslice] [(0, (.t (.l (.r (.r .z)))))], none, (some 0), [2, 3, 4, 5, 6]⟩,
       ⟨(some (.l (.l (.l (.l .z))))), .app 26 272 (.t (.r (.l (.l .z)))) (.t (.r (.r (.r .z)))), none, none, [0, 1, 2, 3, 4, 5, 6, 7]⟩,
       ⟨(some (.r (.l (.l (.l .z))))), .fieldA 1 (.t (.l .z)), none, none, [0, 1, 2, 3, 4, 5, 6, 7, 8]⟩,
       ⟨none, .store 1 (.t (.r (.l (.l (.l .z))))) (.t (.l (.l (.l (.l .z))))), none, none, [0, 1, 2, 3, 4, 5, 6, 7, 8, 9]⟩]))
    (.region false 0 [
      ⟨(some (.l (.r .z))), .mv (.t (.r .z)), none, none, []⟩,
      ⟨(some (.r (.r .z))), .bin .add (.t (.l (.r .z))) (.c (.int .i64 1)), none, none, []⟩,
      ⟨(some (.r .z)), .mv (.t (.r (.r .z))), none, none, []⟩]))))))
  (.seq (.region false 0 [
    ⟨(some (.l (.r (.l (.l .z))))), .load true 3 (.t (.l .z)), none, none, []⟩,
    ⟨none, .store 3 (.t .z) (.t (.l (.r (.l (.l .z))))), none, none, []⟩])
  .ret))))⟩
def AF6 : AFunc := ⟨23, [.tmp (.r (.l .z)), .tmp (.l (.r .z))],
  (.seq (.region false 0 [
    ⟨(some (.r .z)), .box 3 3 (.t .z), none, none, []⟩,
    ⟨(some (.l (.l .z))), .box 3 3 (.t (.l .z)), none, none, []⟩,
    ⟨(some (.r (.l .z))), .mv (.c .nilslice), none, none, []⟩,
    ⟨(some (.l (.r .z))), .mv (.c (.int .i64 0)), none, none, []⟩])
  (.seq (.region false 0 [
    ⟨(some (.l (.r (.l .z)))), .load true 3 (.t (.r .z)), none, none, []⟩,
    ⟨(some (.r (.r (.l .z)))), .call 24 [(.t (.l (.r (.l .z))))], none, none, []⟩,
    ⟨(some (.r (.l (.l .z)))), .mv (.t (.r (.r (.l .z)))), none, none, []⟩,
    ⟨(some (.l (.l (.r .z)))), .ext (.t (.r (.l (.l .z)))) 0, none, none, []⟩,
    ⟨(some (.r (.l (.r .z)))), .ext (.t (.r (.l (.l .z)))) 1, none, none, []⟩,
    ⟨(some (.r (.r .z))), .alloc 4 [[(.int .i64 0), .nilslice, .nilslice, .nilmap]], none, none, []⟩,
    ⟨none, .store 4 (.t (.r (.r .z))) (.t (.l (.l (.r .z)))), none, none, []⟩,
    ⟨(some (.l (.l (.l .z)))), .mv (.t (.r (.l (.r .z)))), none, none, []⟩])
  (.seq (.seq (.region false 0 [
    ⟨(some (.l (.r (.r .z)))), .mv (.t (.l (.l (.l .z)))), none, none, []⟩,
    ⟨(some (.r (.r (.r .z)))), .eql false false [.i] (.t (.l (.r (.r .z)))) (.c (.int .i64 0)), none, none, []⟩])
  (.cond (.t (.r (.r (.r .z))))
  (.region false 0 [
     ⟨(some (.l (.l (.l (.l .z))))), .load true 3 (.t (.l (.l .z))), none, none, []⟩,
     ⟨(some (.r (.l (.l (.l .z))))), .call 25 [(.t (.l (.l (.l (.l .z)))))], none, none, []⟩,
     ⟨(some (.l (.l (.l .z)))), .mv (.t (.r (.l (.l (.l .z))))), none, none, []⟩])
  .skip))
  (.seq (.seq (.region false 0 [
    ⟨(some (.l (.r (.l (.l .z))))), .mv (.t (.l (.l (.l .z)))), none, none, []⟩,
    ⟨(some (.r (.r (.l (.l .z))))), .eql true false [.i] (.t (.l (.r (.l (.l .z))))) (.c (.int .i64 0)), none, none, []⟩])
  (.cond (.t (.r (.r (.l (.l .z)))))
  (.seq (.region false 0 [
     ⟨(some (.l (.l (.r (.l .z))))), .mv (.t (.l (.l (.l .z)))), none, none, []⟩,
     ⟨(some (.r (.l .z))), .mv (.c .nilslice), none, none, []⟩,
     ⟨(some (.l (.r .z))), .mv (.t (.l (.l (.r (.l .z))))), none, none, []⟩])
   .ret)
  .skip))
  (.seq (.region false 0 [
    ⟨(some (.r (.l (.r (.l .z))))), .load true 4 (.t (.r (.r .z))), none, none, []⟩,
    ⟨(some (.l (.r (.r (.l .z))))), .load true 3 (.t (.l (.l .z))), none, none, []⟩,
    ⟨(some (.r (.r (.r (.l .z))))), .call 26 [(.t (.r (.l (.r (.l .z))))), (.t (.l (.r (.r (.l .z)))))], none, none, []⟩,
    ⟨(some (.r (.l .z))), .mv (.t (.r (.r (.r (.l .z))))), none, none, []⟩,
    ⟨(some (.l (.r .z))), .mv (.c (.int .i64 0)), none, none, []⟩])
  .ret)))))⟩
def AF7 : AFunc := ⟨11, [.cell .z true 3],
  (.seq (.region false 0 [
    ⟨(some .z), .alloc 3 [[(.int .i64 0), .nilslice, .nilslice]], none, none, []⟩])
  (.seq (.region false 0 [
    ⟨(some (.r .z)), .call 5 [], none, none, []⟩,
    ⟨(some (.l .z)), .alloc 3 [[(.int .i64 0), .nilslice, .nilslice]], none, none, []⟩,
    ⟨none, .store 3 (.t (.l .z)) (.t (.r .z)), none, none, []⟩])
  (.seq (.region true 1 [
    ⟨(some (.l (.l .z))), .fieldA 1 (.t (.l .z)), none, none, []⟩,
    ⟨(some (.r (.l .z))), .load false 1 (.t (.l (.l .z))), none, none, [0]⟩,
    ⟨(some (.l (.r .z))), .call 8 [], none, none, []⟩,
    ⟨(some (.r (.r .z))), .slit 9 1 [(.int .i64 0), (.int .u64 0), (.int .i64 0), (.int .i64 0), (.int .i64 0), (.int .i64 0), (.int .i64 0), (.int .i64 0), (.str [])] [(0, (.t (.l (.r .z))))], none, (some 0), [2]⟩,
    ⟨(some (.l (.l (.l .z)))), .idxS 26 (.t (.r (.l .z))) (.c (.int .i64 0)), none, none, [0, 1, 2, 3]⟩,
    ⟨(some (.r (.l (.l .z)))), .fieldA 17 (.t (.l (.l (.l .z)))), none, none, [0, 1, 2, 3, 4]⟩,
    ⟨(some (.l (.r (.l .z)))), .fieldA 5 (.t (.r (.l (.l .z)))), none, none, [0, 1, 2, 3, 4, 5]⟩,
    ⟨none, .store 1 (.t (.l (.r (.l .z)))) (.t (.r (.r .z))), none, none, [0, 1, 2, 3, 4, 5, 6]⟩])
  (.seq (.region false 0 [
    ⟨(some (.r (.r (.l .z)))), .load true 3 (.t (.l .z)), none, none, []⟩,
    ⟨none, .store 3 (.t .z) (.t (.r (.r (.l .z)))), none, none, []⟩])
  .ret))))⟩
def AF8 : AFunc := ⟨3, [.cell .z true 9],
  (.seq (.region false 0 [
    ⟨(some .z), .alloc 9 [[(.int .i64 0), (.int .u64 0), (.int .i64 0), (.int .i64 0), (.int .i64 0), (.int .i64 0), (.int .i64 0), (.int .i64 0), (.str [])]], none, none, []⟩])
  (.seq (.region false 0 [
    ⟨(some (.l .z)), .build [(.int .i64 0), (.int .u64 0), (.int .i64 0)] [(0, 1, (.c (.int .i64 1))), (1, 1, (.c (.int .u64 1)))], none, none, []⟩,
    ⟨(some (.r .z)), .build [(.int .i64 0), (.int .u64 0), (.int .i64 0), (.int .i64 0), (.int .i64 0), (.int .i64 0), (.int .i64 0), (.int .i64 0), (.str [])] [(0, 3, (.t (.l .z))), (3, 1, (.c (.int .i64 2))), (6, 1, (.c (.int .i64 50))), (7, 1, (.c (.int .i64 3))), (8, 1, (.c (.str [97, 98, 99])))], none, none, []⟩,
    ⟨none, .store 9 (.t .z) (.t (.r .z)), none, none, []⟩])
  .ret))⟩
def AF9 : AFunc := ⟨26, [.tmp (.r (.l .z))],
  (.seq (.region false 0 [
    ⟨(some (.r (.l .z))), .mv (.c (.bool false)), none, none, []⟩])
  (.seq (.seq (.region false 0 [
    ⟨(some (.r (.r .z))), .mv (.t .z), none, none, []⟩,
    ⟨(some (.l (.l (.l .z)))), .len .slice (.t (.r (.r .z))), none, none, []⟩,
    ⟨(some (.r (.l (.l .z)))), .mv (.t (.l .z)), none, none, []⟩,
    ⟨(some (.l (.r (.l .z)))), .len .slice (.t (.r (.l (.l .z)))), none, none, []⟩,
    ⟨(some (.r (.r (.l .z)))), .eql true false [.i] (.t (.l (.l (.l .z)))) (.t (.l (.r (.l .z)))), none, none, []⟩])
  (.cond (.t (.r (.r (.l .z))))
  (.seq (.region false 0 [
     ⟨(some (.r (.l .z))), .mv (.c (.bool false)), none, none, []⟩])
   .ret)
  .skip))
  (.seq (.seq (.region false 0 [
    ⟨(some (.l (.r .z))), .mv (.c (.int .i64 0)), none, none, []⟩])
  (.block 0 (.loop (.seq (.seq (.region false 0 [
      ⟨(some (.l (.l (.r .z)))), .mv (.t (.l (.r .z))), none, none, []⟩,
      ⟨(some (.r (.l (.r .z)))), .mv (.t .z), none, none, []⟩,
      ⟨(some (.l (.r (.r .z)))), .len .slice (.t (.r (.l (.r .z)))), none, none, []⟩,
      ⟨(some (.r (.r (.r .z)))), .bin .lss (.t (.l (.l (.r .z)))) (.t (.l (.r (.r .z)))), none, none, []⟩])
    (.cond (.t (.r (.r (.r .z))))
    .skip
    (.exit 0)))
    (.seq (.block 1 (.seq (.region true 0 [
       ⟨(some (.l (.r (.l (.l .z))))), .mv (.t .z), none, none, []⟩,
       ⟨(some (.r (.r (.l (.l .z))))), .mv (.t (.l (.r .z))), none, none, []⟩,
       ⟨(some (.l (.l (.r (.l .z))))), .idxS 1 (.t (.l (.r (.l (.l .z))))) (.t (.r (.r (.l (.l .z))))), none, none, [0, 1]⟩,
       ⟨(some (.r (.l (.r (.l .z))))), .load false 1 (.t (.l (.l (.r (.l .z))))), none, none, [0, 1, 2]⟩,
       ⟨(some (.l (.r (.r (.l .z))))), .mv (.t (.l .z)), none, none, []⟩,
       ⟨(some (.r (.r (.r (.l .z))))), .mv (.t (.l (.r .z))), none, none, []⟩,
       ⟨(some (.l (.l (.l (.r .z))))), .idxS 1 (.t (.l (.r (.r (.l .z))))) (.t (.r (.r (.r (.l .z))))), none, none, [4, 5]⟩,
       ⟨(some (.r (.l (.l (.r .z))))), .load false 1 (.t (.l (.l (.l (.r .z))))), none, none, [4, 5, 6]⟩,
       ⟨(some (.l (.r (.l (.r .z))))), .eql true false [.i] (.t (.r (.l (.r (.l .z))))) (.t (.r (.l (.l (.r .z))))), none, none, [0, 1, 2, 3, 4, 5, 6, 7]⟩])
     (.cond (.t (.l (.r (.l (.r .z)))))
     (.seq (.region false 0 [
        ⟨(some (.r (.l .z))), .mv (.c (.bool false)), none, none, []⟩])
      .ret)
     .skip)))
    (.region false 0 [
      ⟨(some (.l (.l (.l (.l .z))))), .mv (.t (.l (.r .z))), none, none, []⟩,
      ⟨(some (.r (.l (.l (.l .z))))), .bin .add (.t (.l (.l (.l (.l .z))))) (.c (.int .i64 1)), none, none, []⟩,
      ⟨(some (.l (.r .z))), .mv (.t (.r (.l (.l (.l .z))))), none, none, []⟩]))))))
  (.seq (.region false 0 [
    ⟨(some (.r (.l .z))), .mv (.c (.bool true)), none, none, []⟩])
  .ret))))⟩
def AF10 : AFunc := ⟨22, [.tmp (.r (.r .z))],
  (.seq (.region false 0 [
    ⟨(some (.l (.l .z))), .box 3 3 (.t .z), none, none, []⟩,
    ⟨(some (.r (.r .z))), .mv (.c (.bool false)), none, none, []⟩])
  (.seq (.region false 0 [
    ⟨(some (.r (.r (.l .z)))), .load true 3 (.t (.l (.l .z))), none, none, []⟩,
    ⟨(some (.l (.l (.r .z)))), .mv (.t (.l .z)), none, none, []⟩,
    ⟨(some (.r (.l (.r .z)))), .call 27 [(.t (.r (.r (.l .z)))), (.t (.l (.l (.r .z))))], none, none, []⟩,
    ⟨(some (.l (.r (.l .z)))), .mv (.t (.r (.l (.r .z)))), none, none, []⟩,
    ⟨(some (.l (.r (.r .z)))), .ext (.t (.l (.r (.l .z)))) 0, none, none, []⟩,
    ⟨(some (.r (.r (.r .z)))), .ext (.t (.l (.r (.l .z)))) 1, none, none, []⟩,
    ⟨(some (.l (.l (.l .z)))), .mv (.t (.l (.r (.r .z)))), none, none, []⟩,
    ⟨(some (.r (.l (.l .z)))), .mv (.t (.r (.r (.r .z)))), none, none, []⟩])
  (.seq (.region false 0 [
    ⟨(some (.l (.l (.l (.l .z))))), .mv (.t (.r (.l (.l .z)))), none, none, []⟩,
    ⟨(some (.r (.l (.l (.l .z))))), .eql false false [.i] (.t (.l (.l (.l (.l .z))))) (.c (.int .i64 0)), none, none, []⟩,
    ⟨(some (.l (.r (.l (.l .z))))), .mv (.t (.r (.l (.l (.l .z))))), none, none, []⟩,
    ⟨(some (.r (.r (.l (.l .z))))), .mv (.t (.l (.l (.l .z)))), (some ((.l (.r (.l (.l .z)))), true)), none, []⟩,
    ⟨(some (.l (.l (.r (.l .z))))), .mv (.t (.r .z)), (some ((.l (.r (.l (.l .z)))), true)), none, []⟩,
    ⟨(some (.r (.l (.r (.l .z))))), .call 12 [(.t (.r (.r (.l (.l .z))))), (.t (.l (.l (.r (.l .z)))))], (some ((.l (.r (.l (.l .z)))), true)), none, []⟩,
    ⟨(some (.l (.r (.r (.l .z))))), .pick (.t (.l (.r (.l (.l .z))))) (.t (.r (.l (.r (.l .z))))) (.c (.bool false)), none, none, []⟩,
    ⟨(some (.r (.r .z))), .mv (.t (.l (.r (.r (.l .z))))), none, none, []⟩])
  .ret)))⟩
def AF11 : AFunc := ⟨16, [.tmp (.r .z), .tmp (.l (.l .z))],
  (.seq (.region false 0 [
    ⟨(some (.l .z)), .box 3 3 (.t .z), none, none, []⟩,
    ⟨(some (.r .z)), .mv (.c .nilslice), none, none, []⟩,
    ⟨(some (.l (.l .z))), .mv (.c (.int .i64 0)), none, none, []⟩])
  (.seq (.region false 0 [
    ⟨(some (.l (.l (.l .z)))), .load true 3 (.t (.l .z)), none, none, []⟩,
    ⟨(some (.r (.l (.l .z)))), .call 24 [(.t (.l (.l (.l .z))))], none, none, []⟩,
    ⟨(some (.r (.r .z))), .mv (.t (.r (.l (.l .z)))), none, none, []⟩,
    ⟨(some (.l (.r (.l .z)))), .ext (.t (.r (.r .z))) 0, none, none, []⟩,
    ⟨(some (.r (.r (.l .z)))), .ext (.t (.r (.r .z))) 1, none, none, []⟩,
    ⟨(some (.r (.l .z))), .alloc 4 [[(.int .i64 0), .nilslice, .nilslice, .nilmap]], none, none, []⟩,
    ⟨none, .store 4 (.t (.r (.l .z))) (.t (.l (.r (.l .z)))), none, none, []⟩,
    ⟨(some (.l (.r .z))), .mv (.t (.r (.r (.l .z)))), none, none, []⟩])
  (.seq (.seq (.region false 0 [
    ⟨(some (.l (.l (.r .z)))), .mv (.t (.l (.r .z))), none, none, []⟩,
    ⟨(some (.r (.l (.r .z)))), .eql true false [.i] (.t (.l (.l (.r .z)))) (.c (.int .i64 0)), none, none, []⟩])
  (.cond (.t (.r (.l (.r .z))))
  (.seq (.region false 0 [
     ⟨(some (.l (.r (.r .z)))), .mv (.t (.l (.r .z))), none, none, []⟩,
     ⟨(some (.r .z)), .mv (.c .nilslice), none, none, []⟩,
     ⟨(some (.l (.l .z))), .mv (.t (.l (.r (.r .z)))), none, none, []⟩])
   .ret)
  .skip))
  (.seq (.region false 0 [
    ⟨(some (.r (.r (.r .z)))), .load true 4 (.t (.r (.l .z))), none, none, []⟩,
    ⟨(some (.l (.l (.l (.l .z))))), .call 28 [(.t (.r (.r (.r .z))))], none, none, []⟩,
    ⟨(some (.r .z)), .mv (.t (.l (.l (.l (.l .z))))), none, none, []⟩,
    ⟨(some (.l (.l .z))), .mv (.c (.int .i64 0)), none, none, []⟩])
  .ret))))⟩
def AF12 : AFunc := ⟨26, [.tmp (.r (.l .z))],
  (.seq (.region false 0 [
    ⟨(some (.r (.l .z))), .mv (.c (.bool false)), none, none, []⟩])
  (.seq (.seq (.region false 0 [
    ⟨(some (.r (.r .z))), .mv (.t .z), none, none, []⟩,
    ⟨(some (.l (.l (.l .z)))), .len .slice (.t (.r (.r .z))), none, none, []⟩,
    ⟨(some (.r (.l (.l .z)))), .mv (.t (.l .z)), none, none, []⟩,
    ⟨(some (.l (.r (.l .z)))), .len .slice (.t (.r (.l (.l .z)))), none, none, []⟩,
    ⟨(some (.r (.r (.l .z)))), .eql true false [.i] (.t (.l (.l (.l .z)))) (.t (.l (.r (.l .z)))), none, none, []⟩])
  (.cond (.t (.r (.r (.l .z))))
  (.seq (.region false 0 [
     ⟨(some (.r (.l .z))), .mv (.c (.bool false)), none, none, []⟩])
   .ret)
  .skip))
  (.seq (.seq (.region false 0 [
    ⟨(some (.l (.r .z))), .mv (.c (.int .i64 0)), none, none, []⟩])
  (.block 0 (.loop (.seq (.seq (.region false 0 [
      ⟨(some (.l (.l (.r .z)))), .mv (.t (.l (.r .z))), none, none, []⟩,
      ⟨(some (.r (.l (.r .z)))), .mv (.t .z), none, none, []⟩,
      ⟨(some (.l (.r (.r .z)))), .len .slice (.t (.r (.l (.r .z)))), none, none, []⟩,
      ⟨(some (.r (.r (.r .z)))), .bin .lss (.t (.l (.l (.r .z)))) (.t (.l (.r (.r .z)))), none, none, []⟩])
    (.cond (.t (.r (.r (.r .z))))
    .skip
    (.exit 0)))
    (.seq (.block 1 (.seq (.region true 0 [
       ⟨(some (.l (.r (.l (.l .z))))), .mv (.t .z), none, none, []⟩,
       ⟨(some (.r (.r (.l (.l .z))))), .mv (.t (.l (.r .z))), none, none, []⟩,
       ⟨(some (.l (.l (.r (.l .z))))), .idxS 6 (.t (.l (.r (.l (.l .z))))) (.t (.r (.r (.l (.l .z))))), none, none, [0, 1]⟩,
       ⟨(some (.r (.l (.r (.l .z))))), .load true 6 (.t (.l (.l (.r (.l .z))))), none, none, [0, 1, 2]⟩,
       ⟨(some (.l (.r (.r (.l .z))))), .mv (.t (.l .z)), none, none, []⟩,
       ⟨(some (.r (.r (.r (.l .z))))), .mv (.t (.l (.r .z))), none, none, []⟩,
       ⟨(some (.l (.l (.l (.r .z))))), .idxS 6 (.t (.l (.r (.r (.l .z))))) (.t (.r (.r (.r (.l .z))))), none, none, [4, 5]⟩,
       ⟨(some (.r (.l (.l (.r .z))))), .load true 6 (.t (.l (.l (.l (.r .z))))), none, none, [4, 5, 6]⟩,
       ⟨(some (.l (.r (.l (.r .z))))), .eql true true [.i, .i, .i, .i, .i, .i] (.t (.r (.l (.r (.l .z))))) (.t (.r (.l (.l (.r .z))))), none, none, [0, 1, 2, 3, 4, 5, 6, 7]⟩])
     (.cond (.t (.l (.r (.l (.r .z)))))
     (.seq (.region false 0 [
        ⟨(some (.r (.l .z))), .mv (.c (.bool false)), none, none, []⟩])
      .ret)
     .skip)))
    (.region false 0 [
      ⟨(some (.l (.l (.l (.l .z))))), .mv (.t (.l (.r .z))), none, none, []⟩,
      ⟨(some (.r (.l (.l (.l .z))))), .bin .add (.t (.l (.l (.l (.l .z))))) (.c (.int .i64 1)), none, none, []⟩,
      ⟨(some (.l (.r .z))), .mv (.t (.r (.l (.l (.l .z))))), none, none, []⟩]))))))
  (.seq (.region false 0 [
    ⟨(some (.r (.l .z))), .mv (.c (.bool true)), none, none, []⟩])
  .ret))))⟩
def AF13 : AFunc := ⟨16, [.tmp (.r .z), .tmp (.l (.l .z))],
  (.seq (.region false 0 [
    ⟨(some (.l .z)), .box 3 3 (.t .z), none, none, []⟩,
    ⟨(some (.r .z)), .mv (.c .nilslice), none, none, []⟩,
    ⟨(some (.l (.l .z))), .mv (.c (.int .i64 0)), none, none, []⟩])
  (.seq (.region false 0 [
    ⟨(some (.l (.l (.l .z)))), .load true 3 (.t (.l .z)), none, none, []⟩,
    ⟨(some (.r (.l (.l .z)))), .call 24 [(.t (.l (.l (.l .z))))], none, none, []⟩,
    ⟨(some (.r (.r .z))), .mv (.t (.r (.l (.l .z)))), none, none, []⟩,
    ⟨(some (.l (.r (.l .z)))), .ext (.t (.r (.r .z))) 0, none, none, []⟩,
    ⟨(some (.r (.r (.l .z)))), .ext (.t (.r (.r .z))) 1, none, none, []⟩,
    ⟨(some (.r (.l .z))), .alloc 4 [[(.int .i64 0), .nilslice, .nilslice, .nilmap]], none, none, []⟩,
    ⟨none, .store 4 (.t (.r (.l .z))) (.t (.l (.r (.l .z)))), none, none, []⟩,
    ⟨(some (.l (.r .z))), .mv (.t (.r (.r (.l .z)))), none, none, []⟩])
  (.seq (.seq (.region false 0 [
    ⟨(some (.l (.l (.r .z)))), .mv (.t (.l (.r .z))), none, none, []⟩,
    ⟨(some (.r (.l (.r .z)))), .eql true false [.i] (.t (.l (.l (.r .z)))) (.c (.int .i64 0)), none, none, []⟩])
  (.cond (.t (.r (.l (.r .z))))
  (.seq (.region false 0 [
     ⟨(some (.l (.r (.r .z)))), .mv (.t (.l (.r .z))), none, none, []⟩,
     ⟨(some (.r .z)), .mv (.c .nilslice), none, none, []⟩,
     ⟨(some (.l (.l .z))), .mv (.t (.l (.r (.r .z)))), none, none, []⟩])
   .ret)
  .skip))
  (.seq (.region false 0 [
    ⟨(some (.r (.r (.r .z)))), .load true 4 (.t (.r (.l .z))), none, none, []⟩,
    ⟨(some (.l (.l (.l (.l .z))))), .call 29 [(.t (.r (.r (.r .z))))], none, none, []⟩,
    ⟨(some (.r .z)), .mv (.t (.l (.l (.l (.l .z))))), none, none, []⟩,
    ⟨(some (.l (.l .z))), .mv (.c (.int .i64 0)), none, none, []⟩])
  .ret))))⟩
def AF14 : AFunc := ⟨30, [.tmp .z],
  (.seq (.region false 0 [
    ⟨(some .z), .mv (.c (.bool false)), none, none, []⟩])
  (.seq (.region false 0 [
    ⟨(some (.r (.l .z))), .call 5 [], none, none, []⟩,
    ⟨(some (.l (.r .z))), .call 30 [(.t (.r (.l .z))), (.c .nilslice)], none, none, []⟩,
    ⟨(some (.l (.l .z))), .mv (.t (.l (.r .z))), none, none, []⟩,
    ⟨(some (.r (.r .z))), .ext (.t (.l (.l .z))) 0, none, none, []⟩,
    ⟨(some (.l (.l (.l .z)))), .ext (.t (.l (.l .z))) 1, none, none, []⟩,
    ⟨(some (.l .z)), .mv (.t (.r (.r .z))), none, none, []⟩,
    ⟨(some (.r .z)), .mv (.t (.l (.l (.l .z)))), none, none, []⟩])
  (.seq (.region false 0 [
    ⟨(some (.r (.l (.l .z)))), .call 5 [], none, none, []⟩,
    ⟨(some (.l (.r (.l .z)))), .call 31 [(.t (.r (.l (.l .z))))], none, none, []⟩,
    ⟨(some (.r (.r (.l .z)))), .eql false false [.i] (.t (.l (.r (.l .z)))) (.c (.int .i64 0)), none, none, []⟩,
    ⟨(some (.l (.l (.r .z)))), .mv (.t (.r (.r (.l .z)))), none, none, []⟩,
    ⟨(some (.r (.l (.r .z)))), .mv (.t (.l .z)), (some ((.l (.l (.r .z))), true)), none, []⟩,
    ⟨(some (.l (.r (.r .z)))), .len .slice (.t (.r (.l (.r .z)))), (some ((.l (.l (.r .z))), true)), none, []⟩,
    ⟨(some (.r (.r (.r .z)))), .eql false false [.i] (.t (.l (.r (.r .z)))) (.c (.int .i64 0)), (some ((.l (.l (.r .z))), true)), none, []⟩,
    ⟨(some (.l (.l (.l (.l .z))))), .pick (.t (.l (.l (.r .z)))) (.t (.r (.r (.r .z)))) (.c (.bool false)), none, none, []⟩,
    ⟨(some (.r (.l (.l (.l .z))))), .mv (.t (.l (.l (.l (.l .z))))), none, none, []⟩,
    ⟨(some (.l (.r (.l (.l .z))))), .mv (.t (.r .z)), (some ((.r (.l (.l (.l .z)))), true)), none, []⟩,
    ⟨(some (.r (.r (.l (.l .z))))), .eql false false [.i] (.t (.l (.r (.l (.l .z))))) (.c (.int .i64 0)), (some ((.r (.l (.l (.l .z)))), true)), none, []⟩,
    ⟨(some (.l (.l (.r (.l .z))))), .pick (.t (.r (.l (.l (.l .z))))) (.t (.r (.r (.l (.l .z))))) (.c (.bool false)), none, none, []⟩,
    ⟨(some (.r (.l (.r (.l .z))))), .mv (.t (.l (.l (.r (.l .z))))), none, none, []⟩,
    ⟨(some (.l (.r (.r (.l .z))))), .call 5 [], (some ((.r (.l (.r (.l .z)))), true)), none, []⟩,
    ⟨(some (.r (.r (.r (.l .z))))), .call 8 [], (some ((.r (.l (.r (.l .z)))), true)), none, []⟩,
    ⟨(some (.l (.l (.l (.r .z))))), .slit 9 1 [(.int .i64 0), (.int .u64 0), (.int .i64 0), (.int .i64 0), (.int .i64 0), (.int .i64 0), (.int .i64 0), (.int .i64 0), (.str [])] [(0, (.t (.r (.r (.r (.l .z))))))], (some ((.r (.l (.r (.l .z)))), true)), none, []⟩,
    ⟨(some (.r (.l (.l (.r .z))))), .call 8 [], (some ((.r (.l (.r (.l .z)))), true)), none, []⟩,
    ⟨(some (.l (.r (.l (.r .z))))), .field 0 3 true (.t (.r (.l (.l (.r .z))))), (some ((.r (.l (.r (.l .z)))), true)), none, []⟩,
    ⟨(some (.r (.r (.l (.r .z))))), .build [(.int .i64 0), (.int .i64 0), (.int .i64 0), (.int .i64 0), (.int .u64 0), (.int .i64 0)] [(0, 1, (.c (.int .i64 3))), (1, 1, (.c (.int .i64 1))), (2, 1, (.c (.int .i64 2))), (3, 3, (.t (.l (.r (.l (.r .z))))))], (some ((.r (.l (.r (.l .z)))), true)), none, []⟩,
    ⟨(some (.l (.l (.r (.r .z))))), .slit 6 1 [(.int .i64 0), (.int .i64 0), (.int .i64 0), (.int .i64 0), (.int .u64 0), (.int .i64 0)] [(0, (.t (.r (.r (.l (.r .z))))))], (some ((.r (.l (.r (.l .z)))), true)), none, []⟩,
    ⟨(some (.r (.l (.r (.r .z))))), .call 10 [(.t (.l (.r (.r (.l .z))))), (.t (.l (.l (.l (.r .z))))), (.t (.l (.l (.r (.r .z)))))], (some ((.r (.l (.r (.l .z)))), true)), none, []⟩,
    ⟨(some (.l (.r (.r (.r .z))))), .pick (.t (.r (.l (.r (.l .z))))) (.t (.r (.l (.r (.r .z))))) (.c (.bool false)), none, none, []⟩,
    ⟨(some .z), .mv (.t (.l (.r (.r (.r .z))))), none, none, []⟩])
  .ret)))⟩
def AF15 : AFunc := ⟨26, [.tmp (.r (.l .z)), .tmp (.l (.r .z))],
  (.seq (.region false 0 [
    ⟨(some (.r .z)), .box 3 3 (.t .z), none, none, []⟩,
    ⟨(some (.r (.l .z))), .mv (.c .nilslice), none, none, []⟩,
    ⟨(some (.l (.r .z))), .mv (.c (.int .i64 0)), none, none, []⟩])
  (.seq (.region false 0 [
    ⟨(some (.l (.r (.l .z)))), .load true 3 (.t (.r .z)), none, none, []⟩,
    ⟨(some (.r (.r (.l .z)))), .call 24 [(.t (.l (.r (.l .z))))], none, none, []⟩,
    ⟨(some (.r (.l (.l .z)))), .mv (.t (.r (.r (.l .z)))), none, none, []⟩,
    ⟨(some (.l (.l (.r .z)))), .ext (.t (.r (.l (.l .z)))) 0, none, none, []⟩,
    ⟨(some (.r (.l (.r .z)))), .ext (.t (.r (.l (.l .z)))) 1, none, none, []⟩,
    ⟨(some (.r (.r .z))), .alloc 4 [[(.int .i64 0), .nilslice, .nilslice, .nilmap]], none, none, []⟩,
    ⟨none, .store 4 (.t (.r (.r .z))) (.t (.l (.l (.r .z)))), none, none, []⟩,
    ⟨(some (.l (.l (.l .z)))), .mv (.t (.r (.l (.r .z)))), none, none, []⟩])
  (.seq (.seq (.region false 0 [
    ⟨(some (.l (.r (.r .z)))), .mv (.t (.l (.l (.l .z)))), none, none, []⟩,
    ⟨(some (.r (.r (.r .z)))), .eql false false [.i] (.t (.l (.r (.r .z)))) (.c (.int .i64 0)), none, none, []⟩])
  (.cond (.t (.r (.r (.r .z))))
  (.region false 0 [
     ⟨(some (.r (.l (.l (.l .z))))), .mv (.t (.l .z)), none, none, []⟩,
     ⟨(some (.l (.r (.l (.l .z))))), .call 32 [(.t (.r (.l (.l (.l .z)))))], none, none, []⟩,
     ⟨(some (.l (.l (.l (.l .z))))), .mv (.t (.l (.r (.l (.l .z))))), none, none, []⟩,
     ⟨(some (.r (.r (.l (.l .z))))), .ext (.t (.l (.l (.l (.l .z))))) 0, none, none, []⟩,
     ⟨(some (.l (.l (.r (.l .z))))), .ext (.t (.l (.l (.l (.l .z))))) 1, none, none, []⟩,
     ⟨(some (.l (.l (.l .z)))), .mv (.t (.r (.r (.l (.l .z))))), none, none, []⟩])
  .skip))
  (.seq (.seq (.region false 0 [
    ⟨(some (.r (.l (.r (.l .z))))), .mv (.t (.l (.l (.l .z)))), none, none, []⟩,
    ⟨(some (.l (.r (.r (.l .z))))), .eql true false [.i] (.t (.r (.l (.r (.l .z))))) (.c (.int .i64 0)), none, none, []⟩])
  (.cond (.t (.l (.r (.r (.l .z)))))
  (.seq (.region false 0 [
     ⟨(some (.r (.r (.r (.l .z))))), .mv (.t (.l (.l (.l .z)))), none, none, []⟩,
     ⟨(some (.r (.l .z))), .mv (.c .nilslice), none, none, []⟩,
     ⟨(some (.l (.r .z))), .mv (.t (.r (.r (.r (.l .z))))), none, none, []⟩])
   .ret)
  .skip))
  (.seq (.region false 0 [
    ⟨(some (.l (.l (.l (.r .z))))), .load true 4 (.t (.r (.r .z))), none, none, []⟩,
    ⟨(some (.r (.l (.l (.r .z))))), .mv (.t (.l .z)), none, none, []⟩,
    ⟨(some (.l (.r (.l (.r .z))))), .call 33 [(.t (.l (.l (.l (.r .z))))), (.t (.r (.l (.l (.r .z)))))], none, none, []⟩,
    ⟨(some (.r (.l .z))), .mv (.t (.l (.r (.l (.r .z))))), none, none, []⟩,
    ⟨(some (.l (.r .z))), .mv (.c (.int .i64 0)), none, none, []⟩])
  .ret)))))⟩
def AF16 : AFunc := ⟨88, [],
  (.seq (.region false 0 [
    ⟨(some (.r (.l (.r .z)))), .load false 1 (.t (.l .z)), none, none, []⟩,
    ⟨(some (.l (.r (.r .z)))), .mv (.t .z), none, none, []⟩,
    ⟨(some (.r (.r (.r .z)))), .load false 1 (.t (.l .z)), none, none, []⟩,
    ⟨(some (.l (.l (.l (.l .z))))), .len .map (.t (.r (.r (.r .z)))), none, none, []⟩,
    ⟨(some (.r (.l (.l (.l .z))))), .bin .add (.t (.l (.l (.l (.l .z))))) (.c (.int .i64 1)), none, none, []⟩,
    ⟨none, .mapset false [.i] (.t (.r (.l (.r .z)))) (.t (.l (.r (.r .z)))) (.t (.r (.l (.l (.l .z))))), none, none, []⟩])
  (.seq (.region false 0 [
    ⟨(some (.l (.r (.l (.l .z))))), .load false 1 (.t (.r .z)), none, none, []⟩,
    ⟨(some (.r (.r (.l (.l .z))))), .mv (.t .z), none, none, []⟩,
    ⟨(some (.l (.l (.r (.l .z))))), .load false 1 (.t (.l .z)), none, none, []⟩,
    ⟨(some (.r (.l (.r (.l .z))))), .mv (.t .z), none, none, []⟩,
    ⟨(some (.l (.r (.r (.l .z))))), .look false [.i] (.int .i64 0) false (.t (.l (.l (.r (.l .z))))) (.t (.r (.l (.r (.l .z))))), none, none, []⟩,
    ⟨none, .mapset false [.i] (.t (.l (.r (.l (.l .z))))) (.t (.r (.r (.l (.l .z))))) (.t (.l (.r (.r (.l .z))))), none, none, []⟩])
  (.seq (.region false 0 [
    ⟨(some (.r (.r (.r (.l .z))))), .load false 1 (.t (.l (.l .z))), none, none, []⟩,
    ⟨(some (.l (.l (.l (.r .z))))), .mv (.t .z), none, none, []⟩,
    ⟨(some (.r (.l (.l (.r .z))))), .slit 1 1 [(.int .i64 0)] [(0, (.t (.l (.l (.l (.r .z))))))], none, none, []⟩,
    ⟨(some (.l (.r (.l (.r .z))))), .app 1 8 (.t (.r (.r (.r (.l .z))))) (.t (.r (.l (.l (.r .z))))), none, none, []⟩,
    ⟨none, .store 1 (.t (.l (.l .z))) (.t (.l (.r (.l (.r .z))))), none, none, []⟩])
  (.seq (.seq (.region false 0 [
    ⟨(some (.r (.r (.l (.r .z))))), .load false 1 (.t (.r (.l .z))), none, none, []⟩,
    ⟨(some (.l (.l (.r (.r .z))))), .mv (.t .z), none, none, []⟩,
    ⟨(some (.r (.l (.r (.r .z))))), .look false [.i] .nilslice false (.t (.r (.r (.l (.r .z))))) (.t (.l (.l (.r (.r .z))))), none, none, []⟩,
    ⟨(some (.l (.r (.r (.r .z))))), .len .slice (.t (.r (.l (.r (.r .z))))), none, none, []⟩,
    ⟨(some (.r (.r (.r (.r .z))))), .mv (.c (.int .i64 0)), none, none, []⟩])
  (.block 0 (.loop (.seq (.region false 0 [
      ⟨(some (.l (.l (.l (.l (.l .z)))))), .bin .lss (.t (.r (.r (.r (.r .z))))) (.t (.l (.r (.r (.r .z))))), none, none, []⟩])
    (.seq (.cond (.t (.l (.l (.l (.l (.l .z))))))
    .skip
    (.exit 0))
    (.seq (.block 1 (.seq (.region false 0 [
       ⟨(some (.r (.l (.l (.l (.l .z)))))), .idxS 1 (.t (.r (.l (.r (.r .z))))) (.t (.r (.r (.r (.r .z))))), none, none, []⟩,
       ⟨(some (.l (.r (.l (.l (.l .z)))))), .load false 1 (.t (.r (.l (.l (.l (.l .z)))))), none, none, []⟩,
       ⟨(some (.l (.r (.l .z)))), .mv (.t (.l (.r (.l (.l (.l .z)))))), none, none, []⟩])
     (.seq (.region false 0 [
       ⟨(some (.r (.r (.l (.l (.l .z)))))), .load false 1 (.t (.l .z)), none, none, []⟩,
       ⟨(some (.l (.l (.r (.l (.l .z)))))), .mv (.t (.l (.r (.l .z)))), none, none, []⟩,
       ⟨(some (.r (.l (.r (.l (.l .z)))))), .look false [.i] (.int .i64 0) false (.t (.r (.r (.l (.l (.l .z)))))) (.t (.l (.l (.r (.l (.l .z)))))), none, none, []⟩,
       ⟨(some (.l (.r (.r (.l (.l .z)))))), .eql false false [.i] (.t (.r (.l (.r (.l (.l .z)))))) (.c (.int .i64 0)), none, none, []⟩])
     (.cond (.t (.l (.r (.r (.l (.l .z))))))
     (.seq (.region false 0 [
        ⟨(some (.r (.r (.r (.l (.l .z)))))), .load false 1 (.t (.l (.r .z))), none, none, []⟩,
        ⟨(some (.l (.l (.l (.r (.l .z)))))), .mv (.t (.l (.r (.l .z)))), none, none, []⟩,
        ⟨(some (.r (.l (.l (.r (.l .z)))))), .callv (.t (.r (.r (.r (.l (.l .z)))))) [(.t (.l (.l (.l (.r (.l .z))))))], none, none, []⟩])
      (.region false 0 [
        ⟨(some (.l (.r (.l (.r (.l .z)))))), .load false 1 (.t (.r .z)), none, none, []⟩,
        ⟨(some (.r (.r (.l (.r (.l .z)))))), .mv (.t .z), none, none, []⟩,
        ⟨(some (.l (.l (.r (.r (.l .z)))))), .load false 1 (.t (.r .z)), none, none, []⟩,
        ⟨(some (.r (.l (.r (.r (.l .z)))))), .mv (.t .z), none, none, []⟩,
        ⟨(some (.l (.r (.r (.r (.l .z)))))), .look false [.i] (.int .i64 0) false (.t (.l (.l (.r (.r (.l .z)))))) (.t (.r (.l (.r (.r (.l .z)))))), none, none, []⟩,
        ⟨(some (.r (.r (.r (.r (.l .z)))))), .load false 1 (.t (.r .z)), none, none, []⟩,
        ⟨(some (.l (.l (.l (.l (.r .z)))))), .mv (.t (.l (.r (.l .z)))), none, none, []⟩,
        ⟨(some (.r (.l (.l (.l (.r .z)))))), .look false [.i] (.int .i64 0) false (.t (.r (.r (.r (.r (.l .z)))))) (.t (.l (.l (.l (.l (.r .z)))))), none, none, []⟩,
        ⟨(some (.l (.r (.l (.l (.r .z)))))), .minmax false [(.t (.l (.r (.r (.r (.l .z)))))), (.t (.r (.l (.l (.l (.r .z))))))], none, none, []⟩,
        ⟨none, .mapset false [.i] (.t (.l (.r (.l (.r (.l .z)))))) (.t (.r (.r (.l (.r (.l .z)))))) (.t (.l (.r (.l (.l (.r .z)))))), none, none, []⟩]))
     (.seq (.region false 0 [
        ⟨(some (.r (.r (.l (.l (.r .z)))))), .load false 1 (.t (.l (.l .z))), none, none, []⟩,
        ⟨(some (.l (.l (.r (.l (.r .z)))))), .mv (.t (.l (.r (.l .z)))), none, none, []⟩,
        ⟨(some (.r (.l (.r (.l (.r .z)))))), .call 17 [(.t (.r (.r (.l (.l (.r .z)))))), (.t (.l (.l (.r (.l (.r .z))))))], none, none, []⟩])
      (.cond (.t (.r (.l (.r (.l (.r .z))))))
      (.region false 0 [
         ⟨(some (.l (.r (.r (.l (.r .z)))))), .load false 1 (.t (.r .z)), none, none, []⟩,
         ⟨(some (.r (.r (.r (.l (.r .z)))))), .mv (.t .z), none, none, []⟩,
         ⟨(some (.l (.l (.l (.r (.r .z)))))), .load false 1 (.t (.r .z)), none, none, []⟩,
         ⟨(some (.r (.l (.l (.r (.r .z)))))), .mv (.t .z), none, none, []⟩,
         ⟨(some (.l (.r (.l (.r (.r .z)))))), .look false [.i] (.int .i64 0) false (.t (.l (.l (.l (.r (.r .z)))))) (.t (.r (.l (.l (.r (.r .z)))))), none, none, []⟩,
         ⟨(some (.r (.r (.l (.r (.r .z)))))), .load false 1 (.t (.l .z)), none, none, []⟩,
         ⟨(some (.l (.l (.r (.r (.r .z)))))), .mv (.t (.l (.r (.l .z)))), none, none, []⟩,
         ⟨(some (.r (.l (.r (.r (.r .z)))))), .look false [.i] (.int .i64 0) false (.t (.r (.r (.l (.r (.r .z)))))) (.t (.l (.l (.r (.r (.r .z)))))), none, none, []⟩,
         ⟨(some (.l (.r (.r (.r (.r .z)))))), .minmax false [(.t (.l (.r (.l (.r (.r .z)))))), (.t (.r (.l (.r (.r (.r .z))))))], none, none, []⟩,
         ⟨none, .mapset false [.i] (.t (.l (.r (.r (.l (.r .z)))))) (.t (.r (.r (.r (.l (.r .z)))))) (.t (.l (.r (.r (.r (.r .z)))))), none, none, []⟩])
      .skip))))))
    (.region false 0 [
      ⟨(some (.r (.r (.r (.r (.r .z)))))), .bin .add (.t (.r (.r (.r (.r .z))))) (.c (.int .i64 1)), none, none, []⟩,
      ⟨(some (.r (.r (.r (.r .z))))), .mv (.t (.r (.r (.r (.r (.r .z)))))), none, none, []⟩])))))))
  (.seq (.seq (.region false 0 [
    ⟨(some (.l (.l (.l (.l (.l (.l .z))))))), .load false 1 (.t (.r .z)), none, none, []⟩,
    ⟨(some (.r (.l (.l (.l (.l (.l .z))))))), .mv (.t .z), none, none, []⟩,
    ⟨(some (.l (.r (.l (.l (.l (.l .z))))))), .look false [.i] (.int .i64 0) false (.t (.l (.l (.l (.l (.l (.l .z))))))) (.t (.r (.l (.l (.l (.l (.l .z))))))), none, none, []⟩,
    ⟨(some (.r (.r (.l (.l (.l (.l .z))))))), .load false 1 (.t (.l .z)), none, none, []⟩,
    ⟨(some (.l (.l (.r (.l (.l (.l .z))))))), .mv (.t .z), none, none, []⟩,
    ⟨(some (.r (.l (.r (.l (.l (.l .z))))))), .look false [.i] (.int .i64 0) false (.t (.r (.r (.l (.l (.l (.l .z))))))) (.t (.l (.l (.r (.l (.l (.l .z))))))), none, none, []⟩,
    ⟨(some (.l (.r (.r (.l (.l (.l .z))))))), .bin .lss (.t (.l (.r (.l (.l (.l (.l .z))))))) (.t (.r (.l (.r (.l (.l (.l .z))))))), none, none, []⟩])
  (.cond (.t (.l (.r (.r (.l (.l (.l .z)))))))
  .ret
  .skip))
  (.seq (.region false 0 [
    ⟨(some (.r (.r (.r (.l (.l (.l .z))))))), .load false 1 (.t (.l (.l .z))), none, none, []⟩,
    ⟨(some (.l (.l (.l (.r (.l (.l .z))))))), .mv (.t .z), none, none, []⟩,
    ⟨(some (.r (.l (.l (.r (.l (.l .z))))))), .call 18 [(.t (.r (.r (.r (.l (.l (.l .z))))))), (.t (.l (.l (.l (.r (.l (.l .z)))))))], none, none, []⟩,
    ⟨(some (.r (.r (.l .z)))), .mv (.t (.r (.l (.l (.r (.l (.l .z))))))), none, none, []⟩])
  (.seq (.region false 0 [
    ⟨(some (.l (.r (.l (.r (.l (.l .z))))))), .load false 1 (.t (.l (.l .z))), none, none, []⟩,
    ⟨(some (.r (.r (.l (.r (.l (.l .z))))))), .mv (.t (.r (.r (.l .z)))), none, none, []⟩,
    ⟨(some (.l (.l (.r (.r (.l (.l .z))))))), .sliceS 1 (.t (.l (.r (.l (.r (.l (.l .z))))))) (some (.t (.r (.r (.l (.r (.l (.l .z)))))))) none none, none, none, []⟩,
    ⟨(some (.r (.l (.r (.r (.l (.l .z))))))), .call 20 [(.t (.l (.l (.r (.r (.l (.l .z)))))))], none, none, []⟩,
    ⟨(some (.l (.r (.r (.r (.l (.l .z))))))), .call 19 [(.t (.r (.l (.r (.r (.l (.l .z)))))))], none, none, []⟩,
    ⟨(some (.l (.l (.r .z)))), .mv (.t (.l (.r (.r (.r (.l (.l .z))))))), none, none, []⟩])
  (.seq (.region false 0 [
    ⟨(some (.r (.r (.r (.r (.l (.l .z))))))), .load false 1 (.t (.l (.l .z))), none, none, []⟩,
    ⟨(some (.l (.l (.l (.l (.r (.l .z))))))), .mv (.t (.r (.r (.l .z)))), none, none, []⟩,
    ⟨(some (.r (.l (.l (.l (.r (.l .z))))))), .sliceS 1 (.t (.r (.r (.r (.r (.l (.l .z))))))) none (some (.t (.l (.l (.l (.l (.r (.l .z)))))))) none, none, none, []⟩,
    ⟨none, .store 1 (.t (.l (.l .z))) (.t (.r (.l (.l (.l (.r (.l .z))))))), none, none, []⟩])
  (.seq (.region false 0 [
    ⟨(some (.l (.r (.l (.l (.r (.l .z))))))), .mv (.t (.l (.l (.r .z)))), none, none, []⟩,
    ⟨(some (.r (.r (.l (.l (.r (.l .z))))))), .len .slice (.t (.l (.r (.l (.l (.r (.l .z))))))), none, none, []⟩,
    ⟨(some (.l (.l (.r (.l (.r (.l .z))))))), .bin .gtr (.t (.r (.r (.l (.l (.r (.l .z))))))) (.c (.int .i64 1)), none, none, []⟩])
  (.cond (.t (.l (.l (.r (.l (.r (.l .z)))))))
  (.region false 0 [
     ⟨(some (.r (.l (.r (.l (.r (.l .z))))))), .load false 1 (.t (.r (.r .z))), none, none, []⟩,
     ⟨(some (.l (.r (.r (.l (.r (.l .z))))))), .mv (.t (.l (.l (.r .z)))), none, none, []⟩,
     ⟨(some (.r (.r (.r (.l (.r (.l .z))))))), .slit 1 1 [.nilslice] [(0, (.t (.l (.r (.r (.l (.r (.l .z))))))))], none, none, []⟩,
     ⟨(some (.l (.l (.l (.r (.r (.l .z))))))), .app 1 24 (.t (.r (.l (.r (.l (.r (.l .z))))))) (.t (.r (.r (.r (.l (.r (.l .z))))))), none, none, []⟩,
     ⟨none, .store 1 (.t (.r (.r .z))) (.t (.l (.l (.l (.r (.r (.l .z))))))), none, none, []⟩])
  .skip))))))))))⟩
def AF18 : AFunc := ⟨19, [.tmp (.r (.l .z))],
  (.seq (.region false 0 [
    ⟨(some (.r (.l .z))), .mv (.c (.int .i64 0)), none, none, []⟩])
  (.seq (.seq (.region false 0 [
    ⟨(some (.r (.r .z))), .mv (.t .z), none, none, []⟩,
    ⟨(some (.l (.l (.l .z)))), .len .slice (.t (.r (.r .z))), none, none, []⟩,
    ⟨(some (.r (.l (.l .z)))), .mv (.c (.int .i64 0)), none, none, []⟩])
  (.block 0 (.loop (.seq (.region false 0 [
      ⟨(some (.l (.r (.l .z)))), .bin .lss (.t (.r (.l (.l .z)))) (.t (.l (.l (.l .z)))), none, none, []⟩])
    (.seq (.cond (.t (.l (.r (.l .z))))
    .skip
    (.exit 0))
    (.seq (.block 1 (.seq (.region false 0 [
       ⟨(some (.r (.r (.l .z)))), .mv (.t (.r (.l (.l .z)))), none, none, []⟩,
       ⟨(some (.l (.r .z))), .mv (.t (.r (.r (.l .z)))), none, none, []⟩])
     (.seq (.region false 0 [
       ⟨(some (.l (.l (.r .z)))), .mv (.t (.l .z)), none, none, []⟩,
       ⟨(some (.r (.l (.r .z)))), .mv (.t .z), none, none, []⟩,
       ⟨(some (.l (.r (.r .z)))), .mv (.t (.l (.r .z))), none, none, []⟩,
       ⟨(some (.r (.r (.r .z)))), .idxS 1 (.t (.r (.l (.r .z)))) (.t (.l (.r (.r .z)))), none, none, []⟩,
       ⟨(some (.l (.l (.l (.l .z))))), .load false 1 (.t (.r (.r (.r .z)))), none, none, []⟩,
       ⟨(some (.r (.l (.l (.l .z))))), .eql false false [.i] (.t (.l (.l (.r .z)))) (.t (.l (.l (.l (.l .z))))), none, none, []⟩])
     (.cond (.t (.r (.l (.l (.l .z)))))
     (.seq (.region false 0 [
        ⟨(some (.l (.r (.l (.l .z))))), .mv (.t (.l (.r .z))), none, none, []⟩,
        ⟨(some (.r (.l .z))), .mv (.t (.l (.r (.l (.l .z))))), none, none, []⟩])
      .ret)
     .skip))))
    (.region false 0 [
      ⟨(some (.r (.r (.l (.l .z))))), .bin .add (.t (.r (.l (.l .z)))) (.c (.int .i64 1)), none, none, []⟩,
      ⟨(some (.r (.l (.l .z)))), .mv (.t (.r (.r (.l (.l .z))))), none, none, []⟩])))))))
  (.seq (.region false 0 [
    ⟨(some (.r (.l .z))), .mv (.c (.int .i64 (-1))), none, none, []⟩])
  .ret)))⟩
def AF19 : AFunc := ⟨9, [.tmp (.r .z)],
  (.seq (.region false 0 [
    ⟨(some (.r .z)), .mv (.c .nilslice), none, none, []⟩])
  (.seq (.region false 0 [
    ⟨(some (.r (.l .z))), .mv (.t .z), none, none, []⟩,
    ⟨(some (.l (.r .z))), .call 34 [(.t (.r (.l .z)))], none, none, []⟩,
    ⟨(some (.l (.l .z))), .mv (.t (.l (.r .z))), none, none, []⟩])
  (.seq (.region false 0 [
    ⟨(some (.r (.r .z))), .mv (.t (.l (.l .z))), none, none, []⟩,
    ⟨(some (.l (.l (.l .z)))), .call 35 [(.t (.r (.r .z)))], none, none, []⟩])
  (.seq (.region false 0 [
    ⟨(some (.r (.l (.l .z)))), .mv (.t (.l (.l .z))), none, none, []⟩,
    ⟨(some (.r .z)), .mv (.t (.r (.l (.l .z)))), none, none, []⟩])
  .ret))))⟩
def AF20 : AFunc := ⟨4, [.tmp (.r .z)],
  (.seq (.region false 0 [
    ⟨(some (.l .z)), .box 1 1 (.t .z), none, none, []⟩,
    ⟨(some (.r .z)), .mv (.c .nilFunc), none, none, []⟩])
  (.seq (.region false 0 [
    ⟨(some (.l (.l .z))), .mkfunc 36 [] [(.t (.l .z))], none, none, []⟩,
    ⟨(some (.r .z)), .mv (.t (.l (.l .z))), none, none, []⟩])
  .ret))⟩
def AF21 : AFunc := ⟨14, [],
  (.seq (.region false 0 [
    ⟨(some (.l (.r .z))), .mv (.t .z), none, none, []⟩,
    ⟨(some (.r (.r .z))), .len .slice (.t (.l (.r .z))), none, none, []⟩,
    ⟨(some (.r (.l .z))), .mv (.t (.r (.r .z))), none, none, []⟩])
  (.region false 0 [
    ⟨(some (.l (.l (.l .z)))), .mv (.t .z), none, none, []⟩,
    ⟨(some (.r (.l (.l .z)))), .mv (.t (.r (.l .z))), none, none, []⟩,
    ⟨(some (.l (.r (.l .z)))), .mv (.t (.r (.l .z))), none, none, []⟩,
    ⟨(some (.r (.r (.l .z)))), .conv (.toInt .u64) (.t (.l (.r (.l .z)))), none, none, []⟩,
    ⟨(some (.l (.l (.r .z)))), .call 38 [(.t (.r (.r (.l .z))))], none, none, []⟩,
    ⟨(some (.r (.l (.r .z)))), .mv (.t (.l .z)), none, none, []⟩,
    ⟨(some (.l (.r (.r .z)))), .call 37 [(.t (.l (.l (.l .z)))), (.c (.int .i64 0)), (.t (.r (.l (.l .z)))), (.t (.l (.l (.r .z)))), (.t (.r (.l (.r .z))))], none, none, []⟩]))⟩
def AF23 : AFunc := ⟨6, [.cell (.r .z) true 16],
  (.seq (.region false 0 [
    ⟨(some (.r .z)), .alloc 1 [[(.int .i64 0)], [(.int .u64 0)], [(.int .u64 0)], [(.int .u64 0)], [(.int .u64 0)], [(.int .i64 0)], [(.int .i64 0)], [(.int .i64 0)], [(.int .i64 0)], [(.int .i64 0)], [(.int .i64 0)], [(.int .i64 0)], [(.int .i64 0)], [(.int .i64 0)], [(.int .i64 0)], [(.int .i64 0)]], none, none, []⟩])
  (.seq (.region false 0 [
    ⟨(some (.l (.l .z))), .mv (.t .z), none, none, []⟩,
    ⟨(some (.r (.l .z))), .build [(.int .i64 0), (.int .i64 0), (.int .i64 0)] [(0, 1, (.c (.int .i64 1))), (1, 1, (.c (.int .i64 2))), (2, 1, (.c (.int .i64 4)))], none, none, []⟩,
    ⟨(some (.l (.r .z))), .build [(.int .i64 0), (.int .u64 0), (.int .u64 0), (.int .u64 0), (.int .u64 0), (.int .i64 0), (.int .i64 0), (.int .i64 0), (.int .i64 0), (.int .i64 0), (.int .i64 0), (.int .i64 0), (.int .i64 0), (.int .i64 0), (.int .i64 0), (.int .i64 0)] [(0, 1, (.t (.l (.l .z)))), (1, 1, (.c (.int .u64 1000))), (2, 1, (.c (.int .u64 1200))), (3, 1, (.c (.int .u64 300))), (4, 1, (.c (.int .u64 100))), (5, 1, (.c (.int .i64 2))), (6, 1, (.c (.int .i64 8))), (7, 1, (.c (.int .i64 2))), (8, 3, (.t (.r (.l .z)))), (11, 1, (.c (.int .i64 50))), (12, 1, (.c (.int .i64 1))), (13, 1, (.c (.int .i64 500))), (14, 1, (.c (.int .i64 40))), (15, 1, (.c (.int .i64 500)))], none, none, []⟩,
    ⟨none, .store 16 (.t (.r .z)) (.t (.l (.r .z))), none, none, []⟩])
  .ret))⟩
def AF24 : AFunc := ⟨37, [.cell (.r .z) true 4, .tmp (.l (.l .z))],
  (.seq (.region false 0 [
    ⟨(some (.l .z)), .box 3 3 (.t .z), none, none, []⟩,
    ⟨(some (.r .z)), .alloc 4 [[(.int .i64 0), .nilslice, .nilslice, .nilmap]], none, none, []⟩,
    ⟨(some (.l (.l .z))), .mv (.c (.int .i64 0)), none, none, []⟩])
  (.seq (.seq (.region false 0 [
    ⟨(some (.l (.l (.l .z)))), .load true 3 (.t (.l .z)), none, none, []⟩,
    ⟨(some (.r (.l (.l .z)))), .call 31 [(.t (.l (.l (.l .z))))], none, none, []⟩,
    ⟨(some (.r (.l .z))), .mv (.t (.r (.l (.l .z)))), none, none, []⟩])
  (.seq (.region false 0 [
    ⟨(some (.l (.r (.l .z)))), .mv (.t (.r (.l .z))), none, none, []⟩,
    ⟨(some (.r (.r (.l .z)))), .eql true false [.i] (.t (.l (.r (.l .z)))) (.c (.int .i64 0)), none, none, []⟩])
  (.cond (.t (.r (.r (.l .z))))
  (.seq (.region false 0 [
     ⟨(some (.l (.l (.r .z)))), .build [(.int .i64 0), .nilslice, .nilslice, .nilmap] [], none, none, []⟩,
     ⟨(some (.r (.l (.r .z)))), .mv (.t (.r (.l .z))), none, none, []⟩,
     ⟨none, .store 4 (.t (.r .z)) (.t (.l (.l (.r .z)))), none, none, []⟩,
     ⟨(some (.l (.l .z))), .mv (.t (.r (.l (.r .z)))), none, none, []⟩])
   .ret)
  .skip)))
  (.seq (.region false 0 [
    ⟨(some (.l (.r (.r .z)))), .load true 3 (.t (.l .z)), none, none, []⟩,
    ⟨(some (.r (.r (.r .z)))), .mkmap, none, none, []⟩,
    ⟨(some (.l (.l (.l (.l .z))))), .build [(.int .i64 0), .nilslice, .nilslice, .nilmap] [(0, 3, (.t (.l (.r (.r .z))))), (3, 1, (.t (.r (.r (.r .z)))))], none, none, []⟩,
    ⟨(some (.l (.r .z))), .alloc 4 [[(.int .i64 0), .nilslice, .nilslice, .nilmap]], none, none, []⟩,
    ⟨none, .store 4 (.t (.l (.r .z))) (.t (.l (.l (.l (.l .z))))), none, none, []⟩])
  (.seq (.seq (.region false 0 [
    ⟨(some (.r (.l (.l (.l .z))))), .fieldA 1 (.t (.l .z)), none, none, []⟩,
    ⟨(some (.l (.r (.l (.l .z))))), .load false 1 (.t (.r (.l (.l (.l .z))))), none, none, []⟩,
    ⟨(some (.r (.r (.l (.l .z))))), .len .slice (.t (.l (.r (.l (.l .z))))), none, none, []⟩,
    ⟨(some (.l (.l (.r (.l .z))))), .mv (.c (.int .i64 0)), none, none, []⟩])
  (.block 0 (.loop (.seq (.region false 0 [
      ⟨(some (.r (.l (.r (.l .z))))), .bin .lss (.t (.l (.l (.r (.l .z))))) (.t (.r (.r (.l (.l .z))))), none, none, []⟩])
    (.seq (.cond (.t (.r (.l (.r (.l .z)))))
    .skip
    (.exit 0))
    (.seq (.block 1 (.seq (.region false 0 [
       ⟨(some (.l (.r (.r (.l .z))))), .mv (.t (.l (.l (.r (.l .z))))), none, none, []⟩,
       ⟨(some (.r (.r .z))), .mv (.t (.l (.r (.r (.l .z))))), none, none, []⟩])
     (.region true 0 [
       ⟨(some (.r (.r (.r (.l .z))))), .fieldA 3 (.t (.l (.r .z))), none, none, []⟩,
       ⟨(some (.l (.l (.l (.r .z))))), .load false 1 (.t (.r (.r (.r (.l .z))))), none, none, [0]⟩,
       ⟨(some (.r (.l (.l (.r .z))))), .fieldA 1 (.t (.l .z)), none, none, []⟩,
       ⟨(some (.l (.r (.l (.r .z))))), .load false 1 (.t (.r (.l (.l (.r .z))))), none, none, [2]⟩,
       ⟨(some (.r (.r (.l (.r .z))))), .mv (.t (.r (.r .z))), none, none, []⟩,
       ⟨(some (.l (.l (.r (.r .z))))), .idxS 26 (.t (.l (.r (.l (.r .z))))) (.t (.r (.r (.l (.r .z))))), none, none, [2, 3, 4]⟩,
       ⟨(some (.r (.l (.r (.r .z))))), .fieldA 0 (.t (.l (.l (.r (.r .z))))), none, none, [2, 3, 4, 5]⟩,
       ⟨(some (.l (.r (.r (.r .z))))), .fieldA 0 (.t (.r (.l (.r (.r .z))))), none, none, [2, 3, 4, 5, 6]⟩,
       ⟨(some (.r (.r (.r (.r .z))))), .load false 1 (.t (.l (.r (.r (.r .z))))), none, none, [2, 3, 4, 5, 6, 7]⟩,
       ⟨(some (.l (.l (.l (.l (.l .z)))))), .fieldA 1 (.t (.l .z)), none, none, []⟩,
       ⟨(some (.r (.l (.l (.l (.l .z)))))), .load false 1 (.t (.l (.l (.l (.l (.l .z)))))), none, none, [9]⟩,
       ⟨(some (.l (.r (.l (.l (.l .z)))))), .mv (.t (.r (.r .z))), none, none, []⟩,
       ⟨(some (.r (.r (.l (.l (.l .z)))))), .idxS 26 (.t (.r (.l (.l (.l (.l .z)))))) (.t (.l (.r (.l (.l (.l .z)))))), none, none, [9, 10, 11]⟩,
       ⟨none, .mapset false [.i] (.t (.l (.l (.l (.r .z))))) (.t (.r (.r (.r (.r .z))))) (.t (.r (.r (.l (.l (.l .z)))))), none, none, [0, 1, 2, 3, 4, 5, 6, 7, 8, 9, 10, 11, 12]⟩])))
    (.region false 0 [
      ⟨(some (.l (.l (.r (.l (.l .z)))))), .bin .add (.t (.l (.l (.r (.l .z))))) (.c (.int .i64 1)), none, none, []⟩,
      ⟨(some (.l (.l (.r (.l .z))))), .mv (.t (.l (.l (.r (.l (.l .z)))))), none, none, []⟩])))))))
  (.seq (.region false 0 [
    ⟨(some (.r (.l (.r (.l (.l .z)))))), .load true 4 (.t (.l (.r .z))), none, none, []⟩,
    ⟨none, .store 4 (.t (.r .z)) (.t (.r (.l (.r (.l (.l .z)))))), none, none, []⟩,
    ⟨(some (.l (.l .z))), .mv (.c (.int .i64 0)), none, none, []⟩])
  .ret)))))⟩
def AF25 : AFunc := ⟨17, [.tmp (.r .z)],
  (.seq (.region false 0 [
    ⟨(some (.l .z)), .box 3 3 (.t .z), none, none, []⟩,
    ⟨(some (.r .z)), .mv (.c (.int .i64 0)), none, none, []⟩])
  (.seq (.seq (.region false 0 [
    ⟨(some (.l (.l .z))), .fieldA 0 (.t (.l .z)), none, none, []⟩,
    ⟨(some (.r (.l .z))), .load false 1 (.t (.l (.l .z))), none, none, []⟩,
    ⟨(some (.l (.r .z))), .build [(.int .i64 0), (.int .i64 0), (.int .i64 0)] [(0, 1, (.t (.r (.l .z)))), (1, 1, (.c (.int .i64 1))), (2, 1, (.c (.int .i64 16)))], none, none, []⟩,
    ⟨(some (.r (.r .z))), .fieldA 2 (.t (.l .z)), none, none, []⟩,
    ⟨(some (.l (.l (.l .z)))), .load false 1 (.t (.r (.r .z))), none, none, []⟩,
    ⟨(some (.r (.l (.l .z)))), .build [(.int .i64 0), (.int .i64 0), (.int .i64 0)] [(0, 1, (.t (.l (.l (.l .z))))), (1, 1, (.c (.int .i64 0))), (2, 1, (.c (.int .i64 19999)))], none, none, []⟩,
    ⟨(some (.l (.r (.l .z)))), .slit 3 2 [(.int .i64 0), (.int .i64 0), (.int .i64 0)] [(0, (.t (.l (.r .z)))), (1, (.t (.r (.l (.l .z)))))], none, none, []⟩,
    ⟨(some (.r (.r (.l .z)))), .call 40 [(.t (.l (.r (.l .z))))], none, none, []⟩,
    ⟨(some (.l (.l (.r .z)))), .un .not (.t (.r (.r (.l .z)))), none, none, []⟩,
    ⟨(some (.r (.l (.r .z)))), .mv (.t (.l (.l (.r .z)))), none, none, []⟩,
    ⟨(some (.l (.r (.r .z)))), .fieldA 1 (.t (.l .z)), (some ((.r (.l (.r .z))), false)), none, []⟩,
    ⟨(some (.r (.r (.r .z)))), .load false 1 (.t (.l (.r (.r .z)))), (some ((.r (.l (.r .z))), false)), none, []⟩,
    ⟨(some (.l (.l (.l (.l .z))))), .bin .gtr (.t (.r (.r (.r .z)))) (.c (.int .u64 1099511627776)), (some ((.r (.l (.r .z))), false)), none, []⟩,
    ⟨(some (.r (.l (.l (.l .z))))), .pick (.t (.r (.l (.r .z)))) (.c (.bool true)) (.t (.l (.l (.l (.l .z))))), none, none, []⟩])
  (.cond (.t (.r (.l (.l (.l .z)))))
  (.seq (.region false 0 [
     ⟨(some (.r .z)), .mv (.c (.int .i64 2)), none, none, []⟩])
   .ret)
  .skip))
  (.seq (.region false 0 [
    ⟨(some (.r .z)), .mv (.c (.int .i64 0)), none, none, []⟩])
  .ret)))⟩
def AF26 : AFunc := ⟨29, [.tmp (.r (.l .z))],
  (.seq (.region false 0 [
    ⟨(some (.r .z)), .box 4 4 (.t .z), none, none, []⟩,
    ⟨(some (.l (.l .z))), .box 3 3 (.t (.l .z)), none, none, []⟩,
    ⟨(some (.r (.l .z))), .mv (.c .nilslice), none, none, []⟩])
  (.seq (.region false 0 [
    ⟨(some (.l (.r .z))), .mv (.c .nilslice), none, none, []⟩])
  (.seq (.seq (.region false 0 [
    ⟨(some (.r (.l (.l .z)))), .fieldA 0 (.t (.r .z)), none, none, []⟩,
    ⟨(some (.l (.r (.l .z)))), .fieldA 1 (.t (.r (.l (.l .z)))), none, none, []⟩,
    ⟨(some (.r (.r (.l .z)))), .load false 1 (.t (.l (.r (.l .z)))), none, none, []⟩,
    ⟨(some (.l (.l (.r .z)))), .len .slice (.t (.r (.r (.l .z)))), none, none, []⟩,
    ⟨(some (.r (.l (.r .z)))), .mv (.c (.int .i64 0)), none, none, []⟩])
  (.block 0 (.loop (.seq (.region false 0 [
      ⟨(some (.l (.r (.r .z)))), .bin .lss (.t (.r (.l (.r .z)))) (.t (.l (.l (.r .z)))), none, none, []⟩])
    (.seq (.cond (.t (.l (.r (.r .z))))
    .skip
    (.exit 0))
    (.seq (.block 1 (.seq (.region false 0 [
       ⟨(some (.r (.r (.r .z)))), .idxS 26 (.t (.r (.r (.l .z)))) (.t (.r (.l (.r .z)))), none, none, []⟩,
       ⟨(some (.l (.l (.l (.l .z))))), .load true 26 (.t (.r (.r (.r .z)))), none, none, []⟩,
       ⟨(some (.l (.l (.l .z)))), .alloc 1 [[(.int .i64 0)], [(.int .u64 0)], [(.int .u64 0)], [(.int .u64 0)], [(.int .u64 0)], [(.int .i64 0)], [(.int .i64 0)], [(.int .i64 0)], [(.int .i64 0)], [(.int .i64 0)], [(.int .i64 0)], [(.int .i64 0)], [(.int .i64 0)], [(.int .i64 0)], [(.int .i64 0)], [(.int .i64 0)], [(.bool false)], [(.int .i64 0)], [(.int .u64 0)], [(.int .i64 0)], [(.int .u64 0)], [(.int .i64 0)], [.nilslice], [.nilslice], [.nilslice], [.nilslice]], none, none, []⟩,
       ⟨none, .store 26 (.t (.l (.l (.l .z)))) (.t (.l (.l (.l (.l .z))))), none, none, []⟩])
     (.seq (.region false 0 [
       ⟨(some (.r (.l (.l (.l .z))))), .fieldA 17 (.t (.l (.l (.l .z)))), none, none, []⟩,
       ⟨(some (.l (.r (.l (.l .z))))), .fieldA 5 (.t (.r (.l (.l (.l .z))))), none, none, []⟩,
       ⟨(some (.r (.r (.l (.l .z))))), .load false 1 (.t (.l (.r (.l (.l .z))))), none, none, []⟩,
       ⟨(some (.l (.l (.r (.l .z))))), .mkfunc 42 [] [(.t (.l (.l .z)))], none, none, []⟩,
       ⟨(some (.r (.l (.r (.l .z))))), .call 41 [(.t (.r (.r (.l (.l .z))))), (.t (.l (.l (.r (.l .z)))))], none, none, []⟩])
     (.cond (.t (.r (.l (.r (.l .z)))))
     (.region false 0 [
        ⟨(some (.l (.r (.r (.l .z))))), .mv (.t (.l (.r .z))), none, none, []⟩,
        ⟨(some (.r (.r (.r (.l .z))))), .fieldA 0 (.t (.l (.l (.l .z)))), none, none, []⟩,
        ⟨(some (.l (.l (.l (.r .z))))), .fieldA 0 (.t (.r (.r (.r (.l .z))))), none, none, []⟩,
        ⟨(some (.r (.l (.l (.r .z))))), .load false 1 (.t (.l (.l (.l (.r .z))))), none, none, []⟩,
        ⟨(some (.l (.r (.l (.r .z))))), .slit 1 1 [(.int .i64 0)] [(0, (.t (.r (.l (.l (.r .z))))))], none, none, []⟩,
        ⟨(some (.r (.r (.l (.r .z))))), .app 1 8 (.t (.l (.r (.r (.l .z))))) (.t (.l (.r (.l (.r .z))))), none, none, []⟩,
        ⟨(some (.l (.r .z))), .mv (.t (.r (.r (.l (.r .z))))), none, none, []⟩])
     .skip))))
    (.region false 0 [
      ⟨(some (.l (.l (.r (.r .z))))), .bin .add (.t (.r (.l (.r .z)))) (.c (.int .i64 1)), none, none, []⟩,
      ⟨(some (.r (.l (.r .z)))), .mv (.t (.l (.l (.r (.r .z))))), none, none, []⟩])))))))
  (.seq (.region false 0 [
    ⟨(some (.r (.l (.r (.r .z))))), .mv (.t (.l (.r .z))), none, none, []⟩,
    ⟨(some (.r (.l .z))), .mv (.t (.r (.l (.r (.r .z))))), none, none, []⟩])
  .ret))))⟩
def AF27 : AFunc := ⟨23, [.tmp (.r (.l .z)), .tmp (.l (.r .z))],
  (.seq (.region false 0 [
    ⟨(some (.r .z)), .box 3 3 (.t .z), none, none, []⟩,
    ⟨(some (.r (.l .z))), .mv (.c .nilslice), none, none, []⟩,
    ⟨(some (.l (.r .z))), .mv (.c (.int .i64 0)), none, none, []⟩])
  (.seq (.region false 0 [
    ⟨(some (.l (.r (.l .z)))), .load true 3 (.t (.r .z)), none, none, []⟩,
    ⟨(some (.r (.r (.l .z)))), .call 24 [(.t (.l (.r (.l .z))))], none, none, []⟩,
    ⟨(some (.r (.l (.l .z)))), .mv (.t (.r (.r (.l .z)))), none, none, []⟩,
    ⟨(some (.l (.l (.r .z)))), .ext (.t (.r (.l (.l .z)))) 0, none, none, []⟩,
    ⟨(some (.r (.l (.r .z)))), .ext (.t (.r (.l (.l .z)))) 1, none, none, []⟩,
    ⟨(some (.r (.r .z))), .alloc 4 [[(.int .i64 0), .nilslice, .nilslice, .nilmap]], none, none, []⟩,
    ⟨none, .store 4 (.t (.r (.r .z))) (.t (.l (.l (.r .z)))), none, none, []⟩,
    ⟨(some (.l (.l (.l .z)))), .mv (.t (.r (.l (.r .z)))), none, none, []⟩])
  (.seq (.seq (.region false 0 [
    ⟨(some (.l (.r (.r .z)))), .mv (.t (.l (.l (.l .z)))), none, none, []⟩,
    ⟨(some (.r (.r (.r .z)))), .eql false false [.i] (.t (.l (.r (.r .z)))) (.c (.int .i64 0)), none, none, []⟩])
  (.cond (.t (.r (.r (.r .z))))
  (.region false 0 [
     ⟨(some (.l (.l (.l (.l .z))))), .mv (.t (.l .z)), none, none, []⟩,
     ⟨(some (.r (.l (.l (.l .z))))), .call 43 [(.t (.l (.l (.l (.l .z)))))], none, none, []⟩,
     ⟨(some (.l (.l (.l .z)))), .mv (.t (.r (.l (.l (.l .z))))), none, none, []⟩])
  .skip))
  (.seq (.seq (.region false 0 [
    ⟨(some (.l (.r (.l (.l .z))))), .mv (.t (.l (.l (.l .z)))), none, none, []⟩,
    ⟨(some (.r (.r (.l (.l .z))))), .eql true false [.i] (.t (.l (.r (.l (.l .z))))) (.c (.int .i64 0)), none, none, []⟩])
  (.cond (.t (.r (.r (.l (.l .z)))))
  (.seq (.region false 0 [
     ⟨(some (.l (.l (.r (.l .z))))), .mv (.t (.l (.l (.l .z)))), none, none, []⟩,
     ⟨(some (.r (.l .z))), .mv (.c .nilslice), none, none, []⟩,
     ⟨(some (.l (.r .z))), .mv (.t (.l (.l (.r (.l .z))))), none, none, []⟩])
   .ret)
  .skip))
  (.seq (.region false 0 [
    ⟨(some (.r (.l (.r (.l .z))))), .load true 4 (.t (.r (.r .z))), none, none, []⟩,
    ⟨(some (.l (.r (.r (.l .z))))), .mv (.t (.l .z)), none, none, []⟩,
    ⟨(some (.r (.r (.r (.l .z))))), .call 44 [(.t (.r (.l (.r (.l .z))))), (.t (.l (.r (.r (.l .z)))))], none, none, []⟩,
    ⟨(some (.r (.l .z))), .mv (.t (.r (.r (.r (.l .z))))), none, none, []⟩,
    ⟨(some (.l (.r .z))), .mv (.c (.int .i64 0)), none, none, []⟩])
  .ret)))))⟩
def AF28 : AFunc := ⟨36, [.tmp (.r .z)],
  (.seq (.region false 0 [
    ⟨(some (.l .z)), .box 4 4 (.t .z), none, none, []⟩,
    ⟨(some (.r .z)), .mv (.c .nilslice), none, none, []⟩])
  (.seq (.region false 0 [
    ⟨(some (.l (.l .z))), .mv (.c .nilslice), none, none, []⟩])
  (.seq (.seq (.region false 0 [
    ⟨(some (.r (.l (.l .z)))), .fieldA 0 (.t (.l .z)), none, none, []⟩,
    ⟨(some (.l (.r (.l .z)))), .fieldA 1 (.t (.r (.l (.l .z)))), none, none, []⟩,
    ⟨(some (.r (.r (.l .z)))), .load false 1 (.t (.l (.r (.l .z)))), none, none, []⟩,
    ⟨(some (.l (.l (.r .z)))), .len .slice (.t (.r (.r (.l .z)))), none, none, []⟩,
    ⟨(some (.r (.l (.r .z)))), .mv (.c (.int .i64 0)), none, none, []⟩])
  (.block 0 (.loop (.seq (.region false 0 [
      ⟨(some (.l (.r (.r .z)))), .bin .lss (.t (.r (.l (.r .z)))) (.t (.l (.l (.r .z)))), none, none, []⟩])
    (.seq (.cond (.t (.l (.r (.r .z))))
    .skip
    (.exit 0))
    (.seq (.block 1 (.seq (.region false 0 [
       ⟨(some (.r (.r (.r .z)))), .idxS 26 (.t (.r (.r (.l .z)))) (.t (.r (.l (.r .z)))), none, none, []⟩,
       ⟨(some (.l (.l (.l (.l .z))))), .load true 26 (.t (.r (.r (.r .z)))), none, none, []⟩,
       ⟨(some (.l (.r .z))), .alloc 1 [[(.int .i64 0)], [(.int .u64 0)], [(.int .u64 0)], [(.int .u64 0)], [(.int .u64 0)], [(.int .i64 0)], [(.int .i64 0)], [(.int .i64 0)], [(.int .i64 0)], [(.int .i64 0)], [(.int .i64 0)], [(.int .i64 0)], [(.int .i64 0)], [(.int .i64 0)], [(.int .i64 0)], [(.int .i64 0)], [(.bool false)], [(.int .i64 0)], [(.int .u64 0)], [(.int .i64 0)], [(.int .u64 0)], [(.int .i64 0)], [.nilslice], [.nilslice], [.nilslice], [.nilslice]], none, none, []⟩,
       ⟨none, .store 26 (.t (.l (.r .z))) (.t (.l (.l (.l (.l .z))))), none, none, []⟩])
     (.seq (.region false 0 [
       ⟨(some (.l (.r (.l (.l .z))))), .fieldA 17 (.t (.l (.r .z))), none, none, []⟩,
       ⟨(some (.r (.r (.l (.l .z))))), .load true 8 (.t (.l (.r (.l (.l .z))))), none, none, []⟩,
       ⟨(some (.l (.l (.r (.l .z))))), .fieldA 0 (.t (.l (.r .z))), none, none, []⟩,
       ⟨(some (.r (.l (.r (.l .z))))), .fieldA 1 (.t (.l (.l (.r (.l .z))))), none, none, []⟩,
       ⟨(some (.l (.r (.r (.l .z))))), .load false 1 (.t (.r (.l (.r (.l .z))))), none, none, []⟩,
       ⟨(some (.r (.r (.r (.l .z))))), .call 45 [(.t (.r (.r (.l (.l .z))))), (.t (.l (.r (.r (.l .z)))))], none, none, []⟩,
       ⟨(some (.r (.l (.l (.l .z))))), .mv (.t (.r (.r (.r (.l .z))))), none, none, []⟩,
       ⟨(some (.l (.l (.l (.r .z))))), .ext (.t (.r (.l (.l (.l .z))))) 0, none, none, []⟩,
       ⟨(some (.r (.l (.l (.r .z))))), .ext (.t (.r (.l (.l (.l .z))))) 1, none, none, []⟩,
       ⟨(some (.r (.r .z))), .alloc 3 [[(.int .u64 0), (.int .u64 0), .nilslice]], none, none, []⟩,
       ⟨none, .store 3 (.t (.r (.r .z))) (.t (.l (.l (.l (.r .z))))), none, none, []⟩,
       ⟨(some (.l (.l (.l .z)))), .mv (.t (.r (.l (.l (.r .z))))), none, none, []⟩])
     (.seq (.region false 0 [
       ⟨(some (.l (.r (.l (.r .z))))), .mv (.t (.l (.l (.l .z)))), none, none, []⟩,
       ⟨(some (.r (.r (.l (.r .z))))), .eql true false [.i] (.t (.l (.r (.l (.r .z))))) (.c (.int .i64 0)), none, none, []⟩])
     (.cond (.t (.r (.r (.l (.r .z)))))
     (.region false 0 [
        ⟨(some (.l (.l (.r (.r .z))))), .mv (.t (.l (.l .z))), none, none, []⟩,
        ⟨(some (.r (.l (.r (.r .z))))), .fieldA 0 (.t (.l (.r .z))), none, none, []⟩,
        ⟨(some (.l (.r (.r (.r .z))))), .fieldA 0 (.t (.r (.l (.r (.r .z))))), none, none, []⟩,
        ⟨(some (.r (.r (.r (.r .z))))), .load false 1 (.t (.l (.r (.r (.r .z))))), none, none, []⟩,
        ⟨(some (.l (.l (.l (.l (.l .z)))))), .build [(.int .i64 0), (.int .i64 0), (.int .i64 0), (.int .i64 0), (.int .u64 0), (.int .i64 0)] [(0, 1, (.c (.int .i64 1))), (1, 1, (.t (.r (.r (.r (.r .z))))))], none, none, []⟩,
        ⟨(some (.r (.l (.l (.l (.l .z)))))), .slit 6 1 [(.int .i64 0), (.int .i64 0), (.int .i64 0), (.int .i64 0), (.int .u64 0), (.int .i64 0)] [(0, (.t (.l (.l (.l (.l (.l .z)))))))], none, none, []⟩,
        ⟨(some (.l (.r (.l (.l (.l .z)))))), .app 6 48 (.t (.l (.l (.r (.r .z))))) (.t (.r (.l (.l (.l (.l .z)))))), none, none, []⟩,
        ⟨(some (.l (.l .z))), .mv (.t (.l (.r (.l (.l (.l .z)))))), none, none, []⟩])
     .skip)))))
    (.region false 0 [
      ⟨(some (.r (.r (.l (.l (.l .z)))))), .bin .add (.t (.r (.l (.r .z)))) (.c (.int .i64 1)), none, none, []⟩,
      ⟨(some (.r (.l (.r .z)))), .mv (.t (.r (.r (.l (.l (.l .z)))))), none, none, []⟩])))))))
  (.seq (.region false 0 [
    ⟨(some (.l (.l (.r (.l (.l .z)))))), .mv (.t (.l (.l .z))), none, none, []⟩,
    ⟨(some (.r .z)), .mv (.t (.l (.l (.r (.l (.l .z)))))), none, none, []⟩])
  .ret))))⟩
def AF29 : AFunc := ⟨71, [.tmp (.r .z)],
  (.seq (.region false 0 [
    ⟨(some (.l .z)), .box 4 4 (.t .z), none, none, []⟩,
    ⟨(some (.r .z)), .mv (.c .nilslice), none, none, []⟩])
  (.seq (.region false 0 [
    ⟨(some (.l (.l .z))), .mv (.c .nilslice), none, none, []⟩])
  (.seq (.seq (.region false 0 [
    ⟨(some (.r (.l (.r .z)))), .fieldA 0 (.t (.l .z)), none, none, []⟩,
    ⟨(some (.l (.r (.r .z)))), .fieldA 1 (.t (.r (.l (.r .z)))), none, none, []⟩,
    ⟨(some (.r (.r (.r .z)))), .load false 1 (.t (.l (.r (.r .z)))), none, none, []⟩,
    ⟨(some (.l (.l (.l (.l .z))))), .len .slice (.t (.r (.r (.r .z)))), none, none, []⟩,
    ⟨(some (.r (.l (.l (.l .z))))), .mv (.c (.int .i64 0)), none, none, []⟩])
  (.block 0 (.loop (.seq (.region false 0 [
      ⟨(some (.l (.r (.l (.l .z))))), .bin .lss (.t (.r (.l (.l (.l .z))))) (.t (.l (.l (.l (.l .z))))), none, none, []⟩])
    (.seq (.cond (.t (.l (.r (.l (.l .z)))))
    .skip
    (.exit 0))
    (.seq (.block 1 (.seq (.region false 0 [
       ⟨(some (.r (.r (.l (.l .z))))), .idxS 26 (.t (.r (.r (.r .z)))) (.t (.r (.l (.l (.l .z))))), none, none, []⟩,
       ⟨(some (.l (.l (.r (.l .z))))), .load true 26 (.t (.r (.r (.l (.l .z))))), none, none, []⟩,
       ⟨(some (.l (.r .z))), .alloc 1 [[(.int .i64 0)], [(.int .u64 0)], [(.int .u64 0)], [(.int .u64 0)], [(.int .u64 0)], [(.int .i64 0)], [(.int .i64 0)], [(.int .i64 0)], [(.int .i64 0)], [(.int .i64 0)], [(.int .i64 0)], [(.int .i64 0)], [(.int .i64 0)], [(.int .i64 0)], [(.int .i64 0)], [(.int .i64 0)], [(.bool false)], [(.int .i64 0)], [(.int .u64 0)], [(.int .i64 0)], [(.int .u64 0)], [(.int .i64 0)], [.nilslice], [.nilslice], [.nilslice], [.nilslice]], none, none, []⟩,
       ⟨none, .store 26 (.t (.l (.r .z))) (.t (.l (.l (.r (.l .z))))), none, none, []⟩])
     (.seq (.region false 0 [
       ⟨(some (.r (.l (.r (.l .z))))), .fieldA 0 (.t (.l .z)), none, none, []⟩,
       ⟨(some (.l (.r (.r (.l .z))))), .fieldA 1 (.t (.r (.l (.r (.l .z))))), none, none, []⟩,
       ⟨(some (.r (.r (.r (.l .z))))), .load false 1 (.t (.l (.r (.r (.l .z))))), none, none, []⟩,
       ⟨(some (.l (.l (.l (.r .z))))), .len .slice (.t (.r (.r (.r (.l .z))))), none, none, []⟩,
       ⟨(some (.r (.l (.l (.r .z))))), .mv (.c (.int .i64 0)), none, none, []⟩])
     (.block 2 (.loop (.seq (.region false 0 [
         ⟨(some (.l (.r (.l (.r .z))))), .bin .lss (.t (.r (.l (.l (.r .z))))) (.t (.l (.l (.l (.r .z))))), none, none, []⟩])
       (.seq (.cond (.t (.l (.r (.l (.r .z)))))
       .skip
       (.exit 2))
       (.seq (.block 3 (.seq (.region false 0 [
          ⟨(some (.r (.r (.l (.r .z))))), .idxS 26 (.t (.r (.r (.r (.l .z))))) (.t (.r (.l (.l (.r .z))))), none, none, []⟩,
          ⟨(some (.l (.l (.r (.r .z))))), .load true 26 (.t (.r (.r (.l (.r .z))))), none, none, []⟩,
          ⟨(some (.l (.l (.l .z)))), .alloc 1 [[(.int .i64 0)], [(.int .u64 0)], [(.int .u64 0)], [(.int .u64 0)], [(.int .u64 0)], [(.int .i64 0)], [(.int .i64 0)], [(.int .i64 0)], [(.int .i64 0)], [(.int .i64 0)], [(.int .i64 0)], [(.int .i64 0)], [(.int .i64 0)], [(.int .i64 0)], [(.int .i64 0)], [(.int .i64 0)], [(.bool false)], [(.int .i64 0)], [(.int .u64 0)], [(.int .i64 0)], [(.int .u64 0)], [(.int .i64 0)], [.nilslice], [.nilslice], [.nilslice], [.nilslice]], none, none, []⟩,
          ⟨none, .store 26 (.t (.l (.l (.l .z)))) (.t (.l (.l (.r (.r .z))))), none, none, []⟩])
        (.seq (.region true 0 [
          ⟨(some (.r (.l (.r (.r .z))))), .fieldA 0 (.t (.l (.r .z))), none, none, []⟩,
          ⟨(some (.l (.r (.r (.r .z))))), .fieldA 0 (.t (.r (.l (.r (.r .z))))), none, none, [0]⟩,
          ⟨(some (.r (.r (.r (.r .z))))), .load false 1 (.t (.l (.r (.r (.r .z))))), none, none, [0, 1]⟩,
          ⟨(some (.l (.l (.l (.l (.l .z)))))), .fieldA 0 (.t (.l (.l (.l .z)))), none, none, []⟩,
          ⟨(some (.r (.l (.l (.l (.l .z)))))), .fieldA 0 (.t (.l (.l (.l (.l (.l .z)))))), none, none, [3]⟩,
          ⟨(some (.l (.r (.l (.l (.l .z)))))), .load false 1 (.t (.r (.l (.l (.l (.l .z)))))), none, none, [3, 4]⟩,
          ⟨(some (.r (.l (.l .z)))), .mv (.t (.r (.r (.r (.r .z))))), none, none, [0, 1, 2]⟩,
          ⟨(some (.l (.r (.l .z)))), .mv (.t (.l (.r (.l (.l (.l .z)))))), none, none, [0, 1, 2, 3, 4, 5, 6]⟩])
        (.seq (.seq (.region false 0 [
          ⟨(some (.r (.r (.l (.l (.l .z)))))), .mv (.t (.r (.l (.l .z)))), none, none, []⟩,
          ⟨(some (.l (.l (.r (.l (.l .z)))))), .mv (.t (.l (.r (.l .z)))), none, none, []⟩,
          ⟨(some (.r (.l (.r (.l (.l .z)))))), .eql false false [.i] (.t (.r (.r (.l (.l (.l .z)))))) (.t (.l (.l (.r (.l (.l .z)))))), none, none, []⟩,
          ⟨(some (.l (.r (.r (.l (.l .z)))))), .mv (.t (.r (.l (.r (.l (.l .z)))))), none, none, []⟩,
          ⟨(some (.r (.r (.r (.l (.l .z)))))), .fieldA 16 (.t (.l (.r .z))), (some ((.l (.r (.r (.l (.l .z))))), false)), none, []⟩,
          ⟨(some (.l (.l (.l (.r (.l .z)))))), .load false 1 (.t (.r (.r (.r (.l (.l .z)))))), (some ((.l (.r (.r (.l (.l .z))))), false)), none, []⟩,
          ⟨(some (.r (.l (.l (.r (.l .z)))))), .un .not (.t (.l (.l (.l (.r (.l .z)))))), (some ((.l (.r (.r (.l (.l .z))))), false)), none, []⟩,
          ⟨(some (.l (.r (.l (.r (.l .z)))))), .pick (.t (.l (.r (.r (.l (.l .z)))))) (.c (.bool true)) (.t (.r (.l (.l (.r (.l .z)))))), none, none, []⟩])
        (.cond (.t (.l (.r (.l (.r (.l .z))))))
        (.exit 3)
        .skip))
        (.seq (.region true 0 [
          ⟨(some (.l (.l (.r (.r (.l .z)))))), .load true 4 (.t (.l .z)), none, none, []⟩,
          ⟨(some (.r (.l (.r (.r (.l .z)))))), .mv (.t (.r (.l (.l .z)))), none, none, []⟩,
          ⟨(some (.l (.r (.r (.r (.l .z)))))), .mv (.t (.l (.r (.l .z)))), none, none, []⟩,
          ⟨(some (.r (.r (.r (.r (.l .z)))))), .call 47 [(.t (.l (.l (.r (.r (.l .z)))))), (.t (.r (.l (.r (.r (.l .z)))))), (.t (.l (.r (.r (.r (.l .z))))))], none, none, [0, 1, 2]⟩,
          ⟨(some (.l (.l (.l (.l (.r .z)))))), .fieldA 17 (.t (.l (.r .z))), none, none, []⟩,
          ⟨(some (.r (.l (.l (.l (.r .z)))))), .fieldA 1 (.t (.l (.l (.l (.l (.r .z)))))), none, none, [4]⟩,
          ⟨(some (.l (.r (.l (.l (.r .z)))))), .load false 1 (.t (.r (.l (.l (.l (.r .z)))))), none, none, [4, 5]⟩,
          ⟨(some (.r (.r (.l (.l (.r .z)))))), .load true 4 (.t (.l .z)), none, none, []⟩,
          ⟨(some (.l (.l (.r (.l (.r .z)))))), .mv (.t (.l (.r (.l .z)))), none, none, []⟩,
          ⟨(some (.r (.l (.r (.l (.r .z)))))), .mv (.t (.r (.l (.l .z)))), none, none, []⟩,
          ⟨(some (.l (.r (.r (.l (.r .z)))))), .call 47 [(.t (.r (.r (.l (.l (.r .z)))))), (.t (.l (.l (.r (.l (.r .z)))))), (.t (.r (.l (.r (.l (.r .z))))))], none, none, [0, 1, 2, 3, 7, 8, 9]⟩,
          ⟨(some (.r (.r (.r (.l (.r .z)))))), .fieldA 17 (.t (.l (.l (.l .z)))), none, none, []⟩,
          ⟨(some (.l (.l (.l (.r (.r .z)))))), .fieldA 1 (.t (.r (.r (.r (.l (.r .z)))))), none, none, [11]⟩,
          ⟨(some (.r (.l (.l (.r (.r .z)))))), .load false 1 (.t (.l (.l (.l (.r (.r .z)))))), none, none, [11, 12]⟩,
          ⟨(some (.l (.r (.l (.r (.r .z)))))), .call 46 [(.t (.r (.r (.r (.r (.l .z)))))), (.t (.l (.r (.l (.l (.r .z)))))), (.t (.l (.r (.r (.l (.r .z)))))), (.t (.r (.l (.l (.r (.r .z))))))], none, none, [0, 1, 2, 3, 4, 5, 6, 7, 8, 9, 10, 11, 12, 13]⟩,
          ⟨(some (.r (.r (.l (.r (.l .z)))))), .mv (.t (.l (.r (.l (.r (.r .z)))))), none, none, [0, 1, 2, 3, 4, 5, 6, 7, 8, 9, 10, 11, 12, 13, 14]⟩,
          ⟨(some (.r (.r (.l (.r (.r .z)))))), .ext (.t (.r (.r (.l (.r (.l .z)))))) 0, none, none, [0, 1, 2, 3, 4, 5, 6, 7, 8, 9, 10, 11, 12, 13, 14, 15]⟩,
          ⟨(some (.l (.l (.r (.r (.r .z)))))), .ext (.t (.r (.r (.l (.r (.l .z)))))) 1, none, none, [0, 1, 2, 3, 4, 5, 6, 7, 8, 9, 10, 11, 12, 13, 14, 15]⟩,
          ⟨(some (.r (.r (.l .z)))), .mv (.t (.r (.r (.l (.r (.r .z)))))), none, none, [0, 1, 2, 3, 4, 5, 6, 7, 8, 9, 10, 11, 12, 13, 14, 15, 16]⟩,
          ⟨(some (.l (.l (.r .z)))), .mv (.t (.l (.l (.r (.r (.r .z)))))), none, none, [0, 1, 2, 3, 4, 5, 6, 7, 8, 9, 10, 11, 12, 13, 14, 15, 16, 17, 18]⟩])
        (.seq (.region false 0 [
          ⟨(some (.r (.l (.r (.r (.r .z)))))), .mv (.t (.r (.r (.l .z)))), none, none, []⟩,
          ⟨(some (.l (.r (.r (.r (.r .z)))))), .un .not (.t (.r (.l (.r (.r (.r .z)))))), none, none, []⟩])
        (.cond (.t (.l (.r (.r (.r (.r .z))))))
        (.region false 0 [
           ⟨(some (.r (.r (.r (.r (.r .z)))))), .mv (.t (.l (.l .z))), none, none, []⟩,
           ⟨(some (.l (.l (.l (.l (.l (.l .z))))))), .mv (.t (.r (.l (.l .z)))), none, none, []⟩,
           ⟨(some (.r (.l (.l (.l (.l (.l .z))))))), .mv (.t (.l (.r (.l .z)))), none, none, []⟩,
           ⟨(some (.l (.r (.l (.l (.l (.l .z))))))), .build [(.int .i64 0), (.int .i64 0), (.int .i64 0), (.int .i64 0), (.int .u64 0), (.int .i64 0)] [(0, 1, (.c (.int .i64 2))), (1, 1, (.t (.l (.l (.l (.l (.l (.l .z)))))))), (2, 1, (.t (.r (.l (.l (.l (.l (.l .z))))))))], none, none, []⟩,
           ⟨(some (.r (.r (.l (.l (.l (.l .z))))))), .slit 6 1 [(.int .i64 0), (.int .i64 0), (.int .i64 0), (.int .i64 0), (.int .u64 0), (.int .i64 0)] [(0, (.t (.l (.r (.l (.l (.l (.l .z))))))))], none, none, []⟩,
           ⟨(some (.l (.l (.r (.l (.l (.l .z))))))), .app 6 48 (.t (.r (.r (.r (.r (.r .z)))))) (.t (.r (.r (.l (.l (.l (.l .z))))))), none, none, []⟩,
           ⟨(some (.l (.l .z))), .mv (.t (.l (.l (.r (.l (.l (.l .z))))))), none, none, []⟩])
        .skip)))))))
       (.region false 0 [
         ⟨(some (.r (.l (.r (.l (.l (.l .z))))))), .bin .add (.t (.r (.l (.l (.r .z))))) (.c (.int .i64 1)), none, none, []⟩,
         ⟨(some (.r (.l (.l (.r .z))))), .mv (.t (.r (.l (.r (.l (.l (.l .z))))))), none, none, []⟩])))))))))
    (.region false 0 [
      ⟨(some (.l (.r (.r (.l (.l (.l .z))))))), .bin .add (.t (.r (.l (.l (.l .z))))) (.c (.int .i64 1)), none, none, []⟩,
      ⟨(some (.r (.l (.l (.l .z))))), .mv (.t (.l (.r (.r (.l (.l (.l .z))))))), none, none, []⟩])))))))
  (.seq (.region false 0 [
    ⟨(some (.r (.r (.r (.l (.l (.l .z))))))), .mv (.t (.l (.l .z))), none, none, []⟩,
    ⟨(some (.r .z)), .mv (.t (.r (.r (.r (.l (.l (.l .z))))))), none, none, []⟩])
  .ret))))⟩
def AF30 : AFunc := ⟨29, [.tmp (.r (.l .z)), .tmp (.l (.r .z))],
  (.seq (.region false 0 [
    ⟨(some (.r .z)), .box 3 3 (.t .z), none, none, []⟩,
    ⟨(some (.r (.l .z))), .mv (.c .nilslice), none, none, []⟩,
    ⟨(some (.l (.r .z))), .mv (.c (.int .i64 0)), none, none, []⟩])
  (.seq (.region false 0 [
    ⟨(some (.l (.r (.l .z)))), .load true 3 (.t (.r .z)), none, none, []⟩,
    ⟨(some (.r (.r (.l .z)))), .call 24 [(.t (.l (.r (.l .z))))], none, none, []⟩,
    ⟨(some (.r (.l (.l .z)))), .mv (.t (.r (.r (.l .z)))), none, none, []⟩,
    ⟨(some (.l (.l (.r .z)))), .ext (.t (.r (.l (.l .z)))) 0, none, none, []⟩,
    ⟨(some (.r (.l (.r .z)))), .ext (.t (.r (.l (.l .z)))) 1, none, none, []⟩,
    ⟨(some (.r (.r .z))), .alloc 4 [[(.int .i64 0), .nilslice, .nilslice, .nilmap]], none, none, []⟩,
    ⟨none, .store 4 (.t (.r (.r .z))) (.t (.l (.l (.r .z)))), none, none, []⟩,
    ⟨(some (.l (.l (.l .z)))), .mv (.t (.r (.l (.r .z)))), none, none, []⟩])
  (.seq (.seq (.region false 0 [
    ⟨(some (.l (.r (.r .z)))), .mv (.t (.l (.l (.l .z)))), none, none, []⟩,
    ⟨(some (.r (.r (.r .z)))), .eql false false [.i] (.t (.l (.r (.r .z)))) (.c (.int .i64 0)), none, none, []⟩])
  (.cond (.t (.r (.r (.r .z))))
  (.region false 0 [
     ⟨(some (.l (.l (.l (.l .z))))), .mv (.t (.l .z)), none, none, []⟩,
     ⟨(some (.r (.l (.l (.l .z))))), .call 43 [(.t (.l (.l (.l (.l .z)))))], none, none, []⟩,
     ⟨(some (.l (.l (.l .z)))), .mv (.t (.r (.l (.l (.l .z))))), none, none, []⟩])
  .skip))
  (.seq (.seq (.region false 0 [
    ⟨(some (.l (.r (.l (.l .z))))), .mv (.t (.l (.l (.l .z)))), none, none, []⟩,
    ⟨(some (.r (.r (.l (.l .z))))), .eql true false [.i] (.t (.l (.r (.l (.l .z))))) (.c (.int .i64 0)), none, none, []⟩])
  (.cond (.t (.r (.r (.l (.l .z)))))
  (.seq (.region false 0 [
     ⟨(some (.l (.l (.r (.l .z))))), .mv (.t (.l (.l (.l .z)))), none, none, []⟩,
     ⟨(some (.r (.l .z))), .mv (.c .nilslice), none, none, []⟩,
     ⟨(some (.l (.r .z))), .mv (.t (.l (.l (.r (.l .z))))), none, none, []⟩])
   .ret)
  .skip))
  (.seq (.region true 1 [
    ⟨(some (.r (.l (.r (.l .z))))), .load true 4 (.t (.r (.r .z))), none, none, []⟩,
    ⟨(some (.l (.r (.r (.l .z))))), .call 28 [(.t (.r (.l (.r (.l .z)))))], none, none, [0]⟩,
    ⟨(some (.r (.r (.r (.l .z))))), .load true 4 (.t (.r (.r .z))), none, none, []⟩,
    ⟨(some (.l (.l (.l (.r .z))))), .call 29 [(.t (.r (.r (.r (.l .z)))))], none, none, [0, 1, 2]⟩,
    ⟨(some (.r (.l (.l (.r .z))))), .load true 4 (.t (.r (.r .z))), none, none, []⟩,
    ⟨(some (.l (.r (.l (.r .z))))), .mv (.t (.l .z)), none, none, []⟩,
    ⟨(some (.r (.r (.l (.r .z))))), .call 44 [(.t (.r (.l (.l (.r .z))))), (.t (.l (.r (.l (.r .z)))))], none, none, [0, 1, 2, 3, 4, 5]⟩,
    ⟨(some (.l (.l (.r (.r .z))))), .slit 1 3 [.nilslice] [(0, (.t (.l (.r (.r (.l .z)))))), (1, (.t (.l (.l (.l (.r .z)))))), (2, (.t (.r (.r (.l (.r .z))))))], none, (some 0), [0, 1, 2, 3, 4, 5, 6]⟩,
    ⟨(some (.r (.l (.r (.r .z))))), .call 48 [(.t (.l (.l (.r (.r .z)))))], none, none, [0, 1, 2, 3, 4, 5, 6, 7]⟩,
    ⟨(some (.r (.l .z))), .mv (.t (.r (.l (.r (.r .z))))), none, none, [0, 1, 2, 3, 4, 5, 6, 7, 8]⟩,
    ⟨(some (.l (.r .z))), .mv (.c (.int .i64 0)), none, none, [0, 1, 2, 3, 4, 5, 6, 7, 8, 9]⟩])
  .ret)))))⟩
def AF31 : AFunc := ⟨106, [.tmp (.r .z)],
  (.seq (.region false 0 [
    ⟨(some (.l .z)), .box 3 3 (.t .z), none, none, []⟩,
    ⟨(some (.r .z)), .mv (.c (.int .i64 0)), none, none, []⟩])
  (.seq (.block 0 (.seq (.region false 0 [
     ⟨(some (.r (.r (.l .z)))), .fieldA 0 (.t (.l .z)), none, none, []⟩,
     ⟨(some (.l (.l (.r .z)))), .load false 1 (.t (.r (.r (.l .z)))), none, none, []⟩,
     ⟨(some (.r (.l (.r .z)))), .bin .lss (.t (.l (.l (.r .z)))) (.c (.int .i64 0)), none, none, []⟩,
     ⟨(some (.l (.r (.r .z)))), .mv (.t (.r (.l (.r .z)))), none, none, []⟩,
     ⟨(some (.r (.r (.r .z)))), .fieldA 0 (.t (.l .z)), (some ((.l (.r (.r .z))), false)), none, []⟩,
     ⟨(some (.l (.l (.l (.l .z))))), .load false 1 (.t (.r (.r (.r .z)))), (some ((.l (.r (.r .z))), false)), none, []⟩,
     ⟨(some (.r (.l (.l (.l .z))))), .bin .gtr (.t (.l (.l (.l (.l .z))))) (.c (.int .i64 1099511627776)), (some ((.l (.r (.r .z))), false)), none, []⟩,
     ⟨(some (.l (.r (.l (.l .z))))), .pick (.t (.l (.r (.r .z)))) (.c (.bool true)) (.t (.r (.l (.l (.l .z))))), none, none, []⟩,
     ⟨(some (.l (.r (.l .z)))), .mv (.t (.l (.r (.l (.l .z))))), none, none, []⟩])
   (.cond (.t (.l (.r (.l .z))))
   (.seq (.region false 0 [
      ⟨(some (.r .z)), .mv (.c (.int .i64 2)), none, none, []⟩])
    .ret)
   (.seq (.region false 0 [
      ⟨(some (.l (.l (.r (.l .z))))), .fieldA 1 (.t (.l .z)), none, none, []⟩,
      ⟨(some (.r (.l (.r (.l .z))))), .load false 1 (.t (.l (.l (.r (.l .z))))), none, none, []⟩,
      ⟨(some (.l (.r (.r (.l .z))))), .len .slice (.t (.r (.l (.r (.l .z))))), none, none, []⟩,
      ⟨(some (.r (.r (.r (.l .z))))), .bin .gtr (.t (.l (.r (.r (.l .z))))) (.c (.int .i64 16)), none, none, []⟩,
      ⟨(some (.r (.r (.l (.l .z))))), .mv (.t (.r (.r (.r (.l .z))))), none, none, []⟩])
    (.cond (.t (.r (.r (.l (.l .z)))))
    (.seq (.region false 0 [
       ⟨(some (.r .z)), .mv (.c (.int .i64 5)), none, none, []⟩])
     .ret)
    .skip)))))
  (.seq (.seq (.region false 0 [
    ⟨(some (.l (.l (.l (.r .z))))), .fieldA 1 (.t (.l .z)), none, none, []⟩,
    ⟨(some (.r (.l (.l (.r .z))))), .load false 1 (.t (.l (.l (.l (.r .z))))), none, none, []⟩,
    ⟨(some (.l (.r (.l (.r .z))))), .len .slice (.t (.r (.l (.l (.r .z))))), none, none, []⟩,
    ⟨(some (.r (.r (.l (.r .z))))), .mv (.c (.int .i64 0)), none, none, []⟩])
  (.block 1 (.loop (.seq (.region false 0 [
      ⟨(some (.l (.l (.r (.r .z))))), .bin .lss (.t (.r (.r (.l (.r .z))))) (.t (.l (.r (.l (.r .z))))), none, none, []⟩])
    (.seq (.cond (.t (.l (.l (.r (.r .z)))))
    .skip
    (.exit 1))
    (.seq (.block 2 (.seq (.region false 0 [
       ⟨(some (.r (.l (.r (.r .z))))), .mv (.t (.r (.r (.l (.r .z))))), none, none, []⟩,
       ⟨(some (.l (.r (.r (.r .z))))), .idxS 26 (.t (.r (.l (.l (.r .z))))) (.t (.r (.r (.l (.r .z))))), none, none, []⟩,
       ⟨(some (.r (.r (.r (.r .z))))), .load true 26 (.t (.l (.r (.r (.r .z))))), none, none, []⟩,
       ⟨(some (.r (.l .z))), .alloc 1 [[(.int .i64 0)], [(.int .u64 0)], [(.int .u64 0)], [(.int .u64 0)], [(.int .u64 0)], [(.int .i64 0)], [(.int .i64 0)], [(.int .i64 0)], [(.int .i64 0)], [(.int .i64 0)], [(.int .i64 0)], [(.int .i64 0)], [(.int .i64 0)], [(.int .i64 0)], [(.int .i64 0)], [(.int .i64 0)], [(.bool false)], [(.int .i64 0)], [(.int .u64 0)], [(.int .i64 0)], [(.int .u64 0)], [(.int .i64 0)], [.nilslice], [.nilslice], [.nilslice], [.nilslice]], none, none, []⟩,
       ⟨(some (.l (.l .z))), .mv (.t (.r (.l (.r (.r .z))))), none, none, []⟩,
       ⟨none, .store 26 (.t (.r (.l .z))) (.t (.r (.r (.r (.r .z))))), none, none, []⟩])
     (.seq (.region false 0 [
       ⟨(some (.l (.l (.l (.l (.l .z)))))), .fieldA 0 (.t (.r (.l .z))), none, none, []⟩,
       ⟨(some (.r (.l (.l (.l (.l .z)))))), .load true 16 (.t (.l (.l (.l (.l (.l .z)))))), none, none, []⟩,
       ⟨(some (.l (.r (.l (.l (.l .z)))))), .call 49 [(.t (.r (.l (.l (.l (.l .z))))))], none, none, []⟩,
       ⟨(some (.l (.r .z))), .mv (.t (.l (.r (.l (.l (.l .z)))))), none, none, []⟩])
     (.seq (.seq (.region true 0 [
       ⟨(some (.r (.r (.l (.l (.l .z)))))), .mv (.t (.l (.r .z))), none, none, []⟩,
       ⟨(some (.l (.l (.r (.l (.l .z)))))), .eql false false [.i] (.t (.r (.r (.l (.l (.l .z)))))) (.c (.int .i64 0)), none, none, [0]⟩,
       ⟨(some (.r (.l (.r (.l (.l .z)))))), .mv (.t (.l (.l (.r (.l (.l .z)))))), none, none, [0, 1]⟩,
       ⟨(some (.l (.r (.r (.l (.l .z)))))), .mv (.t (.l (.l .z))), (some ((.r (.l (.r (.l (.l .z))))), true)), none, [0, 1, 2]⟩,
       ⟨(some (.r (.r (.r (.l (.l .z)))))), .bin .gtr (.t (.l (.r (.r (.l (.l .z)))))) (.c (.int .i64 0)), (some ((.r (.l (.r (.l (.l .z))))), true)), none, [0, 1, 2, 3]⟩,
       ⟨(some (.l (.l (.l (.r (.l .z)))))), .pick (.t (.r (.l (.r (.l (.l .z)))))) (.t (.r (.r (.r (.l (.l .z)))))) (.c (.bool false)), none, none, [0, 1, 2, 3, 4]⟩,
       ⟨(some (.r (.l (.l (.r (.l .z)))))), .mv (.t (.l (.l (.l (.r (.l .z)))))), none, none, [0, 1, 2, 3, 4, 5]⟩,
       ⟨(some (.l (.r (.l (.r (.l .z)))))), .fieldA 0 (.t (.r (.l .z))), (some ((.r (.l (.l (.r (.l .z))))), true)), none, [0, 1, 2, 3, 4, 5, 6]⟩,
       ⟨(some (.r (.r (.l (.r (.l .z)))))), .fieldA 0 (.t (.l (.r (.l (.r (.l .z)))))), (some ((.r (.l (.l (.r (.l .z))))), true)), none, [0, 1, 2, 3, 4, 5, 6, 7]⟩,
       ⟨(some (.l (.l (.r (.r (.l .z)))))), .load false 1 (.t (.r (.r (.l (.r (.l .z)))))), (some ((.r (.l (.l (.r (.l .z))))), true)), none, [0, 1, 2, 3, 4, 5, 6, 7, 8]⟩,
       ⟨(some (.r (.l (.r (.r (.l .z)))))), .fieldA 1 (.t (.l .z)), (some ((.r (.l (.l (.r (.l .z))))), true)), none, [0, 1, 2, 3, 4, 5, 6]⟩,
       ⟨(some (.l (.r (.r (.r (.l .z)))))), .load false 1 (.t (.r (.l (.r (.r (.l .z)))))), (some ((.r (.l (.l (.r (.l .z))))), true)), none, [0, 1, 2, 3, 4, 5, 6, 10]⟩,
       ⟨(some (.r (.r (.r (.r (.l .z)))))), .mv (.t (.l (.l .z))), (some ((.r (.l (.l (.r (.l .z))))), true)), none, [0, 1, 2, 3, 4, 5, 6]⟩,
       ⟨(some (.l (.l (.l (.l (.r .z)))))), .bin .sub (.t (.r (.r (.r (.r (.l .z)))))) (.c (.int .i64 1)), (some ((.r (.l (.l (.r (.l .z))))), true)), none, [0, 1, 2, 3, 4, 5, 6, 12]⟩,
       ⟨(some (.r (.l (.l (.l (.r .z)))))), .idxS 26 (.t (.l (.r (.r (.r (.l .z)))))) (.t (.l (.l (.l (.l (.r .z)))))), (some ((.r (.l (.l (.r (.l .z))))), true)), none, [0, 1, 2, 3, 4, 5, 6, 10, 11, 12, 13]⟩,
       ⟨(some (.l (.r (.l (.l (.r .z)))))), .fieldA 0 (.t (.r (.l (.l (.l (.r .z)))))), (some ((.r (.l (.l (.r (.l .z))))), true)), none, [0, 1, 2, 3, 4, 5, 6, 10, 11, 12, 13, 14]⟩,
       ⟨(some (.r (.r (.l (.l (.r .z)))))), .fieldA 0 (.t (.l (.r (.l (.l (.r .z)))))), (some ((.r (.l (.l (.r (.l .z))))), true)), none, [0, 1, 2, 3, 4, 5, 6, 10, 11, 12, 13, 14, 15]⟩,
       ⟨(some (.l (.l (.r (.l (.r .z)))))), .load false 1 (.t (.r (.r (.l (.l (.r .z)))))), (some ((.r (.l (.l (.r (.l .z))))), true)), none, [0, 1, 2, 3, 4, 5, 6, 10, 11, 12, 13, 14, 15, 16]⟩,
       ⟨(some (.r (.l (.r (.l (.r .z)))))), .bin .leq (.t (.l (.l (.r (.r (.l .z)))))) (.t (.l (.l (.r (.l (.r .z)))))), (some ((.r (.l (.l (.r (.l .z))))), true)), none, [0, 1, 2, 3, 4, 5, 6, 7, 8, 9, 10, 11, 12, 13, 14, 15, 16, 17]⟩,
       ⟨(some (.l (.r (.r (.l (.r .z)))))), .pick (.t (.r (.l (.l (.r (.l .z)))))) (.t (.r (.l (.r (.l (.r .z)))))) (.c (.bool false)), none, none, [0, 1, 2, 3, 4, 5, 6, 7, 8, 9, 10, 11, 12, 13, 14, 15, 16, 17, 18]⟩])
     (.cond (.t (.l (.r (.r (.l (.r .z))))))
     (.region false 0 [
        ⟨(some (.l (.r .z))), .mv (.c (.int .i64 19)), none, none, []⟩])
     .skip))
     (.seq (.seq (.region false 0 [
       ⟨(some (.r (.r (.r (.l (.r .z)))))), .mv (.t (.l (.r .z))), none, none, []⟩,
       ⟨(some (.l (.l (.l (.r (.r .z)))))), .eql false false [.i] (.t (.r (.r (.r (.l (.r .z)))))) (.c (.int .i64 0)), none, none, []⟩])
     (.cond (.t (.l (.l (.l (.r (.r .z))))))
     (.region false 0 [
        ⟨(some (.r (.l (.l (.r (.r .z)))))), .load true 26 (.t (.r (.l .z))), none, none, []⟩,
        ⟨(some (.l (.r (.l (.r (.r .z)))))), .call 50 [(.t (.r (.l (.l (.r (.r .z))))))], none, none, []⟩,
        ⟨(some (.l (.r .z))), .mv (.t (.l (.r (.l (.r (.r .z)))))), none, none, []⟩])
     .skip))
     (.seq (.region false 0 [
       ⟨(some (.r (.r (.l (.r (.r .z)))))), .mv (.t (.l (.r .z))), none, none, []⟩,
       ⟨(some (.l (.l (.r (.r (.r .z)))))), .eql true false [.i] (.t (.r (.r (.l (.r (.r .z)))))) (.c (.int .i64 0)), none, none, []⟩])
     (.cond (.t (.l (.l (.r (.r (.r .z))))))
     (.seq (.region false 0 [
        ⟨(some (.r (.l (.r (.r (.r .z)))))), .mv (.t (.l (.r .z))), none, none, []⟩,
        ⟨(some (.r .z)), .mv (.t (.r (.l (.r (.r (.r .z)))))), none, none, []⟩])
      .ret)
     .skip)))))))
    (.region false 0 [
      ⟨(some (.l (.r (.r (.r (.r .z)))))), .bin .add (.t (.r (.r (.l (.r .z))))) (.c (.int .i64 1)), none, none, []⟩,
      ⟨(some (.r (.r (.l (.r .z))))), .mv (.t (.l (.r (.r (.r (.r .z)))))), none, none, []⟩])))))))
  (.seq (.seq (.region false 0 [
    ⟨(some (.r (.r (.r (.r (.r .z)))))), .fieldA 2 (.t (.l .z)), none, none, []⟩,
    ⟨(some (.l (.l (.l (.l (.l (.l .z))))))), .load false 1 (.t (.r (.r (.r (.r (.r .z)))))), none, none, []⟩,
    ⟨(some (.r (.l (.l (.l (.l (.l .z))))))), .len .slice (.t (.l (.l (.l (.l (.l (.l .z))))))), none, none, []⟩,
    ⟨(some (.l (.r (.l (.l (.l (.l .z))))))), .bin .gtr (.t (.r (.l (.l (.l (.l (.l .z))))))) (.c (.int .i64 240)), none, none, []⟩])
  (.cond (.t (.l (.r (.l (.l (.l (.l .z)))))))
  (.seq (.region false 0 [
     ⟨(some (.r .z)), .mv (.c (.int .i64 5)), none, none, []⟩])
   .ret)
  .skip))
  (.seq (.seq (.region false 0 [
    ⟨(some (.r (.r (.l (.l (.l (.l .z))))))), .fieldA 2 (.t (.l .z)), none, none, []⟩,
    ⟨(some (.l (.l (.r (.l (.l (.l .z))))))), .load false 1 (.t (.r (.r (.l (.l (.l (.l .z))))))), none, none, []⟩,
    ⟨(some (.r (.l (.r (.l (.l (.l .z))))))), .len .slice (.t (.l (.l (.r (.l (.l (.l .z))))))), none, none, []⟩,
    ⟨(some (.l (.r (.r (.l (.l (.l .z))))))), .mv (.c (.int .i64 0)), none, none, []⟩])
  (.block 3 (.loop (.seq (.region false 0 [
      ⟨(some (.r (.r (.r (.l (.l (.l .z))))))), .bin .lss (.t (.l (.r (.r (.l (.l (.l .z))))))) (.t (.r (.l (.r (.l (.l (.l .z))))))), none, none, []⟩])
    (.seq (.cond (.t (.r (.r (.r (.l (.l (.l .z)))))))
    .skip
    (.exit 3))
    (.seq (.block 4 (.seq (.region false 0 [
       ⟨(some (.l (.l (.l (.r (.l (.l .z))))))), .mv (.t (.l (.r (.r (.l (.l (.l .z))))))), none, none, []⟩,
       ⟨(some (.r (.l (.l (.r (.l (.l .z))))))), .idxS 3 (.t (.l (.l (.r (.l (.l (.l .z))))))) (.t (.l (.r (.r (.l (.l (.l .z))))))), none, none, []⟩,
       ⟨(some (.l (.r (.l (.r (.l (.l .z))))))), .load true 3 (.t (.r (.l (.l (.r (.l (.l .z))))))), none, none, []⟩,
       ⟨(some (.l (.l (.l .z)))), .alloc 3 [[(.int .i64 0), (.int .i64 0), .nilslice]], none, none, []⟩,
       ⟨(some (.r (.r .z))), .mv (.t (.l (.l (.l (.r (.l (.l .z))))))), none, none, []⟩,
       ⟨none, .store 3 (.t (.l (.l (.l .z)))) (.t (.l (.r (.l (.r (.l (.l .z))))))), none, none, []⟩])
     (.seq (.seq (.region false 0 [
       ⟨(some (.r (.r (.l (.r (.l (.l .z))))))), .load true 3 (.t (.l (.l (.l .z)))), none, none, []⟩,
       ⟨(some (.l (.l (.r (.r (.l (.l .z))))))), .call 51 [(.t (.r (.r (.l (.r (.l (.l .z)))))))], none, none, []⟩,
       ⟨(some (.r (.l (.l .z)))), .mv (.t (.l (.l (.r (.r (.l (.l .z))))))), none, none, []⟩])
     (.seq (.region false 0 [
       ⟨(some (.r (.l (.r (.r (.l (.l .z))))))), .mv (.t (.r (.l (.l .z)))), none, none, []⟩,
       ⟨(some (.l (.r (.r (.r (.l (.l .z))))))), .eql true false [.i] (.t (.r (.l (.r (.r (.l (.l .z))))))) (.c (.int .i64 0)), none, none, []⟩])
     (.cond (.t (.l (.r (.r (.r (.l (.l .z)))))))
     (.seq (.region false 0 [
        ⟨(some (.r (.r (.r (.r (.l (.l .z))))))), .mv (.t (.r (.l (.l .z)))), none, none, []⟩,
        ⟨(some (.r .z)), .mv (.t (.r (.r (.r (.r (.l (.l .z))))))), none, none, []⟩])
      .ret)
     .skip)))
     (.seq (.region true 2 [
       ⟨(some (.l (.l (.l (.l (.r (.l .z))))))), .mv (.t (.r (.r .z))), none, none, []⟩,
       ⟨(some (.r (.l (.l (.l (.r (.l .z))))))), .bin .gtr (.t (.l (.l (.l (.l (.r (.l .z))))))) (.c (.int .i64 0)), none, none, [0]⟩,
       ⟨(some (.l (.r (.l (.l (.r (.l .z))))))), .mv (.t (.r (.l (.l (.l (.r (.l .z))))))), none, none, [0, 1]⟩,
       ⟨(some (.r (.r (.l (.l (.r (.l .z))))))), .fieldA 2 (.t (.l .z)), (some ((.l (.r (.l (.l (.r (.l .z)))))), true)), none, [0, 1, 2]⟩,
       ⟨(some (.l (.l (.r (.l (.r (.l .z))))))), .load false 1 (.t (.r (.r (.l (.l (.r (.l .z))))))), (some ((.l (.r (.l (.l (.r (.l .z)))))), true)), none, [0, 1, 2, 3]⟩,
       ⟨(some (.r (.l (.r (.l (.r (.l .z))))))), .mv (.t (.r (.r .z))), (some ((.l (.r (.l (.l (.r (.l .z)))))), true)), none, [0, 1, 2]⟩,
       ⟨(some (.l (.r (.r (.l (.r (.l .z))))))), .bin .sub (.t (.r (.l (.r (.l (.r (.l .z))))))) (.c (.int .i64 1)), (some ((.l (.r (.l (.l (.r (.l .z)))))), true)), none, [0, 1, 2, 5]⟩,
       ⟨(some (.r (.r (.r (.l (.r (.l .z))))))), .idxS 3 (.t (.l (.l (.r (.l (.r (.l .z))))))) (.t (.l (.r (.r (.l (.r (.l .z))))))), (some ((.l (.r (.l (.l (.r (.l .z)))))), true)), none, [0, 1, 2, 3, 4, 5, 6]⟩,
       ⟨(some (.l (.l (.l (.r (.r (.l .z))))))), .fieldA 0 (.t (.r (.r (.r (.l (.r (.l .z))))))), (some ((.l (.r (.l (.l (.r (.l .z)))))), true)), none, [0, 1, 2, 3, 4, 5, 6, 7]⟩,
       ⟨(some (.r (.l (.l (.r (.r (.l .z))))))), .load false 1 (.t (.l (.l (.l (.r (.r (.l .z))))))), (some ((.l (.r (.l (.l (.r (.l .z)))))), true)), none, [0, 1, 2, 3, 4, 5, 6, 7, 8]⟩,
       ⟨(some (.l (.r (.l (.r (.r (.l .z))))))), .fieldA 2 (.t (.l .z)), (some ((.l (.r (.l (.l (.r (.l .z)))))), true)), none, [0, 1, 2]⟩,
       ⟨(some (.r (.r (.l (.r (.r (.l .z))))))), .load false 1 (.t (.l (.r (.l (.r (.r (.l .z))))))), (some ((.l (.r (.l (.l (.r (.l .z)))))), true)), none, [0, 1, 2, 10]⟩,
       ⟨(some (.l (.l (.r (.r (.r (.l .z))))))), .mv (.t (.r (.r .z))), (some ((.l (.r (.l (.l (.r (.l .z)))))), true)), none, [0, 1, 2]⟩,
       ⟨(some (.r (.l (.r (.r (.r (.l .z))))))), .bin .sub (.t (.l (.l (.r (.r (.r (.l .z))))))) (.c (.int .i64 1)), (some ((.l (.r (.l (.l (.r (.l .z)))))), true)), none, [0, 1, 2, 12]⟩,
       ⟨(some (.l (.r (.r (.r (.r (.l .z))))))), .idxS 3 (.t (.r (.r (.l (.r (.r (.l .z))))))) (.t (.r (.l (.r (.r (.r (.l .z))))))), (some ((.l (.r (.l (.l (.r (.l .z)))))), true)), none, [0, 1, 2, 10, 11, 12, 13]⟩,
       ⟨(some (.r (.r (.r (.r (.r (.l .z))))))), .fieldA 1 (.t (.l (.r (.r (.r (.r (.l .z))))))), (some ((.l (.r (.l (.l (.r (.l .z)))))), true)), none, [0, 1, 2, 10, 11, 12, 13, 14]⟩,
       ⟨(some (.l (.l (.l (.l (.l (.r .z))))))), .load false 1 (.t (.r (.r (.r (.r (.r (.l .z))))))), (some ((.l (.r (.l (.l (.r (.l .z)))))), true)), none, [0, 1, 2, 10, 11, 12, 13, 14, 15]⟩,
       ⟨(some (.r (.l (.l (.l (.l (.r .z))))))), .slit 1 2 [(.int .i64 0)] [(0, (.t (.r (.l (.l (.r (.r (.l .z)))))))), (1, (.t (.l (.l (.l (.l (.l (.r .z))))))))], (some ((.l (.r (.l (.l (.r (.l .z)))))), true)), (some 0), [0, 1, 2, 3, 4, 5, 6, 7, 8, 9, 10, 11, 12, 13, 14, 15, 16]⟩,
       ⟨(some (.l (.r (.l (.l (.l (.r .z))))))), .fieldA 0 (.t (.l (.l (.l .z)))), (some ((.l (.r (.l (.l (.r (.l .z)))))), true)), none, [0, 1, 2]⟩,
       ⟨(some (.r (.r (.l (.l (.l (.r .z))))))), .load false 1 (.t (.l (.r (.l (.l (.l (.r .z))))))), (some ((.l (.r (.l (.l (.r (.l .z)))))), true)), none, [0, 1, 2, 18]⟩,
       ⟨(some (.l (.l (.r (.l (.l (.r .z))))))), .fieldA 1 (.t (.l (.l (.l .z)))), (some ((.l (.r (.l (.l (.r (.l .z)))))), true)), none, [0, 1, 2]⟩,
       ⟨(some (.r (.l (.r (.l (.l (.r .z))))))), .load false 1 (.t (.l (.l (.r (.l (.l (.r .z))))))), (some ((.l (.r (.l (.l (.r (.l .z)))))), true)), none, [0, 1, 2, 20]⟩,
       ⟨(some (.l (.r (.r (.l (.l (.r .z))))))), .slit 1 2 [(.int .i64 0)] [(0, (.t (.r (.r (.l (.l (.l (.r .z)))))))), (1, (.t (.r (.l (.r (.l (.l (.r .z))))))))], (some ((.l (.r (.l (.l (.r (.l .z)))))), true)), (some 1), [0, 1, 2, 18, 19, 20, 21]⟩,
       ⟨(some (.r (.r (.r (.l (.l (.r .z))))))), .call 22 [(.t (.r (.l (.l (.l (.l (.r .z))))))), (.t (.l (.r (.r (.l (.l (.r .z)))))))], (some ((.l (.r (.l (.l (.r (.l .z)))))), true)), none, [0, 1, 2, 3, 4, 5, 6, 7, 8, 9, 10, 11, 12, 13, 14, 15, 16, 17, 18, 19, 20, 21, 22]⟩,
       ⟨(some (.l (.l (.l (.r (.l (.r .z))))))), .bin .geq (.t (.r (.r (.r (.l (.l (.r .z))))))) (.c (.int .i64 0)), (some ((.l (.r (.l (.l (.r (.l .z)))))), true)), none, [0, 1, 2, 3, 4, 5, 6, 7, 8, 9, 10, 11, 12, 13, 14, 15, 16, 17, 18, 19, 20, 21, 22, 23]⟩,
       ⟨(some (.r (.l (.l (.r (.l (.r .z))))))), .pick (.t (.l (.r (.l (.l (.r (.l .z))))))) (.t (.l (.l (.l (.r (.l (.r .z))))))) (.c (.bool false)), none, none, [0, 1, 2, 3, 4, 5, 6, 7, 8, 9, 10, 11, 12, 13, 14, 15, 16, 17, 18, 19, 20, 21, 22, 23, 24]⟩])
     (.cond (.t (.r (.l (.l (.r (.l (.r .z)))))))
     (.seq (.region false 0 [
        ⟨(some (.r .z)), .mv (.c (.int .i64 19)), none, none, []⟩])
      .ret)
     .skip)))))
    (.region false 0 [
      ⟨(some (.l (.r (.l (.r (.l (.r .z))))))), .bin .add (.t (.l (.r (.r (.l (.l (.l .z))))))) (.c (.int .i64 1)), none, none, []⟩,
      ⟨(some (.l (.r (.r (.l (.l (.l .z))))))), .mv (.t (.l (.r (.l (.r (.l (.r .z))))))), none, none, []⟩])))))))
  (.seq (.region false 0 [
    ⟨(some (.r .z)), .mv (.c (.int .i64 0)), none, none, []⟩])
  .ret))))))⟩
def AF32 : AFunc := ⟨52, [.tmp (.r .z), .tmp (.l (.l .z))],
  (.seq (.region false 0 [
    ⟨(some (.r .z)), .mv (.c (.int .i64 0)), none, none, []⟩,
    ⟨(some (.l (.l .z))), .mv (.c (.int .i64 0)), none, none, []⟩])
  (.seq (.seq (.region false 0 [
    ⟨(some (.l (.l (.l .z)))), .mv (.t .z), none, none, []⟩,
    ⟨(some (.r (.l (.l .z)))), .len .slice (.t (.l (.l (.l .z)))), none, none, []⟩,
    ⟨(some (.l (.r (.l .z)))), .bin .gtr (.t (.r (.l (.l .z)))) (.c (.int .i64 200)), none, none, []⟩])
  (.cond (.t (.l (.r (.l .z))))
  (.seq (.region false 0 [
     ⟨(some (.r .z)), .mv (.c (.int .i64 5)), none, none, []⟩,
     ⟨(some (.l (.l .z))), .mv (.c (.int .i64 0)), none, none, []⟩])
   .ret)
  .skip))
  (.seq (.region false 0 [
    ⟨(some (.r (.r (.l .z)))), .mkmap, none, none, []⟩,
    ⟨(some (.r (.l .z))), .mv (.t (.r (.r (.l .z)))), none, none, []⟩])
  (.seq (.seq (.region false 0 [
    ⟨(some (.l (.l (.r .z)))), .mv (.t .z), none, none, []⟩,
    ⟨(some (.r (.l (.r .z)))), .len .slice (.t (.l (.l (.r .z)))), none, none, []⟩,
    ⟨(some (.l (.r (.r .z)))), .mv (.c (.int .i64 0)), none, none, []⟩])
  (.block 0 (.loop (.seq (.region false 0 [
      ⟨(some (.r (.r (.r .z)))), .bin .lss (.t (.l (.r (.r .z)))) (.t (.r (.l (.r .z)))), none, none, []⟩])
    (.seq (.cond (.t (.r (.r (.r .z))))
    .skip
    (.exit 0))
    (.seq (.block 1 (.seq (.region false 0 [
       ⟨(some (.l (.l (.l (.l .z))))), .mv (.t (.l (.r (.r .z)))), none, none, []⟩,
       ⟨(some (.r (.l (.l (.l .z))))), .idxS 6 (.t (.l (.l (.r .z)))) (.t (.l (.r (.r .z)))), none, none, []⟩,
       ⟨(some (.l (.r (.l (.l .z))))), .load true 6 (.t (.r (.l (.l (.l .z))))), none, none, []⟩,
       ⟨(some (.r (.r .z))), .alloc 6 [[(.int .i64 0), (.int .i64 0), (.int .i64 0), (.int .i64 0), (.int .i64 0), (.int .i64 0)]], none, none, []⟩,
       ⟨(some (.l (.r .z))), .mv (.t (.l (.l (.l (.l .z))))), none, none, []⟩,
       ⟨none, .store 6 (.t (.r (.r .z))) (.t (.l (.r (.l (.l .z))))), none, none, []⟩])
     (.seq (.block 2 (.seq (.region false 0 [
        ⟨(some (.l (.l (.r (.l .z))))), .load true 6 (.t (.r (.r .z))), none, none, []⟩,
        ⟨(some (.r (.l (.r (.l .z))))), .call 52 [(.t (.l (.l (.r (.l .z)))))], none, none, []⟩,
        ⟨(some (.l (.r (.r (.l .z))))), .eql true false [.i] (.t (.r (.l (.r (.l .z))))) (.c (.int .i64 0)), none, none, []⟩,
        ⟨(some (.r (.r (.l (.l .z))))), .mv (.t (.l (.r (.r (.l .z))))), none, none, []⟩])
      (.cond (.t (.r (.r (.l (.l .z)))))
      (.seq (.region false 0 [
         ⟨(some (.r (.r (.r (.l .z))))), .mv (.t (.l (.r .z))), none, none, []⟩,
         ⟨(some (.r .z)), .mv (.c (.int .i64 2)), none, none, []⟩,
         ⟨(some (.l (.l .z))), .mv (.t (.r (.r (.r (.l .z))))), none, none, []⟩])
       .ret)
      (.seq (.region true 0 [
         ⟨(some (.r (.l (.l (.r .z))))), .mv (.t (.l (.r .z))), none, none, []⟩,
         ⟨(some (.l (.r (.l (.r .z))))), .bin .gtr (.t (.r (.l (.l (.r .z))))) (.c (.int .i64 0)), none, none, [0]⟩,
         ⟨(some (.r (.r (.l (.r .z))))), .mv (.t (.l (.r (.l (.r .z))))), none, none, [0, 1]⟩,
         ⟨(some (.l (.l (.r (.r .z))))), .mv (.t .z), (some ((.r (.r (.l (.r .z)))), true)), none, [0, 1, 2]⟩,
         ⟨(some (.r (.l (.r (.r .z))))), .mv (.t (.l (.r .z))), (some ((.r (.r (.l (.r .z)))), true)), none, [0, 1, 2]⟩,
         ⟨(some (.l (.r (.r (.r .z))))), .bin .sub (.t (.r (.l (.r (.r .z))))) (.c (.int .i64 1)), (some ((.r (.r (.l (.r .z)))), true)), none, [0, 1, 2, 4]⟩,
         ⟨(some (.r (.r (.r (.r .z))))), .idxS 6 (.t (.l (.l (.r (.r .z))))) (.t (.l (.r (.r (.r .z))))), (some ((.r (.r (.l (.r .z)))), true)), none, [0, 1, 2, 3, 4, 5]⟩,
         ⟨(some (.l (.l (.l (.l (.l .z)))))), .load true 6 (.t (.r (.r (.r (.r .z))))), (some ((.r (.r (.l (.r .z)))), true)), none, [0, 1, 2, 3, 4, 5, 6]⟩,
         ⟨(some (.r (.l (.l (.l (.l .z)))))), .load true 6 (.t (.r (.r .z))), (some ((.r (.r (.l (.r .z)))), true)), none, [0, 1, 2]⟩,
         ⟨(some (.l (.r (.l (.l (.l .z)))))), .call 53 [(.t (.l (.l (.l (.l (.l .z)))))), (.t (.r (.l (.l (.l (.l .z))))))], (some ((.r (.r (.l (.r .z)))), true)), none, [0, 1, 2, 3, 4, 5, 6, 7, 8]⟩,
         ⟨(some (.r (.r (.l (.l (.l .z)))))), .bin .geq (.t (.l (.r (.l (.l (.l .z)))))) (.c (.int .i64 0)), (some ((.r (.r (.l (.r .z)))), true)), none, [0, 1, 2, 3, 4, 5, 6, 7, 8, 9]⟩,
         ⟨(some (.l (.l (.r (.l (.l .z)))))), .pick (.t (.r (.r (.l (.r .z))))) (.t (.r (.r (.l (.l (.l .z)))))) (.c (.bool false)), none, none, [0, 1, 2, 3, 4, 5, 6, 7, 8, 9, 10]⟩,
         ⟨(some (.l (.l (.l (.r .z))))), .mv (.t (.l (.l (.r (.l (.l .z)))))), none, none, [0, 1, 2, 3, 4, 5, 6, 7, 8, 9, 10, 11]⟩])
       (.cond (.t (.l (.l (.l (.r .z)))))
       (.seq (.region false 0 [
          ⟨(some (.r (.l (.r (.l (.l .z)))))), .mv (.t (.l (.r .z))), none, none, []⟩,
          ⟨(some (.r .z)), .mv (.c (.int .i64 19)), none, none, []⟩,
          ⟨(some (.l (.l .z))), .mv (.t (.r (.l (.r (.l (.l .z)))))), none, none, []⟩])
        .ret)
       (.seq (.region true 0 [
          ⟨(some (.r (.r (.r (.l (.l .z)))))), .mv (.t (.r (.l .z))), none, none, []⟩,
          ⟨(some (.l (.l (.l (.r (.l .z)))))), .load true 6 (.t (.r (.r .z))), none, none, []⟩,
          ⟨(some (.r (.l (.l (.r (.l .z)))))), .call 54 [(.t (.l (.l (.l (.r (.l .z))))))], none, none, [1]⟩,
          ⟨(some (.l (.r (.l (.r (.l .z)))))), .look true [.i, .i] (.int .i64 0) false (.t (.r (.r (.r (.l (.l .z)))))) (.t (.r (.l (.l (.r (.l .z)))))), none, none, [0, 1, 2]⟩,
          ⟨(some (.r (.r (.l (.r (.l .z)))))), .fieldA 2 (.t (.r (.r .z))), none, none, []⟩,
          ⟨(some (.l (.l (.r (.r (.l .z)))))), .load false 1 (.t (.r (.r (.l (.r (.l .z)))))), none, none, [4]⟩,
          ⟨(some (.r (.l (.r (.r (.l .z)))))), .bin .gtr (.t (.l (.r (.l (.r (.l .z)))))) (.t (.l (.l (.r (.r (.l .z)))))), none, none, [0, 1, 2, 3, 4, 5]⟩,
          ⟨(some (.l (.r (.r (.l (.l .z)))))), .mv (.t (.r (.l (.r (.r (.l .z)))))), none, none, [0, 1, 2, 3, 4, 5, 6]⟩])
        (.cond (.t (.l (.r (.r (.l (.l .z))))))
        (.seq (.region false 0 [
           ⟨(some (.l (.r (.r (.r (.l .z)))))), .mv (.t (.l (.r .z))), none, none, []⟩,
           ⟨(some (.r .z)), .mv (.c (.int .i64 12)), none, none, []⟩,
           ⟨(some (.l (.l .z))), .mv (.t (.l (.r (.r (.r (.l .z)))))), none, none, []⟩])
         .ret)
        .skip)))))))
     (.region true 0 [
       ⟨(some (.r (.r (.r (.r (.l .z)))))), .mv (.t (.r (.l .z))), none, none, []⟩,
       ⟨(some (.l (.l (.l (.l (.r .z)))))), .load true 6 (.t (.r (.r .z))), none, none, []⟩,
       ⟨(some (.r (.l (.l (.l (.r .z)))))), .call 54 [(.t (.l (.l (.l (.l (.r .z))))))], none, none, [1]⟩,
       ⟨(some (.l (.r (.l (.l (.r .z)))))), .fieldA 3 (.t (.r (.r .z))), none, none, []⟩,
       ⟨(some (.r (.r (.l (.l (.r .z)))))), .load false 1 (.t (.l (.r (.l (.l (.r .z)))))), none, none, [3]⟩,
       ⟨none, .mapset true [.i, .i] (.t (.r (.r (.r (.r (.l .z)))))) (.t (.r (.l (.l (.l (.r .z)))))) (.t (.r (.r (.l (.l (.r .z)))))), none, none, [0, 1, 2, 3, 4]⟩]))))
    (.region false 0 [
      ⟨(some (.l (.l (.r (.l (.r .z)))))), .bin .add (.t (.l (.r (.r .z)))) (.c (.int .i64 1)), none, none, []⟩,
      ⟨(some (.l (.r (.r .z)))), .mv (.t (.l (.l (.r (.l (.r .z)))))), none, none, []⟩])))))))
  (.seq (.region false 0 [
    ⟨(some (.r .z)), .mv (.c (.int .i64 0)), none, none, []⟩,
    ⟨(some (.l (.l .z))), .mv (.c (.int .i64 0)), none, none, []⟩])
  .ret)))))⟩
def AF33 : AFunc := ⟨56, [.tmp (.r (.l .z))],
  (.seq (.region false 0 [
    ⟨(some (.r .z)), .box 4 4 (.t .z), none, none, []⟩,
    ⟨(some (.r (.l .z))), .mv (.c .nilslice), none, none, []⟩])
  (.seq (.region false 0 [
    ⟨(some (.l (.r .z))), .mv (.c .nilslice), none, none, []⟩])
  (.seq (.seq (.region false 0 [
    ⟨(some (.r (.r (.l .z)))), .fieldA 0 (.t (.r .z)), none, none, []⟩,
    ⟨(some (.l (.l (.r .z)))), .fieldA 1 (.t (.r (.r (.l .z)))), none, none, []⟩,
    ⟨(some (.r (.l (.r .z)))), .load false 1 (.t (.l (.l (.r .z)))), none, none, []⟩,
    ⟨(some (.l (.r (.r .z)))), .len .slice (.t (.r (.l (.r .z)))), none, none, []⟩,
    ⟨(some (.r (.r (.r .z)))), .mv (.c (.int .i64 0)), none, none, []⟩])
  (.block 0 (.loop (.seq (.region false 0 [
      ⟨(some (.l (.l (.l (.l .z))))), .bin .lss (.t (.r (.r (.r .z)))) (.t (.l (.r (.r .z)))), none, none, []⟩])
    (.seq (.cond (.t (.l (.l (.l (.l .z)))))
    .skip
    (.exit 0))
    (.seq (.block 1 (.seq (.region false 0 [
       ⟨(some (.r (.l (.l (.l .z))))), .mv (.t (.r (.r (.r .z)))), none, none, []⟩,
       ⟨(some (.r (.r .z))), .mv (.t (.r (.l (.l (.l .z))))), none, none, []⟩])
     (.seq (.region false 0 [
       ⟨(some (.l (.r (.l (.l .z))))), .fieldA 0 (.t (.r .z)), none, none, []⟩,
       ⟨(some (.r (.r (.l (.l .z))))), .fieldA 1 (.t (.l (.r (.l (.l .z))))), none, none, []⟩,
       ⟨(some (.l (.l (.r (.l .z))))), .load false 1 (.t (.r (.r (.l (.l .z))))), none, none, []⟩,
       ⟨(some (.r (.l (.r (.l .z))))), .len .slice (.t (.l (.l (.r (.l .z))))), none, none, []⟩,
       ⟨(some (.l (.r (.r (.l .z))))), .mv (.c (.int .i64 0)), none, none, []⟩])
     (.block 2 (.loop (.seq (.region false 0 [
         ⟨(some (.r (.r (.r (.l .z))))), .bin .lss (.t (.l (.r (.r (.l .z))))) (.t (.r (.l (.r (.l .z))))), none, none, []⟩])
       (.seq (.cond (.t (.r (.r (.r (.l .z)))))
       .skip
       (.exit 2))
       (.seq (.block 3 (.seq (.region false 0 [
          ⟨(some (.l (.l (.l (.r .z))))), .mv (.t (.l (.r (.r (.l .z))))), none, none, []⟩,
          ⟨(some (.l (.l (.l .z)))), .mv (.t (.l (.l (.l (.r .z))))), none, none, []⟩])
        (.seq (.region true 0 [
          ⟨(some (.r (.l (.l (.r .z))))), .fieldA 0 (.t (.r .z)), none, none, []⟩,
          ⟨(some (.l (.r (.l (.r .z))))), .fieldA 1 (.t (.r (.l (.l (.r .z))))), none, none, [0]⟩,
          ⟨(some (.r (.r (.l (.r .z))))), .load false 1 (.t (.l (.r (.l (.r .z))))), none, none, [0, 1]⟩,
          ⟨(some (.l (.l (.r (.r .z))))), .mv (.t (.r (.r .z))), none, none, []⟩,
          ⟨(some (.r (.l (.r (.r .z))))), .idxS 26 (.t (.r (.r (.l (.r .z))))) (.t (.l (.l (.r (.r .z))))), none, none, [0, 1, 2, 3]⟩,
          ⟨(some (.l (.r (.r (.r .z))))), .fieldA 0 (.t (.r .z)), none, none, []⟩,
          ⟨(some (.r (.r (.r (.r .z))))), .fieldA 1 (.t (.l (.r (.r (.r .z))))), none, none, [5]⟩,
          ⟨(some (.l (.l (.l (.l (.l .z)))))), .load false 1 (.t (.r (.r (.r (.r .z))))), none, none, [5, 6]⟩,
          ⟨(some (.r (.l (.l (.l (.l .z)))))), .mv (.t (.l (.l (.l .z)))), none, none, []⟩,
          ⟨(some (.l (.r (.l (.l (.l .z)))))), .idxS 26 (.t (.l (.l (.l (.l (.l .z)))))) (.t (.r (.l (.l (.l (.l .z)))))), none, none, [5, 6, 7, 8]⟩,
          ⟨(some (.r (.l (.l .z)))), .mv (.t (.r (.l (.r (.r .z))))), none, none, [0, 1, 2, 3, 4]⟩,
          ⟨(some (.l (.r (.l .z)))), .mv (.t (.l (.r (.l (.l (.l .z)))))), none, none, [0, 1, 2, 3, 4, 5, 6, 7, 8, 9, 10]⟩])
        (.seq (.region false 0 [
          ⟨(some (.r (.r (.l (.l (.l .z)))))), .load true 4 (.t (.r .z)), none, none, []⟩,
          ⟨(some (.l (.l (.r (.l (.l .z)))))), .mv (.t (.l .z)), none, none, []⟩,
          ⟨(some (.r (.l (.r (.l (.l .z)))))), .mv (.t (.r (.l (.l .z)))), none, none, []⟩,
          ⟨(some (.l (.r (.r (.l (.l .z)))))), .mv (.t (.l (.r (.l .z)))), none, none, []⟩,
          ⟨(some (.r (.r (.r (.l (.l .z)))))), .call 55 [(.t (.r (.r (.l (.l (.l .z)))))), (.t (.l (.l (.r (.l (.l .z)))))), (.t (.r (.l (.r (.l (.l .z)))))), (.t (.l (.r (.r (.l (.l .z))))))], none, none, []⟩])
        (.cond (.t (.r (.r (.r (.l (.l .z))))))
        (.region true 1 [
           ⟨(some (.l (.l (.l (.r (.l .z)))))), .mv (.t (.l (.r .z))), none, none, []⟩,
           ⟨(some (.r (.l (.l (.r (.l .z)))))), .mv (.t (.r (.l (.l .z)))), none, none, []⟩,
           ⟨(some (.l (.r (.l (.r (.l .z)))))), .nilc (.t (.r (.l (.l (.r (.l .z)))))), none, none, [1]⟩,
           ⟨(some (.r (.r (.l (.r (.l .z)))))), .fieldA 0 (.t (.l (.r (.l (.r (.l .z)))))), none, none, [1, 2]⟩,
           ⟨(some (.l (.l (.r (.r (.l .z)))))), .fieldA 0 (.t (.r (.r (.l (.r (.l .z)))))), none, none, [1, 2, 3]⟩,
           ⟨(some (.r (.l (.r (.r (.l .z)))))), .load false 1 (.t (.l (.l (.r (.r (.l .z)))))), none, none, [1, 2, 3, 4]⟩,
           ⟨(some (.l (.r (.r (.r (.l .z)))))), .mv (.t (.l (.r (.l .z)))), none, none, []⟩,
           ⟨(some (.r (.r (.r (.r (.l .z)))))), .nilc (.t (.l (.r (.r (.r (.l .z)))))), none, none, [6]⟩,
           ⟨(some (.l (.l (.l (.l (.r .z)))))), .fieldA 0 (.t (.r (.r (.r (.r (.l .z)))))), none, none, [6, 7]⟩,
           ⟨(some (.r (.l (.l (.l (.r .z)))))), .fieldA 0 (.t (.l (.l (.l (.l (.r .z)))))), none, none, [6, 7, 8]⟩,
           ⟨(some (.l (.r (.l (.l (.r .z)))))), .load false 1 (.t (.r (.l (.l (.l (.r .z)))))), none, none, [6, 7, 8, 9]⟩,
           ⟨(some (.r (.r (.l (.l (.r .z)))))), .build [(.int .i64 0), (.int .i64 0)] [(0, 1, (.t (.r (.l (.r (.r (.l .z))))))), (1, 1, (.t (.l (.r (.l (.l (.r .z)))))))], none, none, [1, 2, 3, 4, 5, 6, 7, 8, 9, 10]⟩,
           ⟨(some (.l (.l (.r (.l (.r .z)))))), .slit 2 1 [(.int .i64 0), (.int .i64 0)] [(0, (.t (.r (.r (.l (.l (.r .z)))))))], none, (some 0), [1, 2, 3, 4, 5, 6, 7, 8, 9, 10, 11]⟩,
           ⟨(some (.r (.l (.r (.l (.r .z)))))), .app 2 16 (.t (.l (.l (.l (.r (.l .z)))))) (.t (.l (.l (.r (.l (.r .z)))))), none, none, [0, 1, 2, 3, 4, 5, 6, 7, 8, 9, 10, 11, 12]⟩,
           ⟨(some (.l (.r .z))), .mv (.t (.r (.l (.r (.l (.r .z)))))), none, none, [0, 1, 2, 3, 4, 5, 6, 7, 8, 9, 10, 11, 12, 13]⟩])
        .skip)))))
       (.region false 0 [
         ⟨(some (.l (.r (.r (.l (.r .z)))))), .bin .add (.t (.l (.r (.r (.l .z))))) (.c (.int .i64 1)), none, none, []⟩,
         ⟨(some (.l (.r (.r (.l .z))))), .mv (.t (.l (.r (.r (.l (.r .z)))))), none, none, []⟩])))))))))
    (.region false 0 [
      ⟨(some (.r (.r (.r (.l (.r .z)))))), .bin .add (.t (.r (.r (.r .z)))) (.c (.int .i64 1)), none, none, []⟩,
      ⟨(some (.r (.r (.r .z)))), .mv (.t (.r (.r (.r (.l (.r .z)))))), none, none, []⟩])))))))
  (.seq (.region false 0 [
    ⟨(some (.l (.l (.l (.r (.r .z)))))), .mv (.t (.l (.r .z))), none, none, []⟩,
    ⟨(some (.r (.l .z))), .mv (.t (.l (.l (.l (.r (.r .z)))))), none, none, []⟩])
  .ret))))⟩
def AF34 : AFunc := ⟨5, [.tmp (.r .z)],
  (.seq (.region false 0 [
    ⟨(some (.r .z)), .mv (.c .nilslice), none, none, []⟩])
  (.seq (.region false 0 [
    ⟨(some (.l (.l .z))), .mv (.t .z), none, none, []⟩,
    ⟨(some (.r (.l .z))), .call 56 [(.c .nilslice), (.t (.l (.l .z)))], none, none, []⟩,
    ⟨(some (.r .z)), .mv (.t (.r (.l .z))), none, none, []⟩])
  .ret))⟩
def AF35 : AFunc := ⟨11, [],
  (.seq (.region false 0 [
    ⟨(some (.l (.l .z))), .mv (.t .z), none, none, []⟩,
    ⟨(some (.r (.l .z))), .len .slice (.t (.l (.l .z))), none, none, []⟩,
    ⟨(some (.r .z)), .mv (.t (.r (.l .z))), none, none, []⟩])
  (.region false 0 [
    ⟨(some (.l (.r .z))), .mv (.t .z), none, none, []⟩,
    ⟨(some (.r (.r .z))), .mv (.t (.r .z)), none, none, []⟩,
    ⟨(some (.l (.l (.l .z)))), .mv (.t (.r .z)), none, none, []⟩,
    ⟨(some (.r (.l (.l .z)))), .conv (.toInt .u64) (.t (.l (.l (.l .z)))), none, none, []⟩,
    ⟨(some (.l (.r (.l .z)))), .call 38 [(.t (.r (.l (.l .z))))], none, none, []⟩,
    ⟨(some (.r (.r (.l .z)))), .call 57 [(.t (.l (.r .z))), (.c (.int .i64 0)), (.t (.r (.r .z))), (.t (.l (.r (.l .z))))], none, none, []⟩]))⟩
def AF36 : AFunc := ⟨16, [],
  (.seq (.region false 0 [
    ⟨(some (.l (.r .z))), .load false 1 (.t (.l .z)), none, none, []⟩,
    ⟨(some (.r (.r .z))), .len .slice (.t (.l (.r .z))), none, none, []⟩,
    ⟨(some (.l (.l (.l .z)))), .mv (.c (.int .i64 0)), none, none, []⟩])
  (.block 0 (.loop (.seq (.region false 0 [
      ⟨(some (.r (.l (.l .z)))), .bin .lss (.t (.l (.l (.l .z)))) (.t (.r (.r .z))), none, none, []⟩])
    (.seq (.cond (.t (.r (.l (.l .z))))
    .skip
    (.exit 0))
    (.seq (.block 1 (.seq (.region false 0 [
       ⟨(some (.l (.r (.l .z)))), .idxS 1 (.t (.l (.r .z))) (.t (.l (.l (.l .z)))), none, none, []⟩,
       ⟨(some (.r (.r (.l .z)))), .load false 1 (.t (.l (.r (.l .z)))), none, none, []⟩,
       ⟨(some (.r (.l .z))), .mv (.t (.r (.r (.l .z)))), none, none, []⟩])
     (.seq (.region false 0 [
       ⟨(some (.l (.l (.r .z)))), .mv (.t .z), none, none, []⟩,
       ⟨(some (.r (.l (.r .z)))), .mv (.t (.r (.l .z))), none, none, []⟩,
       ⟨(some (.l (.r (.r .z)))), .callv (.t (.l (.l (.r .z)))) [(.t (.r (.l (.r .z))))], none, none, []⟩,
       ⟨(some (.r (.r (.r .z)))), .un .not (.t (.l (.r (.r .z)))), none, none, []⟩])
     (.cond (.t (.r (.r (.r .z))))
     .ret
     .skip))))
    (.region false 0 [
      ⟨(some (.l (.l (.l (.l .z))))), .bin .add (.t (.l (.l (.l .z)))) (.c (.int .i64 1)), none, none, []⟩,
      ⟨(some (.l (.l (.l .z)))), .mv (.t (.l (.l (.l (.l .z))))), none, none, []⟩])))))))⟩
def AF37 : AFunc := ⟨148, [],
  (.seq (.region false 0 [
    ⟨(some (.r (.r (.l .z)))), .mv (.c (.bool true)), none, none, []⟩])
  (.seq (.region false 0 [
    ⟨(some (.l (.l (.r .z)))), .mv (.c (.bool true)), none, none, []⟩])
  (.block 0 (.loop (.block 1 (.seq (.region false 0 [
       ⟨(some (.l (.r (.r (.l .z))))), .mv (.t (.r .z)), none, none, []⟩,
       ⟨(some (.r (.r (.r (.l .z))))), .mv (.t (.l .z)), none, none, []⟩,
       ⟨(some (.l (.l (.l (.r .z))))), .bin .sub (.t (.l (.r (.r (.l .z))))) (.t (.r (.r (.r (.l .z))))), none, none, []⟩,
       ⟨(some (.r (.l (.r .z)))), .mv (.t (.l (.l (.l (.r .z))))), none, none, []⟩])
     (.seq (.seq (.region false 0 [
       ⟨(some (.r (.l (.l (.r .z))))), .mv (.t (.r (.l (.r .z)))), none, none, []⟩,
       ⟨(some (.l (.r (.l (.r .z))))), .bin .leq (.t (.r (.l (.l (.r .z))))) (.c (.int .i64 12)), none, none, []⟩])
     (.cond (.t (.l (.r (.l (.r .z)))))
     (.seq (.region false 0 [
        ⟨(some (.r (.r (.l (.r .z))))), .mv (.t .z), none, none, []⟩,
        ⟨(some (.l (.l (.r (.r .z))))), .mv (.t (.l .z)), none, none, []⟩,
        ⟨(some (.r (.l (.r (.r .z))))), .mv (.t (.r .z)), none, none, []⟩,
        ⟨(some (.l (.r (.r (.r .z))))), .mv (.t (.r (.l .z))), none, none, []⟩,
        ⟨(some (.r (.r (.r (.r .z))))), .call 58 [(.t (.r (.r (.l (.r .z))))), (.t (.l (.l (.r (.r .z))))), (.t (.r (.l (.r (.r .z))))), (.t (.l (.r (.r (.r .z)))))], none, none, []⟩])
      .ret)
     .skip))
     (.seq (.seq (.region false 0 [
       ⟨(some (.l (.l (.l (.l (.l .z)))))), .mv (.t (.l (.l .z))), none, none, []⟩,
       ⟨(some (.r (.l (.l (.l (.l .z)))))), .eql false false [.i] (.t (.l (.l (.l (.l (.l .z)))))) (.c (.int .i64 0)), none, none, []⟩])
     (.cond (.t (.r (.l (.l (.l (.l .z))))))
     (.seq (.region false 0 [
        ⟨(some (.l (.r (.l (.l (.l .z)))))), .mv (.t .z), none, none, []⟩,
        ⟨(some (.r (.r (.l (.l (.l .z)))))), .mv (.t (.l .z)), none, none, []⟩,
        ⟨(some (.l (.l (.r (.l (.l .z)))))), .mv (.t (.r .z)), none, none, []⟩,
        ⟨(some (.r (.l (.r (.l (.l .z)))))), .mv (.t (.r (.l .z))), none, none, []⟩,
        ⟨(some (.l (.r (.r (.l (.l .z)))))), .call 59 [(.t (.l (.r (.l (.l (.l .z)))))), (.t (.r (.r (.l (.l (.l .z)))))), (.t (.l (.l (.r (.l (.l .z)))))), (.t (.r (.l (.r (.l (.l .z))))))], none, none, []⟩])
      .ret)
     .skip))
     (.seq (.seq (.region false 0 [
       ⟨(some (.r (.r (.r (.l (.l .z)))))), .mv (.t (.r (.r (.l .z)))), none, none, []⟩,
       ⟨(some (.l (.l (.l (.r (.l .z)))))), .un .not (.t (.r (.r (.r (.l (.l .z)))))), none, none, []⟩])
     (.cond (.t (.l (.l (.l (.r (.l .z))))))
     (.seq (.region false 0 [
        ⟨(some (.r (.l (.l (.r (.l .z)))))), .mv (.t .z), none, none, []⟩,
        ⟨(some (.l (.r (.l (.r (.l .z)))))), .mv (.t (.l .z)), none, none, []⟩,
        ⟨(some (.r (.r (.l (.r (.l .z)))))), .mv (.t (.r .z)), none, none, []⟩,
        ⟨(some (.l (.l (.r (.r (.l .z)))))), .mv (.t (.r (.l .z))), none, none, []⟩,
        ⟨(some (.r (.l (.r (.r (.l .z)))))), .call 60 [(.t (.r (.l (.l (.r (.l .z)))))), (.t (.l (.r (.l (.r (.l .z)))))), (.t (.r (.r (.l (.r (.l .z)))))), (.t (.l (.l (.r (.r (.l .z))))))], none, none, []⟩])
      (.region false 0 [
        ⟨(some (.l (.r (.r (.r (.l .z)))))), .mv (.t (.l (.l .z))), none, none, []⟩,
        ⟨(some (.r (.r (.r (.r (.l .z)))))), .bin .sub (.t (.l (.r (.r (.r (.l .z)))))) (.c (.int .i64 1)), none, none, []⟩,
        ⟨(some (.l (.l .z))), .mv (.t (.r (.r (.r (.r (.l .z)))))), none, none, []⟩]))
     .skip))
     (.seq (.region false 0 [
       ⟨(some (.r (.l (.l (.l (.r .z)))))), .mv (.t .z), none, none, []⟩,
       ⟨(some (.l (.r (.l (.l (.r .z)))))), .mv (.t (.l .z)), none, none, []⟩,
       ⟨(some (.r (.r (.l (.l (.r .z)))))), .mv (.t (.r .z)), none, none, []⟩,
       ⟨(some (.l (.l (.r (.l (.r .z)))))), .mv (.t (.r (.l .z))), none, none, []⟩,
       ⟨(some (.r (.l (.r (.l (.r .z)))))), .call 61 [(.t (.r (.l (.l (.l (.r .z)))))), (.t (.l (.r (.l (.l (.r .z)))))), (.t (.r (.r (.l (.l (.r .z)))))), (.t (.l (.l (.r (.l (.r .z))))))], none, none, []⟩,
       ⟨(some (.l (.l (.l (.l (.r .z)))))), .mv (.t (.r (.l (.r (.l (.r .z)))))), none, none, []⟩,
       ⟨(some (.l (.r (.r (.l (.r .z)))))), .ext (.t (.l (.l (.l (.l (.r .z)))))) 0, none, none, []⟩,
       ⟨(some (.r (.r (.r (.l (.r .z)))))), .ext (.t (.l (.l (.l (.l (.r .z)))))) 1, none, none, []⟩,
       ⟨(some (.l (.r (.r .z)))), .mv (.t (.l (.r (.r (.l (.r .z)))))), none, none, []⟩,
       ⟨(some (.r (.r (.r .z)))), .mv (.t (.r (.r (.r (.l (.r .z)))))), none, none, []⟩])
     (.seq (.seq (.region false 0 [
       ⟨(some (.l (.l (.l (.r (.r .z)))))), .mv (.t (.r (.r (.r .z)))), none, none, []⟩,
       ⟨(some (.r (.l (.l (.r (.r .z)))))), .eql false false [.i] (.t (.l (.l (.l (.r (.r .z)))))) (.c (.int .i64 2)), none, none, []⟩])
     (.cond (.t (.r (.l (.l (.r (.r .z))))))
     (.seq (.region false 0 [
        ⟨(some (.l (.r (.l (.r (.r .z)))))), .mv (.t .z), none, none, []⟩,
        ⟨(some (.r (.r (.l (.r (.r .z)))))), .mv (.t (.l .z)), none, none, []⟩,
        ⟨(some (.l (.l (.r (.r (.r .z)))))), .mv (.t (.r .z)), none, none, []⟩,
        ⟨(some (.r (.l (.r (.r (.r .z)))))), .mv (.t (.r (.l .z))), none, none, []⟩,
        ⟨(some (.l (.r (.r (.r (.r .z)))))), .call 62 [(.t (.l (.r (.l (.r (.r .z)))))), (.t (.r (.r (.l (.r (.r .z)))))), (.t (.l (.l (.r (.r (.r .z)))))), (.t (.r (.l (.r (.r (.r .z))))))], none, none, []⟩])
      (.seq (.region false 0 [
        ⟨(some (.r (.r (.r (.r (.r .z)))))), .mv (.t (.r .z)), none, none, []⟩,
        ⟨(some (.l (.l (.l (.l (.l (.l .z))))))), .bin .sub (.t (.r (.r (.r (.r (.r .z)))))) (.c (.int .i64 1)), none, none, []⟩,
        ⟨(some (.r (.l (.l (.l (.l (.l .z))))))), .mv (.t (.l (.r (.r .z)))), none, none, []⟩,
        ⟨(some (.l (.r (.l (.l (.l (.l .z))))))), .mv (.t (.l .z)), none, none, []⟩,
        ⟨(some (.r (.r (.l (.l (.l (.l .z))))))), .bin .sub (.t (.r (.l (.l (.l (.l (.l .z))))))) (.t (.l (.r (.l (.l (.l (.l .z))))))), none, none, []⟩,
        ⟨(some (.l (.l (.r (.l (.l (.l .z))))))), .bin .sub (.t (.l (.l (.l (.l (.l (.l .z))))))) (.t (.r (.r (.l (.l (.l (.l .z))))))), none, none, []⟩,
        ⟨(some (.l (.r (.r .z)))), .mv (.t (.l (.l (.r (.l (.l (.l .z))))))), none, none, []⟩])
      (.region false 0 [
        ⟨(some (.r (.r (.r .z)))), .mv (.c (.int .i64 1)), none, none, []⟩])))
     .skip))
     (.seq (.seq (.region false 0 [
       ⟨(some (.r (.l (.r (.l (.l (.l .z))))))), .mv (.t (.r (.r (.l .z)))), none, none, []⟩,
       ⟨(some (.l (.r (.r (.l (.l (.l .z))))))), .mv (.t (.r (.l (.r (.l (.l (.l .z))))))), none, none, []⟩,
       ⟨(some (.r (.r (.r (.l (.l (.l .z))))))), .mv (.t (.l (.l (.r .z)))), (some ((.l (.r (.r (.l (.l (.l .z)))))), true)), none, []⟩,
       ⟨(some (.l (.l (.l (.r (.l (.l .z))))))), .pick (.t (.l (.r (.r (.l (.l (.l .z))))))) (.t (.r (.r (.r (.l (.l (.l .z))))))) (.c (.bool false)), none, none, []⟩,
       ⟨(some (.r (.l (.l (.r (.l (.l .z))))))), .mv (.t (.l (.l (.l (.r (.l (.l .z))))))), none, none, []⟩,
       ⟨(some (.l (.r (.l (.r (.l (.l .z))))))), .mv (.t (.r (.r (.r .z)))), (some ((.r (.l (.l (.r (.l (.l .z)))))), true)), none, []⟩,
       ⟨(some (.r (.r (.l (.r (.l (.l .z))))))), .eql false false [.i] (.t (.l (.r (.l (.r (.l (.l .z))))))) (.c (.int .i64 1)), (some ((.r (.l (.l (.r (.l (.l .z)))))), true)), none, []⟩,
       ⟨(some (.l (.l (.r (.r (.l (.l .z))))))), .pick (.t (.r (.l (.l (.r (.l (.l .z))))))) (.t (.r (.r (.l (.r (.l (.l .z))))))) (.c (.bool false)), none, none, []⟩])
     (.cond (.t (.l (.l (.r (.r (.l (.l .z)))))))
     (.seq (.region false 0 [
        ⟨(some (.r (.l (.r (.r (.l (.l .z))))))), .mv (.t .z), none, none, []⟩,
        ⟨(some (.l (.r (.r (.r (.l (.l .z))))))), .mv (.t (.l .z)), none, none, []⟩,
        ⟨(some (.r (.r (.r (.r (.l (.l .z))))))), .mv (.t (.r .z)), none, none, []⟩,
        ⟨(some (.l (.l (.l (.l (.r (.l .z))))))), .mv (.t (.r (.l .z))), none, none, []⟩,
        ⟨(some (.r (.l (.l (.l (.r (.l .z))))))), .call 63 [(.t (.r (.l (.r (.r (.l (.l .z))))))), (.t (.l (.r (.r (.r (.l (.l .z))))))), (.t (.r (.r (.r (.r (.l (.l .z))))))), (.t (.l (.l (.l (.l (.r (.l .z)))))))], none, none, []⟩])
      (.cond (.t (.r (.l (.l (.l (.r (.l .z)))))))
      .ret
      .skip))
     .skip))
     (.seq (.seq (.region true 0 [
       ⟨(some (.l (.r (.l (.l (.r (.l .z))))))), .mv (.t (.l .z)), none, none, []⟩,
       ⟨(some (.r (.r (.l (.l (.r (.l .z))))))), .bin .gtr (.t (.l (.r (.l (.l (.r (.l .z))))))) (.c (.int .i64 0)), none, none, [0]⟩,
       ⟨(some (.l (.l (.r (.l (.r (.l .z))))))), .mv (.t (.r (.r (.l (.l (.r (.l .z))))))), none, none, [0, 1]⟩,
       ⟨(some (.r (.l (.r (.l (.r (.l .z))))))), .mv (.t (.r (.l .z))), (some ((.l (.l (.r (.l (.r (.l .z)))))), true)), none, [0, 1, 2]⟩,
       ⟨(some (.l (.r (.r (.l (.r (.l .z))))))), .mv (.t .z), (some ((.l (.l (.r (.l (.r (.l .z)))))), true)), none, [0, 1, 2]⟩,
       ⟨(some (.r (.r (.r (.l (.r (.l .z))))))), .mv (.t (.l .z)), (some ((.l (.l (.r (.l (.r (.l .z)))))), true)), none, [0, 1, 2]⟩,
       ⟨(some (.l (.l (.l (.r (.r (.l .z))))))), .bin .sub (.t (.r (.r (.r (.l (.r (.l .z))))))) (.c (.int .i64 1)), (some ((.l (.l (.r (.l (.r (.l .z)))))), true)), none, [0, 1, 2, 5]⟩,
       ⟨(some (.r (.l (.l (.r (.r (.l .z))))))), .idxS 1 (.t (.l (.r (.r (.l (.r (.l .z))))))) (.t (.l (.l (.l (.r (.r (.l .z))))))), (some ((.l (.l (.r (.l (.r (.l .z)))))), true)), none, [0, 1, 2, 4, 5, 6]⟩,
       ⟨(some (.l (.r (.l (.r (.r (.l .z))))))), .load false 1 (.t (.r (.l (.l (.r (.r (.l .z))))))), (some ((.l (.l (.r (.l (.r (.l .z)))))), true)), none, [0, 1, 2, 4, 5, 6, 7]⟩,
       ⟨(some (.r (.r (.l (.r (.r (.l .z))))))), .mv (.t .z), (some ((.l (.l (.r (.l (.r (.l .z)))))), true)), none, [0, 1, 2]⟩,
       ⟨(some (.l (.l (.r (.r (.r (.l .z))))))), .mv (.t (.l (.r (.r .z)))), (some ((.l (.l (.r (.l (.r (.l .z)))))), true)), none, [0, 1, 2]⟩,
       ⟨(some (.r (.l (.r (.r (.r (.l .z))))))), .idxS 1 (.t (.r (.r (.l (.r (.r (.l .z))))))) (.t (.l (.l (.r (.r (.r (.l .z))))))), (some ((.l (.l (.r (.l (.r (.l .z)))))), true)), none, [0, 1, 2, 9, 10]⟩,
       ⟨(some (.l (.r (.r (.r (.r (.l .z))))))), .load false 1 (.t (.r (.l (.r (.r (.r (.l .z))))))), (some ((.l (.l (.r (.l (.r (.l .z)))))), true)), none, [0, 1, 2, 9, 10, 11]⟩,
       ⟨(some (.r (.r (.r (.r (.r (.l .z))))))), .callv (.t (.r (.l (.r (.l (.r (.l .z))))))) [(.t (.l (.r (.l (.r (.r (.l .z))))))), (.t (.l (.r (.r (.r (.r (.l .z)))))))], (some ((.l (.l (.r (.l (.r (.l .z)))))), true)), none, [0, 1, 2, 3, 4, 5, 6, 7, 8, 9, 10, 11, 12]⟩,
       ⟨(some (.l (.l (.l (.l (.l (.r .z))))))), .bin .lss (.t (.r (.r (.r (.r (.r (.l .z))))))) (.c (.int .i64 0)), (some ((.l (.l (.r (.l (.r (.l .z)))))), true)), none, [0, 1, 2, 3, 4, 5, 6, 7, 8, 9, 10, 11, 12, 13]⟩,
       ⟨(some (.r (.l (.l (.l (.l (.r .z))))))), .un .not (.t (.l (.l (.l (.l (.l (.r .z))))))), (some ((.l (.l (.r (.l (.r (.l .z)))))), true)), none, [0, 1, 2, 3, 4, 5, 6, 7, 8, 9, 10, 11, 12, 13, 14]⟩,
       ⟨(some (.l (.r (.l (.l (.l (.r .z))))))), .pick (.t (.l (.l (.r (.l (.r (.l .z))))))) (.t (.r (.l (.l (.l (.l (.r .z))))))) (.c (.bool false)), none, none, [0, 1, 2, 3, 4, 5, 6, 7, 8, 9, 10, 11, 12, 13, 14, 15]⟩])
     (.cond (.t (.l (.r (.l (.l (.l (.r .z)))))))
     (.seq (.region false 0 [
        ⟨(some (.r (.r (.l (.l (.l (.r .z))))))), .mv (.t .z), none, none, []⟩,
        ⟨(some (.l (.l (.r (.l (.l (.r .z))))))), .mv (.t (.l .z)), none, none, []⟩,
        ⟨(some (.r (.l (.r (.l (.l (.r .z))))))), .mv (.t (.r .z)), none, none, []⟩,
        ⟨(some (.l (.r (.r (.l (.l (.r .z))))))), .mv (.t (.l (.r (.r .z)))), none, none, []⟩,
        ⟨(some (.r (.r (.r (.l (.l (.r .z))))))), .mv (.t (.r (.l .z))), none, none, []⟩,
        ⟨(some (.l (.l (.l (.r (.l (.r .z))))))), .call 64 [(.t (.r (.r (.l (.l (.l (.r .z))))))), (.t (.l (.l (.r (.l (.l (.r .z))))))), (.t (.r (.l (.r (.l (.l (.r .z))))))), (.t (.l (.r (.r (.l (.l (.r .z))))))), (.t (.r (.r (.r (.l (.l (.r .z)))))))], none, none, []⟩,
        ⟨(some (.l (.l (.l (.l .z))))), .mv (.t (.l (.l (.l (.r (.l (.r .z))))))), none, none, []⟩])
      (.seq (.region false 0 [
        ⟨(some (.r (.l (.l (.r (.l (.r .z))))))), .mv (.t (.l (.l (.l (.l .z))))), none, none, []⟩,
        ⟨(some (.l .z)), .mv (.t (.r (.l (.l (.r (.l (.r .z))))))), none, none, []⟩])
      (.exit 1)))
     .skip))
     (.seq (.region false 0 [
       ⟨(some (.r (.r (.l (.r (.l (.r .z))))))), .mv (.t .z), none, none, []⟩,
       ⟨(some (.l (.l (.r (.r (.l (.r .z))))))), .mv (.t (.l .z)), none, none, []⟩,
       ⟨(some (.r (.l (.r (.r (.l (.r .z))))))), .mv (.t (.r .z)), none, none, []⟩,
       ⟨(some (.l (.r (.r (.r (.l (.r .z))))))), .mv (.t (.l (.r (.r .z)))), none, none, []⟩,
       ⟨(some (.r (.r (.r (.r (.l (.r .z))))))), .mv (.t (.r (.l .z))), none, none, []⟩,
       ⟨(some (.l (.l (.l (.l (.r (.r .z))))))), .call 65 [(.t (.r (.r (.l (.r (.l (.r .z))))))), (.t (.l (.l (.r (.r (.l (.r .z))))))), (.t (.r (.l (.r (.r (.l (.r .z))))))), (.t (.l (.r (.r (.r (.l (.r .z))))))), (.t (.r (.r (.r (.r (.l (.r .z)))))))], none, none, []⟩,
       ⟨(some (.l (.r (.l (.r (.l (.r .z))))))), .mv (.t (.l (.l (.l (.l (.r (.r .z))))))), none, none, []⟩,
       ⟨(some (.r (.l (.l (.l (.r (.r .z))))))), .ext (.t (.l (.r (.l (.r (.l (.r .z))))))) 0, none, none, []⟩,
       ⟨(some (.l (.r (.l (.l (.r (.r .z))))))), .ext (.t (.l (.r (.l (.r (.l (.r .z))))))) 1, none, none, []⟩,
       ⟨(some (.r (.l (.l (.l .z))))), .mv (.t (.r (.l (.l (.l (.r (.r .z))))))), none, none, []⟩,
       ⟨(some (.l (.r (.l (.l .z))))), .mv (.t (.l (.r (.l (.l (.r (.r .z))))))), none, none, []⟩])
     (.seq (.region false 0 [
       ⟨(some (.r (.r (.l (.l (.r (.r .z))))))), .mv (.t (.l (.r (.l (.l .z))))), none, none, []⟩,
       ⟨(some (.l (.l (.r .z)))), .mv (.t (.r (.r (.l (.l (.r (.r .z))))))), none, none, []⟩])
     (.seq (.region false 0 [
       ⟨(some (.l (.l (.r (.l (.r (.r .z))))))), .mv (.t (.r (.l (.l (.l .z))))), none, none, []⟩,
       ⟨(some (.r (.l (.r (.l (.r (.r .z))))))), .mv (.t (.l .z)), none, none, []⟩,
       ⟨(some (.l (.r (.r (.l (.r (.r .z))))))), .bin .sub (.t (.l (.l (.r (.l (.r (.r .z))))))) (.t (.r (.l (.r (.l (.r (.r .z))))))), none, none, []⟩,
       ⟨(some (.r (.r (.r (.l (.r (.r .z))))))), .mv (.t (.r .z)), none, none, []⟩,
       ⟨(some (.l (.l (.l (.r (.r (.r .z))))))), .mv (.t (.r (.l (.l (.l .z))))), none, none, []⟩,
       ⟨(some (.r (.l (.l (.r (.r (.r .z))))))), .bin .sub (.t (.r (.r (.r (.l (.r (.r .z))))))) (.t (.l (.l (.l (.r (.r (.r .z))))))), none, none, []⟩,
       ⟨(some (.r (.r (.l (.l .z))))), .mv (.t (.l (.r (.r (.l (.r (.r .z))))))), none, none, []⟩,
       ⟨(some (.l (.l (.r (.l .z))))), .mv (.t (.r (.l (.l (.r (.r (.r .z))))))), none, none, []⟩])
     (.seq (.region false 0 [
       ⟨(some (.l (.r (.l (.r (.r (.r .z))))))), .mv (.t (.r (.l (.r .z)))), none, none, []⟩,
       ⟨(some (.r (.r (.l (.r (.r (.r .z))))))), .bin .quo (.t (.l (.r (.l (.r (.r (.r .z))))))) (.c (.int .i64 8)), none, none, []⟩,
       ⟨(some (.r (.l (.r (.l .z))))), .mv (.t (.r (.r (.l (.r (.r (.r .z))))))), none, none, []⟩])
     (.seq (.region false 0 [
       ⟨(some (.l (.l (.r (.r (.r (.r .z))))))), .mv (.t (.r (.r (.l (.l .z))))), none, none, []⟩,
       ⟨(some (.r (.l (.r (.r (.r (.r .z))))))), .mv (.t (.l (.l (.r (.l .z))))), none, none, []⟩,
       ⟨(some (.l (.r (.r (.r (.r (.r .z))))))), .bin .lss (.t (.l (.l (.r (.r (.r (.r .z))))))) (.t (.r (.l (.r (.r (.r (.r .z))))))), none, none, []⟩])
     (.cond (.t (.l (.r (.r (.r (.r (.r .z)))))))
     (.seq (.region false 0 [
        ⟨(some (.r (.r (.r (.r (.r (.r .z))))))), .mv (.t (.r (.r (.l (.l .z))))), none, none, []⟩,
        ⟨(some (.l (.l (.l (.l (.l (.l (.l .z)))))))), .mv (.t (.r (.l (.r (.l .z))))), none, none, []⟩,
        ⟨(some (.r (.l (.l (.l (.l (.l (.l .z)))))))), .bin .geq (.t (.r (.r (.r (.r (.r (.r .z))))))) (.t (.l (.l (.l (.l (.l (.l (.l .z)))))))), none, none, []⟩,
        ⟨(some (.r (.r (.l .z)))), .mv (.t (.r (.l (.l (.l (.l (.l (.l .z)))))))), none, none, []⟩])
      (.seq (.region false 0 [
        ⟨(some (.l (.r (.l (.l (.l (.l (.l .z)))))))), .mv (.t .z), none, none, []⟩,
        ⟨(some (.r (.r (.l (.l (.l (.l (.l .z)))))))), .mv (.t (.l .z)), none, none, []⟩,
        ⟨(some (.l (.l (.r (.l (.l (.l (.l .z)))))))), .mv (.t (.r (.l (.l (.l .z))))), none, none, []⟩,
        ⟨(some (.r (.l (.r (.l (.l (.l (.l .z)))))))), .mv (.t (.l (.l .z))), none, none, []⟩,
        ⟨(some (.l (.r (.r (.l (.l (.l (.l .z)))))))), .mv (.t (.r (.l .z))), none, none, []⟩,
        ⟨(some (.r (.r (.r (.l (.l (.l (.l .z)))))))), .call 37 [(.t (.l (.r (.l (.l (.l (.l (.l .z)))))))), (.t (.r (.r (.l (.l (.l (.l (.l .z)))))))), (.t (.l (.l (.r (.l (.l (.l (.l .z)))))))), (.t (.r (.l (.r (.l (.l (.l (.l .z)))))))), (.t (.l (.r (.r (.l (.l (.l (.l .z))))))))], none, none, []⟩])
      (.region false 0 [
        ⟨(some (.l (.l (.l (.r (.l (.l (.l .z)))))))), .mv (.t (.r (.l (.l (.l .z))))), none, none, []⟩,
        ⟨(some (.r (.l (.l (.r (.l (.l (.l .z)))))))), .bin .add (.t (.l (.l (.l (.r (.l (.l (.l .z)))))))) (.c (.int .i64 1)), none, none, []⟩,
        ⟨(some (.l .z)), .mv (.t (.r (.l (.l (.r (.l (.l (.l .z)))))))), none, none, []⟩])))
     (.seq (.region false 0 [
        ⟨(some (.l (.r (.l (.r (.l (.l (.l .z)))))))), .mv (.t (.l (.l (.r (.l .z))))), none, none, []⟩,
        ⟨(some (.r (.r (.l (.r (.l (.l (.l .z)))))))), .mv (.t (.r (.l (.r (.l .z))))), none, none, []⟩,
        ⟨(some (.l (.l (.r (.r (.l (.l (.l .z)))))))), .bin .geq (.t (.l (.r (.l (.r (.l (.l (.l .z)))))))) (.t (.r (.r (.l (.r (.l (.l (.l .z)))))))), none, none, []⟩,
        ⟨(some (.r (.r (.l .z)))), .mv (.t (.l (.l (.r (.r (.l (.l (.l .z)))))))), none, none, []⟩])
      (.seq (.region false 0 [
        ⟨(some (.r (.l (.r (.r (.l (.l (.l .z)))))))), .mv (.t .z), none, none, []⟩,
        ⟨(some (.l (.r (.r (.r (.l (.l (.l .z)))))))), .mv (.t (.r (.l (.l (.l .z))))), none, none, []⟩,
        ⟨(some (.r (.r (.r (.r (.l (.l (.l .z)))))))), .bin .add (.t (.l (.r (.r (.r (.l (.l (.l .z)))))))) (.c (.int .i64 1)), none, none, []⟩,
        ⟨(some (.l (.l (.l (.l (.r (.l (.l .z)))))))), .mv (.t (.r .z)), none, none, []⟩,
        ⟨(some (.r (.l (.l (.l (.r (.l (.l .z)))))))), .mv (.t (.l (.l .z))), none, none, []⟩,
        ⟨(some (.l (.r (.l (.l (.r (.l (.l .z)))))))), .mv (.t (.r (.l .z))), none, none, []⟩,
        ⟨(some (.r (.r (.l (.l (.r (.l (.l .z)))))))), .call 37 [(.t (.r (.l (.r (.r (.l (.l (.l .z)))))))), (.t (.r (.r (.r (.r (.l (.l (.l .z)))))))), (.t (.l (.l (.l (.l (.r (.l (.l .z)))))))), (.t (.r (.l (.l (.l (.r (.l (.l .z)))))))), (.t (.l (.r (.l (.l (.r (.l (.l .z))))))))], none, none, []⟩])
      (.region false 0 [
        ⟨(some (.l (.l (.r (.l (.r (.l (.l .z)))))))), .mv (.t (.r (.l (.l (.l .z))))), none, none, []⟩,
        ⟨(some (.r .z)), .mv (.t (.l (.l (.r (.l (.r (.l (.l .z)))))))), none, none, []⟩]))))))))))))))))))))))⟩
def AF38 : AFunc := ⟨8, [.tmp (.r .z)],
  (.seq (.region false 0 [
    ⟨(some (.r .z)), .mv (.c (.int .i64 0)), none, none, []⟩])
  (.seq (.cond (.c (.bool false))
  (.seq (.region false 0 [
     ⟨(some (.l (.l .z))), .mv (.t .z), none, none, []⟩,
     ⟨(some (.r (.l .z))), .conv (.toInt .u32) (.t (.l (.l .z))), none, none, []⟩,
     ⟨(some (.l (.r .z))), .call 66 [(.t (.r (.l .z)))], none, none, []⟩,
     ⟨(some (.r .z)), .mv (.t (.l (.r .z))), none, none, []⟩])
   .ret)
  .skip)
  (.seq (.region false 0 [
    ⟨(some (.r (.r .z))), .mv (.t .z), none, none, []⟩,
    ⟨(some (.l (.l (.l .z)))), .call 67 [(.t (.r (.r .z)))], none, none, []⟩,
    ⟨(some (.r .z)), .mv (.t (.l (.l (.l .z)))), none, none, []⟩])
  .ret)))⟩
def AF40 : AFunc := ⟨24, [.tmp (.r .z)],
  (.seq (.region false 0 [
    ⟨(some (.r .z)), .mv (.c (.bool false)), none, none, []⟩])
  (.seq (.seq (.region false 0 [
    ⟨(some (.l (.r .z))), .mv (.t .z), none, none, []⟩,
    ⟨(some (.r (.r .z))), .len .slice (.t (.l (.r .z))), none, none, []⟩,
    ⟨(some (.l (.l (.l .z)))), .mv (.c (.int .i64 0)), none, none, []⟩])
  (.block 0 (.loop (.seq (.region false 0 [
      ⟨(some (.r (.l (.l .z)))), .bin .lss (.t (.l (.l (.l .z)))) (.t (.r (.r .z))), none, none, []⟩])
    (.seq (.cond (.t (.r (.l (.l .z))))
    .skip
    (.exit 0))
    (.seq (.block 1 (.seq (.region false 0 [
       ⟨(some (.l (.r (.l .z)))), .idxS 3 (.t (.l (.r .z))) (.t (.l (.l (.l .z)))), none, none, []⟩,
       ⟨(some (.r (.r (.l .z)))), .load true 3 (.t (.l (.r (.l .z)))), none, none, []⟩,
       ⟨(some (.r (.l .z))), .alloc 3 [[(.int .i64 0), (.int .i64 0), (.int .i64 0)]], none, none, []⟩,
       ⟨none, .store 3 (.t (.r (.l .z))) (.t (.r (.r (.l .z)))), none, none, []⟩])
     (.seq (.region false 0 [
       ⟨(some (.l (.l (.r .z)))), .fieldA 0 (.t (.r (.l .z))), none, none, []⟩,
       ⟨(some (.r (.l (.r .z)))), .load false 1 (.t (.l (.l (.r .z)))), none, none, []⟩,
       ⟨(some (.l (.r (.r .z)))), .fieldA 1 (.t (.r (.l .z))), none, none, []⟩,
       ⟨(some (.r (.r (.r .z)))), .load false 1 (.t (.l (.r (.r .z)))), none, none, []⟩,
       ⟨(some (.l (.l (.l (.l .z))))), .bin .lss (.t (.r (.l (.r .z)))) (.t (.r (.r (.r .z)))), none, none, []⟩,
       ⟨(some (.r (.l (.l (.l .z))))), .mv (.t (.l (.l (.l (.l .z))))), none, none, []⟩,
       ⟨(some (.l (.r (.l (.l .z))))), .fieldA 0 (.t (.r (.l .z))), (some ((.r (.l (.l (.l .z)))), false)), none, []⟩,
       ⟨(some (.r (.r (.l (.l .z))))), .load false 1 (.t (.l (.r (.l (.l .z))))), (some ((.r (.l (.l (.l .z)))), false)), none, []⟩,
       ⟨(some (.l (.l (.r (.l .z))))), .fieldA 2 (.t (.r (.l .z))), (some ((.r (.l (.l (.l .z)))), false)), none, []⟩,
       ⟨(some (.r (.l (.r (.l .z))))), .load false 1 (.t (.l (.l (.r (.l .z))))), (some ((.r (.l (.l (.l .z)))), false)), none, []⟩,
       ⟨(some (.l (.r (.r (.l .z))))), .bin .gtr (.t (.r (.r (.l (.l .z))))) (.t (.r (.l (.r (.l .z))))), (some ((.r (.l (.l (.l .z)))), false)), none, []⟩,
       ⟨(some (.r (.r (.r (.l .z))))), .pick (.t (.r (.l (.l (.l .z))))) (.c (.bool true)) (.t (.l (.r (.r (.l .z))))), none, none, []⟩])
     (.cond (.t (.r (.r (.r (.l .z)))))
     (.seq (.region false 0 [
        ⟨(some (.r .z)), .mv (.c (.bool false)), none, none, []⟩])
      .ret)
     .skip))))
    (.region false 0 [
      ⟨(some (.l (.l (.l (.r .z))))), .bin .add (.t (.l (.l (.l .z)))) (.c (.int .i64 1)), none, none, []⟩,
      ⟨(some (.l (.l (.l .z)))), .mv (.t (.l (.l (.l (.r .z))))), none, none, []⟩])))))))
  (.seq (.region false 0 [
    ⟨(some (.r .z)), .mv (.c (.bool true)), none, none, []⟩])
  .ret)))⟩
def AF41 : AFunc := ⟨9, [.tmp (.r (.l .z))],
  (.seq (.region false 0 [
    ⟨(some (.r (.l .z))), .mv (.c (.bool false)), none, none, []⟩])
  (.seq (.region false 0 [
    ⟨(some (.l (.r .z))), .mv (.t .z), none, none, []⟩,
    ⟨(some (.r (.r .z))), .mv (.t (.l .z)), none, none, []⟩,
    ⟨(some (.l (.l (.l .z)))), .call 69 [(.t (.l (.r .z))), (.t (.r (.r .z)))], none, none, []⟩,
    ⟨(some (.r (.l (.l .z)))), .bin .geq (.t (.l (.l (.l .z)))) (.c (.int .i64 0)), none, none, []⟩,
    ⟨(some (.r (.l .z))), .mv (.t (.r (.l (.l .z)))), none, none, []⟩])
  .ret))⟩
def AF42 : AFunc := ⟨8, [.tmp (.l (.l .z))],
  (.seq (.region false 0 [
    ⟨(some (.r .z)), .box 9 9 (.t .z), none, none, []⟩,
    ⟨(some (.l (.l .z))), .mv (.c (.bool false)), none, none, []⟩])
  (.seq (.region false 0 [
    ⟨(some (.r (.l .z))), .fieldA 0 (.t (.r .z)), none, none, []⟩,
    ⟨(some (.l (.r .z))), .load true 3 (.t (.r (.l .z))), none, none, []⟩,
    ⟨(some (.r (.r .z))), .load true 3 (.t (.l .z)), none, none, []⟩,
    ⟨(some (.l (.l (.l .z)))), .eql false true [.i, .i, .i] (.t (.l (.r .z))) (.t (.r (.r .z))), none, none, []⟩,
    ⟨(some (.l (.l .z))), .mv (.t (.l (.l (.l .z)))), none, none, []⟩])
  .ret))⟩
def AF43 : AFunc := ⟨39, [.tmp (.r .z)],
  (.seq (.region false 0 [
    ⟨(some (.r .z)), .mv (.c (.int .i64 0)), none, none, []⟩])
  (.seq (.seq (.region false 0 [
    ⟨(some (.l (.r (.l .z)))), .mv (.t .z), none, none, []⟩,
    ⟨(some (.r (.r (.l .z)))), .len .slice (.t (.l (.r (.l .z)))), none, none, []⟩,
    ⟨(some (.l (.l (.r .z)))), .bin .gtr (.t (.r (.r (.l .z)))) (.c (.int .i64 1000)), none, none, []⟩])
  (.cond (.t (.l (.l (.r .z))))
  (.seq (.region false 0 [
     ⟨(some (.r .z)), .mv (.c (.int .i64 5)), none, none, []⟩])
   .ret)
  .skip))
  (.seq (.seq (.region false 0 [
    ⟨(some (.r (.l (.r .z)))), .mv (.t .z), none, none, []⟩,
    ⟨(some (.l (.r (.r .z)))), .len .slice (.t (.r (.l (.r .z)))), none, none, []⟩,
    ⟨(some (.r (.r (.r .z)))), .mv (.c (.int .i64 0)), none, none, []⟩])
  (.block 0 (.loop (.seq (.region false 0 [
      ⟨(some (.l (.l (.l (.l .z))))), .bin .lss (.t (.r (.r (.r .z)))) (.t (.l (.r (.r .z)))), none, none, []⟩])
    (.seq (.cond (.t (.l (.l (.l (.l .z)))))
    .skip
    (.exit 0))
    (.seq (.block 1 (.seq (.region false 0 [
       ⟨(some (.r (.l (.l (.l .z))))), .idxS 9 (.t (.r (.l (.r .z)))) (.t (.r (.r (.r .z)))), none, none, []⟩,
       ⟨(some (.l (.r (.l (.l .z))))), .load true 9 (.t (.r (.l (.l (.l .z))))), none, none, []⟩,
       ⟨(some (.r (.l .z))), .alloc 9 [[(.int .i64 0), (.int .u64 0), (.int .i64 0), (.int .i64 0), (.int .i64 0), (.int .i64 0), (.int .i64 0), (.int .i64 0), (.str [])]], none, none, []⟩,
       ⟨none, .store 9 (.t (.r (.l .z))) (.t (.l (.r (.l (.l .z))))), none, none, []⟩])
     (.seq (.region false 0 [
       ⟨(some (.r (.r (.l (.l .z))))), .load true 9 (.t (.r (.l .z))), none, none, []⟩,
       ⟨(some (.l (.l (.r (.l .z))))), .call 70 [(.t (.r (.r (.l (.l .z)))))], none, none, []⟩,
       ⟨(some (.l (.r .z))), .mv (.t (.l (.l (.r (.l .z))))), none, none, []⟩])
     (.seq (.region false 0 [
       ⟨(some (.r (.l (.r (.l .z))))), .mv (.t (.l (.r .z))), none, none, []⟩,
       ⟨(some (.l (.r (.r (.l .z))))), .eql true false [.i] (.t (.r (.l (.r (.l .z))))) (.c (.int .i64 0)), none, none, []⟩])
     (.cond (.t (.l (.r (.r (.l .z)))))
     (.seq (.region false 0 [
        ⟨(some (.r (.r (.r (.l .z))))), .mv (.t (.l (.r .z))), none, none, []⟩,
        ⟨(some (.r .z)), .mv (.t (.r (.r (.r (.l .z))))), none, none, []⟩])
      .ret)
     .skip)))))
    (.region false 0 [
      ⟨(some (.l (.l (.l (.r .z))))), .bin .add (.t (.r (.r (.r .z)))) (.c (.int .i64 1)), none, none, []⟩,
      ⟨(some (.r (.r (.r .z)))), .mv (.t (.l (.l (.l (.r .z))))), none, none, []⟩])))))))
  (.seq (.region false 0 [
    ⟨(some (.r (.l (.l (.r .z))))), .mkmap, none, none, []⟩,
    ⟨(some (.r (.r .z))), .mv (.t (.r (.l (.l (.r .z))))), none, none, []⟩])
  (.seq (.seq (.region false 0 [
    ⟨(some (.l (.r (.l (.r .z))))), .mv (.t .z), none, none, []⟩,
    ⟨(some (.r (.r (.l (.r .z))))), .len .slice (.t (.l (.r (.l (.r .z))))), none, none, []⟩,
    ⟨(some (.l (.l (.r (.r .z))))), .mv (.c (.int .i64 0)), none, none, []⟩])
  (.block 2 (.loop (.seq (.region false 0 [
      ⟨(some (.r (.l (.r (.r .z))))), .bin .lss (.t (.l (.l (.r (.r .z))))) (.t (.r (.r (.l (.r .z))))), none, none, []⟩])
    (.seq (.cond (.t (.r (.l (.r (.r .z)))))
    .skip
    (.exit 2))
    (.seq (.block 3 (.seq (.region false 0 [
       ⟨(some (.l (.r (.r (.r .z))))), .idxS 9 (.t (.l (.r (.l (.r .z))))) (.t (.l (.l (.r (.r .z))))), none, none, []⟩,
       ⟨(some (.r (.r (.r (.r .z))))), .load true 9 (.t (.l (.r (.r (.r .z))))), none, none, []⟩,
       ⟨(some (.r (.l (.l .z)))), .alloc 9 [[(.int .i64 0), (.int .u64 0), (.int .i64 0), (.int .i64 0), (.int .i64 0), (.int .i64 0), (.int .i64 0), (.int .i64 0), (.str [])]], none, none, []⟩,
       ⟨none, .store 9 (.t (.r (.l (.l .z)))) (.t (.r (.r (.r (.r .z))))), none, none, []⟩])
     (.seq (.seq (.region false 0 [
       ⟨(some (.l (.l (.l (.l (.l .z)))))), .mv (.t (.r (.r .z))), none, none, []⟩,
       ⟨(some (.r (.l (.l (.l (.l .z)))))), .fieldA 0 (.t (.r (.l (.l .z)))), none, none, []⟩,
       ⟨(some (.l (.r (.l (.l (.l .z)))))), .load true 3 (.t (.r (.l (.l (.l (.l .z)))))), none, none, []⟩,
       ⟨(some (.r (.r (.l (.l (.l .z)))))), .look true [.i, .i, .i] (.bool false) false (.t (.l (.l (.l (.l (.l .z)))))) (.t (.l (.r (.l (.l (.l .z)))))), none, none, []⟩])
     (.cond (.t (.r (.r (.l (.l (.l .z))))))
     (.seq (.region false 0 [
        ⟨(some (.r .z)), .mv (.c (.int .i64 9)), none, none, []⟩])
      .ret)
     .skip))
     (.region false 0 [
       ⟨(some (.l (.l (.r (.l (.l .z)))))), .mv (.t (.r (.r .z))), none, none, []⟩,
       ⟨(some (.r (.l (.r (.l (.l .z)))))), .fieldA 0 (.t (.r (.l (.l .z)))), none, none, []⟩,
       ⟨(some (.l (.r (.r (.l (.l .z)))))), .load true 3 (.t (.r (.l (.r (.l (.l .z)))))), none, none, []⟩,
       ⟨none, .mapset true [.i, .i, .i] (.t (.l (.l (.r (.l (.l .z)))))) (.t (.l (.r (.r (.l (.l .z)))))) (.c (.bool true)), none, none, []⟩]))))
    (.region false 0 [
      ⟨(some (.r (.r (.r (.l (.l .z)))))), .bin .add (.t (.l (.l (.r (.r .z))))) (.c (.int .i64 1)), none, none, []⟩,
      ⟨(some (.l (.l (.r (.r .z))))), .mv (.t (.r (.r (.r (.l (.l .z)))))), none, none, []⟩])))))))
  (.seq (.region false 0 [
    ⟨(some (.r .z)), .mv (.c (.int .i64 0)), none, none, []⟩])
  .ret))))))⟩
def AF44 : AFunc := ⟨105, [.tmp (.r (.l .z))],
  (.seq (.region false 0 [
    ⟨(some (.r .z)), .box 4 4 (.t .z), none, none, []⟩,
    ⟨(some (.r (.l .z))), .mv (.c .nilslice), none, none, []⟩])
  (.seq (.region false 0 [
    ⟨(some (.l (.r .z))), .mv (.c .nilslice), none, none, []⟩])
  (.seq (.seq (.region false 0 [
    ⟨(some (.l (.l (.l (.l .z))))), .mv (.t (.l .z)), none, none, []⟩,
    ⟨(some (.r (.l (.l (.l .z))))), .len .slice (.t (.l (.l (.l (.l .z))))), none, none, []⟩,
    ⟨(some (.l (.r (.l (.l .z))))), .mv (.c (.int .i64 0)), none, none, []⟩])
  (.block 0 (.loop (.seq (.region false 0 [
      ⟨(some (.r (.r (.l (.l .z))))), .bin .lss (.t (.l (.r (.l (.l .z))))) (.t (.r (.l (.l (.l .z))))), none, none, []⟩])
    (.seq (.cond (.t (.r (.r (.l (.l .z)))))
    .skip
    (.exit 0))
    (.seq (.block 1 (.seq (.region false 0 [
       ⟨(some (.l (.l (.r (.l .z))))), .idxS 9 (.t (.l (.l (.l (.l .z))))) (.t (.l (.r (.l (.l .z))))), none, none, []⟩,
       ⟨(some (.r (.l (.r (.l .z))))), .load true 9 (.t (.l (.l (.r (.l .z))))), none, none, []⟩,
       ⟨(some (.l (.l (.l .z)))), .alloc 9 [[(.int .i64 0), (.int .u64 0), (.int .i64 0), (.int .i64 0), (.int .i64 0), (.int .i64 0), (.int .i64 0), (.int .i64 0), (.str [])]], none, none, []⟩,
       ⟨none, .store 9 (.t (.l (.l (.l .z)))) (.t (.r (.l (.r (.l .z))))), none, none, []⟩])
     (.seq (.region false 0 [
       ⟨(some (.r (.r (.r (.l .z))))), .load true 9 (.t (.l (.l (.l .z)))), none, none, []⟩,
       ⟨(some (.l (.l (.l (.r .z))))), .fieldA 0 (.t (.r .z)), none, none, []⟩,
       ⟨(some (.r (.l (.l (.r .z))))), .fieldA 0 (.t (.l (.l (.l (.r .z))))), none, none, []⟩,
       ⟨(some (.l (.r (.l (.r .z))))), .load false 1 (.t (.r (.l (.l (.r .z))))), none, none, []⟩,
       ⟨(some (.r (.r (.l (.r .z))))), .call 71 [(.t (.r (.r (.r (.l .z))))), (.t (.l (.r (.l (.r .z)))))], none, none, []⟩,
       ⟨(some (.l (.r (.r (.l .z))))), .mv (.t (.r (.r (.l (.r .z))))), none, none, []⟩,
       ⟨(some (.l (.l (.r (.r .z))))), .ext (.t (.l (.r (.r (.l .z))))) 0, none, none, []⟩,
       ⟨(some (.r (.l (.r (.r .z))))), .ext (.t (.l (.r (.r (.l .z))))) 1, none, none, []⟩,
       ⟨(some (.r (.l (.l .z)))), .mv (.t (.l (.l (.r (.r .z))))), none, none, []⟩,
       ⟨(some (.l (.r (.l .z)))), .mv (.t (.r (.l (.r (.r .z))))), none, none, []⟩])
     (.seq (.seq (.region false 0 [
       ⟨(some (.l (.r (.r (.r .z))))), .fieldA 3 (.t (.r .z)), none, none, []⟩,
       ⟨(some (.r (.r (.r (.r .z))))), .load false 1 (.t (.l (.r (.r (.r .z))))), none, none, []⟩,
       ⟨(some (.l (.l (.l (.l (.l .z)))))), .fieldA 3 (.t (.l (.l (.l .z)))), none, none, []⟩,
       ⟨(some (.r (.l (.l (.l (.l .z)))))), .load false 1 (.t (.l (.l (.l (.l (.l .z)))))), none, none, []⟩,
       ⟨(some (.l (.r (.l (.l (.l .z)))))), .look false [.i] .nilptr false (.t (.r (.r (.r (.r .z))))) (.t (.r (.l (.l (.l (.l .z)))))), none, none, []⟩,
       ⟨(some (.r (.r (.l .z)))), .mv (.t (.l (.r (.l (.l (.l .z)))))), none, none, []⟩])
     (.seq (.region false 0 [
       ⟨(some (.r (.r (.l (.l (.l .z)))))), .mv (.t (.r (.r (.l .z)))), none, none, []⟩,
       ⟨(some (.l (.l (.r (.l (.l .z)))))), .isnil true .p (.t (.r (.r (.l (.l (.l .z)))))), none, none, []⟩,
       ⟨(some (.r (.l (.r (.l (.l .z)))))), .mv (.t (.l (.l (.r (.l (.l .z)))))), none, none, []⟩,
       ⟨(some (.l (.r (.r (.l (.l .z)))))), .mv (.t (.r (.l (.l .z)))), (some ((.r (.l (.r (.l (.l .z))))), true)), none, []⟩,
       ⟨(some (.r (.r (.r (.l (.l .z)))))), .un .not (.t (.l (.r (.r (.l (.l .z)))))), (some ((.r (.l (.r (.l (.l .z))))), true)), none, []⟩,
       ⟨(some (.l (.l (.l (.r (.l .z)))))), .pick (.t (.r (.l (.r (.l (.l .z)))))) (.t (.r (.r (.r (.l (.l .z)))))) (.c (.bool false)), none, none, []⟩])
     (.cond (.t (.l (.l (.l (.r (.l .z))))))
     (.region true 0 [
        ⟨(some (.l (.r (.l (.r (.l .z)))))), .mv (.t (.r (.r (.l .z)))), none, none, []⟩,
        ⟨(some (.r (.r (.l (.r (.l .z)))))), .nilc (.t (.l (.r (.l (.r (.l .z)))))), none, none, [0]⟩,
        ⟨(some (.l (.l (.r (.r (.l .z)))))), .fieldA 17 (.t (.r (.r (.l (.r (.l .z)))))), none, none, [0, 1]⟩,
        ⟨(some (.r (.l (.r (.r (.l .z)))))), .fieldA 6 (.t (.l (.l (.r (.r (.l .z)))))), none, none, [0, 1, 2]⟩,
        ⟨(some (.l (.r (.r (.r (.l .z)))))), .load false 1 (.t (.r (.l (.r (.r (.l .z)))))), none, none, [0, 1, 2, 3]⟩,
        ⟨(some (.r (.r (.r (.r (.l .z)))))), .fieldA 0 (.t (.l (.l (.l .z)))), none, none, []⟩,
        ⟨(some (.l (.l (.l (.l (.r .z)))))), .load true 3 (.t (.r (.r (.r (.r (.l .z)))))), none, none, [5]⟩,
        ⟨(some (.r (.l (.l (.l (.r .z)))))), .call 72 [(.t (.l (.r (.r (.r (.l .z)))))), (.t (.l (.l (.l (.l (.r .z))))))], none, none, [0, 1, 2, 3, 4, 5, 6]⟩,
        ⟨(some (.r (.l (.l (.r (.l .z)))))), .mv (.t (.r (.l (.l (.l (.r .z)))))), none, none, [0, 1, 2, 3, 4, 5, 6, 7]⟩,
        ⟨(some (.l (.r (.l (.l (.r .z)))))), .ext (.t (.r (.l (.l (.r (.l .z)))))) 0, none, none, [0, 1, 2, 3, 4, 5, 6, 7, 8]⟩,
        ⟨(some (.r (.r (.l (.l (.r .z)))))), .ext (.t (.r (.l (.l (.r (.l .z)))))) 1, none, none, [0, 1, 2, 3, 4, 5, 6, 7, 8]⟩,
        ⟨(some (.r (.l (.l .z)))), .mv (.t (.l (.r (.l (.l (.r .z)))))), none, none, [0, 1, 2, 3, 4, 5, 6, 7, 8, 9]⟩])
     .skip)))
     (.seq (.region false 0 [
       ⟨(some (.l (.l (.r (.l (.r .z)))))), .mv (.t (.r (.l (.l .z)))), none, none, []⟩,
       ⟨(some (.r (.l (.r (.l (.r .z)))))), .un .not (.t (.l (.l (.r (.l (.r .z)))))), none, none, []⟩,
       ⟨(some (.l (.r (.r (.l (.r .z)))))), .mv (.t (.r (.l (.r (.l (.r .z)))))), none, none, []⟩,
       ⟨(some (.r (.r (.r (.l (.r .z)))))), .load true 4 (.t (.r .z)), (some ((.l (.r (.r (.l (.r .z))))), true)), none, []⟩,
       ⟨(some (.l (.l (.l (.r (.r .z)))))), .fieldA 0 (.t (.l (.l (.l .z)))), (some ((.l (.r (.r (.l (.r .z))))), true)), none, []⟩,
       ⟨(some (.r (.l (.l (.r (.r .z)))))), .load true 3 (.t (.l (.l (.l (.r (.r .z)))))), (some ((.l (.r (.r (.l (.r .z))))), true)), none, []⟩,
       ⟨(some (.l (.r (.l (.r (.r .z)))))), .call 26 [(.t (.r (.r (.r (.l (.r .z)))))), (.t (.r (.l (.l (.r (.r .z))))))], (some ((.l (.r (.r (.l (.r .z))))), true)), none, []⟩,
       ⟨(some (.r (.r (.l (.r (.r .z)))))), .len .slice (.t (.l (.r (.l (.r (.r .z)))))), (some ((.l (.r (.r (.l (.r .z))))), true)), none, []⟩,
       ⟨(some (.l (.l (.r (.r (.r .z)))))), .eql false false [.i] (.t (.r (.r (.l (.r (.r .z)))))) (.c (.int .i64 0)), (some ((.l (.r (.r (.l (.r .z))))), true)), none, []⟩,
       ⟨(some (.r (.l (.r (.r (.r .z)))))), .pick (.t (.l (.r (.r (.l (.r .z)))))) (.t (.l (.l (.r (.r (.r .z)))))) (.c (.bool false)), none, none, []⟩])
     (.cond (.t (.r (.l (.r (.r (.r .z))))))
     (.region false 0 [
        ⟨(some (.l (.r (.r (.r (.r .z)))))), .mv (.t (.l (.r .z))), none, none, []⟩,
        ⟨(some (.r (.r (.r (.r (.r .z)))))), .fieldA 0 (.t (.l (.l (.l .z)))), none, none, []⟩,
        ⟨(some (.l (.l (.l (.l (.l (.l .z))))))), .fieldA 0 (.t (.r (.r (.r (.r (.r .z)))))), none, none, []⟩,
        ⟨(some (.r (.l (.l (.l (.l (.l .z))))))), .load false 1 (.t (.l (.l (.l (.l (.l (.l .z))))))), none, none, []⟩,
        ⟨(some (.l (.r (.l (.l (.l (.l .z))))))), .fieldA 3 (.t (.l (.l (.l .z)))), none, none, []⟩,
        ⟨(some (.r (.r (.l (.l (.l (.l .z))))))), .load false 1 (.t (.l (.r (.l (.l (.l (.l .z))))))), none, none, []⟩,
        ⟨(some (.l (.l (.r (.l (.l (.l .z))))))), .fieldA 0 (.t (.l (.l (.l .z)))), none, none, []⟩,
        ⟨(some (.r (.l (.r (.l (.l (.l .z))))))), .load true 3 (.t (.l (.l (.r (.l (.l (.l .z))))))), none, none, []⟩,
        ⟨(some (.l (.r (.r (.l (.l (.l .z))))))), .build [(.int .i64 0), (.int .i64 0), (.int .i64 0), (.int .i64 0), (.int .u64 0), (.int .i64 0)] [(0, 1, (.c (.int .i64 3))), (1, 1, (.t (.r (.l (.l (.l (.l (.l .z)))))))), (2, 1, (.t (.r (.r (.l (.l (.l (.l .z)))))))), (3, 3, (.t (.r (.l (.r (.l (.l (.l .z))))))))], none, none, []⟩,
        ⟨(some (.r (.r (.r (.l (.l (.l .z))))))), .slit 6 1 [(.int .i64 0), (.int .i64 0), (.int .i64 0), (.int .i64 0), (.int .u64 0), (.int .i64 0)] [(0, (.t (.l (.r (.r (.l (.l (.l .z))))))))], none, none, []⟩,
        ⟨(some (.l (.l (.l (.r (.l (.l .z))))))), .app 6 48 (.t (.l (.r (.r (.r (.r .z)))))) (.t (.r (.r (.r (.l (.l (.l .z))))))), none, none, []⟩,
        ⟨(some (.l (.r .z))), .mv (.t (.l (.l (.l (.r (.l (.l .z))))))), none, none, []⟩])
     .skip))))))
    (.region false 0 [
      ⟨(some (.r (.l (.l (.r (.l (.l .z))))))), .bin .add (.t (.l (.r (.l (.l .z))))) (.c (.int .i64 1)), none, none, []⟩,
      ⟨(some (.l (.r (.l (.l .z))))), .mv (.t (.r (.l (.l (.r (.l (.l .z))))))), none, none, []⟩])))))))
  (.seq (.seq (.region false 0 [
    ⟨(some (.l (.r (.l (.r (.l (.l .z))))))), .fieldA 0 (.t (.r .z)), none, none, []⟩,
    ⟨(some (.r (.r (.l (.r (.l (.l .z))))))), .fieldA 1 (.t (.l (.r (.l (.r (.l (.l .z))))))), none, none, []⟩,
    ⟨(some (.l (.l (.r (.r (.l (.l .z))))))), .load false 1 (.t (.r (.r (.l (.r (.l (.l .z))))))), none, none, []⟩,
    ⟨(some (.r (.l (.r (.r (.l (.l .z))))))), .len .slice (.t (.l (.l (.r (.r (.l (.l .z))))))), none, none, []⟩,
    ⟨(some (.l (.r (.r (.r (.l (.l .z))))))), .mv (.c (.int .i64 0)), none, none, []⟩])
  (.block 2 (.loop (.seq (.region false 0 [
      ⟨(some (.r (.r (.r (.r (.l (.l .z))))))), .bin .lss (.t (.l (.r (.r (.r (.l (.l .z))))))) (.t (.r (.l (.r (.r (.l (.l .z))))))), none, none, []⟩])
    (.seq (.cond (.t (.r (.r (.r (.r (.l (.l .z)))))))
    .skip
    (.exit 2))
    (.seq (.block 3 (.seq (.region false 0 [
       ⟨(some (.l (.l (.l (.l (.r (.l .z))))))), .idxS 26 (.t (.l (.l (.r (.r (.l (.l .z))))))) (.t (.l (.r (.r (.r (.l (.l .z))))))), none, none, []⟩,
       ⟨(some (.r (.l (.l (.l (.r (.l .z))))))), .load true 26 (.t (.l (.l (.l (.l (.r (.l .z))))))), none, none, []⟩,
       ⟨(some (.r (.l (.r .z)))), .alloc 1 [[(.int .i64 0)], [(.int .u64 0)], [(.int .u64 0)], [(.int .u64 0)], [(.int .u64 0)], [(.int .i64 0)], [(.int .i64 0)], [(.int .i64 0)], [(.int .i64 0)], [(.int .i64 0)], [(.int .i64 0)], [(.int .i64 0)], [(.int .i64 0)], [(.int .i64 0)], [(.int .i64 0)], [(.int .i64 0)], [(.bool false)], [(.int .i64 0)], [(.int .u64 0)], [(.int .i64 0)], [(.int .u64 0)], [(.int .i64 0)], [.nilslice], [.nilslice], [.nilslice], [.nilslice]], none, none, []⟩,
       ⟨none, .store 26 (.t (.r (.l (.r .z)))) (.t (.r (.l (.l (.l (.r (.l .z))))))), none, none, []⟩])
     (.seq (.region false 0 [
       ⟨(some (.l (.r (.l (.l (.r (.l .z))))))), .fieldA 17 (.t (.r (.l (.r .z)))), none, none, []⟩,
       ⟨(some (.r (.r (.l (.l (.r (.l .z))))))), .fieldA 5 (.t (.l (.r (.l (.l (.r (.l .z))))))), none, none, []⟩,
       ⟨(some (.l (.l (.r (.l (.r (.l .z))))))), .load false 1 (.t (.r (.r (.l (.l (.r (.l .z))))))), none, none, []⟩,
       ⟨(some (.r (.l (.r (.l (.r (.l .z))))))), .len .slice (.t (.l (.l (.r (.l (.r (.l .z))))))), none, none, []⟩,
       ⟨(some (.l (.r (.r (.l (.r (.l .z))))))), .mv (.c (.int .i64 0)), none, none, []⟩])
     (.block 4 (.loop (.seq (.region false 0 [
         ⟨(some (.r (.r (.r (.l (.r (.l .z))))))), .bin .lss (.t (.l (.r (.r (.l (.r (.l .z))))))) (.t (.r (.l (.r (.l (.r (.l .z))))))), none, none, []⟩])
       (.seq (.cond (.t (.r (.r (.r (.l (.r (.l .z)))))))
       .skip
       (.exit 4))
       (.seq (.block 5 (.seq (.region false 0 [
          ⟨(some (.l (.l (.l (.r (.r (.l .z))))))), .idxS 9 (.t (.l (.l (.r (.l (.r (.l .z))))))) (.t (.l (.r (.r (.l (.r (.l .z))))))), none, none, []⟩,
          ⟨(some (.r (.l (.l (.r (.r (.l .z))))))), .load true 9 (.t (.l (.l (.l (.r (.r (.l .z))))))), none, none, []⟩,
          ⟨(some (.r (.r (.r .z)))), .alloc 9 [[(.int .i64 0), (.int .u64 0), (.int .i64 0), (.int .i64 0), (.int .i64 0), (.int .i64 0), (.int .i64 0), (.int .i64 0), (.str [])]], none, none, []⟩,
          ⟨none, .store 9 (.t (.r (.r (.r .z)))) (.t (.r (.l (.l (.r (.r (.l .z))))))), none, none, []⟩])
        (.seq (.region false 0 [
          ⟨(some (.l (.r (.l (.r (.r (.l .z))))))), .mv (.t (.l .z)), none, none, []⟩,
          ⟨(some (.r (.r (.l (.r (.r (.l .z))))))), .load true 9 (.t (.r (.r (.r .z)))), none, none, []⟩,
          ⟨(some (.l (.l (.r (.r (.r (.l .z))))))), .call 73 [(.t (.l (.r (.l (.r (.r (.l .z))))))), (.t (.r (.r (.l (.r (.r (.l .z)))))))], none, none, []⟩,
          ⟨(some (.r (.l (.r (.r (.r (.l .z))))))), .un .not (.t (.l (.l (.r (.r (.r (.l .z))))))), none, none, []⟩])
        (.cond (.t (.r (.l (.r (.r (.r (.l .z)))))))
        (.region false 0 [
           ⟨(some (.l (.r (.r (.r (.r (.l .z))))))), .mv (.t (.l (.r .z))), none, none, []⟩,
           ⟨(some (.r (.r (.r (.r (.r (.l .z))))))), .fieldA 0 (.t (.r (.l (.r .z)))), none, none, []⟩,
           ⟨(some (.l (.l (.l (.l (.l (.r .z))))))), .fieldA 0 (.t (.r (.r (.r (.r (.r (.l .z))))))), none, none, []⟩,
           ⟨(some (.r (.l (.l (.l (.l (.r .z))))))), .load false 1 (.t (.l (.l (.l (.l (.l (.r .z))))))), none, none, []⟩,
           ⟨(some (.l (.r (.l (.l (.l (.r .z))))))), .fieldA 0 (.t (.r (.r (.r .z)))), none, none, []⟩,
           ⟨(some (.r (.r (.l (.l (.l (.r .z))))))), .load true 3 (.t (.l (.r (.l (.l (.l (.r .z))))))), none, none, []⟩,
           ⟨(some (.l (.l (.r (.l (.l (.r .z))))))), .build [(.int .i64 0), (.int .i64 0), (.int .i64 0), (.int .i64 0), (.int .u64 0), (.int .i64 0)] [(0, 1, (.c (.int .i64 4))), (1, 1, (.t (.r (.l (.l (.l (.l (.r .z)))))))), (3, 3, (.t (.r (.r (.l (.l (.l (.r .z))))))))], none, none, []⟩,
           ⟨(some (.r (.l (.r (.l (.l (.r .z))))))), .slit 6 1 [(.int .i64 0), (.int .i64 0), (.int .i64 0), (.int .i64 0), (.int .u64 0), (.int .i64 0)] [(0, (.t (.l (.l (.r (.l (.l (.r .z))))))))], none, none, []⟩,
           ⟨(some (.l (.r (.r (.l (.l (.r .z))))))), .app 6 48 (.t (.l (.r (.r (.r (.r (.l .z))))))) (.t (.r (.l (.r (.l (.l (.r .z))))))), none, none, []⟩,
           ⟨(some (.l (.r .z))), .mv (.t (.l (.r (.r (.l (.l (.r .z))))))), none, none, []⟩])
        .skip))))
       (.region false 0 [
         ⟨(some (.r (.r (.r (.l (.l (.r .z))))))), .bin .add (.t (.l (.r (.r (.l (.r (.l .z))))))) (.c (.int .i64 1)), none, none, []⟩,
         ⟨(some (.l (.r (.r (.l (.r (.l .z))))))), .mv (.t (.r (.r (.r (.l (.l (.r .z))))))), none, none, []⟩])))))))))
    (.region false 0 [
      ⟨(some (.l (.l (.l (.r (.l (.r .z))))))), .bin .add (.t (.l (.r (.r (.r (.l (.l .z))))))) (.c (.int .i64 1)), none, none, []⟩,
      ⟨(some (.l (.r (.r (.r (.l (.l .z))))))), .mv (.t (.l (.l (.l (.r (.l (.r .z))))))), none, none, []⟩])))))))
  (.seq (.region false 0 [
    ⟨(some (.r (.l (.l (.r (.l (.r .z))))))), .mv (.t (.l (.r .z))), none, none, []⟩,
    ⟨(some (.r (.l .z))), .mv (.t (.r (.l (.l (.r (.l (.r .z))))))), none, none, []⟩])
  .ret)))))⟩
def AF45 : AFunc := ⟨80, [.cell (.r (.l .z)) true 3, .tmp (.l (.r .z))],
  (.seq (.region false 0 [
    ⟨(some (.r .z)), .box 8 8 (.t .z), none, none, []⟩,
    ⟨(some (.r (.l .z))), .alloc 3 [[(.int .u64 0), (.int .u64 0), .nilslice]], none, none, []⟩,
    ⟨(some (.l (.r .z))), .mv (.c (.int .i64 0)), none, none, []⟩])
  (.seq (.seq (.region false 0 [
    ⟨(some (.l (.r (.l (.l .z))))), .load true 8 (.t (.r .z)), none, none, []⟩,
    ⟨(some (.r (.r (.l (.l .z))))), .call 74 [(.t (.l (.r (.l (.l .z)))))], none, none, []⟩,
    ⟨(some (.r (.r .z))), .mv (.t (.r (.r (.l (.l .z))))), none, none, []⟩])
  (.seq (.region false 0 [
    ⟨(some (.l (.l (.r (.l .z))))), .mv (.t (.r (.r .z))), none, none, []⟩,
    ⟨(some (.r (.l (.r (.l .z))))), .eql true false [.i] (.t (.l (.l (.r (.l .z))))) (.c (.int .i64 0)), none, none, []⟩])
  (.cond (.t (.r (.l (.r (.l .z)))))
  (.seq (.region false 0 [
     ⟨(some (.l (.r (.r (.l .z))))), .build [(.int .u64 0), (.int .u64 0), .nilslice] [], none, none, []⟩,
     ⟨(some (.r (.r (.r (.l .z))))), .mv (.t (.r (.r .z))), none, none, []⟩,
     ⟨none, .store 3 (.t (.r (.l .z))) (.t (.l (.r (.r (.l .z))))), none, none, []⟩,
     ⟨(some (.l (.r .z))), .mv (.t (.r (.r (.r (.l .z))))), none, none, []⟩])
   .ret)
  .skip)))
  (.seq (.region false 0 [
    ⟨(some (.r (.l (.l (.r .z))))), .mv (.t (.l .z)), none, none, []⟩,
    ⟨(some (.l (.r (.l (.r .z))))), .call 75 [(.t (.r (.l (.l (.r .z)))))], none, none, []⟩,
    ⟨(some (.l (.l (.l (.r .z))))), .mv (.t (.l (.r (.l (.r .z))))), none, none, []⟩,
    ⟨(some (.r (.r (.l (.r .z))))), .ext (.t (.l (.l (.l (.r .z))))) 0, none, none, []⟩,
    ⟨(some (.l (.l (.r (.r .z))))), .ext (.t (.l (.l (.l (.r .z))))) 1, none, none, []⟩,
    ⟨(some (.l (.l (.l .z)))), .alloc 3 [[(.int .u64 0), (.int .u64 0), .nilslice]], none, none, []⟩,
    ⟨none, .store 3 (.t (.l (.l (.l .z)))) (.t (.r (.r (.l (.r .z))))), none, none, []⟩,
    ⟨(some (.r (.l (.l .z)))), .mv (.t (.l (.l (.r (.r .z))))), none, none, []⟩])
  (.seq (.seq (.region false 0 [
    ⟨(some (.r (.l (.r (.r .z))))), .mv (.t (.r (.l (.l .z)))), none, none, []⟩,
    ⟨(some (.l (.r (.r (.r .z))))), .eql true false [.i] (.t (.r (.l (.r (.r .z))))) (.c (.int .i64 0)), none, none, []⟩])
  (.cond (.t (.l (.r (.r (.r .z)))))
  (.seq (.region false 0 [
     ⟨(some (.r (.r (.r (.r .z))))), .build [(.int .u64 0), (.int .u64 0), .nilslice] [], none, none, []⟩,
     ⟨(some (.l (.l (.l (.l (.l .z)))))), .mv (.t (.r (.l (.l .z)))), none, none, []⟩,
     ⟨none, .store 3 (.t (.r (.l .z))) (.t (.r (.r (.r (.r .z))))), none, none, []⟩,
     ⟨(some (.l (.r .z))), .mv (.t (.l (.l (.l (.l (.l .z)))))), none, none, []⟩])
   .ret)
  .skip))
  (.seq (.seq (.region false 0 [
    ⟨(some (.r (.l (.l (.l (.l .z)))))), .fieldA 5 (.t (.r .z)), none, none, []⟩,
    ⟨(some (.l (.r (.l (.l (.l .z)))))), .load false 1 (.t (.r (.l (.l (.l (.l .z)))))), none, none, []⟩,
    ⟨(some (.r (.r (.l (.l (.l .z)))))), .len .slice (.t (.l (.r (.l (.l (.l .z)))))), none, none, []⟩,
    ⟨(some (.l (.l (.r (.l (.l .z)))))), .mv (.c (.int .i64 0)), none, none, []⟩])
  (.block 0 (.loop (.seq (.region false 0 [
      ⟨(some (.r (.l (.r (.l (.l .z)))))), .bin .lss (.t (.l (.l (.r (.l (.l .z)))))) (.t (.r (.r (.l (.l (.l .z)))))), none, none, []⟩])
    (.seq (.cond (.t (.r (.l (.r (.l (.l .z))))))
    .skip
    (.exit 0))
    (.seq (.block 1 (.seq (.region false 0 [
       ⟨(some (.l (.r (.r (.l (.l .z)))))), .idxS 9 (.t (.l (.r (.l (.l (.l .z)))))) (.t (.l (.l (.r (.l (.l .z)))))), none, none, []⟩,
       ⟨(some (.r (.r (.r (.l (.l .z)))))), .load true 9 (.t (.l (.r (.r (.l (.l .z)))))), none, none, []⟩,
       ⟨(some (.r (.r (.l .z)))), .alloc 9 [[(.int .i64 0), (.int .u64 0), (.int .i64 0), (.int .i64 0), (.int .i64 0), (.int .i64 0), (.int .i64 0), (.int .i64 0), (.str [])]], none, none, []⟩,
       ⟨none, .store 9 (.t (.r (.r (.l .z)))) (.t (.r (.r (.r (.l (.l .z)))))), none, none, []⟩])
     (.seq (.region false 0 [
       ⟨(some (.r (.l (.l (.r (.l .z)))))), .load true 9 (.t (.r (.r (.l .z)))), none, none, []⟩,
       ⟨(some (.l (.r (.l (.r (.l .z)))))), .call 76 [(.t (.r (.l (.l (.r (.l .z))))))], none, none, []⟩,
       ⟨(some (.l (.l (.l (.r (.l .z)))))), .mv (.t (.l (.r (.l (.r (.l .z)))))), none, none, []⟩,
       ⟨(some (.r (.r (.l (.r (.l .z)))))), .ext (.t (.l (.l (.l (.r (.l .z)))))) 0, none, none, []⟩,
       ⟨(some (.l (.l (.r (.r (.l .z)))))), .ext (.t (.l (.l (.l (.r (.l .z)))))) 1, none, none, []⟩,
       ⟨(some (.l (.l (.r .z)))), .mv (.t (.r (.r (.l (.r (.l .z)))))), none, none, []⟩,
       ⟨(some (.r (.l (.r .z)))), .mv (.t (.l (.l (.r (.r (.l .z)))))), none, none, []⟩])
     (.seq (.region false 0 [
       ⟨(some (.l (.r (.r (.r (.l .z)))))), .load true 3 (.t (.l (.l (.l .z)))), none, none, []⟩,
       ⟨(some (.r (.r (.r (.r (.l .z)))))), .mv (.t (.l (.l (.r .z)))), none, none, []⟩,
       ⟨(some (.l (.l (.l (.l (.r .z)))))), .conv (.toInt .u64) (.t (.r (.r (.r (.r (.l .z)))))), none, none, []⟩,
       ⟨(some (.r (.l (.l (.l (.r .z)))))), .call 77 [(.t (.l (.r (.r (.r (.l .z)))))), (.t (.l (.l (.l (.l (.r .z))))))], none, none, []⟩,
       ⟨(some (.r (.l (.r (.r (.l .z)))))), .mv (.t (.r (.l (.l (.l (.r .z)))))), none, none, []⟩,
       ⟨(some (.l (.r (.l (.l (.r .z)))))), .ext (.t (.r (.l (.r (.r (.l .z)))))) 0, none, none, []⟩,
       ⟨(some (.r (.r (.l (.l (.r .z)))))), .ext (.t (.r (.l (.r (.r (.l .z)))))) 1, none, none, []⟩,
       ⟨none, .store 3 (.t (.l (.l (.l .z)))) (.t (.l (.r (.l (.l (.r .z)))))), none, none, []⟩,
       ⟨(some (.r (.l (.l .z)))), .mv (.t (.r (.r (.l (.l (.r .z)))))), none, none, []⟩])
     (.seq (.region false 0 [
       ⟨(some (.l (.l (.r (.l (.r .z)))))), .mv (.t (.r (.l (.l .z)))), none, none, []⟩,
       ⟨(some (.r (.l (.r (.l (.r .z)))))), .eql true false [.i] (.t (.l (.l (.r (.l (.r .z)))))) (.c (.int .i64 0)), none, none, []⟩])
     (.cond (.t (.r (.l (.r (.l (.r .z))))))
     (.seq (.region false 0 [
        ⟨(some (.l (.r (.r (.l (.r .z)))))), .build [(.int .u64 0), (.int .u64 0), .nilslice] [], none, none, []⟩,
        ⟨none, .store 3 (.t (.r (.l .z))) (.t (.l (.r (.r (.l (.r .z)))))), none, none, []⟩,
        ⟨(some (.l (.r .z))), .mv (.c (.int .i64 5)), none, none, []⟩])
      .ret)
     .skip))))))
    (.region false 0 [
      ⟨(some (.r (.r (.r (.l (.r .z)))))), .bin .add (.t (.l (.l (.r (.l (.l .z)))))) (.c (.int .i64 1)), none, none, []⟩,
      ⟨(some (.l (.l (.r (.l (.l .z)))))), .mv (.t (.r (.r (.r (.l (.r .z)))))), none, none, []⟩])))))))
  (.seq (.seq (.region false 0 [
    ⟨(some (.l (.l (.l (.r (.r .z)))))), .fieldA 7 (.t (.r .z)), none, none, []⟩,
    ⟨(some (.r (.l (.l (.r (.r .z)))))), .load false 1 (.t (.l (.l (.l (.r (.r .z)))))), none, none, []⟩,
    ⟨(some (.l (.r (.l (.r (.r .z)))))), .len .slice (.t (.r (.l (.l (.r (.r .z)))))), none, none, []⟩,
    ⟨(some (.r (.r (.l (.r (.r .z)))))), .mv (.c (.int .i64 0)), none, none, []⟩])
  (.block 2 (.loop (.seq (.region false 0 [
      ⟨(some (.l (.l (.r (.r (.r .z)))))), .bin .lss (.t (.r (.r (.l (.r (.r .z)))))) (.t (.l (.r (.l (.r (.r .z)))))), none, none, []⟩])
    (.seq (.cond (.t (.l (.l (.r (.r (.r .z))))))
    .skip
    (.exit 2))
    (.seq (.block 3 (.seq (.region false 0 [
       ⟨(some (.r (.l (.r (.r (.r .z)))))), .idxS 13 (.t (.r (.l (.l (.r (.r .z)))))) (.t (.r (.r (.l (.r (.r .z)))))), none, none, []⟩,
       ⟨(some (.l (.r (.r (.r (.r .z)))))), .load true 13 (.t (.r (.l (.r (.r (.r .z)))))), none, none, []⟩,
       ⟨(some (.r (.r (.r .z)))), .alloc 13 [[(.int .i64 0), (.int .u64 0), (.bool false), (.int .u64 0), (.int .u64 0), (.int .u64 0), (.int .u64 0), .nilslice, (.int .u64 0), (.int .u64 0), (.int .u64 0), .nilslice, .nilslice]], none, none, []⟩,
       ⟨none, .store 13 (.t (.r (.r (.r .z)))) (.t (.l (.r (.r (.r (.r .z)))))), none, none, []⟩])
     (.seq (.region false 0 [
       ⟨(some (.l (.l (.l (.l (.l (.l .z))))))), .load true 13 (.t (.r (.r (.r .z)))), none, none, []⟩,
       ⟨(some (.r (.l (.l (.l (.l (.l .z))))))), .call 78 [(.t (.l (.l (.l (.l (.l (.l .z)))))))], none, none, []⟩,
       ⟨(some (.r (.r (.r (.r (.r .z)))))), .mv (.t (.r (.l (.l (.l (.l (.l .z))))))), none, none, []⟩,
       ⟨(some (.l (.r (.l (.l (.l (.l .z))))))), .ext (.t (.r (.r (.r (.r (.r .z)))))) 0, none, none, []⟩,
       ⟨(some (.r (.r (.l (.l (.l (.l .z))))))), .ext (.t (.r (.r (.r (.r (.r .z)))))) 1, none, none, []⟩,
       ⟨(some (.l (.l (.l (.l .z))))), .mv (.t (.l (.r (.l (.l (.l (.l .z))))))), none, none, []⟩,
       ⟨(some (.r (.l (.l (.l .z))))), .mv (.t (.r (.r (.l (.l (.l (.l .z))))))), none, none, []⟩])
     (.seq (.region false 0 [
       ⟨(some (.r (.l (.r (.l (.l (.l .z))))))), .load true 3 (.t (.l (.l (.l .z)))), none, none, []⟩,
       ⟨(some (.l (.r (.r (.l (.l (.l .z))))))), .fieldA 0 (.t (.r (.r (.r .z)))), none, none, []⟩,
       ⟨(some (.r (.r (.r (.l (.l (.l .z))))))), .load false 1 (.t (.l (.r (.r (.l (.l (.l .z))))))), none, none, []⟩,
       ⟨(some (.l (.l (.l (.r (.l (.l .z))))))), .mv (.t (.l (.l (.l (.l .z))))), none, none, []⟩,
       ⟨(some (.r (.l (.l (.r (.l (.l .z))))))), .call 79 [(.t (.r (.l (.r (.l (.l (.l .z))))))), (.t (.r (.r (.r (.l (.l (.l .z))))))), (.t (.l (.l (.l (.r (.l (.l .z)))))))], none, none, []⟩,
       ⟨(some (.l (.l (.r (.l (.l (.l .z))))))), .mv (.t (.r (.l (.l (.r (.l (.l .z))))))), none, none, []⟩,
       ⟨(some (.l (.r (.l (.r (.l (.l .z))))))), .ext (.t (.l (.l (.r (.l (.l (.l .z))))))) 0, none, none, []⟩,
       ⟨(some (.r (.r (.l (.r (.l (.l .z))))))), .ext (.t (.l (.l (.r (.l (.l (.l .z))))))) 1, none, none, []⟩,
       ⟨none, .store 3 (.t (.l (.l (.l .z)))) (.t (.l (.r (.l (.r (.l (.l .z))))))), none, none, []⟩,
       ⟨(some (.r (.l (.l .z)))), .mv (.t (.r (.r (.l (.r (.l (.l .z))))))), none, none, []⟩])
     (.seq (.region false 0 [
       ⟨(some (.l (.l (.r (.r (.l (.l .z))))))), .mv (.t (.r (.l (.l .z)))), none, none, []⟩,
       ⟨(some (.r (.l (.r (.r (.l (.l .z))))))), .eql true false [.i] (.t (.l (.l (.r (.r (.l (.l .z))))))) (.c (.int .i64 0)), none, none, []⟩])
     (.cond (.t (.r (.l (.r (.r (.l (.l .z)))))))
     (.seq (.region false 0 [
        ⟨(some (.l (.r (.r (.r (.l (.l .z))))))), .build [(.int .u64 0), (.int .u64 0), .nilslice] [], none, none, []⟩,
        ⟨none, .store 3 (.t (.r (.l .z))) (.t (.l (.r (.r (.r (.l (.l .z))))))), none, none, []⟩,
        ⟨(some (.l (.r .z))), .mv (.c (.int .i64 5)), none, none, []⟩])
      .ret)
     .skip))))))
    (.region false 0 [
      ⟨(some (.r (.r (.r (.r (.l (.l .z))))))), .bin .add (.t (.r (.r (.l (.r (.r .z)))))) (.c (.int .i64 1)), none, none, []⟩,
      ⟨(some (.r (.r (.l (.r (.r .z)))))), .mv (.t (.r (.r (.r (.r (.l (.l .z))))))), none, none, []⟩])))))))
  (.seq (.region false 0 [
    ⟨(some (.l (.l (.l (.l (.r (.l .z))))))), .load true 3 (.t (.l (.l (.l .z)))), none, none, []⟩,
    ⟨none, .store 3 (.t (.r (.l .z))) (.t (.l (.l (.l (.l (.r (.l .z))))))), none, none, []⟩,
    ⟨(some (.l (.r .z))), .mv (.c (.int .i64 0)), none, none, []⟩])
  .ret)))))))⟩
def AF46 : AFunc := ⟨97, [.tmp (.r (.l (.l .z))), .tmp (.l (.r (.l .z)))],
  (.seq (.region false 0 [
    ⟨(some (.r (.l .z))), .box 13 13 (.t .z), none, none, []⟩,
    ⟨(some (.r (.r .z))), .box 13 13 (.t (.r .z)), none, none, []⟩,
    ⟨(some (.r (.l (.l .z)))), .mv (.c (.bool false)), none, none, []⟩,
    ⟨(some (.l (.r (.l .z)))), .mv (.c (.int .i64 0)), none, none, []⟩])
  (.seq (.region false 0 [
    ⟨(some (.l (.r (.l (.l .z))))), .load true 13 (.t (.r (.l .z))), none, none, []⟩,
    ⟨(some (.r (.r (.l (.l .z))))), .call 80 [(.t (.l (.r (.l (.l .z)))))], none, none, []⟩,
    ⟨(some (.r (.r (.l .z)))), .mv (.t (.r (.r (.l (.l .z))))), none, none, []⟩])
  (.seq (.seq (.region false 0 [
    ⟨(some (.l (.l (.r (.l .z))))), .mv (.t (.r (.r (.l .z)))), none, none, []⟩,
    ⟨(some (.r (.l (.r (.l .z))))), .eql false false [.i] (.t (.l (.l (.r (.l .z))))) (.c (.int .i64 0)), none, none, []⟩])
  (.cond (.t (.r (.l (.r (.l .z)))))
  (.region false 0 [
     ⟨(some (.l (.r (.r (.l .z))))), .load true 13 (.t (.r (.r .z))), none, none, []⟩,
     ⟨(some (.r (.r (.r (.l .z))))), .call 80 [(.t (.l (.r (.r (.l .z)))))], none, none, []⟩,
     ⟨(some (.r (.r (.l .z)))), .mv (.t (.r (.r (.r (.l .z))))), none, none, []⟩])
  .skip))
  (.seq (.seq (.region false 0 [
    ⟨(some (.l (.l (.l (.r .z))))), .mv (.t (.r (.r (.l .z)))), none, none, []⟩,
    ⟨(some (.r (.l (.l (.r .z))))), .eql false false [.i] (.t (.l (.l (.l (.r .z))))) (.c (.int .i64 0)), none, none, []⟩,
    ⟨(some (.l (.r (.l (.r .z))))), .mv (.t (.r (.l (.l (.r .z))))), none, none, []⟩,
    ⟨(some (.r (.r (.l (.r .z))))), .mv (.t (.l .z)), (some ((.l (.r (.l (.r .z)))), true)), none, []⟩,
    ⟨(some (.l (.l (.r (.r .z))))), .bin .lss (.t (.r (.r (.l (.r .z))))) (.c (.int .u64 1)), (some ((.l (.r (.l (.r .z)))), true)), none, []⟩,
    ⟨(some (.r (.l (.r (.r .z))))), .mv (.t (.l (.l (.r (.r .z))))), (some ((.l (.r (.l (.r .z)))), true)), none, []⟩,
    ⟨(some (.l (.r (.r (.r .z))))), .mv (.t (.l .z)), (some ((.r (.l (.r (.r .z)))), false)), none, []⟩,
    ⟨(some (.r (.r (.r (.r .z))))), .bin .gtr (.t (.l (.r (.r (.r .z))))) (.c (.int .u64 1099511627776)), (some ((.r (.l (.r (.r .z)))), false)), none, []⟩,
    ⟨(some (.l (.l (.l (.l (.l .z)))))), .pick (.t (.r (.l (.r (.r .z))))) (.c (.bool true)) (.t (.r (.r (.r (.r .z))))), (some ((.l (.r (.l (.r .z)))), true)), none, []⟩,
    ⟨(some (.r (.l (.l (.l (.l .z)))))), .mv (.t (.l (.l (.l (.l (.l .z)))))), (some ((.l (.r (.l (.r .z)))), true)), none, []⟩,
    ⟨(some (.l (.r (.l (.l (.l .z)))))), .mv (.t (.l (.l .z))), (some ((.r (.l (.l (.l (.l .z))))), false)), none, []⟩,
    ⟨(some (.r (.r (.l (.l (.l .z)))))), .bin .lss (.t (.l (.r (.l (.l (.l .z)))))) (.c (.int .u64 1)), (some ((.r (.l (.l (.l (.l .z))))), false)), none, []⟩,
    ⟨(some (.l (.l (.r (.l (.l .z)))))), .pick (.t (.r (.l (.l (.l (.l .z)))))) (.c (.bool true)) (.t (.r (.r (.l (.l (.l .z)))))), (some ((.l (.r (.l (.r .z)))), true)), none, []⟩,
    ⟨(some (.r (.l (.r (.l (.l .z)))))), .mv (.t (.l (.l (.r (.l (.l .z)))))), (some ((.l (.r (.l (.r .z)))), true)), none, []⟩,
    ⟨(some (.l (.r (.r (.l (.l .z)))))), .mv (.t (.l (.l .z))), (some ((.r (.l (.r (.l (.l .z))))), false)), none, []⟩,
    ⟨(some (.r (.r (.r (.l (.l .z)))))), .bin .gtr (.t (.l (.r (.r (.l (.l .z)))))) (.c (.int .u64 1099511627776)), (some ((.r (.l (.r (.l (.l .z))))), false)), none, []⟩,
    ⟨(some (.l (.l (.l (.r (.l .z)))))), .pick (.t (.r (.l (.r (.l (.l .z)))))) (.c (.bool true)) (.t (.r (.r (.r (.l (.l .z)))))), (some ((.l (.r (.l (.r .z)))), true)), none, []⟩,
    ⟨(some (.r (.l (.l (.r (.l .z)))))), .pick (.t (.l (.r (.l (.r .z))))) (.t (.l (.l (.l (.r (.l .z)))))) (.c (.bool false)), none, none, []⟩])
  (.cond (.t (.r (.l (.l (.r (.l .z))))))
  (.region false 0 [
     ⟨(some (.r (.r (.l .z)))), .mv (.c (.int .i64 2)), none, none, []⟩])
  .skip))
  (.seq (.seq (.region false 0 [
    ⟨(some (.l (.r (.l (.r (.l .z)))))), .mv (.t (.r (.r (.l .z)))), none, none, []⟩,
    ⟨(some (.r (.r (.l (.r (.l .z)))))), .eql true false [.i] (.t (.l (.r (.l (.r (.l .z)))))) (.c (.int .i64 0)), none, none, []⟩])
  (.cond (.t (.r (.r (.l (.r (.l .z))))))
  (.seq (.region false 0 [
     ⟨(some (.l (.l (.r (.r (.l .z)))))), .mv (.t (.r (.r (.l .z)))), none, none, []⟩,
     ⟨(some (.r (.l (.l .z)))), .mv (.c (.bool false)), none, none, []⟩,
     ⟨(some (.l (.r (.l .z)))), .mv (.t (.l (.l (.r (.r (.l .z)))))), none, none, []⟩])
   .ret)
  .skip))
  (.seq (.region false 0 [
    ⟨(some (.r (.l (.r (.r (.l .z)))))), .fieldA 1 (.t (.r (.l .z))), none, none, []⟩,
    ⟨(some (.l (.r (.r (.r (.l .z)))))), .load false 1 (.t (.r (.l (.r (.r (.l .z)))))), none, none, []⟩,
    ⟨(some (.r (.r (.r (.r (.l .z)))))), .mv (.t (.l (.l .z))), none, none, []⟩,
    ⟨(some (.l (.l (.l (.l (.r .z)))))), .bin .lss (.t (.l (.r (.r (.r (.l .z)))))) (.t (.r (.r (.r (.r (.l .z)))))), none, none, []⟩,
    ⟨(some (.r (.l (.l (.l (.r .z)))))), .mv (.t (.l (.l (.l (.l (.r .z)))))), none, none, []⟩,
    ⟨(some (.l (.r (.l (.l (.r .z)))))), .fieldA 2 (.t (.r (.r .z))), (some ((.r (.l (.l (.l (.r .z))))), true)), none, []⟩,
    ⟨(some (.r (.r (.l (.l (.r .z)))))), .load false 1 (.t (.l (.r (.l (.l (.r .z)))))), (some ((.r (.l (.l (.l (.r .z))))), true)), none, []⟩,
    ⟨(some (.l (.l (.r (.l (.r .z)))))), .un .not (.t (.r (.r (.l (.l (.r .z)))))), (some ((.r (.l (.l (.l (.r .z))))), true)), none, []⟩,
    ⟨(some (.r (.l (.r (.l (.r .z)))))), .pick (.t (.r (.l (.l (.l (.r .z)))))) (.t (.l (.l (.r (.l (.r .z)))))) (.c (.bool false)), none, none, []⟩,
    ⟨(some (.l (.l (.r .z)))), .mv (.t (.r (.l (.r (.l (.r .z)))))), none, none, []⟩])
  (.seq (.seq (.region false 0 [
    ⟨(some (.l (.r (.r (.l (.r .z)))))), .fieldA 1 (.t (.r (.r .z))), none, none, []⟩,
    ⟨(some (.r (.r (.r (.l (.r .z)))))), .load false 1 (.t (.l (.r (.r (.l (.r .z)))))), none, none, []⟩,
    ⟨(some (.l (.l (.l (.r (.r .z)))))), .mv (.t (.l .z)), none, none, []⟩,
    ⟨(some (.r (.l (.l (.r (.r .z)))))), .eql true false [.i] (.t (.r (.r (.r (.l (.r .z)))))) (.t (.l (.l (.l (.r (.r .z)))))), none, none, []⟩,
    ⟨(some (.l (.r (.l (.r (.r .z)))))), .mv (.t (.r (.l (.l (.r (.r .z)))))), none, none, []⟩,
    ⟨(some (.r (.r (.l (.r (.r .z)))))), .fieldA 1 (.t (.r (.l .z))), (some ((.l (.r (.l (.r (.r .z))))), false)), none, []⟩,
    ⟨(some (.l (.l (.r (.r (.r .z)))))), .load false 1 (.t (.r (.r (.l (.r (.r .z)))))), (some ((.l (.r (.l (.r (.r .z))))), false)), none, []⟩,
    ⟨(some (.r (.l (.r (.r (.r .z)))))), .mv (.t (.l (.l .z))), (some ((.l (.r (.l (.r (.r .z))))), false)), none, []⟩,
    ⟨(some (.l (.r (.r (.r (.r .z)))))), .eql true false [.i] (.t (.l (.l (.r (.r (.r .z)))))) (.t (.r (.l (.r (.r (.r .z)))))), (some ((.l (.r (.l (.r (.r .z))))), false)), none, []⟩,
    ⟨(some (.r (.r (.r (.r (.r .z)))))), .mv (.t (.l (.r (.r (.r (.r .z)))))), (some ((.l (.r (.l (.r (.r .z))))), false)), none, []⟩,
    ⟨(some (.l (.l (.l (.l (.l (.l .z))))))), .mv (.t (.l (.l (.r .z)))), (some ((.r (.r (.r (.r (.r .z))))), true)), none, []⟩,
    ⟨(some (.r (.l (.l (.l (.l (.l .z))))))), .un .not (.t (.l (.l (.l (.l (.l (.l .z))))))), (some ((.r (.r (.r (.r (.r .z))))), true)), none, []⟩,
    ⟨(some (.l (.r (.l (.l (.l (.l .z))))))), .pick (.t (.r (.r (.r (.r (.r .z)))))) (.t (.r (.l (.l (.l (.l (.l .z))))))) (.c (.bool false)), (some ((.l (.r (.l (.r (.r .z))))), false)), none, []⟩,
    ⟨(some (.r (.r (.l (.l (.l (.l .z))))))), .pick (.t (.l (.r (.l (.r (.r .z)))))) (.c (.bool true)) (.t (.l (.r (.l (.l (.l (.l .z))))))), none, none, []⟩])
  (.cond (.t (.r (.r (.l (.l (.l (.l .z)))))))
  (.seq (.region false 0 [
     ⟨(some (.r (.l (.l .z)))), .mv (.c (.bool true)), none, none, []⟩,
     ⟨(some (.l (.r (.l .z)))), .mv (.c (.int .i64 0)), none, none, []⟩])
   .ret)
  .skip))
  (.seq (.region false 0 [
    ⟨(some (.r (.l (.r (.l (.l (.l .z))))))), .fieldA 4 (.t (.r (.l .z))), none, none, []⟩,
    ⟨(some (.l (.r (.r (.l (.l (.l .z))))))), .load true 4 (.t (.r (.l (.r (.l (.l (.l .z))))))), none, none, []⟩,
    ⟨(some (.r (.r (.r (.l (.l (.l .z))))))), .call 81 [(.t (.l (.r (.r (.l (.l (.l .z)))))))], none, none, []⟩,
    ⟨(some (.l (.l (.r (.l (.l (.l .z))))))), .mv (.t (.r (.r (.r (.l (.l (.l .z))))))), none, none, []⟩,
    ⟨(some (.l (.l (.l (.r (.l (.l .z))))))), .ext (.t (.l (.l (.r (.l (.l (.l .z))))))) 0, none, none, []⟩,
    ⟨(some (.r (.l (.l (.r (.l (.l .z))))))), .ext (.t (.l (.l (.r (.l (.l (.l .z))))))) 1, none, none, []⟩,
    ⟨(some (.r (.l (.r .z)))), .alloc 1 [[(.int .u64 0)]], none, none, []⟩,
    ⟨none, .store 1 (.t (.r (.l (.r .z)))) (.t (.l (.l (.l (.r (.l (.l .z))))))), none, none, []⟩,
    ⟨(some (.l (.r (.r .z)))), .mv (.t (.r (.l (.l (.r (.l (.l .z))))))), none, none, []⟩])
  (.seq (.seq (.region false 0 [
    ⟨(some (.l (.r (.l (.r (.l (.l .z))))))), .load true 13 (.t (.r (.l .z))), none, none, []⟩,
    ⟨(some (.r (.r (.l (.r (.l (.l .z))))))), .load true 13 (.t (.r (.r .z))), none, none, []⟩,
    ⟨(some (.l (.l (.r (.r (.l (.l .z))))))), .fieldA 1 (.t (.r (.l .z))), none, none, []⟩,
    ⟨(some (.r (.l (.r (.r (.l (.l .z))))))), .load false 1 (.t (.l (.l (.r (.r (.l (.l .z))))))), none, none, []⟩,
    ⟨(some (.l (.r (.r (.r (.l (.l .z))))))), .mv (.t (.l (.l .z))), none, none, []⟩,
    ⟨(some (.r (.r (.r (.r (.l (.l .z))))))), .bin .lss (.t (.r (.l (.r (.r (.l (.l .z))))))) (.t (.l (.r (.r (.r (.l (.l .z))))))), none, none, []⟩,
    ⟨(some (.l (.l (.l (.l (.r (.l .z))))))), .call 82 [(.t (.l (.r (.l (.r (.l (.l .z))))))), (.t (.r (.r (.l (.r (.l (.l .z))))))), (.t (.r (.r (.r (.r (.l (.l .z)))))))], none, none, []⟩])
  (.block 0 (.rangeFunc (.t (.l (.l (.l (.l (.r (.l .z))))))) [(.r (.l (.l (.l (.r (.l .z))))))]
   (.region false 0 [
      ⟨(some (.r (.r (.r .z)))), .alloc 5 [[(.int .u64 0), (.int .u64 0), (.int .i64 0), (.int .u64 0), (.int .i64 0)]], none, none, []⟩,
      ⟨none, .store 5 (.t (.r (.r (.r .z)))) (.t (.r (.l (.l (.l (.r (.l .z))))))), none, none, []⟩])
   (.block 1 (.region false 0 [
       ⟨(some (.l (.r (.l (.l (.r (.l .z))))))), .load false 1 (.t (.r (.l (.r .z)))), none, none, []⟩,
       ⟨(some (.r (.r (.l (.l (.r (.l .z))))))), .fieldA 1 (.t (.r (.r (.r .z)))), none, none, []⟩,
       ⟨(some (.l (.l (.r (.l (.r (.l .z))))))), .load false 1 (.t (.r (.r (.l (.l (.r (.l .z))))))), none, none, []⟩,
       ⟨(some (.r (.l (.r (.l (.r (.l .z))))))), .bin .add (.t (.l (.r (.l (.l (.r (.l .z))))))) (.t (.l (.l (.r (.l (.r (.l .z))))))), none, none, []⟩,
       ⟨none, .store 1 (.t (.r (.l (.r .z)))) (.t (.r (.l (.r (.l (.r (.l .z))))))), none, none, []⟩])))))
  (.seq (.region false 0 [
    ⟨(some (.r (.r (.r (.l (.r (.l .z))))))), .load true 13 (.t (.r (.r .z))), none, none, []⟩,
    ⟨(some (.l (.l (.l (.r (.r (.l .z))))))), .call 83 [(.t (.r (.r (.r (.l (.r (.l .z)))))))], none, none, []⟩,
    ⟨(some (.l (.r (.r (.l (.r (.l .z))))))), .mv (.t (.l (.l (.l (.r (.r (.l .z))))))), none, none, []⟩,
    ⟨(some (.r (.l (.l (.r (.r (.l .z))))))), .ext (.t (.l (.r (.r (.l (.r (.l .z))))))) 0, none, none, []⟩,
    ⟨(some (.l (.r (.l (.r (.r (.l .z))))))), .ext (.t (.l (.r (.r (.l (.r (.l .z))))))) 1, none, none, []⟩,
    ⟨(some (.l (.l (.l (.l .z))))), .mv (.t (.r (.l (.l (.r (.r (.l .z))))))), none, none, []⟩,
    ⟨(some (.r (.l (.l (.l .z))))), .mv (.t (.l (.r (.l (.r (.r (.l .z))))))), none, none, []⟩])
  (.seq (.region false 0 [
    ⟨(some (.r (.r (.l (.r (.r (.l .z))))))), .mv (.t (.r (.l (.l (.l .z))))), none, none, []⟩,
    ⟨(some (.l (.l (.r (.r (.r (.l .z))))))), .un .not (.t (.r (.r (.l (.r (.r (.l .z))))))), none, none, []⟩,
    ⟨(some (.r (.l (.r (.r (.r (.l .z))))))), .mv (.t (.l (.l (.r (.r (.r (.l .z))))))), none, none, []⟩,
    ⟨(some (.l (.r (.r (.r (.r (.l .z))))))), .load false 1 (.t (.r (.l (.r .z)))), (some ((.r (.l (.r (.r (.r (.l .z)))))), false)), none, []⟩,
    ⟨(some (.r (.r (.r (.r (.r (.l .z))))))), .mv (.t (.l (.l (.l (.l .z))))), (some ((.r (.l (.r (.r (.r (.l .z)))))), false)), none, []⟩,
    ⟨(some (.l (.l (.l (.l (.l (.r .z))))))), .bin .leq (.t (.l (.r (.r (.r (.r (.l .z))))))) (.t (.r (.r (.r (.r (.r (.l .z))))))), (some ((.r (.l (.r (.r (.r (.l .z)))))), false)), none, []⟩,
    ⟨(some (.r (.l (.l (.l (.l (.r .z))))))), .pick (.t (.r (.l (.r (.r (.r (.l .z))))))) (.c (.bool true)) (.t (.l (.l (.l (.l (.l (.r .z))))))), none, none, []⟩,
    ⟨(some (.r (.l (.l .z)))), .mv (.t (.r (.l (.l (.l (.l (.r .z))))))), none, none, []⟩,
    ⟨(some (.l (.r (.l .z)))), .mv (.c (.int .i64 0)), none, none, []⟩])
  .ret)))))))))))⟩
def AF47 : AFunc := ⟨42, [.cell (.r (.r .z)) true 13],
  (.seq (.region false 0 [
    ⟨(some (.l (.l .z))), .box 4 4 (.t .z), none, none, []⟩,
    ⟨(some (.r (.r .z))), .alloc 13 [[(.int .i64 0), (.int .u64 0), (.bool false), (.int .u64 0), (.int .u64 0), (.int .u64 0), (.int .u64 0), .nilslice, (.int .u64 0), (.int .u64 0), (.int .u64 0), .nilslice, .nilslice]], none, none, []⟩])
  (.seq (.region false 0 [
    ⟨(some (.l (.l (.r .z)))), .fieldA 3 (.t (.l (.l .z))), none, none, []⟩,
    ⟨(some (.r (.l (.r .z)))), .load false 1 (.t (.l (.l (.r .z)))), none, none, []⟩,
    ⟨(some (.l (.r (.r .z)))), .mv (.t (.l .z)), none, none, []⟩,
    ⟨(some (.r (.r (.r .z)))), .look false [.i] .nilptr false (.t (.r (.l (.r .z)))) (.t (.l (.r (.r .z)))), none, none, []⟩,
    ⟨(some (.l (.l (.l .z)))), .mv (.t (.r (.r (.r .z)))), none, none, []⟩])
  (.seq (.region false 0 [
    ⟨(some (.l (.l (.l (.l .z))))), .mv (.t (.l (.l (.l .z)))), none, none, []⟩,
    ⟨(some (.r (.l (.l (.l .z))))), .nilc (.t (.l (.l (.l (.l .z))))), none, none, []⟩,
    ⟨(some (.l (.r (.l (.l .z))))), .fieldA 17 (.t (.r (.l (.l (.l .z))))), none, none, []⟩,
    ⟨(some (.r (.r (.l (.l .z))))), .fieldA 7 (.t (.l (.r (.l (.l .z))))), none, none, []⟩,
    ⟨(some (.l (.l (.r (.l .z))))), .load false 1 (.t (.r (.r (.l (.l .z))))), none, none, []⟩,
    ⟨(some (.r (.l (.l .z)))), .mv (.t (.l (.l (.r (.l .z))))), none, none, []⟩])
  (.seq (.seq (.region false 0 [
    ⟨(some (.r (.l (.r (.l .z))))), .mv (.t (.l (.l (.l .z)))), none, none, []⟩,
    ⟨(some (.l (.r (.r (.l .z))))), .nilc (.t (.r (.l (.r (.l .z))))), none, none, []⟩,
    ⟨(some (.r (.r (.r (.l .z))))), .fieldA 16 (.t (.l (.r (.r (.l .z))))), none, none, []⟩,
    ⟨(some (.l (.l (.l (.r .z))))), .load false 1 (.t (.r (.r (.r (.l .z))))), none, none, []⟩])
  (.cond (.t (.l (.l (.l (.r .z)))))
  (.region false 0 [
     ⟨(some (.r (.l (.l (.r .z))))), .mv (.t (.l (.l (.l .z)))), none, none, []⟩,
     ⟨(some (.l (.r (.l (.r .z))))), .nilc (.t (.r (.l (.l (.r .z))))), none, none, []⟩,
     ⟨(some (.r (.r (.l (.r .z))))), .fieldA 25 (.t (.l (.r (.l (.r .z))))), none, none, []⟩,
     ⟨(some (.l (.l (.r (.r .z))))), .load false 1 (.t (.r (.r (.l (.r .z))))), none, none, []⟩,
     ⟨(some (.r (.l (.l .z)))), .mv (.t (.l (.l (.r (.r .z))))), none, none, []⟩])
  .skip))
  (.seq (.seq (.region false 0 [
    ⟨(some (.r (.l (.r (.r .z))))), .mv (.t (.r (.l (.l .z)))), none, none, []⟩,
    ⟨(some (.l (.r (.r (.r .z))))), .len .slice (.t (.r (.l (.r (.r .z))))), none, none, []⟩,
    ⟨(some (.r (.r (.r (.r .z))))), .mv (.c (.int .i64 0)), none, none, []⟩])
  (.block 0 (.loop (.seq (.region false 0 [
      ⟨(some (.l (.l (.l (.l (.l .z)))))), .bin .lss (.t (.r (.r (.r (.r .z))))) (.t (.l (.r (.r (.r .z))))), none, none, []⟩])
    (.seq (.cond (.t (.l (.l (.l (.l (.l .z))))))
    .skip
    (.exit 0))
    (.seq (.block 1 (.seq (.region false 0 [
       ⟨(some (.r (.l (.l (.l (.l .z)))))), .idxS 13 (.t (.r (.l (.r (.r .z))))) (.t (.r (.r (.r (.r .z))))), none, none, []⟩,
       ⟨(some (.l (.r (.l (.l (.l .z)))))), .load true 13 (.t (.r (.l (.l (.l (.l .z)))))), none, none, []⟩,
       ⟨(some (.r (.r (.l .z)))), .alloc 13 [[(.int .i64 0), (.int .u64 0), (.bool false), (.int .u64 0), (.int .u64 0), (.int .u64 0), (.int .u64 0), .nilslice, (.int .u64 0), (.int .u64 0), (.int .u64 0), .nilslice, .nilslice]], none, none, []⟩,
       ⟨none, .store 13 (.t (.r (.r (.l .z)))) (.t (.l (.r (.l (.l (.l .z)))))), none, none, []⟩])
     (.seq (.region false 0 [
       ⟨(some (.r (.r (.l (.l (.l .z)))))), .fieldA 0 (.t (.r (.r (.l .z)))), none, none, []⟩,
       ⟨(some (.l (.l (.r (.l (.l .z)))))), .load false 1 (.t (.r (.r (.l (.l (.l .z)))))), none, none, []⟩,
       ⟨(some (.r (.l (.r (.l (.l .z)))))), .mv (.t (.r .z)), none, none, []⟩,
       ⟨(some (.l (.r (.r (.l (.l .z)))))), .eql false false [.i] (.t (.l (.l (.r (.l (.l .z)))))) (.t (.r (.l (.r (.l (.l .z)))))), none, none, []⟩])
     (.cond (.t (.l (.r (.r (.l (.l .z))))))
     (.seq (.region false 0 [
        ⟨(some (.r (.r (.r (.l (.l .z)))))), .load true 13 (.t (.r (.r (.l .z)))), none, none, []⟩,
        ⟨none, .store 13 (.t (.r (.r .z))) (.t (.r (.r (.r (.l (.l .z)))))), none, none, []⟩])
      .ret)
     .skip))))
    (.region false 0 [
      ⟨(some (.l (.l (.l (.r (.l .z)))))), .bin .add (.t (.r (.r (.r (.r .z))))) (.c (.int .i64 1)), none, none, []⟩,
      ⟨(some (.r (.r (.r (.r .z))))), .mv (.t (.l (.l (.l (.r (.l .z)))))), none, none, []⟩])))))))
  (.seq (.region false 0 [
    ⟨(some (.r (.l (.l (.r (.l .z)))))), .mv (.t (.r .z)), none, none, []⟩,
    ⟨(some (.l (.r (.l (.r (.l .z)))))), .build [(.int .i64 0), (.int .u64 0), (.bool false), (.int .u64 0), (.int .u64 0), (.int .u64 0), (.int .u64 0), .nilslice, (.int .u64 0), (.int .u64 0), (.int .u64 0), .nilslice, .nilslice] [(0, 1, (.t (.r (.l (.l (.r (.l .z)))))))], none, none, []⟩,
    ⟨none, .store 13 (.t (.r (.r .z))) (.t (.l (.r (.l (.r (.l .z)))))), none, none, []⟩])
  .ret))))))⟩
def AF48 : AFunc := ⟨5, [.tmp (.r .z)],
  (.seq (.region false 0 [
    ⟨(some (.r .z)), .mv (.c .nilslice), none, none, []⟩])
  (.seq (.region false 0 [
    ⟨(some (.l (.l .z))), .mv (.t .z), none, none, []⟩,
    ⟨(some (.r (.l .z))), .call 84 [(.t (.l (.l .z)))], none, none, []⟩,
    ⟨(some (.r .z)), .mv (.t (.r (.l .z))), none, none, []⟩])
  .ret))⟩
def AF49 : AFunc := ⟨71, [.tmp (.r .z)],
  (.seq (.region false 0 [
    ⟨(some (.l .z)), .box 1 16 (.t .z), none, none, []⟩,
    ⟨(some (.r .z)), .mv (.c (.int .i64 0)), none, none, []⟩])
  (.seq (.region false 0 [
    ⟨(some (.r (.r .z))), .fieldA 0 (.t (.l .z)), none, none, []⟩,
    ⟨(some (.l (.l (.l .z)))), .load false 1 (.t (.r (.r .z))), none, none, []⟩,
    ⟨(some (.r (.l (.l .z)))), .build [(.int .i64 0), (.int .i64 0), (.int .i64 0)] [(0, 1, (.t (.l (.l (.l .z))))), (1, 1, (.c (.int .i64 1))), (2, 1, (.c (.int .i64 16)))], none, none, []⟩,
    ⟨(some (.l (.r (.l .z)))), .fieldA 5 (.t (.l .z)), none, none, []⟩,
    ⟨(some (.r (.r (.l .z)))), .load false 1 (.t (.l (.r (.l .z)))), none, none, []⟩,
    ⟨(some (.l (.l (.r .z)))), .build [(.int .i64 0), (.int .i64 0), (.int .i64 0)] [(0, 1, (.t (.r (.r (.l .z))))), (1, 1, (.c (.int .i64 1))), (2, 1, (.c (.int .i64 1000)))], none, none, []⟩,
    ⟨(some (.r (.l (.r .z)))), .fieldA 6 (.t (.l .z)), none, none, []⟩,
    ⟨(some (.l (.r (.r .z)))), .load false 1 (.t (.r (.l (.r .z)))), none, none, []⟩,
    ⟨(some (.r (.r (.r .z)))), .fieldA 5 (.t (.l .z)), none, none, []⟩,
    ⟨(some (.l (.l (.l (.l .z))))), .load false 1 (.t (.r (.r (.r .z)))), none, none, []⟩,
    ⟨(some (.r (.l (.l (.l .z))))), .build [(.int .i64 0), (.int .i64 0), (.int .i64 0)] [(0, 1, (.t (.l (.r (.r .z))))), (1, 1, (.t (.l (.l (.l (.l .z)))))), (2, 1, (.c (.int .i64 100000)))], none, none, []⟩,
    ⟨(some (.l (.r (.l (.l .z))))), .fieldA 7 (.t (.l .z)), none, none, []⟩,
    ⟨(some (.r (.r (.l (.l .z))))), .load false 1 (.t (.l (.r (.l (.l .z))))), none, none, []⟩,
    ⟨(some (.l (.l (.r (.l .z))))), .build [(.int .i64 0), (.int .i64 0), (.int .i64 0)] [(0, 1, (.t (.r (.r (.l (.l .z)))))), (1, 1, (.c (.int .i64 0))), (2, 1, (.c (.int .i64 100)))], none, none, []⟩,
    ⟨(some (.r (.l (.r (.l .z))))), .fieldA 11 (.t (.l .z)), none, none, []⟩,
    ⟨(some (.l (.r (.r (.l .z))))), .load false 1 (.t (.r (.l (.r (.l .z))))), none, none, []⟩,
    ⟨(some (.r (.r (.r (.l .z))))), .build [(.int .i64 0), (.int .i64 0), (.int .i64 0)] [(0, 1, (.t (.l (.r (.r (.l .z)))))), (1, 1, (.c (.int .i64 0))), (2, 1, (.c (.int .i64 1048576)))], none, none, []⟩,
    ⟨(some (.l (.l (.l (.r .z))))), .fieldA 12 (.t (.l .z)), none, none, []⟩,
    ⟨(some (.r (.l (.l (.r .z))))), .load false 1 (.t (.l (.l (.l (.r .z))))), none, none, []⟩,
    ⟨(some (.l (.r (.l (.r .z))))), .build [(.int .i64 0), (.int .i64 0), (.int .i64 0)] [(0, 1, (.t (.r (.l (.l (.r .z)))))), (1, 1, (.c (.int .i64 1))), (2, 1, (.c (.int .i64 1048576)))], none, none, []⟩,
    ⟨(some (.r (.r (.l (.r .z))))), .fieldA 13 (.t (.l .z)), none, none, []⟩,
    ⟨(some (.l (.l (.r (.r .z))))), .load false 1 (.t (.r (.r (.l (.r .z))))), none, none, []⟩,
    ⟨(some (.r (.l (.r (.r .z))))), .build [(.int .i64 0), (.int .i64 0), (.int .i64 0)] [(0, 1, (.t (.l (.l (.r (.r .z)))))), (1, 1, (.c (.int .i64 1))), (2, 1, (.c (.int .i64 1099511627776)))], none, none, []⟩,
    ⟨(some (.l (.r (.r (.r .z))))), .fieldA 14 (.t (.l .z)), none, none, []⟩,
    ⟨(some (.r (.r (.r (.r .z))))), .load false 1 (.t (.l (.r (.r (.r .z))))), none, none, []⟩,
    ⟨(some (.l (.l (.l (.l (.l .z)))))), .build [(.int .i64 0), (.int .i64 0), (.int .i64 0)] [(0, 1, (.t (.r (.r (.r (.r .z)))))), (1, 1, (.c (.int .i64 8))), (2, 1, (.c (.int .i64 4096)))], none, none, []⟩,
    ⟨(some (.r (.l (.l (.l (.l .z)))))), .fieldA 15 (.t (.l .z)), none, none, []⟩,
    ⟨(some (.l (.r (.l (.l (.l .z)))))), .load false 1 (.t (.r (.l (.l (.l (.l .z)))))), none, none, []⟩,
    ⟨(some (.r (.r (.l (.l (.l .z)))))), .build [(.int .i64 0), (.int .i64 0), (.int .i64 0)] [(0, 1, (.t (.l (.r (.l (.l (.l .z))))))), (1, 1, (.c (.int .i64 0))), (2, 1, (.c (.int .i64 1048576)))], none, none, []⟩,
    ⟨(some (.l (.l (.r (.l (.l .z)))))), .slit 3 9 [(.int .i64 0), (.int .i64 0), (.int .i64 0)] [(0, (.t (.r (.l (.l .z))))), (1, (.t (.l (.l (.r .z))))), (2, (.t (.r (.l (.l (.l .z)))))), (3, (.t (.l (.l (.r (.l .z)))))), (4, (.t (.r (.r (.r (.l .z)))))), (5, (.t (.l (.r (.l (.r .z)))))), (6, (.t (.r (.l (.r (.r .z)))))), (7, (.t (.l (.l (.l (.l (.l .z))))))), (8, (.t (.r (.r (.l (.l (.l .z)))))))], none, none, []⟩,
    ⟨(some (.l (.l .z))), .mv (.t (.l (.l (.r (.l (.l .z)))))), none, none, []⟩])
  (.seq (.seq (.region false 0 [
    ⟨(some (.r (.l (.r (.l (.l .z)))))), .fieldA 8 (.t (.l .z)), none, none, []⟩,
    ⟨(some (.l (.r (.r (.l (.l .z)))))), .load true 3 (.t (.r (.l (.r (.l (.l .z)))))), none, none, []⟩,
    ⟨(some (.r (.r (.r (.l (.l .z)))))), .mv (.c (.int .i64 0)), none, none, []⟩])
  (.block 0 (.loop (.seq (.region false 0 [
      ⟨(some (.l (.l (.l (.r (.l .z)))))), .bin .lss (.t (.r (.r (.r (.l (.l .z)))))) (.c (.int .i64 3)), none, none, []⟩])
    (.seq (.cond (.t (.l (.l (.l (.r (.l .z))))))
    .skip
    (.exit 0))
    (.seq (.block 1 (.seq (.region false 0 [
       ⟨(some (.r (.l (.l (.r (.l .z)))))), .idxV 1 3 false (.t (.l (.r (.r (.l (.l .z)))))) (.t (.r (.r (.r (.l (.l .z)))))), none, none, []⟩,
       ⟨(some (.l (.r .z))), .mv (.t (.r (.l (.l (.r (.l .z)))))), none, none, []⟩])
     (.region false 0 [
       ⟨(some (.l (.r (.l (.r (.l .z)))))), .mv (.t (.l (.l .z))), none, none, []⟩,
       ⟨(some (.r (.r (.l (.r (.l .z)))))), .mv (.t (.l (.r .z))), none, none, []⟩,
       ⟨(some (.l (.l (.r (.r (.l .z)))))), .build [(.int .i64 0), (.int .i64 0), (.int .i64 0)] [(0, 1, (.t (.r (.r (.l (.r (.l .z))))))), (1, 1, (.c (.int .i64 1))), (2, 1, (.c (.int .i64 100)))], none, none, []⟩,
       ⟨(some (.r (.l (.r (.r (.l .z)))))), .slit 3 1 [(.int .i64 0), (.int .i64 0), (.int .i64 0)] [(0, (.t (.l (.l (.r (.r (.l .z)))))))], none, none, []⟩,
       ⟨(some (.l (.r (.r (.r (.l .z)))))), .app 3 24 (.t (.l (.r (.l (.r (.l .z)))))) (.t (.r (.l (.r (.r (.l .z)))))), none, none, []⟩,
       ⟨(some (.l (.l .z))), .mv (.t (.l (.r (.r (.r (.l .z)))))), none, none, []⟩])))
    (.region false 0 [
      ⟨(some (.r (.r (.r (.r (.l .z)))))), .bin .add (.t (.r (.r (.r (.l (.l .z)))))) (.c (.int .i64 1)), none, none, []⟩,
      ⟨(some (.r (.r (.r (.l (.l .z)))))), .mv (.t (.r (.r (.r (.r (.l .z)))))), none, none, []⟩])))))))
  (.seq (.seq (.region false 0 [
    ⟨(some (.l (.l (.l (.l (.r .z)))))), .mv (.t (.l (.l .z))), none, none, []⟩,
    ⟨(some (.r (.l (.l (.l (.r .z)))))), .call 85 [(.t (.l (.l (.l (.l (.r .z))))))], none, none, []⟩,
    ⟨(some (.l (.r (.l (.l (.r .z)))))), .un .not (.t (.r (.l (.l (.l (.r .z)))))), none, none, []⟩,
    ⟨(some (.r (.r (.l (.l (.r .z)))))), .mv (.t (.l (.r (.l (.l (.r .z)))))), none, none, []⟩,
    ⟨(some (.l (.l (.r (.l (.r .z)))))), .fieldA 1 (.t (.l .z)), (some ((.r (.r (.l (.l (.r .z))))), false)), none, []⟩,
    ⟨(some (.r (.l (.r (.l (.r .z)))))), .load false 1 (.t (.l (.l (.r (.l (.r .z)))))), (some ((.r (.r (.l (.l (.r .z))))), false)), none, []⟩,
    ⟨(some (.l (.r (.r (.l (.r .z)))))), .build [(.int .u64 0), (.int .u64 0), (.int .u64 0)] [(0, 1, (.t (.r (.l (.r (.l (.r .z))))))), (1, 1, (.c (.int .u64 1))), (2, 1, (.c (.int .u64 1099511627776)))], (some ((.r (.r (.l (.l (.r .z))))), false)), none, []⟩,
    ⟨(some (.r (.r (.r (.l (.r .z)))))), .fieldA 2 (.t (.l .z)), (some ((.r (.r (.l (.l (.r .z))))), false)), none, []⟩,
    ⟨(some (.l (.l (.l (.r (.r .z)))))), .load false 1 (.t (.r (.r (.r (.l (.r .z)))))), (some ((.r (.r (.l (.l (.r .z))))), false)), none, []⟩,
    ⟨(some (.r (.l (.l (.r (.r .z)))))), .build [(.int .u64 0), (.int .u64 0), (.int .u64 0)] [(0, 1, (.t (.l (.l (.l (.r (.r .z))))))), (1, 1, (.c (.int .u64 1))), (2, 1, (.c (.int .u64 1200)))], (some ((.r (.r (.l (.l (.r .z))))), false)), none, []⟩,
    ⟨(some (.l (.r (.l (.r (.r .z)))))), .fieldA 3 (.t (.l .z)), (some ((.r (.r (.l (.l (.r .z))))), false)), none, []⟩,
    ⟨(some (.r (.r (.l (.r (.r .z)))))), .load false 1 (.t (.l (.r (.l (.r (.r .z)))))), (some ((.r (.r (.l (.l (.r .z))))), false)), none, []⟩,
    ⟨(some (.l (.l (.r (.r (.r .z)))))), .fieldA 1 (.t (.l .z)), (some ((.r (.r (.l (.l (.r .z))))), false)), none, []⟩,
    ⟨(some (.r (.l (.r (.r (.r .z)))))), .load false 1 (.t (.l (.l (.r (.r (.r .z)))))), (some ((.r (.r (.l (.l (.r .z))))), false)), none, []⟩,
    ⟨(some (.l (.r (.r (.r (.r .z)))))), .build [(.int .u64 0), (.int .u64 0), (.int .u64 0)] [(0, 1, (.t (.r (.r (.l (.r (.r .z))))))), (1, 1, (.c (.int .u64 0))), (2, 1, (.t (.r (.l (.r (.r (.r .z)))))))], (some ((.r (.r (.l (.l (.r .z))))), false)), none, []⟩,
    ⟨(some (.r (.r (.r (.r (.r .z)))))), .fieldA 4 (.t (.l .z)), (some ((.r (.r (.l (.l (.r .z))))), false)), none, []⟩,
    ⟨(some (.l (.l (.l (.l (.l (.l .z))))))), .load false 1 (.t (.r (.r (.r (.r (.r .z)))))), (some ((.r (.r (.l (.l (.r .z))))), false)), none, []⟩,
    ⟨(some (.r (.l (.l (.l (.l (.l .z))))))), .fieldA 1 (.t (.l .z)), (some ((.r (.r (.l (.l (.r .z))))), false)), none, []⟩,
    ⟨(some (.l (.r (.l (.l (.l (.l .z))))))), .load false 1 (.t (.r (.l (.l (.l (.l (.l .z))))))), (some ((.r (.r (.l (.l (.r .z))))), false)), none, []⟩,
    ⟨(some (.r (.r (.l (.l (.l (.l .z))))))), .build [(.int .u64 0), (.int .u64 0), (.int .u64 0)] [(0, 1, (.t (.l (.l (.l (.l (.l (.l .z)))))))), (1, 1, (.c (.int .u64 0))), (2, 1, (.t (.l (.r (.l (.l (.l (.l .z))))))))], (some ((.r (.r (.l (.l (.r .z))))), false)), none, []⟩,
    ⟨(some (.l (.l (.r (.l (.l (.l .z))))))), .slit 3 4 [(.int .u64 0), (.int .u64 0), (.int .u64 0)] [(0, (.t (.l (.r (.r (.l (.r .z))))))), (1, (.t (.r (.l (.l (.r (.r .z))))))), (2, (.t (.l (.r (.r (.r (.r .z))))))), (3, (.t (.r (.r (.l (.l (.l (.l .z))))))))], (some ((.r (.r (.l (.l (.r .z))))), false)), none, []⟩,
    ⟨(some (.r (.l (.r (.l (.l (.l .z))))))), .call 86 [(.t (.l (.l (.r (.l (.l (.l .z)))))))], (some ((.r (.r (.l (.l (.r .z))))), false)), none, []⟩,
    ⟨(some (.l (.r (.r (.l (.l (.l .z))))))), .un .not (.t (.r (.l (.r (.l (.l (.l .z))))))), (some ((.r (.r (.l (.l (.r .z))))), false)), none, []⟩,
    ⟨(some (.r (.r (.r (.l (.l (.l .z))))))), .pick (.t (.r (.r (.l (.l (.r .z)))))) (.c (.bool true)) (.t (.l (.r (.r (.l (.l (.l .z))))))), none, none, []⟩])
  (.cond (.t (.r (.r (.r (.l (.l (.l .z)))))))
  (.seq (.region false 0 [
     ⟨(some (.r .z)), .mv (.c (.int .i64 2)), none, none, []⟩])
   .ret)
  .skip))
  (.seq (.region false 0 [
    ⟨(some (.r .z)), .mv (.c (.int .i64 0)), none, none, []⟩])
  .ret)))))⟩
def AF50 : AFunc := ⟨63, [.tmp (.r .z)],
  (.seq (.region false 0 [
    ⟨(some (.l .z)), .box 1 26 (.t .z), none, none, []⟩,
    ⟨(some (.r .z)), .mv (.c (.int .i64 0)), none, none, []⟩])
  (.seq (.seq (.region false 0 [
    ⟨(some (.l (.l (.l .z)))), .fieldA 17 (.t (.l .z)), none, none, []⟩,
    ⟨(some (.r (.l (.l .z)))), .load true 8 (.t (.l (.l (.l .z)))), none, none, []⟩,
    ⟨(some (.l (.r (.l .z)))), .call 74 [(.t (.r (.l (.l .z))))], none, none, []⟩,
    ⟨(some (.l (.l .z))), .mv (.t (.l (.r (.l .z)))), none, none, []⟩])
  (.seq (.region false 0 [
    ⟨(some (.r (.r (.l .z)))), .mv (.t (.l (.l .z))), none, none, []⟩,
    ⟨(some (.l (.l (.r .z)))), .eql true false [.i] (.t (.r (.r (.l .z)))) (.c (.int .i64 0)), none, none, []⟩])
  (.cond (.t (.l (.l (.r .z))))
  (.seq (.region false 0 [
     ⟨(some (.r (.l (.r .z)))), .mv (.t (.l (.l .z))), none, none, []⟩,
     ⟨(some (.r .z)), .mv (.t (.r (.l (.r .z)))), none, none, []⟩])
   .ret)
  .skip)))
  (.seq (.seq (.region false 0 [
    ⟨(some (.l (.r (.r .z)))), .fieldA 17 (.t (.l .z)), none, none, []⟩,
    ⟨(some (.r (.r (.r .z)))), .fieldA 0 (.t (.l (.r (.r .z)))), none, none, []⟩,
    ⟨(some (.l (.l (.l (.l .z))))), .load false 1 (.t (.r (.r (.r .z)))), none, none, []⟩,
    ⟨(some (.r (.l (.l (.l .z))))), .fieldA 0 (.t (.l .z)), none, none, []⟩,
    ⟨(some (.l (.r (.l (.l .z))))), .fieldA 0 (.t (.r (.l (.l (.l .z))))), none, none, []⟩,
    ⟨(some (.r (.r (.l (.l .z))))), .load false 1 (.t (.l (.r (.l (.l .z))))), none, none, []⟩,
    ⟨(some (.l (.l (.r (.l .z))))), .eql true false [.i] (.t (.l (.l (.l (.l .z))))) (.t (.r (.r (.l (.l .z))))), none, none, []⟩,
    ⟨(some (.r (.l (.r (.l .z))))), .mv (.t (.l (.l (.r (.l .z))))), none, none, []⟩,
    ⟨(some (.l (.r (.r (.l .z))))), .fieldA 17 (.t (.l .z)), (some ((.r (.l (.r (.l .z)))), false)), none, []⟩,
    ⟨(some (.r (.r (.r (.l .z))))), .fieldA 1 (.t (.l (.r (.r (.l .z))))), (some ((.r (.l (.r (.l .z)))), false)), none, []⟩,
    ⟨(some (.l (.l (.l (.r .z))))), .load false 1 (.t (.r (.r (.r (.l .z))))), (some ((.r (.l (.r (.l .z)))), false)), none, []⟩,
    ⟨(some (.r (.l (.l (.r .z))))), .bin .lss (.t (.l (.l (.l (.r .z))))) (.c (.int .u64 1)), (some ((.r (.l (.r (.l .z)))), false)), none, []⟩,
    ⟨(some (.l (.r (.l (.r .z))))), .pick (.t (.r (.l (.r (.l .z))))) (.c (.bool true)) (.t (.r (.l (.l (.r .z))))), none, none, []⟩])
  (.cond (.t (.l (.r (.l (.r .z)))))
  (.seq (.region false 0 [
     ⟨(some (.r .z)), .mv (.c (.int .i64 3)), none, none, []⟩])
   .ret)
  .skip))
  (.seq (.seq (.region false 0 [
    ⟨(some (.r (.r (.l (.r .z))))), .fieldA 25 (.t (.l .z)), none, none, []⟩,
    ⟨(some (.l (.l (.r (.r .z))))), .load false 1 (.t (.r (.r (.l (.r .z))))), none, none, []⟩,
    ⟨(some (.r (.l (.r (.r .z))))), .len .slice (.t (.l (.l (.r (.r .z))))), none, none, []⟩,
    ⟨(some (.l (.r (.r (.r .z))))), .mv (.c (.int .i64 0)), none, none, []⟩])
  (.block 0 (.loop (.seq (.region false 0 [
      ⟨(some (.r (.r (.r (.r .z))))), .bin .lss (.t (.l (.r (.r (.r .z))))) (.t (.r (.l (.r (.r .z))))), none, none, []⟩])
    (.seq (.cond (.t (.r (.r (.r (.r .z)))))
    .skip
    (.exit 0))
    (.seq (.block 1 (.seq (.region false 0 [
       ⟨(some (.l (.l (.l (.l (.l .z)))))), .mv (.t (.l (.r (.r (.r .z))))), none, none, []⟩,
       ⟨(some (.r (.l (.l (.l (.l .z)))))), .idxS 13 (.t (.l (.l (.r (.r .z))))) (.t (.l (.r (.r (.r .z))))), none, none, []⟩,
       ⟨(some (.l (.r (.l (.l (.l .z)))))), .load true 13 (.t (.r (.l (.l (.l (.l .z)))))), none, none, []⟩,
       ⟨(some (.l (.r .z))), .alloc 13 [[(.int .i64 0), (.int .u64 0), (.bool false), (.int .u64 0), (.int .u64 0), (.int .u64 0), (.int .u64 0), .nilslice, (.int .u64 0), (.int .u64 0), (.int .u64 0), .nilslice, .nilslice]], none, none, []⟩,
       ⟨(some (.r (.l .z))), .mv (.t (.l (.l (.l (.l (.l .z)))))), none, none, []⟩,
       ⟨none, .store 13 (.t (.l (.r .z))) (.t (.l (.r (.l (.l (.l .z)))))), none, none, []⟩])
     (.seq (.region false 0 [
       ⟨(some (.r (.r (.l (.l (.l .z)))))), .load true 13 (.t (.l (.r .z))), none, none, []⟩,
       ⟨(some (.l (.l (.r (.l (.l .z)))))), .call 80 [(.t (.r (.r (.l (.l (.l .z))))))], none, none, []⟩,
       ⟨(some (.r (.r .z))), .mv (.t (.l (.l (.r (.l (.l .z)))))), none, none, []⟩])
     (.block 2 (.seq (.region false 0 [
        ⟨(some (.l (.r (.r (.l (.l .z)))))), .mv (.t (.r (.r .z))), none, none, []⟩,
        ⟨(some (.r (.r (.r (.l (.l .z)))))), .eql true false [.i] (.t (.l (.r (.r (.l (.l .z)))))) (.c (.int .i64 0)), none, none, []⟩,
        ⟨(some (.r (.l (.r (.l (.l .z)))))), .mv (.t (.r (.r (.r (.l (.l .z)))))), none, none, []⟩])
      (.cond (.t (.r (.l (.r (.l (.l .z))))))
      (.seq (.region false 0 [
         ⟨(some (.l (.l (.l (.r (.l .z)))))), .mv (.t (.r (.r .z))), none, none, []⟩,
         ⟨(some (.r .z)), .mv (.t (.l (.l (.l (.r (.l .z)))))), none, none, []⟩])
       .ret)
      (.seq (.region false 0 [
         ⟨(some (.l (.r (.l (.r (.l .z)))))), .fieldA 0 (.t (.l (.r .z))), none, none, []⟩,
         ⟨(some (.r (.r (.l (.r (.l .z)))))), .load false 1 (.t (.l (.r (.l (.r (.l .z)))))), none, none, []⟩,
         ⟨(some (.l (.l (.r (.r (.l .z)))))), .fieldA 0 (.t (.l .z)), none, none, []⟩,
         ⟨(some (.r (.l (.r (.r (.l .z)))))), .fieldA 0 (.t (.l (.l (.r (.r (.l .z)))))), none, none, []⟩,
         ⟨(some (.l (.r (.r (.r (.l .z)))))), .load false 1 (.t (.r (.l (.r (.r (.l .z)))))), none, none, []⟩,
         ⟨(some (.r (.r (.r (.r (.l .z)))))), .eql false false [.i] (.t (.r (.r (.l (.r (.l .z)))))) (.t (.l (.r (.r (.r (.l .z)))))), none, none, []⟩,
         ⟨(some (.r (.l (.l (.r (.l .z)))))), .mv (.t (.r (.r (.r (.r (.l .z)))))), none, none, []⟩])
       (.cond (.t (.r (.l (.l (.r (.l .z))))))
       (.seq (.region false 0 [
          ⟨(some (.r .z)), .mv (.c (.int .i64 3)), none, none, []⟩])
        .ret)
       (.seq (.region true 0 [
          ⟨(some (.r (.l (.l (.l (.r .z)))))), .mv (.t (.r (.l .z))), none, none, []⟩,
          ⟨(some (.l (.r (.l (.l (.r .z)))))), .bin .gtr (.t (.r (.l (.l (.l (.r .z)))))) (.c (.int .i64 0)), none, none, [0]⟩,
          ⟨(some (.r (.r (.l (.l (.r .z)))))), .mv (.t (.l (.r (.l (.l (.r .z)))))), none, none, [0, 1]⟩,
          ⟨(some (.l (.l (.r (.l (.r .z)))))), .fieldA 0 (.t (.l (.r .z))), (some ((.r (.r (.l (.l (.r .z))))), true)), none, [0, 1, 2]⟩,
          ⟨(some (.r (.l (.r (.l (.r .z)))))), .load false 1 (.t (.l (.l (.r (.l (.r .z)))))), (some ((.r (.r (.l (.l (.r .z))))), true)), none, [0, 1, 2, 3]⟩,
          ⟨(some (.l (.r (.r (.l (.r .z)))))), .fieldA 25 (.t (.l .z)), (some ((.r (.r (.l (.l (.r .z))))), true)), none, [0, 1, 2]⟩,
          ⟨(some (.r (.r (.r (.l (.r .z)))))), .load false 1 (.t (.l (.r (.r (.l (.r .z)))))), (some ((.r (.r (.l (.l (.r .z))))), true)), none, [0, 1, 2, 5]⟩,
          ⟨(some (.l (.l (.l (.r (.r .z)))))), .mv (.t (.r (.l .z))), (some ((.r (.r (.l (.l (.r .z))))), true)), none, [0, 1, 2]⟩,
          ⟨(some (.r (.l (.l (.r (.r .z)))))), .bin .sub (.t (.l (.l (.l (.r (.r .z)))))) (.c (.int .i64 1)), (some ((.r (.r (.l (.l (.r .z))))), true)), none, [0, 1, 2, 7]⟩,
          ⟨(some (.l (.r (.l (.r (.r .z)))))), .idxS 13 (.t (.r (.r (.r (.l (.r .z)))))) (.t (.r (.l (.l (.r (.r .z)))))), (some ((.r (.r (.l (.l (.r .z))))), true)), none, [0, 1, 2, 5, 6, 7, 8]⟩,
          ⟨(some (.r (.r (.l (.r (.r .z)))))), .fieldA 0 (.t (.l (.r (.l (.r (.r .z)))))), (some ((.r (.r (.l (.l (.r .z))))), true)), none, [0, 1, 2, 5, 6, 7, 8, 9]⟩,
          ⟨(some (.l (.l (.r (.r (.r .z)))))), .load false 1 (.t (.r (.r (.l (.r (.r .z)))))), (some ((.r (.r (.l (.l (.r .z))))), true)), none, [0, 1, 2, 5, 6, 7, 8, 9, 10]⟩,
          ⟨(some (.r (.l (.r (.r (.r .z)))))), .bin .leq (.t (.r (.l (.r (.l (.r .z)))))) (.t (.l (.l (.r (.r (.r .z)))))), (some ((.r (.r (.l (.l (.r .z))))), true)), none, [0, 1, 2, 3, 4, 5, 6, 7, 8, 9, 10, 11]⟩,
          ⟨(some (.l (.r (.r (.r (.r .z)))))), .pick (.t (.r (.r (.l (.l (.r .z)))))) (.t (.r (.l (.r (.r (.r .z)))))) (.c (.bool false)), none, none, [0, 1, 2, 3, 4, 5, 6, 7, 8, 9, 10, 11, 12]⟩,
          ⟨(some (.l (.l (.l (.l (.r .z)))))), .mv (.t (.l (.r (.r (.r (.r .z)))))), none, none, [0, 1, 2, 3, 4, 5, 6, 7, 8, 9, 10, 11, 12, 13]⟩])
        (.cond (.t (.l (.l (.l (.l (.r .z))))))
        (.seq (.region false 0 [
           ⟨(some (.r .z)), .mv (.c (.int .i64 19)), none, none, []⟩])
         .ret)
        .skip))))))))))
    (.region false 0 [
      ⟨(some (.r (.r (.r (.r (.r .z)))))), .bin .add (.t (.l (.r (.r (.r .z))))) (.c (.int .i64 1)), none, none, []⟩,
      ⟨(some (.l (.r (.r (.r .z))))), .mv (.t (.r (.r (.r (.r (.r .z)))))), none, none, []⟩])))))))
  (.seq (.region false 0 [
    ⟨(some (.r .z)), .mv (.c (.int .i64 0)), none, none, []⟩])
  .ret)))))⟩
def AF55 : AFunc := ⟨122, [.tmp (.r (.l (.l .z)))],
  (.seq (.region false 0 [
    ⟨(some (.r (.l .z))), .box 4 4 (.t .z), none, none, []⟩,
    ⟨(some (.r (.l (.l .z)))), .mv (.c (.bool false)), none, none, []⟩])
  (.seq (.region true 0 [
    ⟨(some (.l (.r (.r (.l .z))))), .mv (.t (.r .z)), none, none, []⟩,
    ⟨(some (.r (.r (.r (.l .z))))), .nilc (.t (.l (.r (.r (.l .z))))), none, none, [0]⟩,
    ⟨(some (.l (.l (.l (.r .z))))), .fieldA 0 (.t (.r (.r (.r (.l .z))))), none, none, [0, 1]⟩,
    ⟨(some (.r (.l (.l (.r .z))))), .fieldA 0 (.t (.l (.l (.l (.r .z))))), none, none, [0, 1, 2]⟩,
    ⟨(some (.l (.r (.l (.r .z))))), .load false 1 (.t (.r (.l (.l (.r .z))))), none, none, [0, 1, 2, 3]⟩,
    ⟨(some (.r (.r (.l (.r .z))))), .mv (.t (.l (.l .z))), none, none, []⟩,
    ⟨(some (.l (.l (.r (.r .z))))), .nilc (.t (.r (.r (.l (.r .z))))), none, none, [5]⟩,
    ⟨(some (.r (.l (.r (.r .z))))), .fieldA 0 (.t (.l (.l (.r (.r .z))))), none, none, [5, 6]⟩,
    ⟨(some (.l (.r (.r (.r .z))))), .fieldA 0 (.t (.r (.l (.r (.r .z))))), none, none, [5, 6, 7]⟩,
    ⟨(some (.r (.r (.r (.r .z))))), .load false 1 (.t (.l (.r (.r (.r .z))))), none, none, [5, 6, 7, 8]⟩,
    ⟨(some (.l (.r (.l .z)))), .mv (.t (.l (.r (.l (.r .z))))), none, none, [0, 1, 2, 3, 4]⟩,
    ⟨(some (.r (.r (.l .z)))), .mv (.t (.r (.r (.r (.r .z))))), none, none, [0, 1, 2, 3, 4, 5, 6, 7, 8, 9, 10]⟩])
  (.seq (.seq (.region false 0 [
    ⟨(some (.l (.l (.l (.l (.l .z)))))), .mv (.t (.l (.r (.l .z)))), none, none, []⟩,
    ⟨(some (.r (.l (.l (.l (.l .z)))))), .mv (.t (.r (.r (.l .z)))), none, none, []⟩,
    ⟨(some (.l (.r (.l (.l (.l .z)))))), .eql false false [.i] (.t (.l (.l (.l (.l (.l .z)))))) (.t (.r (.l (.l (.l (.l .z)))))), none, none, []⟩,
    ⟨(some (.r (.r (.l (.l (.l .z)))))), .mv (.t (.l (.r (.l (.l (.l .z)))))), none, none, []⟩,
    ⟨(some (.l (.l (.r (.l (.l .z)))))), .mv (.t (.r .z)), (some ((.r (.r (.l (.l (.l .z))))), false)), none, []⟩,
    ⟨(some (.r (.l (.r (.l (.l .z)))))), .nilc (.t (.l (.l (.r (.l (.l .z)))))), (some ((.r (.r (.l (.l (.l .z))))), false)), none, []⟩,
    ⟨(some (.l (.r (.r (.l (.l .z)))))), .fieldA 16 (.t (.r (.l (.r (.l (.l .z)))))), (some ((.r (.r (.l (.l (.l .z))))), false)), none, []⟩,
    ⟨(some (.r (.r (.r (.l (.l .z)))))), .load false 1 (.t (.l (.r (.r (.l (.l .z)))))), (some ((.r (.r (.l (.l (.l .z))))), false)), none, []⟩,
    ⟨(some (.l (.l (.l (.r (.l .z)))))), .un .not (.t (.r (.r (.r (.l (.l .z)))))), (some ((.r (.r (.l (.l (.l .z))))), false)), none, []⟩,
    ⟨(some (.r (.l (.l (.r (.l .z)))))), .pick (.t (.r (.r (.l (.l (.l .z)))))) (.c (.bool true)) (.t (.l (.l (.l (.r (.l .z)))))), none, none, []⟩,
    ⟨(some (.l (.r (.l (.r (.l .z)))))), .mv (.t (.r (.l (.l (.r (.l .z)))))), none, none, []⟩,
    ⟨(some (.r (.r (.l (.r (.l .z)))))), .mv (.t (.l (.l .z))), (some ((.l (.r (.l (.r (.l .z))))), false)), none, []⟩,
    ⟨(some (.l (.l (.r (.r (.l .z)))))), .nilc (.t (.r (.r (.l (.r (.l .z)))))), (some ((.l (.r (.l (.r (.l .z))))), false)), none, []⟩,
    ⟨(some (.r (.l (.r (.r (.l .z)))))), .fieldA 16 (.t (.l (.l (.r (.r (.l .z)))))), (some ((.l (.r (.l (.r (.l .z))))), false)), none, []⟩,
    ⟨(some (.l (.r (.r (.r (.l .z)))))), .load false 1 (.t (.r (.l (.r (.r (.l .z)))))), (some ((.l (.r (.l (.r (.l .z))))), false)), none, []⟩,
    ⟨(some (.r (.r (.r (.r (.l .z)))))), .un .not (.t (.l (.r (.r (.r (.l .z)))))), (some ((.l (.r (.l (.r (.l .z))))), false)), none, []⟩,
    ⟨(some (.l (.l (.l (.l (.r .z)))))), .pick (.t (.l (.r (.l (.r (.l .z)))))) (.c (.bool true)) (.t (.r (.r (.r (.r (.l .z)))))), none, none, []⟩])
  (.cond (.t (.l (.l (.l (.l (.r .z))))))
  (.seq (.region false 0 [
     ⟨(some (.r (.l (.l .z)))), .mv (.c (.bool false)), none, none, []⟩])
   .ret)
  .skip))
  (.seq (.region false 0 [
    ⟨(some (.l (.r (.l (.l (.r .z)))))), .load true 4 (.t (.r (.l .z))), none, none, []⟩,
    ⟨(some (.r (.r (.l (.l (.r .z)))))), .mv (.t (.l (.r (.l .z)))), none, none, []⟩,
    ⟨(some (.l (.l (.r (.l (.r .z)))))), .mv (.t (.r (.r (.l .z)))), none, none, []⟩,
    ⟨(some (.r (.l (.r (.l (.r .z)))))), .call 47 [(.t (.l (.r (.l (.l (.r .z)))))), (.t (.r (.r (.l (.l (.r .z)))))), (.t (.l (.l (.r (.l (.r .z))))))], none, none, []⟩,
    ⟨(some (.l (.r (.r (.l (.r .z)))))), .field 4 4 true (.t (.r (.l (.r (.l (.r .z)))))), none, none, []⟩,
    ⟨(some (.r (.r (.r (.l (.r .z)))))), .call 81 [(.t (.l (.r (.r (.l (.r .z))))))], none, none, []⟩,
    ⟨(some (.r (.l (.l (.l (.r .z)))))), .mv (.t (.r (.r (.r (.l (.r .z)))))), none, none, []⟩,
    ⟨(some (.l (.l (.l (.r (.r .z)))))), .ext (.t (.r (.l (.l (.l (.r .z)))))) 0, none, none, []⟩,
    ⟨(some (.r (.l (.l (.r (.r .z)))))), .ext (.t (.r (.l (.l (.l (.r .z)))))) 1, none, none, []⟩,
    ⟨(some (.l (.l (.r .z)))), .mv (.t (.l (.l (.l (.r (.r .z)))))), none, none, []⟩,
    ⟨(some (.r (.l (.r .z)))), .mv (.t (.r (.l (.l (.r (.r .z)))))), none, none, []⟩])
  (.seq (.seq (.region false 0 [
    ⟨(some (.l (.r (.l (.r (.r .z)))))), .mv (.t (.r .z)), none, none, []⟩,
    ⟨(some (.r (.r (.l (.r (.r .z)))))), .nilc (.t (.l (.r (.l (.r (.r .z)))))), none, none, []⟩,
    ⟨(some (.l (.l (.r (.r (.r .z)))))), .fieldA 17 (.t (.r (.r (.l (.r (.r .z)))))), none, none, []⟩,
    ⟨(some (.r (.l (.r (.r (.r .z)))))), .fieldA 5 (.t (.l (.l (.r (.r (.r .z)))))), none, none, []⟩,
    ⟨(some (.l (.r (.r (.r (.r .z)))))), .load false 1 (.t (.r (.l (.r (.r (.r .z)))))), none, none, []⟩,
    ⟨(some (.r (.r (.r (.r (.r .z)))))), .len .slice (.t (.l (.r (.r (.r (.r .z)))))), none, none, []⟩,
    ⟨(some (.l (.l (.l (.l (.l (.l .z))))))), .mv (.c (.int .i64 0)), none, none, []⟩])
  (.block 0 (.loop (.seq (.region false 0 [
      ⟨(some (.r (.l (.l (.l (.l (.l .z))))))), .bin .lss (.t (.l (.l (.l (.l (.l (.l .z))))))) (.t (.r (.r (.r (.r (.r .z)))))), none, none, []⟩])
    (.seq (.cond (.t (.r (.l (.l (.l (.l (.l .z)))))))
    .skip
    (.exit 0))
    (.seq (.block 1 (.seq (.region false 0 [
       ⟨(some (.l (.r (.l (.l (.l (.l .z))))))), .idxS 9 (.t (.l (.r (.r (.r (.r .z)))))) (.t (.l (.l (.l (.l (.l (.l .z))))))), none, none, []⟩,
       ⟨(some (.r (.r (.l (.l (.l (.l .z))))))), .load true 9 (.t (.l (.r (.l (.l (.l (.l .z))))))), none, none, []⟩,
       ⟨(some (.r (.r (.r .z)))), .alloc 9 [[(.int .i64 0), (.int .u64 0), (.int .i64 0), (.int .i64 0), (.int .i64 0), (.int .i64 0), (.int .i64 0), (.int .i64 0), (.str [])]], none, none, []⟩,
       ⟨none, .store 9 (.t (.r (.r (.r .z)))) (.t (.r (.r (.l (.l (.l (.l .z))))))), none, none, []⟩])
     (.seq (.region false 0 [
       ⟨(some (.r (.l (.r (.l (.l (.l .z))))))), .load true 9 (.t (.r (.r (.r .z)))), none, none, []⟩,
       ⟨(some (.l (.r (.r (.l (.l (.l .z))))))), .fieldA 0 (.t (.r (.l .z))), none, none, []⟩,
       ⟨(some (.r (.r (.r (.l (.l (.l .z))))))), .fieldA 0 (.t (.l (.r (.r (.l (.l (.l .z))))))), none, none, []⟩,
       ⟨(some (.l (.l (.l (.r (.l (.l .z))))))), .load false 1 (.t (.r (.r (.r (.l (.l (.l .z))))))), none, none, []⟩,
       ⟨(some (.r (.l (.l (.r (.l (.l .z))))))), .call 71 [(.t (.r (.l (.r (.l (.l (.l .z))))))), (.t (.l (.l (.l (.r (.l (.l .z)))))))], none, none, []⟩,
       ⟨(some (.l (.l (.r (.l (.l (.l .z))))))), .mv (.t (.r (.l (.l (.r (.l (.l .z))))))), none, none, []⟩,
       ⟨(some (.l (.r (.l (.r (.l (.l .z))))))), .ext (.t (.l (.l (.r (.l (.l (.l .z))))))) 0, none, none, []⟩,
       ⟨(some (.r (.r (.l (.r (.l (.l .z))))))), .ext (.t (.l (.l (.r (.l (.l (.l .z))))))) 1, none, none, []⟩,
       ⟨(some (.l (.l (.l (.l .z))))), .mv (.t (.l (.r (.l (.r (.l (.l .z))))))), none, none, []⟩,
       ⟨(some (.r (.l (.l (.l .z))))), .mv (.t (.r (.r (.l (.r (.l (.l .z))))))), none, none, []⟩])
     (.seq (.seq (.region false 0 [
       ⟨(some (.l (.l (.r (.r (.l (.l .z))))))), .mv (.t (.l (.l (.l (.l .z))))), none, none, []⟩,
       ⟨(some (.r (.l (.r (.r (.l (.l .z))))))), .mv (.t (.l (.l (.r (.r (.l (.l .z))))))), none, none, []⟩,
       ⟨(some (.l (.r (.r (.r (.l (.l .z))))))), .mv (.t (.r .z)), (some ((.r (.l (.r (.r (.l (.l .z)))))), false)), none, []⟩,
       ⟨(some (.r (.r (.r (.r (.l (.l .z))))))), .fieldA 0 (.t (.r (.r (.r .z)))), (some ((.r (.l (.r (.r (.l (.l .z)))))), false)), none, []⟩,
       ⟨(some (.l (.l (.l (.l (.r (.l .z))))))), .load true 3 (.t (.r (.r (.r (.r (.l (.l .z))))))), (some ((.r (.l (.r (.r (.l (.l .z)))))), false)), none, []⟩,
       ⟨(some (.r (.l (.l (.l (.r (.l .z))))))), .call 89 [(.t (.l (.r (.r (.r (.l (.l .z))))))), (.t (.l (.l (.l (.l (.r (.l .z)))))))], (some ((.r (.l (.r (.r (.l (.l .z)))))), false)), none, []⟩,
       ⟨(some (.l (.r (.l (.l (.r (.l .z))))))), .pick (.t (.r (.l (.r (.r (.l (.l .z))))))) (.c (.bool true)) (.t (.r (.l (.l (.l (.r (.l .z))))))), none, none, []⟩])
     (.cond (.t (.l (.r (.l (.l (.r (.l .z)))))))
     (.exit 1)
     .skip))
     (.seq (.region false 0 [
       ⟨(some (.l (.l (.r (.l (.r (.l .z))))))), .load true 9 (.t (.r (.r (.r .z)))), none, none, []⟩,
       ⟨(some (.r (.l (.r (.l (.r (.l .z))))))), .call 76 [(.t (.l (.l (.r (.l (.r (.l .z)))))))], none, none, []⟩,
       ⟨(some (.r (.r (.l (.l (.r (.l .z))))))), .mv (.t (.r (.l (.r (.l (.r (.l .z))))))), none, none, []⟩,
       ⟨(some (.l (.r (.r (.l (.r (.l .z))))))), .ext (.t (.r (.r (.l (.l (.r (.l .z))))))) 0, none, none, []⟩,
       ⟨(some (.r (.r (.r (.l (.r (.l .z))))))), .ext (.t (.r (.r (.l (.l (.r (.l .z))))))) 1, none, none, []⟩,
       ⟨(some (.l (.r (.l (.l .z))))), .mv (.t (.l (.r (.r (.l (.r (.l .z))))))), none, none, []⟩,
       ⟨(some (.r (.r (.l (.l .z))))), .mv (.t (.r (.r (.r (.l (.r (.l .z))))))), none, none, []⟩])
     (.seq (.region false 0 [
       ⟨(some (.r (.l (.l (.r (.r (.l .z))))))), .mv (.t (.l .z)), none, none, []⟩,
       ⟨(some (.l (.r (.l (.r (.r (.l .z))))))), .fieldA 0 (.t (.r (.r (.r .z)))), none, none, []⟩,
       ⟨(some (.r (.r (.l (.r (.r (.l .z))))))), .load true 3 (.t (.l (.r (.l (.r (.r (.l .z))))))), none, none, []⟩,
       ⟨(some (.l (.l (.r (.r (.r (.l .z))))))), .mv (.t (.l (.r (.l .z)))), none, none, []⟩,
       ⟨(some (.r (.l (.r (.r (.r (.l .z))))))), .fieldA 3 (.t (.r (.r (.r .z)))), none, none, []⟩,
       ⟨(some (.l (.r (.r (.r (.r (.l .z))))))), .load false 1 (.t (.r (.l (.r (.r (.r (.l .z))))))), none, none, []⟩,
       ⟨(some (.r (.r (.r (.r (.r (.l .z))))))), .fieldA 0 (.t (.r (.l .z))), none, none, []⟩,
       ⟨(some (.l (.l (.l (.l (.l (.r .z))))))), .fieldA 0 (.t (.r (.r (.r (.r (.r (.l .z))))))), none, none, []⟩,
       ⟨(some (.r (.l (.l (.l (.l (.r .z))))))), .load false 1 (.t (.l (.l (.l (.l (.l (.r .z))))))), none, none, []⟩,
       ⟨(some (.l (.r (.l (.l (.l (.r .z))))))), .mv (.t (.l (.r (.l (.l .z))))), none, none, []⟩,
       ⟨(some (.r (.r (.l (.l (.l (.r .z))))))), .call 90 [(.t (.r (.l (.l (.r (.r (.l .z))))))), (.c .nilslice), (.t (.r (.r (.l (.r (.r (.l .z))))))), (.t (.l (.l (.r (.r (.r (.l .z))))))), (.t (.l (.r (.r (.r (.r (.l .z))))))), (.t (.r (.l (.l (.l (.l (.r .z))))))), (.t (.l (.r (.l (.l (.l (.r .z)))))))], none, none, []⟩,
       ⟨(some (.l (.l (.l (.r (.r (.l .z))))))), .mv (.t (.r (.r (.l (.l (.l (.r .z))))))), none, none, []⟩,
       ⟨(some (.l (.l (.r (.l (.l (.r .z))))))), .ext (.t (.l (.l (.l (.r (.r (.l .z))))))) 0, none, none, []⟩,
       ⟨(some (.r (.l (.r (.l (.l (.r .z))))))), .ext (.t (.l (.l (.l (.r (.r (.l .z))))))) 1, none, none, []⟩,
       ⟨(some (.l (.l (.r (.l .z))))), .mv (.t (.l (.l (.r (.l (.l (.r .z))))))), none, none, []⟩,
       ⟨(some (.r (.l (.r (.l .z))))), .mv (.t (.r (.l (.r (.l (.l (.r .z))))))), none, none, []⟩])
     (.seq (.region false 0 [
       ⟨(some (.l (.r (.r (.l (.l (.r .z))))))), .mv (.t (.r (.l (.r (.l .z))))), none, none, []⟩,
       ⟨(some (.r (.r (.r (.l (.l (.r .z))))))), .eql false false [.i] (.t (.l (.r (.r (.l (.l (.r .z))))))) (.c (.int .i64 0)), none, none, []⟩,
       ⟨(some (.l (.l (.l (.r (.l (.r .z))))))), .mv (.t (.r (.r (.r (.l (.l (.r .z))))))), none, none, []⟩,
       ⟨(some (.r (.l (.l (.r (.l (.r .z))))))), .mv (.t (.l (.l (.r (.l .z))))), (some ((.l (.l (.l (.r (.l (.r .z)))))), true)), none, []⟩,
       ⟨(some (.l (.r (.l (.r (.l (.r .z))))))), .mv (.t (.r (.r (.l .z)))), (some ((.l (.l (.l (.r (.l (.r .z)))))), true)), none, []⟩,
       ⟨(some (.r (.r (.l (.r (.l (.r .z))))))), .eql false false [.i] (.t (.r (.l (.l (.r (.l (.r .z))))))) (.t (.l (.r (.l (.r (.l (.r .z))))))), (some ((.l (.l (.l (.r (.l (.r .z)))))), true)), none, []⟩,
       ⟨(some (.l (.l (.r (.r (.l (.r .z))))))), .pick (.t (.l (.l (.l (.r (.l (.r .z))))))) (.t (.r (.r (.l (.r (.l (.r .z))))))) (.c (.bool false)), none, none, []⟩,
       ⟨(some (.r (.l (.r (.r (.l (.r .z))))))), .mv (.t (.l (.l (.r (.r (.l (.r .z))))))), none, none, []⟩,
       ⟨(some (.l (.r (.r (.r (.l (.r .z))))))), .mv (.t (.l (.r (.l (.l .z))))), (some ((.r (.l (.r (.r (.l (.r .z)))))), true)), none, []⟩,
       ⟨(some (.r (.r (.r (.r (.l (.r .z))))))), .conv (.toInt .u64) (.t (.l (.r (.r (.r (.l (.r .z))))))), (some ((.r (.l (.r (.r (.l (.r .z)))))), true)), none, []⟩,
       ⟨(some (.l (.l (.l (.l (.r (.r .z))))))), .mv (.t (.l (.l (.r .z)))), (some ((.r (.l (.r (.r (.l (.r .z)))))), true)), none, []⟩,
       ⟨(some (.r (.l (.l (.l (.r (.r .z))))))), .bin .gtr (.t (.r (.r (.r (.r (.l (.r .z))))))) (.t (.l (.l (.l (.l (.r (.r .z))))))), (some ((.r (.l (.r (.r (.l (.r .z)))))), true)), none, []⟩,
       ⟨(some (.l (.r (.l (.l (.r (.r .z))))))), .pick (.t (.r (.l (.r (.r (.l (.r .z))))))) (.t (.r (.l (.l (.l (.r (.r .z))))))) (.c (.bool false)), none, none, []⟩,
       ⟨(some (.r (.r (.l (.l (.r (.r .z))))))), .mv (.t (.l (.r (.l (.l (.r (.r .z))))))), none, none, []⟩,
       ⟨(some (.l (.l (.r (.l (.r (.r .z))))))), .mv (.t (.l (.r (.l (.l .z))))), (some ((.r (.r (.l (.l (.r (.r .z)))))), true)), none, []⟩,
       ⟨(some (.r (.l (.r (.l (.r (.r .z))))))), .conv (.toInt .u64) (.t (.l (.l (.r (.l (.r (.r .z))))))), (some ((.r (.r (.l (.l (.r (.r .z)))))), true)), none, []⟩,
       ⟨(some (.l (.r (.r (.l (.r (.r .z))))))), .mv (.t (.l (.l .z))), (some ((.r (.r (.l (.l (.r (.r .z)))))), true)), none, []⟩,
       ⟨(some (.r (.r (.r (.l (.r (.r .z))))))), .call 91 [(.t (.l (.r (.r (.l (.r (.r .z)))))))], (some ((.r (.r (.l (.l (.r (.r .z)))))), true)), none, []⟩,
       ⟨(some (.l (.l (.l (.r (.r (.r .z))))))), .bin .gtr (.t (.r (.l (.r (.l (.r (.r .z))))))) (.t (.r (.r (.r (.l (.r (.r .z))))))), (some ((.r (.r (.l (.l (.r (.r .z)))))), true)), none, []⟩,
       ⟨(some (.r (.l (.l (.r (.r (.r .z))))))), .pick (.t (.r (.r (.l (.l (.r (.r .z))))))) (.t (.l (.l (.l (.r (.r (.r .z))))))) (.c (.bool false)), none, none, []⟩])
     (.cond (.t (.r (.l (.l (.r (.r (.r .z)))))))
     (.seq (.region false 0 [
        ⟨(some (.r (.l (.l .z)))), .mv (.c (.bool true)), none, none, []⟩])
      .ret)
     .skip))))))))
    (.region false 0 [
      ⟨(some (.l (.r (.l (.r (.r (.r .z))))))), .bin .add (.t (.l (.l (.l (.l (.l (.l .z))))))) (.c (.int .i64 1)), none, none, []⟩,
      ⟨(some (.l (.l (.l (.l (.l (.l .z))))))), .mv (.t (.l (.r (.l (.r (.r (.r .z))))))), none, none, []⟩])))))))
  (.seq (.region false 0 [
    ⟨(some (.r (.l (.l .z)))), .mv (.c (.bool false)), none, none, []⟩])
  .ret))))))⟩
def AF56 : AFunc := ⟨13, [.tmp (.r (.l .z))],
  (.seq (.region false 0 [
    ⟨(some (.r .z)), .box 1 1 (.t .z), none, none, []⟩,
    ⟨(some (.r (.l .z))), .mv (.c .nilslice), none, none, []⟩])
  (.seq (.seq (.region false 0 [
    ⟨(some (.r (.r .z))), .mv (.t (.l .z)), none, none, []⟩])
  (.block 0 (.rangeFunc (.t (.r (.r .z))) [(.l (.l (.l .z)))]
   (.region false 0 [
      ⟨(some (.l (.r .z))), .mv (.t (.l (.l (.l .z)))), none, none, []⟩])
   (.block 1 (.region false 0 [
       ⟨(some (.r (.l (.l .z)))), .load false 1 (.t (.r .z)), none, none, []⟩,
       ⟨(some (.l (.r (.l .z)))), .mv (.t (.l (.r .z))), none, none, []⟩,
       ⟨(some (.r (.r (.l .z)))), .slit 1 1 [(.int .i64 0)] [(0, (.t (.l (.r (.l .z)))))], none, none, []⟩,
       ⟨(some (.l (.l (.r .z)))), .app 1 8 (.t (.r (.l (.l .z)))) (.t (.r (.r (.l .z)))), none, none, []⟩,
       ⟨none, .store 1 (.t (.r .z)) (.t (.l (.l (.r .z)))), none, none, []⟩])))))
  (.seq (.region false 0 [
    ⟨(some (.r (.l (.r .z)))), .load false 1 (.t (.r .z)), none, none, []⟩,
    ⟨(some (.r (.l .z))), .mv (.t (.r (.l (.r .z)))), none, none, []⟩])
  .ret)))⟩
end Go.Proofs.YtfhkpeggifapmaaGreatDoor
end
