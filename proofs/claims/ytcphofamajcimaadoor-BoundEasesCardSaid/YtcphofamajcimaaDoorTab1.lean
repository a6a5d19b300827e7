/- The functions of the program as the evaluator's code: tables.
   Conditions: none. -/
import Derived.Test.YtcphofamajcimaaDoorEv1
set_option linter.unusedSimpArgs false
set_option linter.unusedVariables false
noncomputable section
namespace Go.Proofs.YtcphofamajcimaaDoor
open Go Go.Abs
set_option maxRecDepth 100000
def AF3 : AFunc := ⟨73, [.tmp (.r (.r .z))],
  (.seq (.region false 0 [
    ⟨(some (.r (.r .z))), .mv (.c (.bool false)), none, none, []⟩])
  (.seq (.region false 0 [
    ⟨(some (.r (.l (.r .z)))), .mv (.t .z), none, none, []⟩,
    ⟨(some (.l (.r (.r .z)))), .call 5 [(.t (.r (.l (.r .z))))], none, none, []⟩,
    ⟨(some (.l (.l (.l .z)))), .alloc 3 [[.nilslice, .nilslice, .nilslice]], none, none, []⟩,
    ⟨none, .store 3 (.t (.l (.l (.l .z)))) (.t (.l (.r (.r .z)))), none, none, []⟩])
  (.seq (.region true 2 [
    ⟨(some (.r (.r (.r .z)))), .load true 3 (.t (.l (.l (.l .z)))), none, none, []⟩,
    ⟨(some (.l (.l (.l (.l .z))))), .call 6 [(.t (.r (.r (.r .z))))], none, none, [0]⟩,
    ⟨(some (.r (.l (.l (.l .z))))), .load true 3 (.t (.l (.l (.l .z)))), none, none, []⟩,
    ⟨(some (.l (.r (.l (.l .z))))), .call 6 [(.t (.r (.l (.l (.l .z)))))], none, none, [0, 1, 2]⟩,
    ⟨(some (.r (.l (.l .z)))), .alloc 3 [[.nilslice, .nilslice, .nilslice]], none, (some 0), []⟩,
    ⟨(some (.l (.r (.l .z)))), .alloc 3 [[.nilslice, .nilslice, .nilslice]], none, (some 1), []⟩,
    ⟨none, .store 3 (.t (.r (.l (.l .z)))) (.t (.l (.l (.l (.l .z))))), none, none, [0, 1, 2, 3, 4, 5]⟩,
    ⟨none, .store 3 (.t (.l (.r (.l .z)))) (.t (.l (.r (.l (.l .z))))), none, none, [0, 1, 2, 3, 4, 5, 6]⟩])
  (.seq (.seq (.region false 0 [
    ⟨(some (.r (.r (.l (.l .z))))), .fieldA 2 (.t (.r (.l (.l .z)))), none, none, []⟩,
    ⟨(some (.l (.l (.r (.l .z))))), .load false 1 (.t (.r (.r (.l (.l .z))))), none, none, []⟩,
    ⟨(some (.r (.l (.r (.l .z))))), .len .slice (.t (.l (.l (.r (.l .z))))), none, none, []⟩,
    ⟨(some (.l (.r (.r (.l .z))))), .bin .gtr (.t (.r (.l (.r (.l .z))))) (.c (.int .i64 0)), none, none, []⟩])
  (.cond (.t (.l (.r (.r (.l .z)))))
  (.seq (.region false 0 [
     ⟨(some (.r (.r (.r (.l .z))))), .mv (.t (.l .z)), none, none, []⟩,
     ⟨(some (.l (.l (.l (.r .z))))), .fieldA 2 (.t (.r (.l (.l .z)))), none, none, []⟩,
     ⟨(some (.r (.l (.l (.r .z))))), .load false 1 (.t (.l (.l (.l (.r .z))))), none, none, []⟩,
     ⟨(some (.l (.r (.l (.r .z))))), .len .slice (.t (.r (.l (.l (.r .z))))), none, none, []⟩,
     ⟨(some (.r (.r (.l (.r .z))))), .call 7 [(.t (.r (.r (.r (.l .z))))), (.t (.l (.r (.l (.r .z)))))], none, none, []⟩,
     ⟨(some (.r (.r (.l .z)))), .mv (.t (.r (.r (.l (.r .z))))), none, none, []⟩])
   (.region true 1 [
     ⟨(some (.l (.l (.r (.r .z))))), .slit 15 0 [(.int .i64 0), (.int .i64 0), (.int .i64 0), (.int .i64 0), (.int .i64 0), (.int .i64 0), (.int .i64 0), (.int .u64 0), (.int .i64 0), (.int .i64 0), (.int .i64 0), (.int .i64 0), (.int .i64 0), (.int .i64 0), (.str [])] [], none, (some 0), []⟩,
     ⟨(some (.r (.l (.r (.r .z))))), .fieldA 2 (.t (.r (.l (.l .z)))), none, none, []⟩,
     ⟨(some (.l (.r (.r (.r .z))))), .load false 1 (.t (.r (.l (.r (.r .z))))), none, none, [1]⟩,
     ⟨(some (.r (.r (.r (.r .z))))), .mv (.t (.r (.r (.l .z)))), none, none, []⟩,
     ⟨(some (.l (.l (.l (.l (.l .z)))))), .sliceS 15 (.t (.l (.r (.r (.r .z))))) none (some (.t (.r (.r (.r (.r .z)))))) none, none, none, [1, 2, 3]⟩,
     ⟨(some (.r (.l (.l (.l (.l .z)))))), .app 15 128 (.t (.l (.l (.r (.r .z))))) (.t (.l (.l (.l (.l (.l .z)))))), none, none, [0, 1, 2, 3, 4]⟩,
     ⟨(some (.l (.r (.l (.l (.l .z)))))), .fieldA 2 (.t (.r (.l (.l .z)))), none, none, []⟩,
     ⟨(some (.r (.r (.l (.l (.l .z)))))), .load false 1 (.t (.l (.r (.l (.l (.l .z)))))), none, none, [6]⟩,
     ⟨(some (.l (.l (.r (.l (.l .z)))))), .mv (.t (.r (.r (.l .z)))), none, none, []⟩,
     ⟨(some (.r (.l (.r (.l (.l .z)))))), .bin .add (.t (.l (.l (.r (.l (.l .z)))))) (.c (.int .i64 1)), none, none, [8]⟩,
     ⟨(some (.l (.r (.r (.l (.l .z)))))), .sliceS 15 (.t (.r (.r (.l (.l (.l .z)))))) (some (.t (.r (.l (.r (.l (.l .z))))))) none none, none, none, [6, 7, 8, 9]⟩,
     ⟨(some (.r (.r (.r (.l (.l .z)))))), .app 15 128 (.t (.r (.l (.l (.l (.l .z)))))) (.t (.l (.r (.r (.l (.l .z)))))), none, none, [0, 1, 2, 3, 4, 5, 6, 7, 8, 9, 10]⟩,
     ⟨(some (.l (.l (.l (.r (.l .z)))))), .fieldA 2 (.t (.r (.l (.l .z)))), none, none, [0, 1, 2, 3, 4, 5, 6, 7, 8, 9, 10, 11]⟩,
     ⟨none, .store 1 (.t (.l (.l (.l (.r (.l .z)))))) (.t (.r (.r (.r (.l (.l .z)))))), none, none, [0, 1, 2, 3, 4, 5, 6, 7, 8, 9, 10, 11, 12]⟩]))
  .skip))
  (.seq (.region false 0 [
    ⟨(some (.r (.l (.l (.r (.l .z)))))), .mv (.t (.l .z)), none, none, []⟩,
    ⟨(some (.l (.r (.l (.r (.l .z)))))), .fieldA 0 (.t (.l (.r (.l .z)))), none, none, []⟩,
    ⟨(some (.r (.r (.l (.r (.l .z)))))), .load false 1 (.t (.l (.r (.l (.r (.l .z)))))), none, none, []⟩,
    ⟨(some (.l (.l (.r (.r (.l .z)))))), .len .slice (.t (.r (.r (.l (.r (.l .z)))))), none, none, []⟩,
    ⟨(some (.r (.l (.r (.r (.l .z)))))), .call 7 [(.t (.r (.l (.l (.r (.l .z)))))), (.t (.l (.l (.r (.r (.l .z))))))], none, none, []⟩,
    ⟨(some (.l (.l (.r .z)))), .mv (.t (.r (.l (.r (.r (.l .z)))))), none, none, []⟩])
  (.seq (.region true 0 [
    ⟨(some (.l (.r (.r (.r (.l .z)))))), .fieldA 0 (.t (.l (.r (.l .z)))), none, none, []⟩,
    ⟨(some (.r (.r (.r (.r (.l .z)))))), .load false 1 (.t (.l (.r (.r (.r (.l .z)))))), none, none, [0]⟩,
    ⟨(some (.l (.l (.l (.l (.r .z)))))), .mv (.t (.l (.l (.r .z)))), none, none, []⟩,
    ⟨(some (.r (.l (.l (.l (.r .z)))))), .fieldA 0 (.t (.l (.r (.l .z)))), none, none, []⟩,
    ⟨(some (.l (.r (.l (.l (.r .z)))))), .load false 1 (.t (.r (.l (.l (.l (.r .z)))))), none, none, [3]⟩,
    ⟨(some (.r (.r (.l (.l (.r .z)))))), .mv (.t (.l (.l (.r .z)))), none, none, []⟩,
    ⟨(some (.l (.l (.r (.l (.r .z)))))), .idxS 16 (.t (.l (.r (.l (.l (.r .z)))))) (.t (.r (.r (.l (.l (.r .z)))))), none, none, [3, 4, 5]⟩,
    ⟨(some (.r (.l (.r (.l (.r .z)))))), .fieldA 1 (.t (.l (.l (.r (.l (.r .z)))))), none, none, [3, 4, 5, 6]⟩,
    ⟨(some (.l (.r (.r (.l (.r .z)))))), .load false 1 (.t (.r (.l (.r (.l (.r .z)))))), none, none, [3, 4, 5, 6, 7]⟩,
    ⟨(some (.r (.r (.r (.l (.r .z)))))), .mv (.t (.r .z)), none, none, []⟩,
    ⟨(some (.l (.l (.l (.r (.r .z)))))), .call 7 [(.t (.r (.r (.r (.l (.r .z)))))), (.c (.int .i64 1000))], none, none, [9]⟩,
    ⟨(some (.r (.l (.l (.r (.r .z)))))), .conv (.toInt .u64) (.t (.l (.l (.l (.r (.r .z)))))), none, none, [9, 10]⟩,
    ⟨(some (.l (.r (.l (.r (.r .z)))))), .bin .add (.t (.l (.r (.r (.l (.r .z)))))) (.t (.r (.l (.l (.r (.r .z)))))), none, none, [3, 4, 5, 6, 7, 8, 9, 10, 11]⟩,
    ⟨(some (.r (.r (.l (.r (.r .z)))))), .idxS 16 (.t (.r (.r (.r (.r (.l .z)))))) (.t (.l (.l (.l (.l (.r .z)))))), none, none, [0, 1, 2, 3, 4, 5, 6, 7, 8, 9, 10, 11, 12]⟩,
    ⟨(some (.l (.l (.r (.r (.r .z)))))), .fieldA 1 (.t (.r (.r (.l (.r (.r .z)))))), none, none, [0, 1, 2, 3, 4, 5, 6, 7, 8, 9, 10, 11, 12, 13]⟩,
    ⟨none, .store 1 (.t (.l (.l (.r (.r (.r .z)))))) (.t (.l (.r (.l (.r (.r .z)))))), none, none, [0, 1, 2, 3, 4, 5, 6, 7, 8, 9, 10, 11, 12, 13, 14]⟩])
  (.seq (.region false 0 [
    ⟨(some (.r (.l (.r (.r (.r .z)))))), .load true 3 (.t (.l (.l (.l .z)))), none, none, []⟩,
    ⟨(some (.l (.r (.r (.r (.r .z)))))), .call 8 [(.t (.r (.l (.r (.r (.r .z))))))], none, none, []⟩,
    ⟨(some (.r (.r (.r (.r (.r .z)))))), .mv (.t (.l (.r (.r (.r (.r .z)))))), none, none, []⟩,
    ⟨(some (.l (.l (.l (.l (.l (.l .z))))))), .load true 3 (.t (.r (.l (.l .z)))), (some ((.r (.r (.r (.r (.r .z))))), true)), none, []⟩,
    ⟨(some (.r (.l (.l (.l (.l (.l .z))))))), .call 8 [(.t (.l (.l (.l (.l (.l (.l .z)))))))], (some ((.r (.r (.r (.r (.r .z))))), true)), none, []⟩,
    ⟨(some (.l (.r (.l (.l (.l (.l .z))))))), .pick (.t (.r (.r (.r (.r (.r .z)))))) (.t (.r (.l (.l (.l (.l (.l .z))))))) (.c (.bool false)), none, none, []⟩,
    ⟨(some (.r (.r (.l (.l (.l (.l .z))))))), .mv (.t (.l (.r (.l (.l (.l (.l .z))))))), none, none, []⟩,
    ⟨(some (.l (.l (.r (.l (.l (.l .z))))))), .load true 3 (.t (.l (.r (.l .z)))), (some ((.r (.r (.l (.l (.l (.l .z)))))), true)), none, []⟩,
    ⟨(some (.r (.l (.r (.l (.l (.l .z))))))), .call 8 [(.t (.l (.l (.r (.l (.l (.l .z)))))))], (some ((.r (.r (.l (.l (.l (.l .z)))))), true)), none, []⟩,
    ⟨(some (.l (.r (.r (.l (.l (.l .z))))))), .pick (.t (.r (.r (.l (.l (.l (.l .z))))))) (.t (.r (.l (.r (.l (.l (.l .z))))))) (.c (.bool false)), none, none, []⟩,
    ⟨(some (.r (.r (.r (.l (.l (.l .z))))))), .mv (.t (.l (.r (.r (.l (.l (.l .z))))))), none, none, []⟩,
    ⟨(some (.l (.l (.l (.r (.l (.l .z))))))), .call 9 [], (some ((.r (.r (.r (.l (.l (.l .z)))))), true)), none, []⟩,
    ⟨(some (.r (.l (.l (.r (.l (.l .z))))))), .pick (.t (.r (.r (.r (.l (.l (.l .z))))))) (.t (.l (.l (.l (.r (.l (.l .z))))))) (.c (.bool false)), none, none, []⟩,
    ⟨(some (.r (.r .z))), .mv (.t (.r (.l (.l (.r (.l (.l .z))))))), none, none, []⟩])
  .ret)))))))⟩
def AF5 : AFunc := ⟨152, [.cell (.r .z) true 3],
  (.seq (.region false 0 [
    ⟨(some (.r .z)), .alloc 3 [[.nilslice, .nilslice, .nilslice]], none, none, []⟩])
  (.seq (.region false 0 [
    ⟨(some (.r (.r (.r .z)))), .mv (.t .z), none, none, []⟩,
    ⟨(some (.l (.l (.l (.l .z))))), .call 12 [(.t (.r (.r (.r .z)))), (.c (.int .i64 0))], none, none, []⟩,
    ⟨(some (.r (.l (.l (.l .z))))), .call 7 [(.t (.l (.l (.l (.l .z))))), (.c (.int .i64 2))], none, none, []⟩,
    ⟨(some (.l (.r (.l (.l .z))))), .bin .add (.c (.int .i64 2)) (.t (.r (.l (.l (.l .z))))), none, none, []⟩,
    ⟨(some (.l (.l .z))), .mv (.t (.l (.r (.l (.l .z))))), none, none, []⟩])
  (.seq (.region false 0 [
    ⟨(some (.r (.l .z))), .alloc 3 [[.nilslice, .nilslice, .nilslice]], none, none, []⟩])
  (.seq (.seq (.region false 0 [
    ⟨(some (.l (.r .z))), .mv (.c (.int .i64 1)), none, none, []⟩])
  (.block 0 (.loop (.seq (.seq (.region false 0 [
      ⟨(some (.r (.r (.l (.l .z))))), .mv (.t (.l (.r .z))), none, none, []⟩,
      ⟨(some (.l (.l (.r (.l .z))))), .mv (.t (.l (.l .z))), none, none, []⟩,
      ⟨(some (.r (.l (.r (.l .z))))), .bin .leq (.t (.r (.r (.l (.l .z))))) (.t (.l (.l (.r (.l .z))))), none, none, []⟩])
    (.cond (.t (.r (.l (.r (.l .z)))))
    .skip
    (.exit 0)))
    (.seq (.block 1 (.seq (.region false 0 [
       ⟨(some (.l (.l (.l (.r .z))))), .mv (.t .z), none, none, []⟩,
       ⟨(some (.r (.l (.l (.r .z))))), .mv (.t (.l (.r .z))), none, none, []⟩,
       ⟨(some (.l (.r (.l (.r .z))))), .call 12 [(.t (.l (.l (.l (.r .z))))), (.t (.r (.l (.l (.r .z)))))], none, none, []⟩,
       ⟨(some (.r (.r (.l (.r .z))))), .call 7 [(.t (.l (.r (.l (.r .z))))), (.c (.int .i64 1048576))], none, none, []⟩,
       ⟨(some (.r (.r .z))), .mv (.t (.r (.r (.l (.r .z))))), none, none, []⟩])
     (.region false 0 [
       ⟨(some (.l (.l (.r (.r .z))))), .fieldA 0 (.t (.r (.l .z))), none, none, []⟩,
       ⟨(some (.r (.l (.r (.r .z))))), .load false 1 (.t (.l (.l (.r (.r .z))))), none, none, []⟩,
       ⟨(some (.l (.r (.r (.r .z))))), .mv (.t (.l (.r .z))), none, none, []⟩,
       ⟨(some (.r (.r (.r (.r .z))))), .mv (.t (.r (.r .z))), none, none, []⟩,
       ⟨(some (.l (.l (.l (.l (.l .z)))))), .bin .rem (.t (.r (.r (.r (.r .z))))) (.c (.int .i64 500)), none, none, []⟩,
       ⟨(some (.r (.l (.l (.l (.l .z)))))), .bin .add (.c (.int .i64 1200)) (.t (.l (.l (.l (.l (.l .z)))))), none, none, []⟩,
       ⟨(some (.l (.r (.l (.l (.l .z)))))), .conv (.toInt .u64) (.t (.r (.l (.l (.l (.l .z)))))), none, none, []⟩,
       ⟨(some (.r (.r (.l (.l (.l .z)))))), .mv (.t (.r (.r .z))), none, none, []⟩,
       ⟨(some (.l (.l (.r (.l (.l .z)))))), .bin .rem (.t (.r (.r (.l (.l (.l .z)))))) (.c (.int .i64 200)), none, none, []⟩,
       ⟨(some (.r (.l (.r (.l (.l .z)))))), .bin .add (.c (.int .i64 60)) (.t (.l (.l (.r (.l (.l .z)))))), none, none, []⟩,
       ⟨(some (.l (.r (.r (.l (.l .z)))))), .conv (.toInt .u64) (.t (.r (.l (.r (.l (.l .z)))))), none, none, []⟩,
       ⟨(some (.r (.r (.r (.l (.l .z)))))), .mv (.t (.r (.r .z))), none, none, []⟩,
       ⟨(some (.l (.l (.l (.r (.l .z)))))), .bin .rem (.t (.r (.r (.r (.l (.l .z)))))) (.c (.int .i64 50)), none, none, []⟩,
       ⟨(some (.r (.l (.l (.r (.l .z)))))), .conv (.toInt .u64) (.t (.l (.l (.l (.r (.l .z)))))), none, none, []⟩,
       ⟨(some (.l (.r (.l (.r (.l .z)))))), .mv (.t (.r (.r .z))), none, none, []⟩,
       ⟨(some (.r (.r (.l (.r (.l .z)))))), .bin .rem (.t (.l (.r (.l (.r (.l .z)))))) (.c (.int .i64 4)), none, none, []⟩,
       ⟨(some (.l (.l (.r (.r (.l .z)))))), .bin .add (.c (.int .i64 1)) (.t (.r (.r (.l (.r (.l .z)))))), none, none, []⟩,
       ⟨(some (.r (.l (.r (.r (.l .z)))))), .mv (.t (.r (.r .z))), none, none, []⟩,
       ⟨(some (.l (.r (.r (.r (.l .z)))))), .bin .rem (.t (.r (.l (.r (.r (.l .z)))))) (.c (.int .i64 3)), none, none, []⟩,
       ⟨(some (.r (.r (.r (.r (.l .z)))))), .mv (.t (.r (.r .z))), none, none, []⟩,
       ⟨(some (.l (.l (.l (.l (.r .z)))))), .bin .rem (.t (.r (.r (.r (.r (.l .z)))))) (.c (.int .i64 2)), none, none, []⟩,
       ⟨(some (.r (.l (.l (.l (.r .z)))))), .bin .add (.c (.int .i64 1)) (.t (.l (.l (.l (.l (.r .z)))))), none, none, []⟩,
       ⟨(some (.l (.r (.l (.l (.r .z)))))), .mv (.t (.r (.r .z))), none, none, []⟩,
       ⟨(some (.r (.r (.l (.l (.r .z)))))), .bin .rem (.t (.l (.r (.l (.l (.r .z)))))) (.c (.int .i64 3)), none, none, []⟩,
       ⟨(some (.l (.l (.r (.l (.r .z)))))), .bin .add (.c (.int .i64 1)) (.t (.r (.r (.l (.l (.r .z)))))), none, none, []⟩,
       ⟨(some (.r (.l (.r (.l (.r .z)))))), .build [(.int .i64 0), (.int .i64 0), (.int .i64 0)] [(0, 1, (.c (.int .i64 1))), (1, 1, (.t (.r (.l (.l (.l (.r .z))))))), (2, 1, (.t (.l (.l (.r (.l (.r .z)))))))], none, none, []⟩,
       ⟨(some (.l (.r (.r (.l (.r .z)))))), .mv (.t (.r (.r .z))), none, none, []⟩,
       ⟨(some (.r (.r (.r (.l (.r .z)))))), .bin .rem (.t (.l (.r (.r (.l (.r .z)))))) (.c (.int .i64 2)), none, none, []⟩,
       ⟨(some (.l (.l (.l (.r (.r .z)))))), .bin .add (.c (.int .i64 1)) (.t (.r (.r (.r (.l (.r .z)))))), none, none, []⟩,
       ⟨(some (.r (.l (.l (.r (.r .z)))))), .mv (.t (.r (.r .z))), none, none, []⟩,
       ⟨(some (.l (.r (.l (.r (.r .z)))))), .bin .rem (.t (.r (.l (.l (.r (.r .z)))))) (.c (.int .i64 300)), none, none, []⟩,
       ⟨(some (.r (.r (.l (.r (.r .z)))))), .bin .add (.c (.int .i64 200)) (.t (.l (.r (.l (.r (.r .z)))))), none, none, []⟩,
       ⟨(some (.l (.l (.r (.r (.r .z)))))), .build [(.int .i64 0), (.int .u64 0), (.int .u64 0), (.int .u64 0), (.int .u64 0), (.int .i64 0), (.int .i64 0), (.int .i64 0), (.int .i64 0), (.int .i64 0), (.int .i64 0), (.int .i64 0), (.int .i64 0), (.int .i64 0), (.int .i64 0), (.int .i64 0)] [(0, 1, (.t (.l (.r (.r (.r .z)))))), (1, 1, (.t (.l (.r (.l (.l (.l .z))))))), (2, 1, (.c (.int .u64 100))), (3, 1, (.t (.l (.r (.r (.l (.l .z))))))), (4, 1, (.t (.r (.l (.l (.r (.l .z))))))), (5, 1, (.t (.l (.l (.r (.r (.l .z))))))), (6, 1, (.c (.int .i64 10))), (7, 1, (.t (.l (.r (.r (.r (.l .z))))))), (8, 3, (.t (.r (.l (.r (.l (.r .z))))))), (11, 1, (.c (.int .i64 100))), (12, 1, (.t (.l (.l (.l (.r (.r .z))))))), (13, 1, (.t (.r (.r (.l (.r (.r .z))))))), (14, 1, (.c (.int .i64 1024))), (15, 1, (.c (.int .i64 100)))], none, none, []⟩,
       ⟨(some (.r (.l (.r (.r (.r .z)))))), .slit 16 1 [(.int .i64 0), (.int .u64 0), (.int .u64 0), (.int .u64 0), (.int .u64 0), (.int .i64 0), (.int .i64 0), (.int .i64 0), (.int .i64 0), (.int .i64 0), (.int .i64 0), (.int .i64 0), (.int .i64 0), (.int .i64 0), (.int .i64 0), (.int .i64 0)] [(0, (.t (.l (.l (.r (.r (.r .z)))))))], none, none, []⟩,
       ⟨(some (.l (.r (.r (.r (.r .z)))))), .app 16 128 (.t (.r (.l (.r (.r .z))))) (.t (.r (.l (.r (.r (.r .z)))))), none, none, []⟩,
       ⟨(some (.r (.r (.r (.r (.r .z)))))), .fieldA 0 (.t (.r (.l .z))), none, none, []⟩,
       ⟨none, .store 1 (.t (.r (.r (.r (.r (.r .z)))))) (.t (.l (.r (.r (.r (.r .z)))))), none, none, []⟩])))
    (.region false 0 [
      ⟨(some (.l (.r (.r (.l .z))))), .mv (.t (.l (.r .z))), none, none, []⟩,
      ⟨(some (.r (.r (.r (.l .z))))), .bin .add (.t (.l (.r (.r (.l .z))))) (.c (.int .i64 1)), none, none, []⟩,
      ⟨(some (.l (.r .z))), .mv (.t (.r (.r (.r (.l .z))))), none, none, []⟩]))))))
  (.seq (.seq (.region false 0 [
    ⟨(some (.l (.l (.l .z)))), .mv (.c (.int .i64 1)), none, none, []⟩])
  (.block 2 (.loop (.seq (.seq (.region false 0 [
      ⟨(some (.l (.l (.l (.l (.l (.l .z))))))), .mv (.t (.l (.l (.l .z)))), none, none, []⟩,
      ⟨(some (.r (.l (.l (.l (.l (.l .z))))))), .mv (.t (.l (.l .z))), none, none, []⟩,
      ⟨(some (.l (.r (.l (.l (.l (.l .z))))))), .bin .lss (.t (.l (.l (.l (.l (.l (.l .z))))))) (.t (.r (.l (.l (.l (.l (.l .z))))))), none, none, []⟩])
    (.cond (.t (.l (.r (.l (.l (.l (.l .z)))))))
    .skip
    (.exit 2)))
    (.seq (.block 3 (.seq (.region false 0 [
       ⟨(some (.r (.l (.r (.l (.l (.l .z))))))), .mv (.t .z), none, none, []⟩,
       ⟨(some (.l (.r (.r (.l (.l (.l .z))))))), .mv (.t (.l (.l (.l .z)))), none, none, []⟩,
       ⟨(some (.r (.r (.r (.l (.l (.l .z))))))), .bin .add (.c (.int .i64 3)) (.t (.l (.r (.r (.l (.l (.l .z))))))), none, none, []⟩,
       ⟨(some (.l (.l (.l (.r (.l (.l .z))))))), .call 12 [(.t (.r (.l (.r (.l (.l (.l .z))))))), (.t (.r (.r (.r (.l (.l (.l .z)))))))], none, none, []⟩,
       ⟨(some (.r (.l (.l (.r (.l (.l .z))))))), .call 7 [(.t (.l (.l (.l (.r (.l (.l .z))))))), (.c (.int .i64 1048576))], none, none, []⟩,
       ⟨(some (.r (.l (.l .z)))), .mv (.t (.r (.l (.l (.r (.l (.l .z))))))), none, none, []⟩])
     (.seq (.region false 0 [
       ⟨(some (.l (.r (.l (.r (.l (.l .z))))))), .mv (.t (.l (.l (.l .z)))), none, none, []⟩,
       ⟨(some (.r (.r (.l (.r (.l (.l .z))))))), .mv (.t (.l (.l (.l .z)))), none, none, []⟩,
       ⟨(some (.l (.l (.r (.r (.l (.l .z))))))), .bin .add (.t (.r (.r (.l (.r (.l (.l .z))))))) (.c (.int .i64 1)), none, none, []⟩,
       ⟨(some (.r (.l (.r (.r (.l (.l .z))))))), .mv (.t (.r (.l (.l .z)))), none, none, []⟩,
       ⟨(some (.l (.r (.r (.r (.l (.l .z))))))), .bin .rem (.t (.r (.l (.r (.r (.l (.l .z))))))) (.c (.int .i64 100)), none, none, []⟩,
       ⟨(some (.r (.r (.r (.r (.l (.l .z))))))), .bin .add (.c (.int .i64 300)) (.t (.l (.r (.r (.r (.l (.l .z))))))), none, none, []⟩,
       ⟨(some (.l (.l (.l (.l (.r (.l .z))))))), .mv (.t (.r (.l (.l .z)))), none, none, []⟩,
       ⟨(some (.r (.l (.l (.l (.r (.l .z))))))), .bin .rem (.t (.l (.l (.l (.l (.r (.l .z))))))) (.c (.int .i64 700)), none, none, []⟩,
       ⟨(some (.l (.r (.l (.l (.r (.l .z))))))), .bin .add (.c (.int .i64 300)) (.t (.r (.l (.l (.l (.r (.l .z))))))), none, none, []⟩,
       ⟨(some (.r (.r (.l (.l (.r (.l .z))))))), .mv (.t (.r (.l (.l .z)))), none, none, []⟩,
       ⟨(some (.l (.l (.r (.l (.r (.l .z))))))), .bin .rem (.t (.r (.r (.l (.l (.r (.l .z))))))) (.c (.int .i64 3)), none, none, []⟩,
       ⟨(some (.r (.l (.r (.l (.r (.l .z))))))), .build [(.int .i64 0), (.int .i64 0), (.int .i64 0), (.int .i64 0), (.int .i64 0), (.int .i64 0)] [(0, 1, (.t (.l (.r (.l (.r (.l (.l .z)))))))), (1, 1, (.t (.l (.l (.r (.r (.l (.l .z)))))))), (3, 1, (.t (.r (.r (.r (.r (.l (.l .z)))))))), (4, 1, (.t (.l (.r (.l (.l (.r (.l .z)))))))), (5, 1, (.t (.l (.l (.r (.l (.r (.l .z))))))))], none, none, []⟩,
       ⟨(some (.l (.r (.l .z)))), .alloc 6 [[(.int .i64 0), (.int .i64 0), (.int .i64 0), (.int .i64 0), (.int .i64 0), (.int .i64 0)]], none, none, []⟩,
       ⟨none, .store 6 (.t (.l (.r (.l .z)))) (.t (.r (.l (.r (.l (.r (.l .z))))))), none, none, []⟩])
     (.seq (.region false 0 [
       ⟨(some (.l (.r (.r (.l (.r (.l .z))))))), .load true 6 (.t (.l (.r (.l .z)))), none, none, []⟩,
       ⟨(some (.r (.r (.l .z)))), .alloc 6 [[(.int .i64 0), (.int .i64 0), (.int .i64 0), (.int .i64 0), (.int .i64 0), (.int .i64 0)]], none, none, []⟩,
       ⟨none, .store 6 (.t (.r (.r (.l .z)))) (.t (.l (.r (.r (.l (.r (.l .z))))))), none, none, []⟩])
     (.seq (.region false 0 [
       ⟨(some (.r (.r (.r (.l (.r (.l .z))))))), .mv (.t (.l (.l (.l .z)))), none, none, []⟩,
       ⟨(some (.l (.l (.l (.r (.r (.l .z))))))), .bin .add (.t (.r (.r (.r (.l (.r (.l .z))))))) (.c (.int .i64 1)), none, none, []⟩,
       ⟨(some (.r (.l (.l (.r (.r (.l .z))))))), .mv (.t (.l (.l (.l .z)))), none, none, []⟩,
       ⟨(some (.l (.r (.l (.r (.r (.l .z))))))), .mv (.t (.r (.l (.l .z)))), none, none, []⟩,
       ⟨(some (.r (.r (.l (.r (.r (.l .z))))))), .bin .quo (.t (.l (.r (.l (.r (.r (.l .z))))))) (.c (.int .i64 700)), none, none, []⟩,
       ⟨(some (.l (.l (.r (.r (.r (.l .z))))))), .bin .rem (.t (.r (.r (.l (.r (.r (.l .z))))))) (.c (.int .i64 700)), none, none, []⟩,
       ⟨(some (.r (.l (.r (.r (.r (.l .z))))))), .bin .add (.c (.int .i64 300)) (.t (.l (.l (.r (.r (.r (.l .z))))))), none, none, []⟩,
       ⟨(some (.l (.r (.r (.r (.r (.l .z))))))), .fieldA 0 (.t (.r (.r (.l .z)))), none, none, []⟩,
       ⟨none, .store 1 (.t (.l (.r (.r (.r (.r (.l .z))))))) (.t (.l (.l (.l (.r (.r (.l .z))))))), none, none, []⟩,
       ⟨(some (.r (.r (.r (.r (.r (.l .z))))))), .fieldA 1 (.t (.r (.r (.l .z)))), none, none, []⟩,
       ⟨none, .store 1 (.t (.r (.r (.r (.r (.r (.l .z))))))) (.t (.r (.l (.l (.r (.r (.l .z))))))), none, none, []⟩,
       ⟨(some (.l (.l (.l (.l (.l (.r .z))))))), .fieldA 4 (.t (.r (.r (.l .z)))), none, none, []⟩,
       ⟨none, .store 1 (.t (.l (.l (.l (.l (.l (.r .z))))))) (.t (.r (.l (.r (.r (.r (.l .z))))))), none, none, []⟩])
     (.region false 0 [
       ⟨(some (.r (.l (.l (.l (.l (.r .z))))))), .fieldA 1 (.t (.r (.l .z))), none, none, []⟩,
       ⟨(some (.l (.r (.l (.l (.l (.r .z))))))), .load false 1 (.t (.r (.l (.l (.l (.l (.r .z))))))), none, none, []⟩,
       ⟨(some (.r (.r (.l (.l (.l (.r .z))))))), .load true 6 (.t (.l (.r (.l .z)))), none, none, []⟩,
       ⟨(some (.l (.l (.r (.l (.l (.r .z))))))), .load true 6 (.t (.r (.r (.l .z)))), none, none, []⟩,
       ⟨(some (.r (.l (.r (.l (.l (.r .z))))))), .slit 6 2 [(.int .i64 0), (.int .i64 0), (.int .i64 0), (.int .i64 0), (.int .i64 0), (.int .i64 0)] [(0, (.t (.r (.r (.l (.l (.l (.r .z)))))))), (1, (.t (.l (.l (.r (.l (.l (.r .z))))))))], none, none, []⟩,
       ⟨(some (.l (.r (.r (.l (.l (.r .z))))))), .app 6 48 (.t (.l (.r (.l (.l (.l (.r .z))))))) (.t (.r (.l (.r (.l (.l (.r .z))))))), none, none, []⟩,
       ⟨(some (.r (.r (.r (.l (.l (.r .z))))))), .fieldA 1 (.t (.r (.l .z))), none, none, []⟩,
       ⟨none, .store 1 (.t (.r (.r (.r (.l (.l (.r .z))))))) (.t (.l (.r (.r (.l (.l (.r .z))))))), none, none, []⟩]))))))
    (.region false 0 [
      ⟨(some (.r (.r (.l (.l (.l (.l .z))))))), .mv (.t (.l (.l (.l .z)))), none, none, []⟩,
      ⟨(some (.l (.l (.r (.l (.l (.l .z))))))), .bin .add (.t (.r (.r (.l (.l (.l (.l .z))))))) (.c (.int .i64 1)), none, none, []⟩,
      ⟨(some (.l (.l (.l .z)))), .mv (.t (.l (.l (.r (.l (.l (.l .z))))))), none, none, []⟩]))))))
  (.seq (.seq (.region false 0 [
    ⟨(some (.l (.l (.r .z)))), .mv (.c (.int .i64 6)), none, none, []⟩])
  (.block 4 (.loop (.seq (.seq (.region false 0 [
      ⟨(some (.l (.l (.l (.r (.l (.r .z))))))), .mv (.t (.l (.l (.r .z)))), none, none, []⟩,
      ⟨(some (.r (.l (.l (.r (.l (.r .z))))))), .mv (.t .z), none, none, []⟩,
      ⟨(some (.l (.r (.l (.r (.l (.r .z))))))), .len .slice (.t (.r (.l (.l (.r (.l (.r .z))))))), none, none, []⟩,
      ⟨(some (.r (.r (.l (.r (.l (.r .z))))))), .bin .lss (.t (.l (.l (.l (.r (.l (.r .z))))))) (.t (.l (.r (.l (.r (.l (.r .z))))))), none, none, []⟩,
      ⟨(some (.l (.l (.r (.r (.l (.r .z))))))), .mv (.t (.r (.r (.l (.r (.l (.r .z))))))), none, none, []⟩,
      ⟨(some (.r (.l (.r (.r (.l (.r .z))))))), .mv (.t (.l (.l (.r .z)))), (some ((.l (.l (.r (.r (.l (.r .z)))))), true)), none, []⟩,
      ⟨(some (.l (.r (.r (.r (.l (.r .z))))))), .bin .lss (.t (.r (.l (.r (.r (.l (.r .z))))))) (.c (.int .i64 10)), (some ((.l (.l (.r (.r (.l (.r .z)))))), true)), none, []⟩,
      ⟨(some (.r (.r (.r (.r (.l (.r .z))))))), .pick (.t (.l (.l (.r (.r (.l (.r .z))))))) (.t (.l (.r (.r (.r (.l (.r .z))))))) (.c (.bool false)), none, none, []⟩])
    (.cond (.t (.r (.r (.r (.r (.l (.r .z)))))))
    .skip
    (.exit 4)))
    (.seq (.block 5 (.seq (.region false 0 [
       ⟨(some (.l (.r (.l (.l (.r (.r .z))))))), .mv (.t .z), none, none, []⟩,
       ⟨(some (.r (.r (.l (.l (.r (.r .z))))))), .mv (.t (.l (.l (.r .z)))), none, none, []⟩,
       ⟨(some (.l (.l (.r (.l (.r (.r .z))))))), .idxS 1 (.t (.l (.r (.l (.l (.r (.r .z))))))) (.t (.r (.r (.l (.l (.r (.r .z))))))), none, none, []⟩,
       ⟨(some (.r (.l (.r (.l (.r (.r .z))))))), .load false 1 (.t (.l (.l (.r (.l (.r (.r .z))))))), none, none, []⟩,
       ⟨(some (.l (.r (.r (.l (.r (.r .z))))))), .call 7 [(.t (.r (.l (.r (.l (.r (.r .z))))))), (.c (.int .i64 268435456))], none, none, []⟩,
       ⟨(some (.r (.l (.r .z)))), .mv (.t (.l (.r (.r (.l (.r (.r .z))))))), none, none, []⟩])
     (.seq (.region false 0 [
       ⟨(some (.r (.r (.r (.l (.r (.r .z))))))), .mv (.t (.r (.l (.r .z)))), none, none, []⟩,
       ⟨(some (.l (.l (.l (.r (.r (.r .z))))))), .call 13 [(.t (.r (.r (.r (.l (.r (.r .z)))))))], none, none, []⟩,
       ⟨(some (.l (.r (.r .z)))), .alloc 9 [[(.int .i64 0), (.int .u64 0), (.int .i64 0), (.int .i64 0), (.int .i64 0), (.int .i64 0), (.int .i64 0), (.int .i64 0), (.str [])]], none, none, []⟩,
       ⟨none, .store 9 (.t (.l (.r (.r .z)))) (.t (.l (.l (.l (.r (.r (.r .z))))))), none, none, []⟩])
     (.seq (.region true 0 [
       ⟨(some (.r (.l (.l (.r (.r (.r .z))))))), .mv (.t (.r (.l (.r .z)))), none, none, []⟩,
       ⟨(some (.l (.r (.l (.r (.r (.r .z))))))), .mv (.t (.l (.l .z))), none, none, []⟩,
       ⟨(some (.r (.r (.l (.r (.r (.r .z))))))), .bin .rem (.t (.r (.l (.l (.r (.r (.r .z))))))) (.t (.l (.r (.l (.r (.r (.r .z))))))), none, none, [0, 1]⟩,
       ⟨(some (.l (.l (.r (.r (.r (.r .z))))))), .bin .add (.c (.int .i64 1)) (.t (.r (.r (.l (.r (.r (.r .z))))))), none, none, [0, 1, 2]⟩,
       ⟨(some (.r (.l (.r (.r (.r (.r .z))))))), .mv (.t (.l (.l (.r .z)))), none, none, []⟩,
       ⟨(some (.l (.r (.r (.r (.r (.r .z))))))), .conv (.toInt .u64) (.t (.r (.l (.r (.r (.r (.r .z))))))), none, none, [4]⟩,
       ⟨(some (.r (.r (.r (.r (.r (.r .z))))))), .mv (.t (.r (.l (.r .z)))), none, none, []⟩,
       ⟨(some (.l (.l (.l (.l (.l (.l (.l .z)))))))), .bin .rem (.t (.r (.r (.r (.r (.r (.r .z))))))) (.c (.int .i64 100)), none, none, [6]⟩,
       ⟨(some (.r (.l (.l (.l (.l (.l (.l .z)))))))), .bin .add (.c (.int .i64 200)) (.t (.l (.l (.l (.l (.l (.l (.l .z)))))))), none, none, [6, 7]⟩,
       ⟨(some (.l (.r (.l (.l (.l (.l (.l .z)))))))), .mv (.t (.r (.l (.r .z)))), none, none, []⟩,
       ⟨(some (.r (.r (.l (.l (.l (.l (.l .z)))))))), .bin .quo (.t (.l (.r (.l (.l (.l (.l (.l .z)))))))) (.c (.int .i64 4)), none, none, [9]⟩,
       ⟨(some (.l (.l (.r (.l (.l (.l (.l .z)))))))), .mv (.t (.l (.l .z))), none, none, []⟩,
       ⟨(some (.r (.l (.r (.l (.l (.l (.l .z)))))))), .bin .rem (.t (.r (.r (.l (.l (.l (.l (.l .z)))))))) (.t (.l (.l (.r (.l (.l (.l (.l .z)))))))), none, none, [9, 10, 11]⟩,
       ⟨(some (.l (.r (.r (.l (.l (.l (.l .z)))))))), .bin .add (.c (.int .i64 1)) (.t (.r (.l (.r (.l (.l (.l (.l .z)))))))), none, none, [9, 10, 11, 12]⟩,
       ⟨(some (.r (.r (.r (.l (.l (.l (.l .z)))))))), .fieldA 0 (.t (.l (.r (.r .z)))), none, none, [0, 1, 2, 3]⟩,
       ⟨(some (.l (.l (.l (.r (.l (.l (.l .z)))))))), .fieldA 0 (.t (.r (.r (.r (.l (.l (.l (.l .z)))))))), none, none, [0, 1, 2, 3, 14]⟩,
       ⟨none, .store 1 (.t (.l (.l (.l (.r (.l (.l (.l .z)))))))) (.t (.l (.l (.r (.r (.r (.r .z))))))), none, none, [0, 1, 2, 3, 14, 15]⟩,
       ⟨(some (.r (.l (.l (.r (.l (.l (.l .z)))))))), .fieldA 0 (.t (.l (.r (.r .z)))), none, none, [0, 1, 2, 3, 4, 5, 14, 15, 16]⟩,
       ⟨(some (.l (.r (.l (.r (.l (.l (.l .z)))))))), .fieldA 1 (.t (.r (.l (.l (.r (.l (.l (.l .z)))))))), none, none, [0, 1, 2, 3, 4, 5, 14, 15, 16, 17]⟩,
       ⟨none, .store 1 (.t (.l (.r (.l (.r (.l (.l (.l .z)))))))) (.t (.l (.r (.r (.r (.r (.r .z))))))), none, none, [0, 1, 2, 3, 4, 5, 14, 15, 16, 17, 18]⟩,
       ⟨(some (.r (.r (.l (.r (.l (.l (.l .z)))))))), .fieldA 5 (.t (.l (.r (.r .z)))), none, none, [0, 1, 2, 3, 4, 5, 14, 15, 16, 17, 18, 19]⟩,
       ⟨none, .store 1 (.t (.r (.r (.l (.r (.l (.l (.l .z)))))))) (.c (.int .i64 0)), none, none, [0, 1, 2, 3, 4, 5, 14, 15, 16, 17, 18, 19, 20]⟩,
       ⟨(some (.l (.l (.r (.r (.l (.l (.l .z)))))))), .fieldA 6 (.t (.l (.r (.r .z)))), none, none, [0, 1, 2, 3, 4, 5, 6, 7, 8, 14, 15, 16, 17, 18, 19, 20, 21]⟩,
       ⟨none, .store 1 (.t (.l (.l (.r (.r (.l (.l (.l .z)))))))) (.t (.r (.l (.l (.l (.l (.l (.l .z)))))))), none, none, [0, 1, 2, 3, 4, 5, 6, 7, 8, 14, 15, 16, 17, 18, 19, 20, 21, 22]⟩,
       ⟨(some (.r (.l (.r (.r (.l (.l (.l .z)))))))), .fieldA 3 (.t (.l (.r (.r .z)))), none, none, [0, 1, 2, 3, 4, 5, 6, 7, 8, 9, 10, 11, 12, 13, 14, 15, 16, 17, 18, 19, 20, 21, 22, 23]⟩,
       ⟨none, .store 1 (.t (.r (.l (.r (.r (.l (.l (.l .z)))))))) (.t (.l (.r (.r (.l (.l (.l (.l .z)))))))), none, none, [0, 1, 2, 3, 4, 5, 6, 7, 8, 9, 10, 11, 12, 13, 14, 15, 16, 17, 18, 19, 20, 21, 22, 23, 24]⟩])
     (.region false 0 [
       ⟨(some (.l (.r (.r (.r (.l (.l (.l .z)))))))), .fieldA 2 (.t (.r (.l .z))), none, none, []⟩,
       ⟨(some (.r (.r (.r (.r (.l (.l (.l .z)))))))), .load false 1 (.t (.l (.r (.r (.r (.l (.l (.l .z)))))))), none, none, []⟩,
       ⟨(some (.l (.l (.l (.l (.r (.l (.l .z)))))))), .fieldA 0 (.t (.l (.r (.r .z)))), none, none, []⟩,
       ⟨(some (.r (.l (.l (.l (.r (.l (.l .z)))))))), .fieldA 0 (.t (.l (.l (.l (.l (.r (.l (.l .z)))))))), none, none, []⟩,
       ⟨(some (.l (.r (.l (.l (.r (.l (.l .z)))))))), .load false 1 (.t (.r (.l (.l (.l (.r (.l (.l .z)))))))), none, none, []⟩,
       ⟨(some (.r (.r (.l (.l (.r (.l (.l .z)))))))), .load true 9 (.t (.l (.r (.r .z)))), none, none, []⟩,
       ⟨(some (.l (.l (.r (.l (.r (.l (.l .z)))))))), .build [(.int .i64 0), (.int .i64 0), (.int .i64 0), (.int .i64 0), (.int .i64 0), (.int .i64 0), (.int .i64 0), (.int .u64 0), (.int .i64 0), (.int .i64 0), (.int .i64 0), (.int .i64 0), (.int .i64 0), (.int .i64 0), (.str [])] [(0, 1, (.c (.int .i64 1))), (1, 1, (.t (.l (.r (.l (.l (.r (.l (.l .z))))))))), (6, 9, (.t (.r (.r (.l (.l (.r (.l (.l .z)))))))))], none, none, []⟩,
       ⟨(some (.r (.l (.r (.l (.r (.l (.l .z)))))))), .slit 15 1 [(.int .i64 0), (.int .i64 0), (.int .i64 0), (.int .i64 0), (.int .i64 0), (.int .i64 0), (.int .i64 0), (.int .u64 0), (.int .i64 0), (.int .i64 0), (.int .i64 0), (.int .i64 0), (.int .i64 0), (.int .i64 0), (.str [])] [(0, (.t (.l (.l (.r (.l (.r (.l (.l .z)))))))))], none, none, []⟩,
       ⟨(some (.l (.r (.r (.l (.r (.l (.l .z)))))))), .app 15 128 (.t (.r (.r (.r (.r (.l (.l (.l .z)))))))) (.t (.r (.l (.r (.l (.r (.l (.l .z)))))))), none, none, []⟩,
       ⟨(some (.r (.r (.r (.l (.r (.l (.l .z)))))))), .fieldA 2 (.t (.r (.l .z))), none, none, []⟩,
       ⟨none, .store 1 (.t (.r (.r (.r (.l (.r (.l (.l .z)))))))) (.t (.l (.r (.r (.l (.r (.l (.l .z)))))))), none, none, []⟩])))))
    (.region false 0 [
      ⟨(some (.l (.l (.l (.l (.r (.r .z))))))), .mv (.t (.l (.l (.r .z)))), none, none, []⟩,
      ⟨(some (.r (.l (.l (.l (.r (.r .z))))))), .bin .add (.t (.l (.l (.l (.l (.r (.r .z))))))) (.c (.int .i64 1)), none, none, []⟩,
      ⟨(some (.l (.l (.r .z)))), .mv (.t (.r (.l (.l (.l (.r (.r .z))))))), none, none, []⟩]))))))
  (.seq (.region false 0 [
    ⟨(some (.l (.l (.l (.r (.r (.l (.l .z)))))))), .load true 3 (.t (.r (.l .z))), none, none, []⟩,
    ⟨none, .store 3 (.t (.r .z)) (.t (.l (.l (.l (.r (.r (.l (.l .z)))))))), none, none, []⟩])
  .ret)))))))⟩
def AF6 : AFunc := ⟨15, [.cell (.r .z) true 3],
  (.seq (.region false 0 [
    ⟨(some (.l .z)), .box 3 3 (.t .z), none, none, []⟩,
    ⟨(some (.r .z)), .alloc 3 [[.nilslice, .nilslice, .nilslice]], none, none, []⟩])
  (.seq (.region true 2 [
    ⟨(some (.l (.l .z))), .slit 16 0 [(.int .i64 0), (.int .u64 0), (.int .u64 0), (.int .u64 0), (.int .u64 0), (.int .i64 0), (.int .i64 0), (.int .i64 0), (.int .i64 0), (.int .i64 0), (.int .i64 0), (.int .i64 0), (.int .i64 0), (.int .i64 0), (.int .i64 0), (.int .i64 0)] [], none, (some 0), []⟩,
    ⟨(some (.r (.l .z))), .fieldA 0 (.t (.l .z)), none, none, []⟩,
    ⟨(some (.l (.r .z))), .load false 1 (.t (.r (.l .z))), none, none, [1]⟩,
    ⟨(some (.r (.r .z))), .app 16 128 (.t (.l (.l .z))) (.t (.l (.r .z))), none, none, [0, 1, 2]⟩,
    ⟨(some (.l (.l (.l .z)))), .fieldA 1 (.t (.l .z)), none, none, []⟩,
    ⟨(some (.r (.l (.l .z)))), .load false 1 (.t (.l (.l (.l .z)))), none, none, [4]⟩,
    ⟨(some (.l (.r (.l .z)))), .call 14 [(.t (.r (.l (.l .z))))], none, none, [0, 1, 2, 3, 4, 5]⟩,
    ⟨(some (.r (.r (.l .z)))), .slit 15 0 [(.int .i64 0), (.int .i64 0), (.int .i64 0), (.int .i64 0), (.int .i64 0), (.int .i64 0), (.int .i64 0), (.int .u64 0), (.int .i64 0), (.int .i64 0), (.int .i64 0), (.int .i64 0), (.int .i64 0), (.int .i64 0), (.str [])] [], none, (some 1), []⟩,
    ⟨(some (.l (.l (.r .z)))), .fieldA 2 (.t (.l .z)), none, none, []⟩,
    ⟨(some (.r (.l (.r .z)))), .load false 1 (.t (.l (.l (.r .z)))), none, none, [8]⟩,
    ⟨(some (.l (.r (.r .z)))), .app 15 128 (.t (.r (.r (.l .z)))) (.t (.r (.l (.r .z)))), none, none, [0, 1, 2, 3, 4, 5, 6, 7, 8, 9]⟩,
    ⟨(some (.r (.r (.r .z)))), .build [.nilslice, .nilslice, .nilslice] [(0, 1, (.t (.r (.r .z)))), (1, 1, (.t (.l (.r (.l .z))))), (2, 1, (.t (.l (.r (.r .z)))))], none, none, [0, 1, 2, 3, 4, 5, 6, 7, 8, 9, 10]⟩,
    ⟨none, .store 3 (.t (.r .z)) (.t (.r (.r (.r .z)))), none, none, [0, 1, 2, 3, 4, 5, 6, 7, 8, 9, 10, 11]⟩])
  .ret))⟩
def AF7 : AFunc := ⟨16, [.tmp (.r (.l .z))],
  (.seq (.region false 0 [
    ⟨(some (.r (.l .z))), .mv (.c (.int .i64 0)), none, none, []⟩])
  (.seq (.seq (.region false 0 [
    ⟨(some (.l (.r .z))), .mv (.t (.l .z)), none, none, []⟩,
    ⟨(some (.r (.r .z))), .bin .lss (.t (.l (.r .z))) (.c (.int .i64 1)), none, none, []⟩])
  (.cond (.t (.r (.r .z)))
  (.seq (.region false 0 [
     ⟨(some (.r (.l .z))), .mv (.c (.int .i64 0)), none, none, []⟩])
   .ret)
  .skip))
  (.seq (.region false 0 [
    ⟨(some (.l (.l (.l .z)))), .mv (.t .z), none, none, []⟩,
    ⟨(some (.r (.l (.l .z)))), .mv (.t (.l .z)), none, none, []⟩,
    ⟨(some (.l (.r (.l .z)))), .bin .rem (.t (.l (.l (.l .z)))) (.t (.r (.l (.l .z)))), none, none, []⟩,
    ⟨(some .z), .mv (.t (.l (.r (.l .z)))), none, none, []⟩])
  (.seq (.seq (.region false 0 [
    ⟨(some (.r (.r (.l .z)))), .mv (.t .z), none, none, []⟩,
    ⟨(some (.l (.l (.r .z)))), .bin .lss (.t (.r (.r (.l .z)))) (.c (.int .i64 0)), none, none, []⟩])
  (.cond (.t (.l (.l (.r .z))))
  (.region false 0 [
     ⟨(some (.r (.l (.r .z)))), .mv (.t .z), none, none, []⟩,
     ⟨(some (.l (.r (.r .z)))), .mv (.t (.l .z)), none, none, []⟩,
     ⟨(some (.r (.r (.r .z)))), .bin .add (.t (.r (.l (.r .z)))) (.t (.l (.r (.r .z)))), none, none, []⟩,
     ⟨(some .z), .mv (.t (.r (.r (.r .z)))), none, none, []⟩])
  .skip))
  (.seq (.region false 0 [
    ⟨(some (.l (.l (.l (.l .z))))), .mv (.t .z), none, none, []⟩,
    ⟨(some (.r (.l .z))), .mv (.t (.l (.l (.l (.l .z))))), none, none, []⟩])
  .ret)))))⟩
def AF8 : AFunc := ⟨16, [.tmp (.r .z)],
  (.seq (.region false 0 [
    ⟨(some (.l .z)), .box 3 3 (.t .z), none, none, []⟩,
    ⟨(some (.r .z)), .mv (.c (.bool false)), none, none, []⟩])
  (.seq (.region false 0 [
    ⟨(some (.r (.r .z))), .load true 3 (.t (.l .z)), none, none, []⟩,
    ⟨(some (.l (.l (.l .z)))), .call 15 [(.t (.r (.r .z)))], none, none, []⟩,
    ⟨(some (.l (.r .z))), .mv (.t (.l (.l (.l .z)))), none, none, []⟩,
    ⟨(some (.r (.l (.l .z)))), .ext (.t (.l (.r .z))) 0, none, none, []⟩,
    ⟨(some (.l (.r (.l .z)))), .ext (.t (.l (.r .z))) 1, none, none, []⟩,
    ⟨(some (.r (.l .z))), .alloc 2 [[(.int .i64 0), (.int .i64 0)]], none, none, []⟩,
    ⟨(some (.l (.l .z))), .mv (.t (.r (.l (.l .z)))), none, none, []⟩,
    ⟨none, .store 2 (.t (.r (.l .z))) (.t (.l (.r (.l .z)))), none, none, []⟩])
  (.seq (.region false 0 [
    ⟨(some (.r (.r (.l .z)))), .mv (.t (.l (.l .z))), none, none, []⟩,
    ⟨(some (.l (.l (.r .z)))), .mv (.t (.r (.r (.l .z)))), none, none, []⟩,
    ⟨(some (.r (.l (.r .z)))), .fieldA 0 (.t (.r (.l .z))), (some ((.l (.l (.r .z))), true)), none, []⟩,
    ⟨(some (.l (.r (.r .z)))), .load false 1 (.t (.r (.l (.r .z)))), (some ((.l (.l (.r .z))), true)), none, []⟩,
    ⟨(some (.r (.r (.r .z)))), .eql false false [.i] (.t (.l (.r (.r .z)))) (.c (.int .i64 0)), (some ((.l (.l (.r .z))), true)), none, []⟩,
    ⟨(some (.l (.l (.l (.l .z))))), .pick (.t (.l (.l (.r .z)))) (.t (.r (.r (.r .z)))) (.c (.bool false)), none, none, []⟩,
    ⟨(some (.r .z)), .mv (.t (.l (.l (.l (.l .z))))), none, none, []⟩])
  .ret)))⟩
def AF9 : AFunc := ⟨40, [.tmp .z],
  (.seq (.region false 0 [
    ⟨(some .z), .mv (.c (.bool false)), none, none, []⟩])
  (.seq (.region false 0 [
    ⟨(some (.r (.r .z))), .call 17 [(.c (.int .i64 800))], none, none, []⟩,
    ⟨(some (.l (.l (.l .z)))), .call 16 [(.t (.r (.r .z)))], none, none, []⟩,
    ⟨(some (.l (.r .z))), .mv (.t (.l (.l (.l .z)))), none, none, []⟩,
    ⟨(some (.r (.l (.l .z)))), .ext (.t (.l (.r .z))) 0, none, none, []⟩,
    ⟨(some (.l (.r (.l .z)))), .ext (.t (.l (.r .z))) 1, none, none, []⟩,
    ⟨(some (.r .z)), .alloc 2 [[(.int .i64 0), (.int .i64 0)]], none, none, []⟩,
    ⟨(some (.l .z)), .mv (.t (.r (.l (.l .z)))), none, none, []⟩,
    ⟨none, .store 2 (.t (.r .z)) (.t (.l (.r (.l .z)))), none, none, []⟩])
  (.seq (.region false 0 [
    ⟨(some (.l (.l (.r .z)))), .call 17 [(.c (.int .i64 800))], none, none, []⟩,
    ⟨(some (.r (.l (.r .z)))), .call 18 [(.t (.l (.l (.r .z))))], none, none, []⟩,
    ⟨(some (.r (.r (.l .z)))), .mv (.t (.r (.l (.r .z)))), none, none, []⟩,
    ⟨(some (.l (.r (.r .z)))), .ext (.t (.r (.r (.l .z)))) 0, none, none, []⟩,
    ⟨(some (.r (.r (.r .z)))), .ext (.t (.r (.r (.l .z)))) 1, none, none, []⟩,
    ⟨(some (.r (.l .z))), .alloc 2 [[(.int .i64 0), (.int .i64 0)]], none, none, []⟩,
    ⟨(some (.l (.l .z))), .mv (.t (.l (.r (.r .z)))), none, none, []⟩,
    ⟨none, .store 2 (.t (.r (.l .z))) (.t (.r (.r (.r .z)))), none, none, []⟩])
  (.seq (.region false 0 [
    ⟨(some (.l (.l (.l (.l .z))))), .mv (.t (.l .z)), none, none, []⟩,
    ⟨(some (.r (.l (.l (.l .z))))), .eql false false [.i] (.t (.l (.l (.l (.l .z))))) (.c (.int .i64 22)), none, none, []⟩,
    ⟨(some (.l (.r (.l (.l .z))))), .mv (.t (.r (.l (.l (.l .z))))), none, none, []⟩,
    ⟨(some (.r (.r (.l (.l .z))))), .mv (.t (.l (.l .z))), (some ((.l (.r (.l (.l .z)))), true)), none, []⟩,
    ⟨(some (.l (.l (.r (.l .z))))), .eql false false [.i] (.t (.r (.r (.l (.l .z))))) (.c (.int .i64 34)), (some ((.l (.r (.l (.l .z)))), true)), none, []⟩,
    ⟨(some (.r (.l (.r (.l .z))))), .pick (.t (.l (.r (.l (.l .z))))) (.t (.l (.l (.r (.l .z))))) (.c (.bool false)), none, none, []⟩,
    ⟨(some (.l (.r (.r (.l .z))))), .mv (.t (.r (.l (.r (.l .z))))), none, none, []⟩,
    ⟨(some (.r (.r (.r (.l .z))))), .fieldA 0 (.t (.r .z)), (some ((.l (.r (.r (.l .z)))), true)), none, []⟩,
    ⟨(some (.l (.l (.l (.r .z))))), .load false 1 (.t (.r (.r (.r (.l .z))))), (some ((.l (.r (.r (.l .z)))), true)), none, []⟩,
    ⟨(some (.r (.l (.l (.r .z))))), .eql false false [.i] (.t (.l (.l (.l (.r .z))))) (.c (.int .i64 0)), (some ((.l (.r (.r (.l .z)))), true)), none, []⟩,
    ⟨(some (.l (.r (.l (.r .z))))), .pick (.t (.l (.r (.r (.l .z))))) (.t (.r (.l (.l (.r .z))))) (.c (.bool false)), none, none, []⟩,
    ⟨(some (.r (.r (.l (.r .z))))), .mv (.t (.l (.r (.l (.r .z))))), none, none, []⟩,
    ⟨(some (.l (.l (.r (.r .z))))), .fieldA 0 (.t (.r (.l .z))), (some ((.r (.r (.l (.r .z)))), true)), none, []⟩,
    ⟨(some (.r (.l (.r (.r .z))))), .load false 1 (.t (.l (.l (.r (.r .z))))), (some ((.r (.r (.l (.r .z)))), true)), none, []⟩,
    ⟨(some (.l (.r (.r (.r .z))))), .eql false false [.i] (.t (.r (.l (.r (.r .z))))) (.c (.int .i64 0)), (some ((.r (.r (.l (.r .z)))), true)), none, []⟩,
    ⟨(some (.r (.r (.r (.r .z))))), .pick (.t (.r (.r (.l (.r .z))))) (.t (.l (.r (.r (.r .z))))) (.c (.bool false)), none, none, []⟩,
    ⟨(some (.l (.l (.l (.l (.l .z)))))), .mv (.t (.r (.r (.r (.r .z))))), none, none, []⟩,
    ⟨(some (.r (.l (.l (.l (.l .z)))))), .call 17 [(.c (.int .i64 800))], (some ((.l (.l (.l (.l (.l .z))))), true)), none, []⟩,
    ⟨(some (.l (.r (.l (.l (.l .z)))))), .call 8 [(.t (.r (.l (.l (.l (.l .z))))))], (some ((.l (.l (.l (.l (.l .z))))), true)), none, []⟩,
    ⟨(some (.r (.r (.l (.l (.l .z)))))), .pick (.t (.l (.l (.l (.l (.l .z)))))) (.t (.l (.r (.l (.l (.l .z)))))) (.c (.bool false)), none, none, []⟩,
    ⟨(some (.l (.l (.r (.l (.l .z)))))), .mv (.t (.r (.r (.l (.l (.l .z)))))), none, none, []⟩,
    ⟨(some (.r (.l (.r (.l (.l .z)))))), .call 17 [(.c (.int .i64 34))], (some ((.l (.l (.r (.l (.l .z))))), true)), none, []⟩,
    ⟨(some (.l (.r (.r (.l (.l .z)))))), .call 8 [(.t (.r (.l (.r (.l (.l .z))))))], (some ((.l (.l (.r (.l (.l .z))))), true)), none, []⟩,
    ⟨(some (.r (.r (.r (.l (.l .z)))))), .un .not (.t (.l (.r (.r (.l (.l .z)))))), (some ((.l (.l (.r (.l (.l .z))))), true)), none, []⟩,
    ⟨(some (.l (.l (.l (.r (.l .z)))))), .pick (.t (.l (.l (.r (.l (.l .z)))))) (.t (.r (.r (.r (.l (.l .z)))))) (.c (.bool false)), none, none, []⟩,
    ⟨(some .z), .mv (.t (.l (.l (.l (.r (.l .z)))))), none, none, []⟩])
  .ret))))⟩
def AF12 : AFunc := ⟨17, [.tmp (.r (.l .z))],
  (.seq (.region false 0 [
    ⟨(some (.r (.l .z))), .mv (.c (.int .i64 0)), none, none, []⟩])
  (.seq (.seq (.region false 0 [
    ⟨(some (.l (.r .z))), .mv (.t (.l .z)), none, none, []⟩,
    ⟨(some (.r (.r .z))), .bin .lss (.t (.l (.r .z))) (.c (.int .i64 0)), none, none, []⟩,
    ⟨(some (.l (.l (.l .z)))), .mv (.t (.r (.r .z))), none, none, []⟩,
    ⟨(some (.r (.l (.l .z)))), .mv (.t (.l .z)), (some ((.l (.l (.l .z))), false)), none, []⟩,
    ⟨(some (.l (.r (.l .z)))), .mv (.t .z), (some ((.l (.l (.l .z))), false)), none, []⟩,
    ⟨(some (.r (.r (.l .z)))), .len .slice (.t (.l (.r (.l .z)))), (some ((.l (.l (.l .z))), false)), none, []⟩,
    ⟨(some (.l (.l (.r .z)))), .bin .geq (.t (.r (.l (.l .z)))) (.t (.r (.r (.l .z)))), (some ((.l (.l (.l .z))), false)), none, []⟩,
    ⟨(some (.r (.l (.r .z)))), .pick (.t (.l (.l (.l .z)))) (.c (.bool true)) (.t (.l (.l (.r .z)))), none, none, []⟩])
  (.cond (.t (.r (.l (.r .z))))
  (.seq (.region false 0 [
     ⟨(some (.r (.l .z))), .mv (.c (.int .i64 0)), none, none, []⟩])
   .ret)
  .skip))
  (.seq (.region false 0 [
    ⟨(some (.l (.r (.r .z)))), .mv (.t .z), none, none, []⟩,
    ⟨(some (.r (.r (.r .z)))), .mv (.t (.l .z)), none, none, []⟩,
    ⟨(some (.l (.l (.l (.l .z))))), .idxS 1 (.t (.l (.r (.r .z)))) (.t (.r (.r (.r .z)))), none, none, []⟩,
    ⟨(some (.r (.l (.l (.l .z))))), .load false 1 (.t (.l (.l (.l (.l .z))))), none, none, []⟩,
    ⟨(some (.r (.l .z))), .mv (.t (.r (.l (.l (.l .z))))), none, none, []⟩])
  .ret)))⟩
def AF13 : AFunc := ⟨43, [.cell (.r .z) true 9],
  (.seq (.region false 0 [
    ⟨(some (.r .z)), .alloc 9 [[(.int .i64 0), (.int .u64 0), (.int .i64 0), (.int .i64 0), (.int .i64 0), (.int .i64 0), (.int .i64 0), (.int .i64 0), (.str [])]], none, none, []⟩])
  (.seq (.region false 0 [
    ⟨(some (.r (.r .z))), .mv (.t .z), none, none, []⟩,
    ⟨(some (.l (.l (.l .z)))), .call 7 [(.t (.r (.r .z))), (.c (.int .i64 1073741824))], none, none, []⟩,
    ⟨(some (.l (.l .z))), .mv (.t (.l (.l (.l .z)))), none, none, []⟩])
  (.seq (.region false 0 [
    ⟨(some (.r (.l .z))), .mv (.c (.str [])), none, none, []⟩])
  (.seq (.seq (.region false 0 [
    ⟨(some (.l (.r .z))), .mv (.c (.int .i64 0)), none, none, []⟩])
  (.block 0 (.loop (.seq (.seq (.region false 0 [
      ⟨(some (.r (.l (.l .z)))), .mv (.t (.l (.r .z))), none, none, []⟩,
      ⟨(some (.l (.r (.l .z)))), .mv (.t (.l (.l .z))), none, none, []⟩,
      ⟨(some (.r (.r (.l .z)))), .bin .rem (.t (.l (.r (.l .z)))) (.c (.int .i64 17)), none, none, []⟩,
      ⟨(some (.l (.l (.r .z)))), .bin .leq (.t (.r (.l (.l .z)))) (.t (.r (.r (.l .z)))), none, none, []⟩])
    (.cond (.t (.l (.l (.r .z))))
    .skip
    (.exit 0)))
    (.seq (.block 1 (.region false 0 [
       ⟨(some (.r (.r (.r .z)))), .mv (.t (.r (.l .z))), none, none, []⟩,
       ⟨(some (.l (.l (.l (.l .z))))), .mv (.t (.l (.l .z))), none, none, []⟩,
       ⟨(some (.r (.l (.l (.l .z))))), .mv (.t (.l (.r .z))), none, none, []⟩,
       ⟨(some (.l (.r (.l (.l .z))))), .conv (.toInt .u64) (.t (.r (.l (.l (.l .z))))), none, none, []⟩,
       ⟨(some (.r (.r (.l (.l .z))))), .bin .shr (.t (.l (.l (.l (.l .z))))) (.t (.l (.r (.l (.l .z))))), none, none, []⟩,
       ⟨(some (.l (.l (.r (.l .z))))), .conv (.toInt .u8) (.t (.r (.r (.l (.l .z))))), none, none, []⟩,
       ⟨(some (.r (.l (.r (.l .z))))), .slit 1 1 [(.int .u8 0)] [(0, (.t (.l (.l (.r (.l .z))))))], none, none, []⟩,
       ⟨(some (.l (.r (.r (.l .z))))), .conv .b2s (.t (.r (.l (.r (.l .z))))), none, none, []⟩,
       ⟨(some (.r (.r (.r (.l .z))))), .bin .add (.t (.r (.r (.r .z)))) (.t (.l (.r (.r (.l .z))))), none, none, []⟩,
       ⟨(some (.r (.l .z))), .mv (.t (.r (.r (.r (.l .z))))), none, none, []⟩]))
    (.region false 0 [
      ⟨(some (.r (.l (.r .z)))), .mv (.t (.l (.r .z))), none, none, []⟩,
      ⟨(some (.l (.r (.r .z)))), .bin .add (.t (.r (.l (.r .z)))) (.c (.int .i64 1)), none, none, []⟩,
      ⟨(some (.l (.r .z))), .mv (.t (.l (.r (.r .z)))), none, none, []⟩]))))))
  (.seq (.region false 0 [
    ⟨(some (.l (.l (.l (.r .z))))), .mv (.t (.l (.l .z))), none, none, []⟩,
    ⟨(some (.r (.l (.l (.r .z))))), .call 23 [(.t (.l (.l (.l (.r .z)))))], none, none, []⟩,
    ⟨(some (.l (.r (.l (.r .z))))), .mv (.t (.l (.l .z))), none, none, []⟩,
    ⟨(some (.r (.r (.l (.r .z))))), .bin .quo (.t (.l (.r (.l (.r .z))))) (.c (.int .i64 200)), none, none, []⟩,
    ⟨(some (.l (.l (.r (.r .z))))), .bin .rem (.t (.r (.r (.l (.r .z))))) (.c (.int .i64 4)), none, none, []⟩,
    ⟨(some (.r (.l (.r (.r .z))))), .bin .add (.c (.int .i64 1)) (.t (.l (.l (.r (.r .z))))), none, none, []⟩,
    ⟨(some (.l (.r (.r (.r .z))))), .mv (.t (.l (.l .z))), none, none, []⟩,
    ⟨(some (.r (.r (.r (.r .z))))), .bin .quo (.t (.l (.r (.r (.r .z))))) (.c (.int .i64 800)), none, none, []⟩,
    ⟨(some (.l (.l (.l (.l (.l .z)))))), .bin .rem (.t (.r (.r (.r (.r .z))))) (.c (.int .i64 3)), none, none, []⟩,
    ⟨(some (.r (.l (.l (.l (.l .z)))))), .mv (.t (.l (.l .z))), none, none, []⟩,
    ⟨(some (.l (.r (.l (.l (.l .z)))))), .bin .quo (.t (.r (.l (.l (.l (.l .z)))))) (.c (.int .i64 2400)), none, none, []⟩,
    ⟨(some (.r (.r (.l (.l (.l .z)))))), .bin .rem (.t (.l (.r (.l (.l (.l .z)))))) (.c (.int .i64 20)), none, none, []⟩,
    ⟨(some (.l (.l (.r (.l (.l .z)))))), .mv (.t (.l (.l .z))), none, none, []⟩,
    ⟨(some (.r (.l (.r (.l (.l .z)))))), .bin .quo (.t (.l (.l (.r (.l (.l .z)))))) (.c (.int .i64 48000)), none, none, []⟩,
    ⟨(some (.l (.r (.r (.l (.l .z)))))), .bin .rem (.t (.r (.l (.r (.l (.l .z)))))) (.c (.int .i64 60)), none, none, []⟩,
    ⟨(some (.r (.r (.r (.l (.l .z)))))), .bin .add (.c (.int .i64 1)) (.t (.l (.r (.r (.l (.l .z)))))), none, none, []⟩,
    ⟨(some (.l (.l (.l (.r (.l .z)))))), .mv (.t (.r (.l .z))), none, none, []⟩,
    ⟨(some (.r (.l (.l (.r (.l .z)))))), .len .str (.t (.l (.l (.l (.r (.l .z)))))), none, none, []⟩,
    ⟨(some (.l (.r (.l (.r (.l .z)))))), .mv (.t (.r (.l .z))), none, none, []⟩,
    ⟨(some (.r (.r (.l (.r (.l .z)))))), .build [(.int .i64 0), (.int .u64 0), (.int .i64 0), (.int .i64 0), (.int .i64 0), (.int .i64 0), (.int .i64 0), (.int .i64 0), (.str [])] [(0, 3, (.t (.r (.l (.l (.r .z)))))), (3, 1, (.t (.r (.l (.r (.r .z)))))), (4, 1, (.t (.l (.l (.l (.l (.l .z))))))), (5, 1, (.t (.r (.r (.l (.l (.l .z))))))), (6, 1, (.t (.r (.r (.r (.l (.l .z))))))), (7, 1, (.t (.r (.l (.l (.r (.l .z))))))), (8, 1, (.t (.l (.r (.l (.r (.l .z)))))))], none, none, []⟩,
    ⟨none, .store 9 (.t (.r .z)) (.t (.r (.r (.l (.r (.l .z)))))), none, none, []⟩])
  .ret)))))⟩
def AF14 : AFunc := ⟨6, [.tmp (.r .z)],
  (.seq (.region false 0 [
    ⟨(some (.r .z)), .mv (.c .nilslice), none, none, []⟩])
  (.seq (.region false 0 [
    ⟨(some (.l (.l .z))), .slit 6 0 [(.int .i64 0), (.int .i64 0), (.int .i64 0), (.int .i64 0), (.int .i64 0), (.int .i64 0)] [], none, none, []⟩,
    ⟨(some (.r (.l .z))), .mv (.t .z), none, none, []⟩,
    ⟨(some (.l (.r .z))), .app 6 48 (.t (.l (.l .z))) (.t (.r (.l .z))), none, none, []⟩,
    ⟨(some (.r .z)), .mv (.t (.l (.r .z))), none, none, []⟩])
  .ret))⟩
def AF15 : AFunc := ⟨57, [.tmp (.r .z), .cell (.l (.l .z)) true 2],
  (.seq (.region false 0 [
    ⟨(some (.l .z)), .box 3 3 (.t .z), none, none, []⟩,
    ⟨(some (.r .z)), .mv (.c (.bool false)), none, none, []⟩,
    ⟨(some (.l (.l .z))), .alloc 2 [[(.int .i64 0), (.int .i64 0)]], none, none, []⟩])
  (.seq (.seq (.region false 0 [
    ⟨(some (.r (.r (.r .z)))), .load true 3 (.t (.l .z)), none, none, []⟩,
    ⟨(some (.l (.l (.l (.l .z))))), .call 24 [(.t (.r (.r (.r .z))))], none, none, []⟩,
    ⟨(some (.r (.l .z))), .alloc 2 [[(.int .i64 0), (.int .i64 0)]], none, none, []⟩,
    ⟨none, .store 2 (.t (.r (.l .z))) (.t (.l (.l (.l (.l .z))))), none, none, []⟩])
  (.seq (.region false 0 [
    ⟨(some (.r (.l (.l (.l .z))))), .fieldA 0 (.t (.r (.l .z))), none, none, []⟩,
    ⟨(some (.l (.r (.l (.l .z))))), .load false 1 (.t (.r (.l (.l (.l .z))))), none, none, []⟩,
    ⟨(some (.r (.r (.l (.l .z))))), .eql true false [.i] (.t (.l (.r (.l (.l .z))))) (.c (.int .i64 0)), none, none, []⟩])
  (.cond (.t (.r (.r (.l (.l .z)))))
  (.seq (.region true 0 [
     ⟨(some (.l (.l (.r (.l .z))))), .load true 2 (.t (.r (.l .z))), none, none, []⟩,
     ⟨(some (.r .z)), .mv (.c (.bool false)), none, none, []⟩,
     ⟨none, .store 2 (.t (.l (.l .z))) (.t (.l (.l (.r (.l .z))))), none, none, [0, 1]⟩])
   .ret)
  .skip)))
  (.seq (.region false 0 [
    ⟨(some (.r (.l (.r (.l .z))))), .load true 3 (.t (.l .z)), none, none, []⟩,
    ⟨(some (.l (.r (.r (.l .z))))), .call 25 [(.t (.r (.l (.r (.l .z)))))], none, none, []⟩,
    ⟨(some (.r (.r (.r (.l .z))))), .call 26 [(.t (.l (.r (.r (.l .z)))))], none, none, []⟩,
    ⟨(some (.l (.r .z))), .alloc 1 [[(.int .i64 0)]], none, none, []⟩,
    ⟨(some (.r (.r .z))), .alloc 1 [[(.int .i64 0)]], none, none, []⟩,
    ⟨none, .store 1 (.t (.l (.r .z))) (.t (.r (.r (.r (.l .z))))), none, none, []⟩,
    ⟨none, .store 1 (.t (.r (.r .z))) (.c (.int .i64 0)), none, none, []⟩])
  (.seq (.seq (.region false 0 [
    ⟨(some (.l (.l (.l (.r .z))))), .fieldA 2 (.t (.l .z)), none, none, []⟩,
    ⟨(some (.r (.l (.l (.r .z))))), .load false 1 (.t (.l (.l (.l (.r .z))))), none, none, []⟩,
    ⟨(some (.l (.r (.l (.r .z))))), .len .slice (.t (.r (.l (.l (.r .z))))), none, none, []⟩,
    ⟨(some (.r (.r (.l (.r .z))))), .mv (.c (.int .i64 0)), none, none, []⟩])
  (.block 0 (.loop (.seq (.region false 0 [
      ⟨(some (.l (.l (.r (.r .z))))), .bin .lss (.t (.r (.r (.l (.r .z))))) (.t (.l (.r (.l (.r .z))))), none, none, []⟩])
    (.seq (.cond (.t (.l (.l (.r (.r .z)))))
    .skip
    (.exit 0))
    (.seq (.block 1 (.seq (.region false 0 [
       ⟨(some (.r (.l (.r (.r .z))))), .idxS 15 (.t (.r (.l (.l (.r .z))))) (.t (.r (.r (.l (.r .z))))), none, none, []⟩,
       ⟨(some (.l (.r (.r (.r .z))))), .load true 15 (.t (.r (.l (.r (.r .z))))), none, none, []⟩,
       ⟨(some (.r (.l (.l .z)))), .alloc 15 [[(.int .i64 0), (.int .i64 0), (.int .i64 0), (.int .i64 0), (.int .i64 0), (.int .i64 0), (.int .i64 0), (.int .u64 0), (.int .i64 0), (.int .i64 0), (.int .i64 0), (.int .i64 0), (.int .i64 0), (.int .i64 0), (.str [])]], none, none, []⟩,
       ⟨none, .store 15 (.t (.r (.l (.l .z)))) (.t (.l (.r (.r (.r .z))))), none, none, []⟩])
     (.seq (.region false 0 [
       ⟨(some (.r (.r (.r (.r .z))))), .fieldA 0 (.t (.r (.l (.l .z)))), none, none, []⟩,
       ⟨(some (.l (.l (.l (.l (.l .z)))))), .load false 1 (.t (.r (.r (.r (.r .z))))), none, none, []⟩,
       ⟨(some (.r (.l (.l (.l (.l .z)))))), .eql false false [.i] (.t (.l (.l (.l (.l (.l .z)))))) (.c (.int .i64 1)), none, none, []⟩])
     (.cond (.t (.r (.l (.l (.l (.l .z))))))
     (.region true 0 [
        ⟨(some (.l (.r (.l (.l (.l .z)))))), .load false 1 (.t (.r (.r .z))), none, none, []⟩,
        ⟨(some (.r (.r (.l (.l (.l .z)))))), .fieldA 6 (.t (.r (.l (.l .z)))), none, none, []⟩,
        ⟨(some (.l (.l (.r (.l (.l .z)))))), .load true 9 (.t (.r (.r (.l (.l (.l .z)))))), none, none, [1]⟩,
        ⟨(some (.r (.l (.r (.l (.l .z)))))), .call 27 [(.t (.l (.l (.r (.l (.l .z))))))], none, none, [1, 2]⟩,
        ⟨(some (.l (.r (.r (.l (.l .z)))))), .bin .add (.t (.l (.r (.l (.l (.l .z)))))) (.t (.r (.l (.r (.l (.l .z)))))), none, none, [0, 1, 2, 3]⟩,
        ⟨none, .store 1 (.t (.r (.r .z))) (.t (.l (.r (.r (.l (.l .z)))))), none, none, [0, 1, 2, 3, 4]⟩])
     .skip))))
    (.region false 0 [
      ⟨(some (.r (.r (.r (.l (.l .z)))))), .bin .add (.t (.r (.r (.l (.r .z))))) (.c (.int .i64 1)), none, none, []⟩,
      ⟨(some (.r (.r (.l (.r .z))))), .mv (.t (.r (.r (.r (.l (.l .z)))))), none, none, []⟩])))))))
  (.seq (.region false 0 [
    ⟨(some (.l (.l (.l (.r (.l .z)))))), .mkfunc 28 [] [(.t (.l .z)), (.t (.l (.r .z)))], none, none, []⟩,
    ⟨(some (.l (.r (.l .z)))), .alloc 1 [[.nilFunc]], none, none, []⟩,
    ⟨none, .store 1 (.t (.l (.r (.l .z)))) (.t (.l (.l (.l (.r (.l .z)))))), none, none, []⟩])
  (.seq (.region false 0 [
    ⟨(some (.r (.l (.l (.r (.l .z)))))), .mkfunc 31 [] [(.t (.l (.r .z))), (.t (.l .z))], none, none, []⟩,
    ⟨(some (.r (.r (.l .z)))), .alloc 1 [[.nilFunc]], none, none, []⟩,
    ⟨none, .store 1 (.t (.r (.r (.l .z)))) (.t (.r (.l (.l (.r (.l .z)))))), none, none, []⟩])
  (.seq (.region false 0 [
    ⟨(some (.l (.r (.l (.r (.l .z)))))), .mkfunc 34 [] [(.t (.l .z)), (.t (.r (.r .z)))], none, none, []⟩,
    ⟨(some (.l (.l (.r .z)))), .alloc 1 [[.nilFunc]], none, none, []⟩,
    ⟨none, .store 1 (.t (.l (.l (.r .z)))) (.t (.l (.r (.l (.r (.l .z)))))), none, none, []⟩])
  (.seq (.seq (.region false 0 [
    ⟨(some (.r (.r (.l (.r (.l .z)))))), .mkfunc 37 [] [(.t (.l .z)), (.t (.l (.r (.l .z))))], none, none, []⟩,
    ⟨(some (.l (.l (.r (.r (.l .z)))))), .mkfunc 38 [] [(.t (.l .z)), (.t (.r (.r (.l .z))))], none, none, []⟩,
    ⟨(some (.r (.l (.r (.r (.l .z)))))), .mkfunc 40 [] [(.t (.r (.r .z))), (.t (.l .z)), (.t (.l (.l (.r .z))))], none, none, []⟩,
    ⟨(some (.l (.r (.r (.r (.l .z)))))), .slit 1 3 [.nilFunc] [(0, (.t (.r (.r (.l (.r (.l .z))))))), (1, (.t (.l (.l (.r (.r (.l .z))))))), (2, (.t (.r (.l (.r (.r (.l .z)))))))], none, none, []⟩,
    ⟨(some (.r (.r (.r (.r (.l .z)))))), .len .slice (.t (.l (.r (.r (.r (.l .z)))))), none, none, []⟩,
    ⟨(some (.l (.l (.l (.l (.r .z)))))), .mv (.c (.int .i64 0)), none, none, []⟩])
  (.block 2 (.loop (.seq (.region false 0 [
      ⟨(some (.r (.l (.l (.l (.r .z)))))), .bin .lss (.t (.l (.l (.l (.l (.r .z)))))) (.t (.r (.r (.r (.r (.l .z)))))), none, none, []⟩])
    (.seq (.cond (.t (.r (.l (.l (.l (.r .z))))))
    .skip
    (.exit 2))
    (.seq (.block 3 (.seq (.region false 0 [
       ⟨(some (.l (.r (.l (.l (.r .z)))))), .idxS 1 (.t (.l (.r (.r (.r (.l .z)))))) (.t (.l (.l (.l (.l (.r .z)))))), none, none, []⟩,
       ⟨(some (.r (.r (.l (.l (.r .z)))))), .load false 1 (.t (.l (.r (.l (.l (.r .z)))))), none, none, []⟩,
       ⟨(some (.l (.r (.r .z)))), .mv (.t (.r (.r (.l (.l (.r .z)))))), none, none, []⟩])
     (.seq (.region false 0 [
       ⟨(some (.l (.l (.r (.l (.r .z)))))), .mv (.t (.l (.r (.r .z)))), none, none, []⟩,
       ⟨(some (.r (.l (.r (.l (.r .z)))))), .callv (.t (.l (.l (.r (.l (.r .z)))))) [], none, none, []⟩,
       ⟨(some (.l (.r (.r (.l (.r .z)))))), .un .not (.t (.r (.l (.r (.l (.r .z)))))), none, none, []⟩])
     (.cond (.t (.l (.r (.r (.l (.r .z))))))
     (.seq (.region false 0 [
        ⟨(some (.r (.r (.r (.l (.r .z)))))), .build [(.int .i64 0), (.int .i64 0)] [], none, none, []⟩,
        ⟨(some (.r .z)), .mv (.c (.bool false)), none, none, []⟩,
        ⟨none, .store 2 (.t (.l (.l .z))) (.t (.r (.r (.r (.l (.r .z)))))), none, none, []⟩])
      .ret)
     .skip))))
    (.region false 0 [
      ⟨(some (.l (.l (.l (.r (.r .z)))))), .bin .add (.t (.l (.l (.l (.l (.r .z)))))) (.c (.int .i64 1)), none, none, []⟩,
      ⟨(some (.l (.l (.l (.l (.r .z)))))), .mv (.t (.l (.l (.l (.r (.r .z)))))), none, none, []⟩])))))))
  (.seq (.region false 0 [
    ⟨(some (.r (.l (.l (.r (.r .z)))))), .build [(.int .i64 0), (.int .i64 0)] [], none, none, []⟩,
    ⟨(some (.r .z)), .mv (.c (.bool true)), none, none, []⟩,
    ⟨none, .store 2 (.t (.l (.l .z))) (.t (.r (.l (.l (.r (.r .z)))))), none, none, []⟩])
  .ret)))))))))⟩
def AF16 : AFunc := ⟨15, [.tmp (.r .z), .cell (.l (.l .z)) true 2],
  (.seq (.region false 0 [
    ⟨(some (.l .z)), .box 3 3 (.t .z), none, none, []⟩,
    ⟨(some (.r .z)), .mv (.c (.int .i64 0)), none, none, []⟩,
    ⟨(some (.l (.l .z))), .alloc 2 [[(.int .i64 0), (.int .i64 0)]], none, none, []⟩])
  (.seq (.seq (.region false 0 [
    ⟨(some (.l (.r .z))), .load true 3 (.t (.l .z)), none, none, []⟩,
    ⟨(some (.r (.r .z))), .call 24 [(.t (.l (.r .z)))], none, none, []⟩,
    ⟨(some (.r (.l .z))), .alloc 2 [[(.int .i64 0), (.int .i64 0)]], none, none, []⟩,
    ⟨none, .store 2 (.t (.r (.l .z))) (.t (.r (.r .z))), none, none, []⟩])
  (.seq (.region false 0 [
    ⟨(some (.l (.l (.l .z)))), .fieldA 0 (.t (.r (.l .z))), none, none, []⟩,
    ⟨(some (.r (.l (.l .z)))), .load false 1 (.t (.l (.l (.l .z)))), none, none, []⟩,
    ⟨(some (.l (.r (.l .z)))), .eql true false [.i] (.t (.r (.l (.l .z)))) (.c (.int .i64 0)), none, none, []⟩])
  (.cond (.t (.l (.r (.l .z))))
  (.seq (.region true 0 [
     ⟨(some (.r (.r (.l .z)))), .load true 2 (.t (.r (.l .z))), none, none, []⟩,
     ⟨(some (.r .z)), .mv (.c (.int .i64 0)), none, none, []⟩,
     ⟨none, .store 2 (.t (.l (.l .z))) (.t (.r (.r (.l .z)))), none, none, [0, 1]⟩])
   .ret)
  .skip)))
  (.seq (.region false 0 [
    ⟨(some (.l (.l (.r .z)))), .load true 3 (.t (.l .z)), none, none, []⟩,
    ⟨(some (.r (.l (.r .z)))), .call 25 [(.t (.l (.l (.r .z))))], none, none, []⟩,
    ⟨(some (.l (.r (.r .z)))), .call 42 [(.t (.r (.l (.r .z))))], none, none, []⟩,
    ⟨(some (.r (.r (.r .z)))), .build [(.int .i64 0), (.int .i64 0)] [], none, none, []⟩,
    ⟨(some (.r .z)), .mv (.t (.l (.r (.r .z)))), none, none, []⟩,
    ⟨none, .store 2 (.t (.l (.l .z))) (.t (.r (.r (.r .z)))), none, none, []⟩])
  .ret)))⟩
def AF17 : AFunc := ⟨20, [.cell (.r .z) true 3],
  (.seq (.region false 0 [
    ⟨(some (.r .z)), .alloc 3 [[.nilslice, .nilslice, .nilslice]], none, none, []⟩])
  (.seq (.region false 0 [
    ⟨(some (.l (.r .z))), .build [(.int .i64 0), (.int .i64 0), (.int .i64 0)] [(0, 1, (.c (.int .i64 1))), (1, 1, (.c (.int .i64 2))), (2, 1, (.c (.int .i64 3)))], none, none, []⟩,
    ⟨(some (.r (.r .z))), .build [(.int .i64 0), (.int .u64 0), (.int .u64 0), (.int .u64 0), (.int .u64 0), (.int .i64 0), (.int .i64 0), (.int .i64 0), (.int .i64 0), (.int .i64 0), (.int .i64 0), (.int .i64 0), (.int .i64 0), (.int .i64 0), (.int .i64 0), (.int .i64 0)] [(0, 1, (.c (.int .i64 1))), (1, 1, (.c (.int .u64 2000))), (2, 1, (.c (.int .u64 500))), (3, 1, (.c (.int .u64 300))), (4, 1, (.c (.int .u64 100))), (5, 1, (.c (.int .i64 5))), (6, 1, (.c (.int .i64 50))), (8, 3, (.t (.l (.r .z)))), (11, 1, (.c (.int .i64 100))), (12, 1, (.c (.int .i64 1))), (13, 1, (.c (.int .i64 1000))), (14, 1, (.c (.int .i64 1024))), (15, 1, (.c (.int .i64 500)))], none, none, []⟩,
    ⟨(some (.l (.l .z))), .alloc 1 [[(.int .i64 0)], [(.int .u64 0)], [(.int .u64 0)], [(.int .u64 0)], [(.int .u64 0)], [(.int .i64 0)], [(.int .i64 0)], [(.int .i64 0)], [(.int .i64 0)], [(.int .i64 0)], [(.int .i64 0)], [(.int .i64 0)], [(.int .i64 0)], [(.int .i64 0)], [(.int .i64 0)], [(.int .i64 0)]], none, none, []⟩,
    ⟨none, .store 16 (.t (.l (.l .z))) (.t (.r (.r .z))), none, none, []⟩])
  (.seq (.region false 0 [
    ⟨(some (.l (.l (.l .z)))), .load true 16 (.t (.l (.l .z))), none, none, []⟩,
    ⟨(some (.r (.l .z))), .alloc 1 [[(.int .i64 0)], [(.int .u64 0)], [(.int .u64 0)], [(.int .u64 0)], [(.int .u64 0)], [(.int .i64 0)], [(.int .i64 0)], [(.int .i64 0)], [(.int .i64 0)], [(.int .i64 0)], [(.int .i64 0)], [(.int .i64 0)], [(.int .i64 0)], [(.int .i64 0)], [(.int .i64 0)], [(.int .i64 0)]], none, none, []⟩,
    ⟨none, .store 16 (.t (.r (.l .z))) (.t (.l (.l (.l .z)))), none, none, []⟩])
  (.seq (.region false 0 [
    ⟨(some (.r (.l (.l .z)))), .fieldA 0 (.t (.r (.l .z))), none, none, []⟩,
    ⟨none, .store 1 (.t (.r (.l (.l .z)))) (.c (.int .i64 2)), none, none, []⟩])
  (.seq (.region true 3 [
    ⟨(some (.l (.r (.l .z)))), .load true 16 (.t (.l (.l .z))), none, none, []⟩,
    ⟨(some (.r (.r (.l .z)))), .load true 16 (.t (.r (.l .z))), none, none, []⟩,
    ⟨(some (.l (.l (.r .z)))), .slit 16 2 [(.int .i64 0), (.int .u64 0), (.int .u64 0), (.int .u64 0), (.int .u64 0), (.int .i64 0), (.int .i64 0), (.int .i64 0), (.int .i64 0), (.int .i64 0), (.int .i64 0), (.int .i64 0), (.int .i64 0), (.int .i64 0), (.int .i64 0), (.int .i64 0)] [(0, (.t (.l (.r (.l .z))))), (1, (.t (.r (.r (.l .z)))))], none, (some 0), [0, 1]⟩,
    ⟨(some (.r (.l (.r .z)))), .build [(.int .i64 0), (.int .i64 0), (.int .i64 0), (.int .i64 0), (.int .i64 0), (.int .i64 0)] [(0, 1, (.c (.int .i64 1))), (1, 1, (.c (.int .i64 2))), (2, 1, (.c (.int .i64 0))), (3, 1, (.c (.int .i64 900))), (4, 1, (.c (.int .i64 400)))], none, none, []⟩,
    ⟨(some (.l (.r (.r .z)))), .build [(.int .i64 0), (.int .i64 0), (.int .i64 0), (.int .i64 0), (.int .i64 0), (.int .i64 0)] [(0, 1, (.c (.int .i64 2))), (1, 1, (.c (.int .i64 1))), (2, 1, (.c (.int .i64 0))), (3, 1, (.c (.int .i64 900))), (4, 1, (.c (.int .i64 400)))], none, none, []⟩,
    ⟨(some (.r (.r (.r .z)))), .slit 6 2 [(.int .i64 0), (.int .i64 0), (.int .i64 0), (.int .i64 0), (.int .i64 0), (.int .i64 0)] [(0, (.t (.r (.l (.r .z))))), (1, (.t (.l (.r (.r .z)))))], none, (some 1), [3, 4]⟩,
    ⟨(some (.l (.l (.l (.l .z))))), .mv (.t .z), none, none, []⟩,
    ⟨(some (.r (.l (.l (.l .z))))), .call 43 [(.t (.l (.l (.l (.l .z)))))], none, none, [6]⟩,
    ⟨(some (.l (.r (.l (.l .z))))), .build [(.int .i64 0), (.int .i64 0), (.int .i64 0), (.int .i64 0), (.int .i64 0), (.int .i64 0), (.int .i64 0), (.int .u64 0), (.int .i64 0), (.int .i64 0), (.int .i64 0), (.int .i64 0), (.int .i64 0), (.int .i64 0), (.str [])] [(0, 1, (.c (.int .i64 1))), (1, 1, (.c (.int .i64 1))), (6, 9, (.t (.r (.l (.l (.l .z))))))], none, none, [6, 7]⟩,
    ⟨(some (.r (.r (.l (.l .z))))), .slit 15 1 [(.int .i64 0), (.int .i64 0), (.int .i64 0), (.int .i64 0), (.int .i64 0), (.int .i64 0), (.int .i64 0), (.int .u64 0), (.int .i64 0), (.int .i64 0), (.int .i64 0), (.int .i64 0), (.int .i64 0), (.int .i64 0), (.str [])] [(0, (.t (.l (.r (.l (.l .z))))))], none, (some 2), [6, 7, 8]⟩,
    ⟨(some (.l (.l (.r (.l .z))))), .build [.nilslice, .nilslice, .nilslice] [(0, 1, (.t (.l (.l (.r .z))))), (1, 1, (.t (.r (.r (.r .z))))), (2, 1, (.t (.r (.r (.l (.l .z))))))], none, none, [0, 1, 2, 3, 4, 5, 6, 7, 8, 9]⟩,
    ⟨none, .store 3 (.t (.r .z)) (.t (.l (.l (.r (.l .z))))), none, none, [0, 1, 2, 3, 4, 5, 6, 7, 8, 9, 10]⟩])
  .ret)))))⟩
def AF18 : AFunc := ⟨15, [.tmp (.r .z), .cell (.l (.l .z)) true 2],
  (.seq (.region false 0 [
    ⟨(some (.l .z)), .box 3 3 (.t .z), none, none, []⟩,
    ⟨(some (.r .z)), .mv (.c (.int .i64 0)), none, none, []⟩,
    ⟨(some (.l (.l .z))), .alloc 2 [[(.int .i64 0), (.int .i64 0)]], none, none, []⟩])
  (.seq (.seq (.region false 0 [
    ⟨(some (.l (.r .z))), .load true 3 (.t (.l .z)), none, none, []⟩,
    ⟨(some (.r (.r .z))), .call 24 [(.t (.l (.r .z)))], none, none, []⟩,
    ⟨(some (.r (.l .z))), .alloc 2 [[(.int .i64 0), (.int .i64 0)]], none, none, []⟩,
    ⟨none, .store 2 (.t (.r (.l .z))) (.t (.r (.r .z))), none, none, []⟩])
  (.seq (.region false 0 [
    ⟨(some (.l (.l (.l .z)))), .fieldA 0 (.t (.r (.l .z))), none, none, []⟩,
    ⟨(some (.r (.l (.l .z)))), .load false 1 (.t (.l (.l (.l .z)))), none, none, []⟩,
    ⟨(some (.l (.r (.l .z)))), .eql true false [.i] (.t (.r (.l (.l .z)))) (.c (.int .i64 0)), none, none, []⟩])
  (.cond (.t (.l (.r (.l .z))))
  (.seq (.region true 0 [
     ⟨(some (.r (.r (.l .z)))), .load true 2 (.t (.r (.l .z))), none, none, []⟩,
     ⟨(some (.r .z)), .mv (.c (.int .i64 0)), none, none, []⟩,
     ⟨none, .store 2 (.t (.l (.l .z))) (.t (.r (.r (.l .z)))), none, none, [0, 1]⟩])
   .ret)
  .skip)))
  (.seq (.region false 0 [
    ⟨(some (.l (.l (.r .z)))), .load true 3 (.t (.l .z)), none, none, []⟩,
    ⟨(some (.r (.l (.r .z)))), .call 25 [(.t (.l (.l (.r .z))))], none, none, []⟩,
    ⟨(some (.l (.r (.r .z)))), .call 26 [(.t (.r (.l (.r .z))))], none, none, []⟩,
    ⟨(some (.r (.r (.r .z)))), .build [(.int .i64 0), (.int .i64 0)] [], none, none, []⟩,
    ⟨(some (.r .z)), .mv (.t (.l (.r (.r .z)))), none, none, []⟩,
    ⟨none, .store 2 (.t (.l (.l .z))) (.t (.r (.r (.r .z)))), none, none, []⟩])
  .ret)))⟩
def AF23 : AFunc := ⟨14, [.cell (.r .z) true 3],
  (.seq (.region false 0 [
    ⟨(some (.r .z)), .alloc 3 [[(.int .i64 0), (.int .u64 0), (.int .i64 0)]], none, none, []⟩])
  (.seq (.region false 0 [
    ⟨(some (.r (.l .z))), .mv (.t .z), none, none, []⟩,
    ⟨(some (.l (.r .z))), .call 7 [(.t (.r (.l .z))), (.c (.int .i64 1073741824))], none, none, []⟩,
    ⟨(some (.l (.l .z))), .mv (.t (.l (.r .z))), none, none, []⟩])
  (.seq (.region false 0 [
    ⟨(some (.r (.r .z))), .mv (.t (.l (.l .z))), none, none, []⟩,
    ⟨(some (.l (.l (.l .z)))), .bin .rem (.t (.r (.r .z))) (.c (.int .i64 4)), none, none, []⟩,
    ⟨(some (.r (.l (.l .z)))), .bin .add (.c (.int .i64 1)) (.t (.l (.l (.l .z)))), none, none, []⟩,
    ⟨(some (.l (.r (.l .z)))), .mv (.t (.l (.l .z))), none, none, []⟩,
    ⟨(some (.r (.r (.l .z)))), .bin .quo (.t (.l (.r (.l .z)))) (.c (.int .i64 4)), none, none, []⟩,
    ⟨(some (.l (.l (.r .z)))), .bin .rem (.t (.r (.r (.l .z)))) (.c (.int .i64 50)), none, none, []⟩,
    ⟨(some (.r (.l (.r .z)))), .conv (.toInt .u64) (.t (.l (.l (.r .z)))), none, none, []⟩,
    ⟨(some (.l (.r (.r .z)))), .build [(.int .i64 0), (.int .u64 0), (.int .i64 0)] [(0, 1, (.t (.r (.l (.l .z))))), (1, 1, (.t (.r (.l (.r .z)))))], none, none, []⟩,
    ⟨none, .store 3 (.t (.r .z)) (.t (.l (.r (.r .z)))), none, none, []⟩])
  .ret)))⟩
def AF24 : AFunc := ⟨87, [.cell (.r .z) true 2],
  (.seq (.region false 0 [
    ⟨(some (.l .z)), .box 3 3 (.t .z), none, none, []⟩,
    ⟨(some (.r .z)), .alloc 2 [[(.int .i64 0), (.int .i64 0)]], none, none, []⟩])
  (.seq (.seq (.region false 0 [
    ⟨(some (.l (.l (.r .z)))), .fieldA 0 (.t (.l .z)), none, none, []⟩,
    ⟨(some (.r (.l (.r .z)))), .load false 1 (.t (.l (.l (.r .z)))), none, none, []⟩,
    ⟨(some (.l (.r (.r .z)))), .len .slice (.t (.r (.l (.r .z)))), none, none, []⟩,
    ⟨(some (.r (.r (.r .z)))), .eql false false [.i] (.t (.l (.r (.r .z)))) (.c (.int .i64 0)), none, none, []⟩])
  (.cond (.t (.r (.r (.r .z))))
  (.seq (.region false 0 [
     ⟨(some (.l (.l (.l (.l .z))))), .build [(.int .i64 0), (.int .i64 0)] [(0, 1, (.c (.int .i64 8)))], none, none, []⟩,
     ⟨none, .store 2 (.t (.r .z)) (.t (.l (.l (.l (.l .z))))), none, none, []⟩])
   .ret)
  .skip))
  (.seq (.seq (.region false 0 [
    ⟨(some (.r (.l (.l (.l .z))))), .fieldA 0 (.t (.l .z)), none, none, []⟩,
    ⟨(some (.l (.r (.l (.l .z))))), .load false 1 (.t (.r (.l (.l (.l .z))))), none, none, []⟩,
    ⟨(some (.r (.r (.l (.l .z))))), .len .slice (.t (.l (.r (.l (.l .z))))), none, none, []⟩,
    ⟨(some (.l (.l (.r (.l .z))))), .bin .gtr (.t (.r (.r (.l (.l .z))))) (.c (.int .i64 16)), none, none, []⟩])
  (.cond (.t (.l (.l (.r (.l .z)))))
  (.seq (.region false 0 [
     ⟨(some (.r (.l (.r (.l .z))))), .build [(.int .i64 0), (.int .i64 0)] [(0, 1, (.c (.int .i64 5)))], none, none, []⟩,
     ⟨none, .store 2 (.t (.r .z)) (.t (.r (.l (.r (.l .z))))), none, none, []⟩])
   .ret)
  .skip))
  (.seq (.seq (.region false 0 [
    ⟨(some (.l (.r (.r (.l .z))))), .fieldA 0 (.t (.l .z)), none, none, []⟩,
    ⟨(some (.r (.r (.r (.l .z))))), .load false 1 (.t (.l (.r (.r (.l .z))))), none, none, []⟩,
    ⟨(some (.l (.l (.l (.r .z))))), .len .slice (.t (.r (.r (.r (.l .z))))), none, none, []⟩,
    ⟨(some (.r (.l (.l (.r .z))))), .mv (.c (.int .i64 0)), none, none, []⟩])
  (.block 0 (.loop (.seq (.region false 0 [
      ⟨(some (.l (.r (.l (.r .z))))), .bin .lss (.t (.r (.l (.l (.r .z))))) (.t (.l (.l (.l (.r .z))))), none, none, []⟩])
    (.seq (.cond (.t (.l (.r (.l (.r .z)))))
    .skip
    (.exit 0))
    (.seq (.block 1 (.seq (.region false 0 [
       ⟨(some (.r (.r (.l (.r .z))))), .mv (.t (.r (.l (.l (.r .z))))), none, none, []⟩,
       ⟨(some (.l (.l (.r (.r .z))))), .idxS 16 (.t (.r (.r (.r (.l .z))))) (.t (.r (.l (.l (.r .z))))), none, none, []⟩,
       ⟨(some (.r (.l (.r (.r .z))))), .load true 16 (.t (.l (.l (.r (.r .z))))), none, none, []⟩,
       ⟨(some (.r (.l .z))), .alloc 1 [[(.int .i64 0)], [(.int .u64 0)], [(.int .u64 0)], [(.int .u64 0)], [(.int .u64 0)], [(.int .i64 0)], [(.int .i64 0)], [(.int .i64 0)], [(.int .i64 0)], [(.int .i64 0)], [(.int .i64 0)], [(.int .i64 0)], [(.int .i64 0)], [(.int .i64 0)], [(.int .i64 0)], [(.int .i64 0)]], none, none, []⟩,
       ⟨(some (.l (.l .z))), .mv (.t (.r (.r (.l (.r .z))))), none, none, []⟩,
       ⟨none, .store 16 (.t (.r (.l .z))) (.t (.r (.l (.r (.r .z))))), none, none, []⟩])
     (.seq (.seq (.region false 0 [
       ⟨(some (.l (.r (.r (.r .z))))), .load true 16 (.t (.r (.l .z))), none, none, []⟩,
       ⟨(some (.r (.r (.r (.r .z))))), .call 44 [(.t (.l (.r (.r (.r .z)))))], none, none, []⟩,
       ⟨(some (.l (.r .z))), .mv (.t (.r (.r (.r (.r .z))))), none, none, []⟩])
     (.seq (.region false 0 [
       ⟨(some (.l (.l (.l (.l (.l .z)))))), .mv (.t (.l (.r .z))), none, none, []⟩,
       ⟨(some (.r (.l (.l (.l (.l .z)))))), .eql true false [.i] (.t (.l (.l (.l (.l (.l .z)))))) (.c (.int .i64 0)), none, none, []⟩])
     (.cond (.t (.r (.l (.l (.l (.l .z))))))
     (.seq (.region false 0 [
        ⟨(some (.l (.r (.l (.l (.l .z)))))), .mv (.t (.l (.r .z))), none, none, []⟩,
        ⟨(some (.r (.r (.l (.l (.l .z)))))), .mv (.t (.l (.l .z))), none, none, []⟩,
        ⟨(some (.l (.l (.r (.l (.l .z)))))), .build [(.int .i64 0), (.int .i64 0)] [(0, 1, (.t (.l (.r (.l (.l (.l .z))))))), (1, 1, (.t (.r (.r (.l (.l (.l .z)))))))], none, none, []⟩,
        ⟨none, .store 2 (.t (.r .z)) (.t (.l (.l (.r (.l (.l .z)))))), none, none, []⟩])
      .ret)
     .skip)))
     (.seq (.region true 0 [
       ⟨(some (.r (.l (.r (.l (.l .z)))))), .mv (.t (.l (.l .z))), none, none, []⟩,
       ⟨(some (.l (.r (.r (.l (.l .z)))))), .bin .gtr (.t (.r (.l (.r (.l (.l .z)))))) (.c (.int .i64 0)), none, none, [0]⟩,
       ⟨(some (.r (.r (.r (.l (.l .z)))))), .mv (.t (.l (.r (.r (.l (.l .z)))))), none, none, [0, 1]⟩,
       ⟨(some (.l (.l (.l (.r (.l .z)))))), .fieldA 0 (.t (.r (.l .z))), (some ((.r (.r (.r (.l (.l .z))))), true)), none, [0, 1, 2]⟩,
       ⟨(some (.r (.l (.l (.r (.l .z)))))), .load false 1 (.t (.l (.l (.l (.r (.l .z)))))), (some ((.r (.r (.r (.l (.l .z))))), true)), none, [0, 1, 2, 3]⟩,
       ⟨(some (.l (.r (.l (.r (.l .z)))))), .fieldA 0 (.t (.l .z)), (some ((.r (.r (.r (.l (.l .z))))), true)), none, [0, 1, 2]⟩,
       ⟨(some (.r (.r (.l (.r (.l .z)))))), .load false 1 (.t (.l (.r (.l (.r (.l .z)))))), (some ((.r (.r (.r (.l (.l .z))))), true)), none, [0, 1, 2, 5]⟩,
       ⟨(some (.l (.l (.r (.r (.l .z)))))), .mv (.t (.l (.l .z))), (some ((.r (.r (.r (.l (.l .z))))), true)), none, [0, 1, 2]⟩,
       ⟨(some (.r (.l (.r (.r (.l .z)))))), .bin .sub (.t (.l (.l (.r (.r (.l .z)))))) (.c (.int .i64 1)), (some ((.r (.r (.r (.l (.l .z))))), true)), none, [0, 1, 2, 7]⟩,
       ⟨(some (.l (.r (.r (.r (.l .z)))))), .idxS 16 (.t (.r (.r (.l (.r (.l .z)))))) (.t (.r (.l (.r (.r (.l .z)))))), (some ((.r (.r (.r (.l (.l .z))))), true)), none, [0, 1, 2, 5, 6, 7, 8]⟩,
       ⟨(some (.r (.r (.r (.r (.l .z)))))), .fieldA 0 (.t (.l (.r (.r (.r (.l .z)))))), (some ((.r (.r (.r (.l (.l .z))))), true)), none, [0, 1, 2, 5, 6, 7, 8, 9]⟩,
       ⟨(some (.l (.l (.l (.l (.r .z)))))), .load false 1 (.t (.r (.r (.r (.r (.l .z)))))), (some ((.r (.r (.r (.l (.l .z))))), true)), none, [0, 1, 2, 5, 6, 7, 8, 9, 10]⟩,
       ⟨(some (.r (.l (.l (.l (.r .z)))))), .bin .leq (.t (.r (.l (.l (.r (.l .z)))))) (.t (.l (.l (.l (.l (.r .z)))))), (some ((.r (.r (.r (.l (.l .z))))), true)), none, [0, 1, 2, 3, 4, 5, 6, 7, 8, 9, 10, 11]⟩,
       ⟨(some (.l (.r (.l (.l (.r .z)))))), .pick (.t (.r (.r (.r (.l (.l .z)))))) (.t (.r (.l (.l (.l (.r .z)))))) (.c (.bool false)), none, none, [0, 1, 2, 3, 4, 5, 6, 7, 8, 9, 10, 11, 12]⟩])
     (.cond (.t (.l (.r (.l (.l (.r .z))))))
     (.seq (.region false 0 [
        ⟨(some (.r (.r (.l (.l (.r .z)))))), .mv (.t (.l (.l .z))), none, none, []⟩,
        ⟨(some (.l (.l (.r (.l (.r .z)))))), .build [(.int .i64 0), (.int .i64 0)] [(0, 1, (.c (.int .i64 19))), (1, 1, (.t (.r (.r (.l (.l (.r .z)))))))], none, none, []⟩,
        ⟨none, .store 2 (.t (.r .z)) (.t (.l (.l (.r (.l (.r .z)))))), none, none, []⟩])
      .ret)
     .skip)))))
    (.region false 0 [
      ⟨(some (.r (.l (.r (.l (.r .z)))))), .bin .add (.t (.r (.l (.l (.r .z))))) (.c (.int .i64 1)), none, none, []⟩,
      ⟨(some (.r (.l (.l (.r .z))))), .mv (.t (.r (.l (.r (.l (.r .z)))))), none, none, []⟩])))))))
  (.seq (.seq (.region false 0 [
    ⟨(some (.r (.r (.r (.l (.r .z)))))), .fieldA 1 (.t (.l .z)), none, none, []⟩,
    ⟨(some (.l (.l (.l (.r (.r .z)))))), .load false 1 (.t (.r (.r (.r (.l (.r .z)))))), none, none, []⟩,
    ⟨(some (.r (.l (.l (.r (.r .z)))))), .call 45 [(.t (.l (.l (.l (.r (.r .z))))))], none, none, []⟩,
    ⟨(some (.l (.r (.r (.l (.r .z)))))), .mv (.t (.r (.l (.l (.r (.r .z)))))), none, none, []⟩,
    ⟨(some (.l (.r (.l (.r (.r .z)))))), .ext (.t (.l (.r (.r (.l (.r .z)))))) 0, none, none, []⟩,
    ⟨(some (.r (.r (.l (.r (.r .z)))))), .ext (.t (.l (.r (.r (.l (.r .z)))))) 1, none, none, []⟩,
    ⟨(some (.r (.r .z))), .mv (.t (.l (.r (.l (.r (.r .z)))))), none, none, []⟩,
    ⟨(some (.l (.l (.l .z)))), .mv (.t (.r (.r (.l (.r (.r .z)))))), none, none, []⟩])
  (.seq (.region false 0 [
    ⟨(some (.l (.l (.r (.r (.r .z)))))), .mv (.t (.r (.r .z))), none, none, []⟩,
    ⟨(some (.r (.l (.r (.r (.r .z)))))), .eql true false [.i] (.t (.l (.l (.r (.r (.r .z)))))) (.c (.int .i64 0)), none, none, []⟩])
  (.cond (.t (.r (.l (.r (.r (.r .z))))))
  (.seq (.region false 0 [
     ⟨(some (.l (.r (.r (.r (.r .z)))))), .mv (.t (.r (.r .z))), none, none, []⟩,
     ⟨(some (.r (.r (.r (.r (.r .z)))))), .mv (.t (.l (.l (.l .z)))), none, none, []⟩,
     ⟨(some (.l (.l (.l (.l (.l (.l .z))))))), .build [(.int .i64 0), (.int .i64 0)] [(0, 1, (.t (.l (.r (.r (.r (.r .z))))))), (1, 1, (.t (.r (.r (.r (.r (.r .z)))))))], none, none, []⟩,
     ⟨none, .store 2 (.t (.r .z)) (.t (.l (.l (.l (.l (.l (.l .z))))))), none, none, []⟩])
   .ret)
  .skip)))
  (.seq (.seq (.region false 0 [
    ⟨(some (.r (.l (.l (.l (.l (.l .z))))))), .fieldA 2 (.t (.l .z)), none, none, []⟩,
    ⟨(some (.l (.r (.l (.l (.l (.l .z))))))), .load false 1 (.t (.r (.l (.l (.l (.l (.l .z))))))), none, none, []⟩,
    ⟨(some (.r (.r (.l (.l (.l (.l .z))))))), .len .slice (.t (.l (.r (.l (.l (.l (.l .z))))))), none, none, []⟩,
    ⟨(some (.l (.l (.r (.l (.l (.l .z))))))), .bin .gtr (.t (.r (.r (.l (.l (.l (.l .z))))))) (.c (.int .i64 400)), none, none, []⟩])
  (.cond (.t (.l (.l (.r (.l (.l (.l .z)))))))
  (.seq (.region false 0 [
     ⟨(some (.r (.l (.r (.l (.l (.l .z))))))), .build [(.int .i64 0), (.int .i64 0)] [(0, 1, (.c (.int .i64 5)))], none, none, []⟩,
     ⟨none, .store 2 (.t (.r .z)) (.t (.r (.l (.r (.l (.l (.l .z))))))), none, none, []⟩])
   .ret)
  .skip))
  (.seq (.seq (.region false 0 [
    ⟨(some (.l (.r (.r (.l (.l (.l .z))))))), .fieldA 2 (.t (.l .z)), none, none, []⟩,
    ⟨(some (.r (.r (.r (.l (.l (.l .z))))))), .load false 1 (.t (.l (.r (.r (.l (.l (.l .z))))))), none, none, []⟩,
    ⟨(some (.l (.l (.l (.r (.l (.l .z))))))), .len .slice (.t (.r (.r (.r (.l (.l (.l .z))))))), none, none, []⟩,
    ⟨(some (.r (.l (.l (.r (.l (.l .z))))))), .mv (.c (.int .i64 0)), none, none, []⟩])
  (.block 2 (.loop (.seq (.region false 0 [
      ⟨(some (.l (.r (.l (.r (.l (.l .z))))))), .bin .lss (.t (.r (.l (.l (.r (.l (.l .z))))))) (.t (.l (.l (.l (.r (.l (.l .z))))))), none, none, []⟩])
    (.seq (.cond (.t (.l (.r (.l (.r (.l (.l .z)))))))
    .skip
    (.exit 2))
    (.seq (.block 3 (.seq (.region false 0 [
       ⟨(some (.r (.r (.l (.r (.l (.l .z))))))), .mv (.t (.r (.l (.l (.r (.l (.l .z))))))), none, none, []⟩,
       ⟨(some (.l (.l (.r (.r (.l (.l .z))))))), .idxS 15 (.t (.r (.r (.r (.l (.l (.l .z))))))) (.t (.r (.l (.l (.r (.l (.l .z))))))), none, none, []⟩,
       ⟨(some (.r (.l (.r (.r (.l (.l .z))))))), .load true 15 (.t (.l (.l (.r (.r (.l (.l .z))))))), none, none, []⟩,
       ⟨(some (.l (.r (.l .z)))), .alloc 15 [[(.int .i64 0), (.int .i64 0), (.int .i64 0), (.int .i64 0), (.int .i64 0), (.int .i64 0), (.int .i64 0), (.int .u64 0), (.int .i64 0), (.int .i64 0), (.int .i64 0), (.int .i64 0), (.int .i64 0), (.int .i64 0), (.str [])]], none, none, []⟩,
       ⟨(some (.r (.l (.l .z)))), .mv (.t (.r (.r (.l (.r (.l (.l .z))))))), none, none, []⟩,
       ⟨none, .store 15 (.t (.l (.r (.l .z)))) (.t (.r (.l (.r (.r (.l (.l .z))))))), none, none, []⟩])
     (.seq (.region false 0 [
       ⟨(some (.l (.r (.r (.r (.l (.l .z))))))), .load true 3 (.t (.l .z)), none, none, []⟩,
       ⟨(some (.r (.r (.r (.r (.l (.l .z))))))), .load true 15 (.t (.l (.r (.l .z)))), none, none, []⟩,
       ⟨(some (.l (.l (.l (.l (.r (.l .z))))))), .call 46 [(.t (.l (.r (.r (.r (.l (.l .z))))))), (.t (.r (.r (.r (.r (.l (.l .z)))))))], none, none, []⟩,
       ⟨(some (.r (.r (.l .z)))), .mv (.t (.l (.l (.l (.l (.r (.l .z))))))), none, none, []⟩])
     (.seq (.region false 0 [
       ⟨(some (.r (.l (.l (.l (.r (.l .z))))))), .mv (.t (.r (.r (.l .z)))), none, none, []⟩,
       ⟨(some (.l (.r (.l (.l (.r (.l .z))))))), .eql true false [.i] (.t (.r (.l (.l (.l (.r (.l .z))))))) (.c (.int .i64 0)), none, none, []⟩])
     (.cond (.t (.l (.r (.l (.l (.r (.l .z)))))))
     (.seq (.region false 0 [
        ⟨(some (.r (.r (.l (.l (.r (.l .z))))))), .mv (.t (.r (.r (.l .z)))), none, none, []⟩,
        ⟨(some (.l (.l (.r (.l (.r (.l .z))))))), .mv (.t (.r (.l (.l .z)))), none, none, []⟩,
        ⟨(some (.r (.l (.r (.l (.r (.l .z))))))), .build [(.int .i64 0), (.int .i64 0)] [(0, 1, (.t (.r (.r (.l (.l (.r (.l .z)))))))), (1, 1, (.t (.l (.l (.r (.l (.r (.l .z))))))))], none, none, []⟩,
        ⟨none, .store 2 (.t (.r .z)) (.t (.r (.l (.r (.l (.r (.l .z))))))), none, none, []⟩])
      .ret)
     .skip)))))
    (.region false 0 [
      ⟨(some (.l (.r (.r (.l (.r (.l .z))))))), .bin .add (.t (.r (.l (.l (.r (.l (.l .z))))))) (.c (.int .i64 1)), none, none, []⟩,
      ⟨(some (.r (.l (.l (.r (.l (.l .z))))))), .mv (.t (.l (.r (.r (.l (.r (.l .z))))))), none, none, []⟩])))))))
  (.seq (.region false 0 [
    ⟨(some (.r (.r (.r (.l (.r (.l .z))))))), .build [(.int .i64 0), (.int .i64 0)] [], none, none, []⟩,
    ⟨none, .store 2 (.t (.r .z)) (.t (.r (.r (.r (.l (.r (.l .z))))))), none, none, []⟩])
  .ret))))))))⟩
def AF25 : AFunc := ⟨40, [.cell (.r .z) true 4],
  (.seq (.region false 0 [
    ⟨(some (.l .z)), .box 3 3 (.t .z), none, none, []⟩,
    ⟨(some (.r .z)), .alloc 4 [[(.int .i64 0), (.int .i64 0), (.int .i64 0), (.int .i64 0)]], none, none, []⟩])
  (.seq (.region false 0 [
    ⟨(some (.r (.r .z))), .fieldA 0 (.t (.l .z)), none, none, []⟩,
    ⟨(some (.l (.l (.l .z)))), .load false 1 (.t (.r (.r .z))), none, none, []⟩,
    ⟨(some (.r (.l (.l .z)))), .len .slice (.t (.l (.l (.l .z)))), none, none, []⟩,
    ⟨(some (.l (.r (.l .z)))), .fieldA 2 (.t (.l .z)), none, none, []⟩,
    ⟨(some (.r (.r (.l .z)))), .load false 1 (.t (.l (.r (.l .z)))), none, none, []⟩,
    ⟨(some (.l (.l (.r .z)))), .len .slice (.t (.r (.r (.l .z)))), none, none, []⟩,
    ⟨(some (.r (.l (.r .z)))), .build [(.int .i64 0), (.int .i64 0), (.int .i64 0), (.int .i64 0)] [(0, 1, (.t (.r (.l (.l .z))))), (1, 1, (.t (.l (.l (.r .z))))), (2, 1, (.c (.int .i64 1)))], none, none, []⟩,
    ⟨(some (.l (.l .z))), .alloc 4 [[(.int .i64 0), (.int .i64 0), (.int .i64 0), (.int .i64 0)]], none, none, []⟩,
    ⟨none, .store 4 (.t (.l (.l .z))) (.t (.r (.l (.r .z)))), none, none, []⟩])
  (.seq (.seq (.region false 0 [
    ⟨(some (.l (.r (.r .z)))), .fieldA 1 (.t (.l .z)), none, none, []⟩,
    ⟨(some (.r (.r (.r .z)))), .load false 1 (.t (.l (.r (.r .z)))), none, none, []⟩,
    ⟨(some (.l (.l (.l (.l .z))))), .len .slice (.t (.r (.r (.r .z)))), none, none, []⟩,
    ⟨(some (.r (.l (.l (.l .z))))), .mv (.c (.int .i64 0)), none, none, []⟩])
  (.block 0 (.loop (.seq (.region false 0 [
      ⟨(some (.l (.r (.l (.l .z))))), .bin .lss (.t (.r (.l (.l (.l .z))))) (.t (.l (.l (.l (.l .z))))), none, none, []⟩])
    (.seq (.cond (.t (.l (.r (.l (.l .z)))))
    .skip
    (.exit 0))
    (.seq (.block 1 (.seq (.region false 0 [
       ⟨(some (.r (.r (.l (.l .z))))), .mv (.t (.r (.l (.l (.l .z))))), none, none, []⟩,
       ⟨(some (.l (.l (.r (.l .z))))), .idxS 6 (.t (.r (.r (.r .z)))) (.t (.r (.l (.l (.l .z))))), none, none, []⟩,
       ⟨(some (.r (.l (.r (.l .z))))), .load true 6 (.t (.l (.l (.r (.l .z))))), none, none, []⟩,
       ⟨(some (.l (.r .z))), .alloc 6 [[(.int .i64 0), (.int .i64 0), (.int .i64 0), (.int .i64 0), (.int .i64 0), (.int .i64 0)]], none, none, []⟩,
       ⟨(some (.r (.l .z))), .mv (.t (.r (.r (.l (.l .z))))), none, none, []⟩,
       ⟨none, .store 6 (.t (.l (.r .z))) (.t (.r (.l (.r (.l .z))))), none, none, []⟩])
     (.seq (.seq (.region false 0 [
       ⟨(some (.l (.r (.r (.l .z))))), .mv (.t (.r (.l .z))), none, none, []⟩,
       ⟨(some (.r (.r (.r (.l .z))))), .eql false false [.i] (.t (.l (.r (.r (.l .z))))) (.c (.int .i64 0)), none, none, []⟩])
     (.cond (.t (.r (.r (.r (.l .z)))))
     (.region false 0 [
        ⟨(some (.l (.l (.l (.r .z))))), .fieldA 4 (.t (.l (.r .z))), none, none, []⟩,
        ⟨(some (.r (.l (.l (.r .z))))), .load false 1 (.t (.l (.l (.l (.r .z))))), none, none, []⟩,
        ⟨(some (.l (.r (.l (.r .z))))), .fieldA 2 (.t (.l (.l .z))), none, none, []⟩,
        ⟨none, .store 1 (.t (.l (.r (.l (.r .z))))) (.t (.r (.l (.l (.r .z))))), none, none, []⟩])
     .skip))
     (.region true 0 [
       ⟨(some (.r (.r (.l (.r .z))))), .fieldA 2 (.t (.l (.l .z))), none, none, []⟩,
       ⟨(some (.l (.l (.r (.r .z))))), .load false 1 (.t (.r (.r (.l (.r .z))))), none, none, [0]⟩,
       ⟨(some (.r (.l (.r (.r .z))))), .fieldA 4 (.t (.l (.r .z))), none, none, []⟩,
       ⟨(some (.l (.r (.r (.r .z))))), .load false 1 (.t (.r (.l (.r (.r .z))))), none, none, [2]⟩,
       ⟨(some (.r (.r (.r (.r .z))))), .minmax false [(.t (.l (.l (.r (.r .z))))), (.t (.l (.r (.r (.r .z)))))], none, none, [0, 1, 2, 3]⟩,
       ⟨(some (.l (.l (.l (.l (.l .z)))))), .fieldA 3 (.t (.l (.l .z))), none, none, []⟩,
       ⟨(some (.r (.l (.l (.l (.l .z)))))), .load false 1 (.t (.l (.l (.l (.l (.l .z)))))), none, none, [5]⟩,
       ⟨(some (.l (.r (.l (.l (.l .z)))))), .fieldA 5 (.t (.l (.r .z))), none, none, []⟩,
       ⟨(some (.r (.r (.l (.l (.l .z)))))), .load false 1 (.t (.l (.r (.l (.l (.l .z)))))), none, none, [7]⟩,
       ⟨(some (.l (.l (.r (.l (.l .z)))))), .minmax true [(.t (.r (.l (.l (.l (.l .z)))))), (.t (.r (.r (.l (.l (.l .z))))))], none, none, [5, 6, 7, 8]⟩,
       ⟨(some (.r (.l (.r (.l (.l .z)))))), .fieldA 2 (.t (.l (.l .z))), none, none, [0, 1, 2, 3, 4, 5, 6]⟩,
       ⟨none, .store 1 (.t (.r (.l (.r (.l (.l .z)))))) (.t (.r (.r (.r (.r .z))))), none, none, [0, 1, 2, 3, 4, 5, 6, 10]⟩,
       ⟨(some (.l (.r (.r (.l (.l .z)))))), .fieldA 3 (.t (.l (.l .z))), none, none, [0, 1, 2, 3, 4, 5, 6, 7, 8, 9, 10, 11]⟩,
       ⟨none, .store 1 (.t (.l (.r (.r (.l (.l .z)))))) (.t (.l (.l (.r (.l (.l .z)))))), none, none, [0, 1, 2, 3, 4, 5, 6, 7, 8, 9, 10, 11, 12]⟩]))))
    (.region false 0 [
      ⟨(some (.r (.r (.r (.l (.l .z)))))), .bin .add (.t (.r (.l (.l (.l .z))))) (.c (.int .i64 1)), none, none, []⟩,
      ⟨(some (.r (.l (.l (.l .z))))), .mv (.t (.r (.r (.r (.l (.l .z)))))), none, none, []⟩])))))))
  (.seq (.region false 0 [
    ⟨(some (.l (.l (.l (.r (.l .z)))))), .load true 4 (.t (.l (.l .z))), none, none, []⟩,
    ⟨none, .store 4 (.t (.r .z)) (.t (.l (.l (.l (.r (.l .z)))))), none, none, []⟩])
  .ret))))⟩
def AF26 : AFunc := ⟨15, [.tmp (.r .z)],
  (.seq (.region false 0 [
    ⟨(some (.l .z)), .box 4 4 (.t .z), none, none, []⟩,
    ⟨(some (.r .z)), .mv (.c (.int .i64 0)), none, none, []⟩])
  (.seq (.region true 0 [
    ⟨(some (.l (.l .z))), .load true 4 (.t (.l .z)), none, none, []⟩,
    ⟨(some (.r (.l .z))), .call 42 [(.t (.l (.l .z)))], none, none, [0]⟩,
    ⟨(some (.l (.r .z))), .fieldA 0 (.t (.l .z)), none, none, []⟩,
    ⟨(some (.r (.r .z))), .load false 1 (.t (.l (.r .z))), none, none, [2]⟩,
    ⟨(some (.l (.l (.l .z)))), .load true 4 (.t (.l .z)), none, none, []⟩,
    ⟨(some (.r (.l (.l .z)))), .call 47 [(.t (.l (.l (.l .z))))], none, none, [0, 1, 4]⟩,
    ⟨(some (.l (.r (.l .z)))), .fieldA 3 (.t (.l .z)), none, none, []⟩,
    ⟨(some (.r (.r (.l .z)))), .load false 1 (.t (.l (.r (.l .z)))), none, none, [6]⟩,
    ⟨(some (.l (.l (.r .z)))), .bin .add (.t (.r (.l (.l .z)))) (.t (.r (.r (.l .z)))), none, none, [0, 1, 4, 5, 6, 7]⟩,
    ⟨(some (.r (.l (.r .z)))), .bin .add (.t (.l (.l (.r .z)))) (.c (.int .i64 2)), none, none, [0, 1, 4, 5, 6, 7, 8]⟩,
    ⟨(some (.l (.r (.r .z)))), .bin .mul (.t (.r (.r .z))) (.t (.r (.l (.r .z)))), none, none, [0, 1, 2, 3, 4, 5, 6, 7, 8, 9]⟩,
    ⟨(some (.r (.r (.r .z)))), .bin .add (.t (.r (.l .z))) (.t (.l (.r (.r .z)))), none, none, [0, 1, 2, 3, 4, 5, 6, 7, 8, 9, 10]⟩,
    ⟨(some (.r .z)), .mv (.t (.r (.r (.r .z)))), none, none, [0, 1, 2, 3, 4, 5, 6, 7, 8, 9, 10, 11]⟩])
  .ret))⟩
def AF27 : AFunc := ⟨11, [.tmp (.r .z)],
  (.seq (.region false 0 [
    ⟨(some (.l .z)), .box 9 9 (.t .z), none, none, []⟩,
    ⟨(some (.r .z)), .mv (.c (.int .i64 0)), none, none, []⟩])
  (.seq (.region false 0 [
    ⟨(some (.r (.r .z))), .load true 9 (.t (.l .z)), none, none, []⟩,
    ⟨(some (.l (.l (.l .z)))), .call 48 [(.t (.r (.r .z)))], none, none, []⟩,
    ⟨(some (.l (.r .z))), .mv (.t (.l (.l (.l .z)))), none, none, []⟩,
    ⟨(some (.r (.l (.l .z)))), .ext (.t (.l (.r .z))) 0, none, none, []⟩,
    ⟨(some (.l (.r (.l .z)))), .ext (.t (.l (.r .z))) 1, none, none, []⟩,
    ⟨(some (.l (.l .z))), .mv (.t (.r (.l (.l .z)))), none, none, []⟩,
    ⟨(some (.r (.l .z))), .mv (.t (.l (.r (.l .z)))), none, none, []⟩])
  (.seq (.region false 0 [
    ⟨(some (.r (.r (.l .z)))), .mv (.t (.l (.l .z))), none, none, []⟩,
    ⟨(some (.r .z)), .mv (.t (.r (.r (.l .z)))), none, none, []⟩])
  .ret)))⟩
def AF28 : AFunc := ⟨59, [.tmp (.r (.l .z))],
  (.seq (.region false 0 [
    ⟨(some (.l (.l .z))), .box 15 15 (.t .z), none, none, []⟩,
    ⟨(some (.r (.l .z))), .mv (.c (.bool false)), none, none, []⟩])
  (.seq (.region false 0 [
    ⟨(some (.r (.l (.l .z)))), .fieldA 6 (.t (.l (.l .z))), none, none, []⟩,
    ⟨(some (.l (.r (.l .z)))), .load true 9 (.t (.r (.l (.l .z)))), none, none, []⟩,
    ⟨(some (.l (.r .z))), .alloc 9 [[(.int .i64 0), (.int .u64 0), (.int .i64 0), (.int .i64 0), (.int .i64 0), (.int .i64 0), (.int .i64 0), (.int .i64 0), (.str [])]], none, none, []⟩,
    ⟨none, .store 9 (.t (.l (.r .z))) (.t (.l (.r (.l .z)))), none, none, []⟩])
  (.seq (.seq (.region false 0 [
    ⟨(some (.r (.r (.l .z)))), .fieldA 0 (.t (.l (.l .z))), none, none, []⟩,
    ⟨(some (.l (.l (.r .z)))), .load false 1 (.t (.r (.r (.l .z)))), none, none, []⟩,
    ⟨(some (.r (.l (.r .z)))), .eql true false [.i] (.t (.l (.l (.r .z)))) (.c (.int .i64 1)), none, none, []⟩,
    ⟨(some (.l (.r (.r .z)))), .mv (.t (.r (.l (.r .z)))), none, none, []⟩,
    ⟨(some (.r (.r (.r .z)))), .fieldA 5 (.t (.l (.r .z))), (some ((.l (.r (.r .z))), false)), none, []⟩,
    ⟨(some (.l (.l (.l (.l .z))))), .load false 1 (.t (.r (.r (.r .z)))), (some ((.l (.r (.r .z))), false)), none, []⟩,
    ⟨(some (.r (.l (.l (.l .z))))), .eql true false [.i] (.t (.l (.l (.l (.l .z))))) (.c (.int .i64 0)), (some ((.l (.r (.r .z))), false)), none, []⟩,
    ⟨(some (.l (.r (.l (.l .z))))), .pick (.t (.l (.r (.r .z)))) (.c (.bool true)) (.t (.r (.l (.l (.l .z))))), none, none, []⟩,
    ⟨(some (.r (.r (.l (.l .z))))), .mv (.t (.l (.r (.l (.l .z))))), none, none, []⟩,
    ⟨(some (.l (.l (.r (.l .z))))), .fieldA 0 (.t (.l (.r .z))), (some ((.r (.r (.l (.l .z)))), false)), none, []⟩,
    ⟨(some (.r (.l (.r (.l .z))))), .fieldA 0 (.t (.l (.l (.r (.l .z))))), (some ((.r (.r (.l (.l .z)))), false)), none, []⟩,
    ⟨(some (.l (.r (.r (.l .z))))), .load false 1 (.t (.r (.l (.r (.l .z))))), (some ((.r (.r (.l (.l .z)))), false)), none, []⟩,
    ⟨(some (.r (.r (.r (.l .z))))), .fieldA 1 (.t (.l (.l .z))), (some ((.r (.r (.l (.l .z)))), false)), none, []⟩,
    ⟨(some (.l (.l (.l (.r .z))))), .load false 1 (.t (.r (.r (.r (.l .z))))), (some ((.r (.r (.l (.l .z)))), false)), none, []⟩,
    ⟨(some (.r (.l (.l (.r .z))))), .eql true false [.i] (.t (.l (.r (.r (.l .z))))) (.t (.l (.l (.l (.r .z))))), (some ((.r (.r (.l (.l .z)))), false)), none, []⟩,
    ⟨(some (.l (.r (.l (.r .z))))), .pick (.t (.r (.r (.l (.l .z))))) (.c (.bool true)) (.t (.r (.l (.l (.r .z))))), none, none, []⟩,
    ⟨(some (.r (.r (.l (.r .z))))), .mv (.t (.l (.r (.l (.r .z))))), none, none, []⟩,
    ⟨(some (.l (.l (.r (.r .z))))), .load true 3 (.t (.l .z)), (some ((.r (.r (.l (.r .z)))), false)), none, []⟩,
    ⟨(some (.r (.l (.r (.r .z))))), .fieldA 3 (.t (.l (.r .z))), (some ((.r (.r (.l (.r .z)))), false)), none, []⟩,
    ⟨(some (.l (.r (.r (.r .z))))), .load false 1 (.t (.r (.l (.r (.r .z))))), (some ((.r (.r (.l (.r .z)))), false)), none, []⟩,
    ⟨(some (.r (.r (.r (.r .z))))), .call 29 [(.t (.l (.l (.r (.r .z))))), (.t (.l (.r (.r (.r .z)))))], (some ((.r (.r (.l (.r .z)))), false)), none, []⟩,
    ⟨(some (.l (.l (.l (.l (.l .z)))))), .un .not (.t (.r (.r (.r (.r .z))))), (some ((.r (.r (.l (.r .z)))), false)), none, []⟩,
    ⟨(some (.r (.l (.l (.l (.l .z)))))), .pick (.t (.r (.r (.l (.r .z))))) (.c (.bool true)) (.t (.l (.l (.l (.l (.l .z)))))), none, none, []⟩,
    ⟨(some (.l (.r (.l (.l (.l .z)))))), .mv (.t (.r (.l (.l (.l (.l .z)))))), none, none, []⟩,
    ⟨(some (.r (.r (.l (.l (.l .z)))))), .fieldA 6 (.t (.l (.r .z))), (some ((.l (.r (.l (.l (.l .z))))), false)), none, []⟩,
    ⟨(some (.l (.l (.r (.l (.l .z)))))), .load false 1 (.t (.r (.r (.l (.l (.l .z)))))), (some ((.l (.r (.l (.l (.l .z))))), false)), none, []⟩,
    ⟨(some (.r (.l (.r (.l (.l .z)))))), .load false 1 (.t (.r .z)), (some ((.l (.r (.l (.l (.l .z))))), false)), none, []⟩,
    ⟨(some (.l (.r (.r (.l (.l .z)))))), .bin .leq (.t (.l (.l (.r (.l (.l .z)))))) (.t (.r (.l (.r (.l (.l .z)))))), (some ((.l (.r (.l (.l (.l .z))))), false)), none, []⟩,
    ⟨(some (.r (.r (.r (.l (.l .z)))))), .pick (.t (.l (.r (.l (.l (.l .z)))))) (.c (.bool true)) (.t (.l (.r (.r (.l (.l .z)))))), none, none, []⟩])
  (.cond (.t (.r (.r (.r (.l (.l .z))))))
  (.seq (.region false 0 [
     ⟨(some (.r (.l .z))), .mv (.c (.bool false)), none, none, []⟩])
   .ret)
  .skip))
  (.seq (.region true 0 [
    ⟨(some (.r (.l (.l (.r (.l .z)))))), .fieldA 1 (.t (.l .z)), none, none, []⟩,
    ⟨(some (.l (.r (.l (.r (.l .z)))))), .load false 1 (.t (.r (.l (.l (.r (.l .z)))))), none, none, [0]⟩,
    ⟨(some (.r (.r (.l (.r (.l .z)))))), .fieldA 1 (.t (.l (.l .z))), none, none, []⟩,
    ⟨(some (.l (.l (.r (.r (.l .z)))))), .load false 1 (.t (.r (.r (.l (.r (.l .z)))))), none, none, [2]⟩,
    ⟨(some (.r (.l (.r (.r (.l .z)))))), .fieldA 3 (.t (.l (.r .z))), none, none, []⟩,
    ⟨(some (.l (.r (.r (.r (.l .z)))))), .load false 1 (.t (.r (.l (.r (.r (.l .z)))))), none, none, [4]⟩,
    ⟨(some (.r (.r (.r (.r (.l .z)))))), .load true 9 (.t (.l (.r .z))), none, none, []⟩,
    ⟨(some (.l (.l (.l (.l (.r .z)))))), .call 27 [(.t (.r (.r (.r (.r (.l .z))))))], none, none, [6]⟩,
    ⟨(some (.r (.l (.l (.l (.r .z)))))), .call 30 [(.t (.l (.r (.l (.r (.l .z)))))), (.t (.l (.l (.r (.r (.l .z)))))), (.t (.l (.r (.r (.r (.l .z)))))), (.c (.int .i64 0)), (.t (.l (.l (.l (.l (.r .z))))))], none, none, [0, 1, 2, 3, 4, 5, 6, 7]⟩,
    ⟨(some (.l (.l (.l (.r (.l .z)))))), .mv (.t (.r (.l (.l (.l (.r .z)))))), none, none, [0, 1, 2, 3, 4, 5, 6, 7, 8]⟩,
    ⟨(some (.l (.r (.l (.l (.r .z)))))), .ext (.t (.l (.l (.l (.r (.l .z)))))) 0, none, none, [0, 1, 2, 3, 4, 5, 6, 7, 8, 9]⟩,
    ⟨(some (.r (.r (.l (.l (.r .z)))))), .ext (.t (.l (.l (.l (.r (.l .z)))))) 1, none, none, [0, 1, 2, 3, 4, 5, 6, 7, 8, 9]⟩,
    ⟨(some (.r (.r .z))), .mv (.t (.l (.r (.l (.l (.r .z)))))), none, none, [0, 1, 2, 3, 4, 5, 6, 7, 8, 9, 10]⟩,
    ⟨(some (.l (.l (.l .z)))), .mv (.t (.r (.r (.l (.l (.r .z)))))), none, none, [0, 1, 2, 3, 4, 5, 6, 7, 8, 9, 10, 11, 12]⟩])
  (.seq (.region false 0 [
    ⟨(some (.l (.l (.r (.l (.r .z)))))), .mv (.t (.r (.r .z))), none, none, []⟩,
    ⟨(some (.r (.l (.r (.l (.r .z)))))), .mv (.t (.l (.l (.r (.l (.r .z)))))), none, none, []⟩,
    ⟨(some (.l (.r (.r (.l (.r .z)))))), .fieldA 3 (.t (.l (.r .z))), (some ((.r (.l (.r (.l (.r .z))))), false)), none, []⟩,
    ⟨(some (.r (.r (.r (.l (.r .z)))))), .load false 1 (.t (.l (.r (.r (.l (.r .z)))))), (some ((.r (.l (.r (.l (.r .z))))), false)), none, []⟩,
    ⟨(some (.l (.l (.l (.r (.r .z)))))), .fieldA 1 (.t (.l (.l .z))), (some ((.r (.l (.r (.l (.r .z))))), false)), none, []⟩,
    ⟨(some (.r (.l (.l (.r (.r .z)))))), .load false 1 (.t (.l (.l (.l (.r (.r .z)))))), (some ((.r (.l (.r (.l (.r .z))))), false)), none, []⟩,
    ⟨(some (.l (.r (.l (.r (.r .z)))))), .eql false false [.i] (.t (.r (.r (.r (.l (.r .z)))))) (.t (.r (.l (.l (.r (.r .z)))))), (some ((.r (.l (.r (.l (.r .z))))), false)), none, []⟩,
    ⟨(some (.r (.r (.l (.r (.r .z)))))), .pick (.t (.r (.l (.r (.l (.r .z)))))) (.c (.bool true)) (.t (.l (.r (.l (.r (.r .z)))))), none, none, []⟩,
    ⟨(some (.r (.l .z))), .mv (.t (.r (.r (.l (.r (.r .z)))))), none, none, []⟩])
  .ret)))))⟩
def AF29 : AFunc := ⟨9, [.tmp (.r (.l .z))],
  (.seq (.region false 0 [
    ⟨(some (.r .z)), .box 3 3 (.t .z), none, none, []⟩,
    ⟨(some (.l (.l .z))), .box 1 1 (.t (.l .z)), none, none, []⟩,
    ⟨(some (.r (.l .z))), .mv (.c (.bool false)), none, none, []⟩])
  (.seq (.region false 0 [
    ⟨(some (.l (.r .z))), .fieldA 0 (.t (.r .z)), none, none, []⟩,
    ⟨(some (.r (.r .z))), .load false 1 (.t (.l (.r .z))), none, none, []⟩,
    ⟨(some (.l (.l (.l .z)))), .mkfunc 50 [] [(.t (.l (.l .z)))], none, none, []⟩,
    ⟨(some (.r (.l (.l .z)))), .call 49 [(.t (.r (.r .z))), (.t (.l (.l (.l .z))))], none, none, []⟩,
    ⟨(some (.r (.l .z))), .mv (.t (.r (.l (.l .z)))), none, none, []⟩])
  .ret))⟩
def AF30 : AFunc := ⟨31, [.tmp (.r (.r (.l .z))), .tmp (.l (.l (.r .z)))],
  (.seq (.region false 0 [
    ⟨(some (.r (.r (.l .z)))), .mv (.c (.bool false)), none, none, []⟩,
    ⟨(some (.l (.l (.r .z)))), .mv (.c (.int .i64 0)), none, none, []⟩])
  (.seq (.seq (.region false 0 [
    ⟨(some (.l (.r (.r .z)))), .mv (.t .z), none, none, []⟩,
    ⟨(some (.r (.r (.r .z)))), .mv (.t (.l (.l .z))), none, none, []⟩,
    ⟨(some (.l (.l (.l (.l .z))))), .mv (.t (.r (.l .z))), none, none, []⟩,
    ⟨(some (.r (.l (.l (.l .z))))), .mv (.t (.l .z)), none, none, []⟩,
    ⟨(some (.l (.r (.l (.l .z))))), .mv (.t (.r .z)), none, none, []⟩,
    ⟨(some (.r (.r (.l (.l .z))))), .slit 1 2 [(.int .i64 0)] [(0, (.t (.r (.l (.l (.l .z)))))), (1, (.t (.l (.r (.l (.l .z))))))], none, none, []⟩,
    ⟨(some (.l (.l (.r (.l .z))))), .call 51 [(.t (.l (.r (.r .z)))), (.t (.r (.r (.r .z)))), (.t (.l (.l (.l (.l .z))))), (.t (.r (.r (.l (.l .z)))))], none, none, []⟩,
    ⟨(some (.r (.l (.r .z)))), .mv (.t (.l (.l (.r (.l .z))))), none, none, []⟩])
  (.seq (.region false 0 [
    ⟨(some (.r (.l (.r (.l .z))))), .mv (.t (.r (.l (.r .z)))), none, none, []⟩,
    ⟨(some (.l (.r (.r (.l .z))))), .eql true false [.i] (.t (.r (.l (.r (.l .z))))) (.c (.int .i64 0)), none, none, []⟩])
  (.cond (.t (.l (.r (.r (.l .z)))))
  (.seq (.region false 0 [
     ⟨(some (.r (.r (.r (.l .z))))), .mv (.t (.r (.l (.r .z)))), none, none, []⟩,
     ⟨(some (.r (.r (.l .z)))), .mv (.c (.bool false)), none, none, []⟩,
     ⟨(some (.l (.l (.r .z)))), .mv (.t (.r (.r (.r (.l .z))))), none, none, []⟩])
   .ret)
  .skip)))
  (.seq (.region false 0 [
    ⟨(some (.l (.l (.l (.r .z))))), .mv (.t .z), none, none, []⟩,
    ⟨(some (.r (.l (.l (.r .z))))), .mv (.t (.l .z)), none, none, []⟩,
    ⟨(some (.l (.r (.l (.r .z))))), .mv (.t (.l (.l .z))), none, none, []⟩,
    ⟨(some (.r (.r (.l (.r .z))))), .mv (.t (.r (.l .z))), none, none, []⟩,
    ⟨(some (.l (.l (.r (.r .z))))), .call 52 [(.t (.l (.l (.l (.r .z))))), (.t (.r (.l (.l (.r .z))))), (.t (.l (.r (.l (.r .z))))), (.t (.r (.r (.l (.r .z)))))], none, none, []⟩,
    ⟨(some (.r (.l (.r (.r .z))))), .mv (.t (.r .z)), none, none, []⟩,
    ⟨(some (.l (.r (.r (.r .z))))), .idxV 1 17 false (.t (.l (.l (.r (.r .z))))) (.t (.r (.l (.r (.r .z))))), none, none, []⟩,
    ⟨(some (.r (.r (.r (.r .z))))), .eql true false [.i] (.t (.l (.r (.r (.r .z))))) (.c (.int .i64 (-1))), none, none, []⟩,
    ⟨(some (.r (.r (.l .z)))), .mv (.t (.r (.r (.r (.r .z))))), none, none, []⟩,
    ⟨(some (.l (.l (.r .z)))), .mv (.c (.int .i64 0)), none, none, []⟩])
  .ret)))⟩
def AF31 : AFunc := ⟨34, [.tmp (.r (.l .z))],
  (.seq (.region false 0 [
    ⟨(some (.l (.l .z))), .box 6 6 (.t .z), none, none, []⟩,
    ⟨(some (.r (.l .z))), .mv (.c (.bool false)), none, none, []⟩])
  (.seq (.region false 0 [
    ⟨(some (.r (.r .z))), .mkfunc 32 [] [(.t (.l (.l .z)))], none, none, []⟩,
    ⟨(some (.l (.r .z))), .mv (.t (.r (.r .z))), none, none, []⟩])
  (.seq (.region false 0 [
    ⟨(some (.l (.l (.l .z)))), .fieldA 2 (.t (.l (.l .z))), none, none, []⟩,
    ⟨(some (.r (.l (.l .z)))), .load false 1 (.t (.l (.l (.l .z)))), none, none, []⟩,
    ⟨(some (.l (.r (.l .z)))), .eql false false [.i] (.t (.r (.l (.l .z)))) (.c (.int .i64 0)), none, none, []⟩,
    ⟨(some (.r (.r (.l .z)))), .mv (.t (.l (.r (.l .z)))), none, none, []⟩,
    ⟨(some (.l (.l (.r .z)))), .fieldA 3 (.t (.l (.l .z))), (some ((.r (.r (.l .z))), true)), none, []⟩,
    ⟨(some (.r (.l (.r .z)))), .load false 1 (.t (.l (.l (.r .z)))), (some ((.r (.r (.l .z))), true)), none, []⟩,
    ⟨(some (.l (.r (.r .z)))), .load false 1 (.t (.l .z)), (some ((.r (.r (.l .z))), true)), none, []⟩,
    ⟨(some (.r (.r (.r .z)))), .bin .geq (.t (.r (.l (.r .z)))) (.t (.l (.r (.r .z)))), (some ((.r (.r (.l .z))), true)), none, []⟩,
    ⟨(some (.l (.l (.l (.l .z))))), .pick (.t (.r (.r (.l .z)))) (.t (.r (.r (.r .z)))) (.c (.bool false)), none, none, []⟩,
    ⟨(some (.r (.l (.l (.l .z))))), .mv (.t (.l (.l (.l (.l .z))))), none, none, []⟩,
    ⟨(some (.l (.r (.l (.l .z))))), .load true 3 (.t (.r .z)), (some ((.r (.l (.l (.l .z)))), true)), none, []⟩,
    ⟨(some (.r (.r (.l (.l .z))))), .fieldA 0 (.t (.l (.l .z))), (some ((.r (.l (.l (.l .z)))), true)), none, []⟩,
    ⟨(some (.l (.l (.r (.l .z))))), .load false 1 (.t (.r (.r (.l (.l .z))))), (some ((.r (.l (.l (.l .z)))), true)), none, []⟩,
    ⟨(some (.r (.l (.r (.l .z))))), .call 29 [(.t (.l (.r (.l (.l .z))))), (.t (.l (.l (.r (.l .z)))))], (some ((.r (.l (.l (.l .z)))), true)), none, []⟩,
    ⟨(some (.l (.r (.r (.l .z))))), .pick (.t (.r (.l (.l (.l .z))))) (.t (.r (.l (.r (.l .z))))) (.c (.bool false)), none, none, []⟩,
    ⟨(some (.r (.r (.r (.l .z))))), .mv (.t (.l (.r (.r (.l .z))))), none, none, []⟩,
    ⟨(some (.l (.l (.l (.r .z))))), .load true 3 (.t (.r .z)), (some ((.r (.r (.r (.l .z)))), true)), none, []⟩,
    ⟨(some (.r (.l (.l (.r .z))))), .fieldA 1 (.t (.l (.l .z))), (some ((.r (.r (.r (.l .z)))), true)), none, []⟩,
    ⟨(some (.l (.r (.l (.r .z))))), .load false 1 (.t (.r (.l (.l (.r .z))))), (some ((.r (.r (.r (.l .z)))), true)), none, []⟩,
    ⟨(some (.r (.r (.l (.r .z))))), .call 29 [(.t (.l (.l (.l (.r .z))))), (.t (.l (.r (.l (.r .z)))))], (some ((.r (.r (.r (.l .z)))), true)), none, []⟩,
    ⟨(some (.l (.l (.r (.r .z))))), .pick (.t (.r (.r (.r (.l .z))))) (.t (.r (.r (.l (.r .z))))) (.c (.bool false)), none, none, []⟩,
    ⟨(some (.r (.l (.r (.r .z))))), .mv (.t (.l (.l (.r (.r .z))))), none, none, []⟩,
    ⟨(some (.l (.r (.r (.r .z))))), .fieldA 1 (.t (.r .z)), (some ((.r (.l (.r (.r .z)))), true)), none, []⟩,
    ⟨(some (.r (.r (.r (.r .z))))), .load false 1 (.t (.l (.r (.r (.r .z))))), (some ((.r (.l (.r (.r .z)))), true)), none, []⟩,
    ⟨(some (.l (.l (.l (.l (.l .z)))))), .mv (.t (.l (.r .z))), (some ((.r (.l (.r (.r .z)))), true)), none, []⟩,
    ⟨(some (.r (.l (.l (.l (.l .z)))))), .call 33 [(.t (.r (.r (.r (.r .z))))), (.t (.l (.l (.l (.l (.l .z))))))], (some ((.r (.l (.r (.r .z)))), true)), none, []⟩,
    ⟨(some (.l (.r (.l (.l (.l .z)))))), .pick (.t (.r (.l (.r (.r .z))))) (.t (.r (.l (.l (.l (.l .z)))))) (.c (.bool false)), none, none, []⟩,
    ⟨(some (.r (.l .z))), .mv (.t (.l (.r (.l (.l (.l .z)))))), none, none, []⟩])
  .ret)))⟩
def AF32 : AFunc := ⟨16, [.tmp (.l (.l .z))],
  (.seq (.region false 0 [
    ⟨(some (.r .z)), .box 6 6 (.t .z), none, none, []⟩,
    ⟨(some (.l (.l .z))), .mv (.c (.bool false)), none, none, []⟩])
  (.seq (.region false 0 [
    ⟨(some (.r (.l .z))), .fieldA 0 (.t (.r .z)), none, none, []⟩,
    ⟨(some (.l (.r .z))), .load false 1 (.t (.r (.l .z))), none, none, []⟩,
    ⟨(some (.r (.r .z))), .fieldA 1 (.t (.l .z)), none, none, []⟩,
    ⟨(some (.l (.l (.l .z)))), .load false 1 (.t (.r (.r .z))), none, none, []⟩,
    ⟨(some (.r (.l (.l .z)))), .eql false false [.i] (.t (.l (.r .z))) (.t (.l (.l (.l .z)))), none, none, []⟩,
    ⟨(some (.l (.r (.l .z)))), .mv (.t (.r (.l (.l .z)))), none, none, []⟩,
    ⟨(some (.r (.r (.l .z)))), .fieldA 1 (.t (.r .z)), (some ((.l (.r (.l .z))), true)), none, []⟩,
    ⟨(some (.l (.l (.r .z)))), .load false 1 (.t (.r (.r (.l .z)))), (some ((.l (.r (.l .z))), true)), none, []⟩,
    ⟨(some (.r (.l (.r .z)))), .fieldA 0 (.t (.l .z)), (some ((.l (.r (.l .z))), true)), none, []⟩,
    ⟨(some (.l (.r (.r .z)))), .load false 1 (.t (.r (.l (.r .z)))), (some ((.l (.r (.l .z))), true)), none, []⟩,
    ⟨(some (.r (.r (.r .z)))), .eql false false [.i] (.t (.l (.l (.r .z)))) (.t (.l (.r (.r .z)))), (some ((.l (.r (.l .z))), true)), none, []⟩,
    ⟨(some (.l (.l (.l (.l .z))))), .pick (.t (.l (.r (.l .z)))) (.t (.r (.r (.r .z)))) (.c (.bool false)), none, none, []⟩,
    ⟨(some (.l (.l .z))), .mv (.t (.l (.l (.l (.l .z))))), none, none, []⟩])
  .ret))⟩
def AF33 : AFunc := ⟨9, [.tmp (.r (.l .z))],
  (.seq (.region false 0 [
    ⟨(some (.r (.l .z))), .mv (.c (.bool false)), none, none, []⟩])
  (.seq (.region false 0 [
    ⟨(some (.l (.r .z))), .mv (.t .z), none, none, []⟩,
    ⟨(some (.r (.r .z))), .mv (.t (.l .z)), none, none, []⟩,
    ⟨(some (.l (.l (.l .z)))), .call 53 [(.t (.l (.r .z))), (.t (.r (.r .z)))], none, none, []⟩,
    ⟨(some (.r (.l (.l .z)))), .bin .geq (.t (.l (.l (.l .z)))) (.c (.int .i64 0)), none, none, []⟩,
    ⟨(some (.r (.l .z))), .mv (.t (.r (.l (.l .z)))), none, none, []⟩])
  .ret))⟩
def AF34 : AFunc := ⟨35, [.tmp (.r (.l .z))],
  (.seq (.region false 0 [
    ⟨(some (.l (.l .z))), .box 1 16 (.t .z), none, none, []⟩,
    ⟨(some (.r (.l .z))), .mv (.c (.bool false)), none, none, []⟩])
  (.seq (.region false 0 [
    ⟨(some (.r (.r .z))), .mkfunc 35 [] [(.t (.l (.l .z)))], none, none, []⟩,
    ⟨(some (.l (.r .z))), .mv (.t (.r (.r .z))), none, none, []⟩])
  (.seq (.region false 0 [
    ⟨(some (.l (.l (.l .z)))), .fieldA 2 (.t (.l .z)), none, none, []⟩,
    ⟨(some (.r (.l (.l .z)))), .load false 1 (.t (.l (.l (.l .z)))), none, none, []⟩,
    ⟨(some (.l (.r (.l .z)))), .mv (.t (.l (.r .z))), none, none, []⟩,
    ⟨(some (.r (.r (.l .z)))), .call 36 [(.t (.r (.l (.l .z)))), (.t (.l (.r (.l .z))))], none, none, []⟩,
    ⟨(some (.l (.l (.r .z)))), .mv (.t (.r (.r (.l .z)))), none, none, []⟩,
    ⟨(some (.r (.l (.r .z)))), .load false 1 (.t (.r .z)), (some ((.l (.l (.r .z))), true)), none, []⟩,
    ⟨(some (.l (.r (.r .z)))), .conv (.toInt .u64) (.t (.r (.l (.r .z)))), (some ((.l (.l (.r .z))), true)), none, []⟩,
    ⟨(some (.r (.r (.r .z)))), .fieldA 0 (.t (.l .z)), (some ((.l (.l (.r .z))), true)), none, []⟩,
    ⟨(some (.l (.l (.l (.l .z))))), .load false 1 (.t (.r (.r (.r .z)))), (some ((.l (.l (.r .z))), true)), none, []⟩,
    ⟨(some (.r (.l (.l (.l .z))))), .len .slice (.t (.l (.l (.l (.l .z))))), (some ((.l (.l (.r .z))), true)), none, []⟩,
    ⟨(some (.l (.r (.l (.l .z))))), .bin .sub (.t (.r (.l (.l (.l .z))))) (.c (.int .i64 1)), (some ((.l (.l (.r .z))), true)), none, []⟩,
    ⟨(some (.r (.r (.l (.l .z))))), .conv (.toInt .u64) (.t (.l (.r (.l (.l .z))))), (some ((.l (.l (.r .z))), true)), none, []⟩,
    ⟨(some (.l (.l (.r (.l .z))))), .fieldA 3 (.t (.l (.l .z))), (some ((.l (.l (.r .z))), true)), none, []⟩,
    ⟨(some (.r (.l (.r (.l .z))))), .load false 1 (.t (.l (.l (.r (.l .z))))), (some ((.l (.l (.r .z))), true)), none, []⟩,
    ⟨(some (.l (.r (.r (.l .z))))), .bin .mul (.t (.r (.r (.l (.l .z))))) (.t (.r (.l (.r (.l .z))))), (some ((.l (.l (.r .z))), true)), none, []⟩,
    ⟨(some (.r (.r (.r (.l .z))))), .bin .add (.t (.l (.r (.r .z)))) (.t (.l (.r (.r (.l .z))))), (some ((.l (.l (.r .z))), true)), none, []⟩,
    ⟨(some (.l (.l (.l (.r .z))))), .fieldA 4 (.t (.l (.l .z))), (some ((.l (.l (.r .z))), true)), none, []⟩,
    ⟨(some (.r (.l (.l (.r .z))))), .load false 1 (.t (.l (.l (.l (.r .z))))), (some ((.l (.l (.r .z))), true)), none, []⟩,
    ⟨(some (.l (.r (.l (.r .z))))), .bin .add (.t (.r (.r (.r (.l .z))))) (.t (.r (.l (.l (.r .z))))), (some ((.l (.l (.r .z))), true)), none, []⟩,
    ⟨(some (.r (.r (.l (.r .z))))), .fieldA 1 (.t (.l (.l .z))), (some ((.l (.l (.r .z))), true)), none, []⟩,
    ⟨(some (.l (.l (.r (.r .z))))), .load false 1 (.t (.r (.r (.l (.r .z))))), (some ((.l (.l (.r .z))), true)), none, []⟩,
    ⟨(some (.r (.l (.r (.r .z))))), .bin .leq (.t (.l (.r (.l (.r .z))))) (.t (.l (.l (.r (.r .z))))), (some ((.l (.l (.r .z))), true)), none, []⟩,
    ⟨(some (.l (.r (.r (.r .z))))), .pick (.t (.l (.l (.r .z)))) (.t (.r (.l (.r (.r .z))))) (.c (.bool false)), none, none, []⟩,
    ⟨(some (.r (.r (.r (.r .z))))), .mv (.t (.l (.r (.r (.r .z))))), none, none, []⟩,
    ⟨(some (.l (.l (.l (.l (.l .z)))))), .fieldA 14 (.t (.l (.l .z))), (some ((.r (.r (.r (.r .z)))), true)), none, []⟩,
    ⟨(some (.r (.l (.l (.l (.l .z)))))), .load false 1 (.t (.l (.l (.l (.l (.l .z)))))), (some ((.r (.r (.r (.r .z)))), true)), none, []⟩,
    ⟨(some (.l (.r (.l (.l (.l .z)))))), .bin .geq (.t (.r (.l (.l (.l (.l .z)))))) (.c (.int .i64 1024)), (some ((.r (.r (.r (.r .z)))), true)), none, []⟩,
    ⟨(some (.r (.r (.l (.l (.l .z)))))), .pick (.t (.r (.r (.r (.r .z))))) (.t (.l (.r (.l (.l (.l .z)))))) (.c (.bool false)), none, none, []⟩,
    ⟨(some (.r (.l .z))), .mv (.t (.r (.r (.l (.l (.l .z)))))), none, none, []⟩])
  .ret)))⟩
def AF35 : AFunc := ⟨11, [.tmp (.l (.l .z))],
  (.seq (.region false 0 [
    ⟨(some (.r .z)), .box 15 15 (.t .z), none, none, []⟩,
    ⟨(some (.l (.l .z))), .mv (.c (.bool false)), none, none, []⟩])
  (.seq (.region true 0 [
    ⟨(some (.r (.l .z))), .fieldA 6 (.t (.r .z)), none, none, []⟩,
    ⟨(some (.l (.r .z))), .load true 9 (.t (.r (.l .z))), none, none, [0]⟩,
    ⟨(some (.r (.r .z))), .call 27 [(.t (.l (.r .z)))], none, none, [0, 1]⟩,
    ⟨(some (.l (.l (.l .z)))), .conv (.toInt .u64) (.t (.r (.r .z))), none, none, [0, 1, 2]⟩,
    ⟨(some (.r (.l (.l .z)))), .fieldA 3 (.t (.l .z)), none, none, []⟩,
    ⟨(some (.l (.r (.l .z)))), .load false 1 (.t (.r (.l (.l .z)))), none, none, [4]⟩,
    ⟨(some (.r (.r (.l .z)))), .bin .leq (.t (.l (.l (.l .z)))) (.t (.l (.r (.l .z)))), none, none, [0, 1, 2, 3, 4, 5]⟩,
    ⟨(some (.l (.l .z))), .mv (.t (.r (.r (.l .z)))), none, none, [0, 1, 2, 3, 4, 5, 6]⟩])
  .ret))⟩
def AF36 : AFunc := ⟨18, [.tmp (.r (.l .z))],
  (.seq (.region false 0 [
    ⟨(some (.r (.l .z))), .mv (.c (.bool false)), none, none, []⟩])
  (.seq (.seq (.region false 0 [
    ⟨(some (.l (.l (.l .z)))), .mv (.t .z), none, none, []⟩,
    ⟨(some (.r (.l (.l .z)))), .len .slice (.t (.l (.l (.l .z)))), none, none, []⟩,
    ⟨(some (.l (.r (.l .z)))), .mv (.c (.int .i64 0)), none, none, []⟩])
  (.block 0 (.loop (.seq (.region false 0 [
      ⟨(some (.r (.r (.l .z)))), .bin .lss (.t (.l (.r (.l .z)))) (.t (.r (.l (.l .z)))), none, none, []⟩])
    (.seq (.cond (.t (.r (.r (.l .z))))
    .skip
    (.exit 0))
    (.seq (.block 1 (.seq (.region false 0 [
       ⟨(some (.l (.l (.r .z)))), .idxS 15 (.t (.l (.l (.l .z)))) (.t (.l (.r (.l .z)))), none, none, []⟩,
       ⟨(some (.r (.l (.r .z)))), .load true 15 (.t (.l (.l (.r .z)))), none, none, []⟩,
       ⟨(some (.r (.r .z))), .alloc 15 [[(.int .i64 0), (.int .i64 0), (.int .i64 0), (.int .i64 0), (.int .i64 0), (.int .i64 0), (.int .i64 0), (.int .u64 0), (.int .i64 0), (.int .i64 0), (.int .i64 0), (.int .i64 0), (.int .i64 0), (.int .i64 0), (.str [])]], none, none, []⟩,
       ⟨none, .store 15 (.t (.r (.r .z))) (.t (.r (.l (.r .z)))), none, none, []⟩])
     (.seq (.region false 0 [
       ⟨(some (.l (.r (.r .z)))), .mv (.t (.l .z)), none, none, []⟩,
       ⟨(some (.r (.r (.r .z)))), .load true 15 (.t (.r (.r .z))), none, none, []⟩,
       ⟨(some (.l (.l (.l (.l .z))))), .callv (.t (.l (.r (.r .z)))) [(.t (.r (.r (.r .z))))], none, none, []⟩,
       ⟨(some (.r (.l (.l (.l .z))))), .un .not (.t (.l (.l (.l (.l .z))))), none, none, []⟩])
     (.cond (.t (.r (.l (.l (.l .z)))))
     (.seq (.region false 0 [
        ⟨(some (.r (.l .z))), .mv (.c (.bool false)), none, none, []⟩])
      .ret)
     .skip))))
    (.region false 0 [
      ⟨(some (.l (.r (.l (.l .z))))), .bin .add (.t (.l (.r (.l .z)))) (.c (.int .i64 1)), none, none, []⟩,
      ⟨(some (.l (.r (.l .z)))), .mv (.t (.l (.r (.l (.l .z))))), none, none, []⟩])))))))
  (.seq (.region false 0 [
    ⟨(some (.r (.l .z))), .mv (.c (.bool true)), none, none, []⟩])
  .ret)))⟩
def AF37 : AFunc := ⟨13, [.tmp (.r .z)],
  (.seq (.region false 0 [
    ⟨(some (.r .z)), .mv (.c (.bool false)), none, none, []⟩])
  (.seq (.region false 0 [
    ⟨(some (.l (.l .z))), .fieldA 2 (.t .z), none, none, []⟩,
    ⟨(some (.r (.l .z))), .load false 1 (.t (.l (.l .z))), none, none, []⟩,
    ⟨(some (.l (.r .z))), .len .slice (.t (.r (.l .z))), none, none, []⟩,
    ⟨(some (.r (.r .z))), .bin .leq (.t (.l (.r .z))) (.c (.int .i64 30)), none, none, []⟩,
    ⟨(some (.l (.l (.l .z)))), .mv (.t (.r (.r .z))), none, none, []⟩,
    ⟨(some (.r (.l (.l .z)))), .fieldA 2 (.t .z), (some ((.l (.l (.l .z))), true)), none, []⟩,
    ⟨(some (.l (.r (.l .z)))), .load false 1 (.t (.r (.l (.l .z)))), (some ((.l (.l (.l .z))), true)), none, []⟩,
    ⟨(some (.r (.r (.l .z)))), .load false 1 (.t (.l .z)), (some ((.l (.l (.l .z))), true)), none, []⟩,
    ⟨(some (.l (.l (.r .z)))), .call 36 [(.t (.l (.r (.l .z)))), (.t (.r (.r (.l .z))))], (some ((.l (.l (.l .z))), true)), none, []⟩,
    ⟨(some (.r (.l (.r .z)))), .pick (.t (.l (.l (.l .z)))) (.t (.l (.l (.r .z)))) (.c (.bool false)), none, none, []⟩,
    ⟨(some (.r .z)), .mv (.t (.r (.l (.r .z)))), none, none, []⟩])
  .ret))⟩
def AF38 : AFunc := ⟨7, [.tmp (.r .z)],
  (.seq (.region false 0 [
    ⟨(some (.r .z)), .mv (.c (.bool false)), none, none, []⟩])
  (.seq (.region false 0 [
    ⟨(some (.l (.l .z))), .fieldA 1 (.t .z), none, none, []⟩,
    ⟨(some (.r (.l .z))), .load false 1 (.t (.l (.l .z))), none, none, []⟩,
    ⟨(some (.l (.r .z))), .load false 1 (.t (.l .z)), none, none, []⟩,
    ⟨(some (.r (.r .z))), .call 39 [(.t (.r (.l .z))), (.t (.l (.r .z)))], none, none, []⟩,
    ⟨(some (.r .z)), .mv (.t (.r (.r .z))), none, none, []⟩])
  .ret))⟩
def AF39 : AFunc := ⟨18, [.tmp (.r (.l .z))],
  (.seq (.region false 0 [
    ⟨(some (.r (.l .z))), .mv (.c (.bool false)), none, none, []⟩])
  (.seq (.seq (.region false 0 [
    ⟨(some (.l (.l (.l .z)))), .mv (.t .z), none, none, []⟩,
    ⟨(some (.r (.l (.l .z)))), .len .slice (.t (.l (.l (.l .z)))), none, none, []⟩,
    ⟨(some (.l (.r (.l .z)))), .mv (.c (.int .i64 0)), none, none, []⟩])
  (.block 0 (.loop (.seq (.region false 0 [
      ⟨(some (.r (.r (.l .z)))), .bin .lss (.t (.l (.r (.l .z)))) (.t (.r (.l (.l .z)))), none, none, []⟩])
    (.seq (.cond (.t (.r (.r (.l .z))))
    .skip
    (.exit 0))
    (.seq (.block 1 (.seq (.region false 0 [
       ⟨(some (.l (.l (.r .z)))), .idxS 6 (.t (.l (.l (.l .z)))) (.t (.l (.r (.l .z)))), none, none, []⟩,
       ⟨(some (.r (.l (.r .z)))), .load true 6 (.t (.l (.l (.r .z)))), none, none, []⟩,
       ⟨(some (.r (.r .z))), .alloc 6 [[(.int .i64 0), (.int .i64 0), (.int .i64 0), (.int .i64 0), (.int .i64 0), (.int .i64 0)]], none, none, []⟩,
       ⟨none, .store 6 (.t (.r (.r .z))) (.t (.r (.l (.r .z)))), none, none, []⟩])
     (.seq (.region false 0 [
       ⟨(some (.l (.r (.r .z)))), .mv (.t (.l .z)), none, none, []⟩,
       ⟨(some (.r (.r (.r .z)))), .load true 6 (.t (.r (.r .z))), none, none, []⟩,
       ⟨(some (.l (.l (.l (.l .z))))), .callv (.t (.l (.r (.r .z)))) [(.t (.r (.r (.r .z))))], none, none, []⟩,
       ⟨(some (.r (.l (.l (.l .z))))), .un .not (.t (.l (.l (.l (.l .z))))), none, none, []⟩])
     (.cond (.t (.r (.l (.l (.l .z)))))
     (.seq (.region false 0 [
        ⟨(some (.r (.l .z))), .mv (.c (.bool false)), none, none, []⟩])
      .ret)
     .skip))))
    (.region false 0 [
      ⟨(some (.l (.r (.l (.l .z))))), .bin .add (.t (.l (.r (.l .z)))) (.c (.int .i64 1)), none, none, []⟩,
      ⟨(some (.l (.r (.l .z)))), .mv (.t (.l (.r (.l (.l .z))))), none, none, []⟩])))))))
  (.seq (.region false 0 [
    ⟨(some (.r (.l .z))), .mv (.c (.bool true)), none, none, []⟩])
  .ret)))⟩
def AF40 : AFunc := ⟨12, [.tmp (.l (.l .z))],
  (.seq (.region false 0 [
    ⟨(some (.l (.l .z))), .mv (.c (.bool false)), none, none, []⟩])
  (.seq (.region false 0 [
    ⟨(some (.r (.l .z))), .load false 1 (.t .z), none, none, []⟩,
    ⟨(some (.l (.r .z))), .bin .leq (.t (.r (.l .z))) (.c (.int .i64 8000)), none, none, []⟩,
    ⟨(some (.r (.r .z))), .mv (.t (.l (.r .z))), none, none, []⟩,
    ⟨(some (.l (.l (.l .z)))), .fieldA 0 (.t (.l .z)), (some ((.r (.r .z)), true)), none, []⟩,
    ⟨(some (.r (.l (.l .z)))), .load false 1 (.t (.l (.l (.l .z)))), (some ((.r (.r .z)), true)), none, []⟩,
    ⟨(some (.l (.r (.l .z)))), .load false 1 (.t (.r .z)), (some ((.r (.r .z)), true)), none, []⟩,
    ⟨(some (.r (.r (.l .z)))), .call 41 [(.t (.r (.l (.l .z)))), (.t (.l (.r (.l .z))))], (some ((.r (.r .z)), true)), none, []⟩,
    ⟨(some (.l (.l (.r .z)))), .pick (.t (.r (.r .z))) (.t (.r (.r (.l .z)))) (.c (.bool false)), none, none, []⟩,
    ⟨(some (.l (.l .z))), .mv (.t (.l (.l (.r .z)))), none, none, []⟩])
  .ret))⟩
def AF41 : AFunc := ⟨18, [.tmp (.r (.l .z))],
  (.seq (.region false 0 [
    ⟨(some (.r (.l .z))), .mv (.c (.bool false)), none, none, []⟩])
  (.seq (.seq (.region false 0 [
    ⟨(some (.l (.l (.l .z)))), .mv (.t .z), none, none, []⟩,
    ⟨(some (.r (.l (.l .z)))), .len .slice (.t (.l (.l (.l .z)))), none, none, []⟩,
    ⟨(some (.l (.r (.l .z)))), .mv (.c (.int .i64 0)), none, none, []⟩])
  (.block 0 (.loop (.seq (.region false 0 [
      ⟨(some (.r (.r (.l .z)))), .bin .lss (.t (.l (.r (.l .z)))) (.t (.r (.l (.l .z)))), none, none, []⟩])
    (.seq (.cond (.t (.r (.r (.l .z))))
    .skip
    (.exit 0))
    (.seq (.block 1 (.seq (.region false 0 [
       ⟨(some (.l (.l (.r .z)))), .idxS 16 (.t (.l (.l (.l .z)))) (.t (.l (.r (.l .z)))), none, none, []⟩,
       ⟨(some (.r (.l (.r .z)))), .load true 16 (.t (.l (.l (.r .z)))), none, none, []⟩,
       ⟨(some (.r (.r .z))), .alloc 1 [[(.int .i64 0)], [(.int .u64 0)], [(.int .u64 0)], [(.int .u64 0)], [(.int .u64 0)], [(.int .i64 0)], [(.int .i64 0)], [(.int .i64 0)], [(.int .i64 0)], [(.int .i64 0)], [(.int .i64 0)], [(.int .i64 0)], [(.int .i64 0)], [(.int .i64 0)], [(.int .i64 0)], [(.int .i64 0)]], none, none, []⟩,
       ⟨none, .store 16 (.t (.r (.r .z))) (.t (.r (.l (.r .z)))), none, none, []⟩])
     (.seq (.region false 0 [
       ⟨(some (.l (.r (.r .z)))), .mv (.t (.l .z)), none, none, []⟩,
       ⟨(some (.r (.r (.r .z)))), .load true 16 (.t (.r (.r .z))), none, none, []⟩,
       ⟨(some (.l (.l (.l (.l .z))))), .callv (.t (.l (.r (.r .z)))) [(.t (.r (.r (.r .z))))], none, none, []⟩,
       ⟨(some (.r (.l (.l (.l .z))))), .un .not (.t (.l (.l (.l (.l .z))))), none, none, []⟩])
     (.cond (.t (.r (.l (.l (.l .z)))))
     (.seq (.region false 0 [
        ⟨(some (.r (.l .z))), .mv (.c (.bool false)), none, none, []⟩])
      .ret)
     .skip))))
    (.region false 0 [
      ⟨(some (.l (.r (.l (.l .z))))), .bin .add (.t (.l (.r (.l .z)))) (.c (.int .i64 1)), none, none, []⟩,
      ⟨(some (.l (.r (.l .z)))), .mv (.t (.l (.r (.l (.l .z))))), none, none, []⟩])))))))
  (.seq (.region false 0 [
    ⟨(some (.r (.l .z))), .mv (.c (.bool true)), none, none, []⟩])
  .ret)))⟩
def AF42 : AFunc := ⟨13, [.tmp (.r .z)],
  (.seq (.region false 0 [
    ⟨(some (.l .z)), .box 4 4 (.t .z), none, none, []⟩,
    ⟨(some (.r .z)), .mv (.c (.int .i64 0)), none, none, []⟩])
  (.seq (.region true 0 [
    ⟨(some (.l (.l .z))), .fieldA 1 (.t (.l .z)), none, none, []⟩,
    ⟨(some (.r (.l .z))), .load false 1 (.t (.l (.l .z))), none, none, [0]⟩,
    ⟨(some (.l (.r .z))), .fieldA 0 (.t (.l .z)), none, none, []⟩,
    ⟨(some (.r (.r .z))), .load false 1 (.t (.l (.r .z))), none, none, [2]⟩,
    ⟨(some (.l (.l (.l .z)))), .bin .mul (.t (.r (.l .z))) (.t (.r (.r .z))), none, none, [0, 1, 2, 3]⟩,
    ⟨(some (.r (.l (.l .z)))), .load true 4 (.t (.l .z)), none, none, []⟩,
    ⟨(some (.l (.r (.l .z)))), .call 47 [(.t (.r (.l (.l .z))))], none, none, [5]⟩,
    ⟨(some (.r (.r (.l .z)))), .bin .add (.t (.l (.r (.l .z)))) (.c (.int .i64 2)), none, none, [5, 6]⟩,
    ⟨(some (.l (.l (.r .z)))), .bin .mul (.t (.l (.l (.l .z)))) (.t (.r (.r (.l .z)))), none, none, [0, 1, 2, 3, 4, 5, 6, 7]⟩,
    ⟨(some (.r (.l (.r .z)))), .bin .add (.c (.int .i64 10)) (.t (.l (.l (.r .z)))), none, none, [0, 1, 2, 3, 4, 5, 6, 7, 8]⟩,
    ⟨(some (.r .z)), .mv (.t (.r (.l (.r .z)))), none, none, [0, 1, 2, 3, 4, 5, 6, 7, 8, 9]⟩])
  .ret))⟩
def AF43 : AFunc := ⟨6, [.cell (.r .z) true 9],
  (.seq (.region false 0 [
    ⟨(some (.r .z)), .alloc 9 [[(.int .i64 0), (.int .u64 0), (.int .i64 0), (.int .i64 0), (.int .i64 0), (.int .i64 0), (.int .i64 0), (.int .i64 0), (.str [])]], none, none, []⟩])
  (.seq (.region false 0 [
    ⟨(some (.l (.l .z))), .build [(.int .i64 0), (.int .u64 0), (.int .i64 0)] [(0, 1, (.c (.int .i64 1))), (1, 1, (.c (.int .u64 1)))], none, none, []⟩,
    ⟨(some (.r (.l .z))), .mv (.t .z), none, none, []⟩,
    ⟨(some (.l (.r .z))), .build [(.int .i64 0), (.int .u64 0), (.int .i64 0), (.int .i64 0), (.int .i64 0), (.int .i64 0), (.int .i64 0), (.int .i64 0), (.str [])] [(0, 3, (.t (.l (.l .z)))), (3, 1, (.c (.int .i64 2))), (6, 1, (.t (.r (.l .z)))), (7, 1, (.c (.int .i64 3))), (8, 1, (.c (.str [97, 98, 99])))], none, none, []⟩,
    ⟨none, .store 9 (.t (.r .z)) (.t (.l (.r .z))), none, none, []⟩])
  .ret))⟩
def AF44 : AFunc := ⟨71, [.tmp (.r .z)],
  (.seq (.region false 0 [
    ⟨(some (.l .z)), .box 1 16 (.t .z), none, none, []⟩,
    ⟨(some (.r .z)), .mv (.c (.int .i64 0)), none, none, []⟩])
  (.seq (.region false 0 [
    ⟨(some (.r (.r .z))), .fieldA 0 (.t (.l .z)), none, none, []⟩,
    ⟨(some (.l (.l (.l .z)))), .load false 1 (.t (.r (.r .z))), none, none, []⟩,
    ⟨(some (.r (.l (.l .z)))), .build [(.int .i64 0), (.int .i64 0), (.int .i64 0)] [(0, 1, (.t (.l (.l (.l .z))))), (1, 1, (.c (.int .i64 1))), (2, 1, (.c (.int .i64 16)))], none, none, []⟩,
    ⟨(some (.l (.r (.l .z)))), .fieldA 5 (.t (.l .z)), none, none, []⟩,
    ⟨(some (.r (.r (.l .z)))), .load false 1 (.t (.l (.r (.l .z)))), none, none, []⟩,
    ⟨(some (.l (.l (.r .z)))), .build [(.int .i64 0), (.int .i64 0), (.int .i64 0)] [(0, 1, (.t (.r (.r (.l .z))))), (1, 1, (.c (.int .i64 1))), (2, 1, (.c (.int .i64 1000)))], none, none, []⟩,
    ⟨(some (.r (.l (.r .z)))), .fieldA 6 (.t (.l .z)), none, none, []⟩,
    ⟨(some (.l (.r (.r .z)))), .load false 1 (.t (.r (.l (.r .z)))), none, none, []⟩,
    ⟨(some (.r (.r (.r .z)))), .fieldA 5 (.t (.l .z)), none, none, []⟩,
    ⟨(some (.l (.l (.l (.l .z))))), .load false 1 (.t (.r (.r (.r .z)))), none, none, []⟩,
    ⟨(some (.r (.l (.l (.l .z))))), .build [(.int .i64 0), (.int .i64 0), (.int .i64 0)] [(0, 1, (.t (.l (.r (.r .z))))), (1, 1, (.t (.l (.l (.l (.l .z)))))), (2, 1, (.c (.int .i64 100000)))], none, none, []⟩,
    ⟨(some (.l (.r (.l (.l .z))))), .fieldA 7 (.t (.l .z)), none, none, []⟩,
    ⟨(some (.r (.r (.l (.l .z))))), .load false 1 (.t (.l (.r (.l (.l .z))))), none, none, []⟩,
    ⟨(some (.l (.l (.r (.l .z))))), .build [(.int .i64 0), (.int .i64 0), (.int .i64 0)] [(0, 1, (.t (.r (.r (.l (.l .z)))))), (1, 1, (.c (.int .i64 0))), (2, 1, (.c (.int .i64 100)))], none, none, []⟩,
    ⟨(some (.r (.l (.r (.l .z))))), .fieldA 11 (.t (.l .z)), none, none, []⟩,
    ⟨(some (.l (.r (.r (.l .z))))), .load false 1 (.t (.r (.l (.r (.l .z))))), none, none, []⟩,
    ⟨(some (.r (.r (.r (.l .z))))), .build [(.int .i64 0), (.int .i64 0), (.int .i64 0)] [(0, 1, (.t (.l (.r (.r (.l .z)))))), (1, 1, (.c (.int .i64 0))), (2, 1, (.c (.int .i64 1048576)))], none, none, []⟩,
    ⟨(some (.l (.l (.l (.r .z))))), .fieldA 12 (.t (.l .z)), none, none, []⟩,
    ⟨(some (.r (.l (.l (.r .z))))), .load false 1 (.t (.l (.l (.l (.r .z))))), none, none, []⟩,
    ⟨(some (.l (.r (.l (.r .z))))), .build [(.int .i64 0), (.int .i64 0), (.int .i64 0)] [(0, 1, (.t (.r (.l (.l (.r .z)))))), (1, 1, (.c (.int .i64 1))), (2, 1, (.c (.int .i64 1048576)))], none, none, []⟩,
    ⟨(some (.r (.r (.l (.r .z))))), .fieldA 13 (.t (.l .z)), none, none, []⟩,
    ⟨(some (.l (.l (.r (.r .z))))), .load false 1 (.t (.r (.r (.l (.r .z))))), none, none, []⟩,
    ⟨(some (.r (.l (.r (.r .z))))), .build [(.int .i64 0), (.int .i64 0), (.int .i64 0)] [(0, 1, (.t (.l (.l (.r (.r .z)))))), (1, 1, (.c (.int .i64 1))), (2, 1, (.c (.int .i64 1099511627776)))], none, none, []⟩,
    ⟨(some (.l (.r (.r (.r .z))))), .fieldA 14 (.t (.l .z)), none, none, []⟩,
    ⟨(some (.r (.r (.r (.r .z))))), .load false 1 (.t (.l (.r (.r (.r .z))))), none, none, []⟩,
    ⟨(some (.l (.l (.l (.l (.l .z)))))), .build [(.int .i64 0), (.int .i64 0), (.int .i64 0)] [(0, 1, (.t (.r (.r (.r (.r .z)))))), (1, 1, (.c (.int .i64 8))), (2, 1, (.c (.int .i64 4096)))], none, none, []⟩,
    ⟨(some (.r (.l (.l (.l (.l .z)))))), .fieldA 15 (.t (.l .z)), none, none, []⟩,
    ⟨(some (.l (.r (.l (.l (.l .z)))))), .load false 1 (.t (.r (.l (.l (.l (.l .z)))))), none, none, []⟩,
    ⟨(some (.r (.r (.l (.l (.l .z)))))), .build [(.int .i64 0), (.int .i64 0), (.int .i64 0)] [(0, 1, (.t (.l (.r (.l (.l (.l .z))))))), (1, 1, (.c (.int .i64 0))), (2, 1, (.c (.int .i64 1048576)))], none, none, []⟩,
    ⟨(some (.l (.l (.r (.l (.l .z)))))), .slit 3 9 [(.int .i64 0), (.int .i64 0), (.int .i64 0)] [(0, (.t (.r (.l (.l .z))))), (1, (.t (.l (.l (.r .z))))), (2, (.t (.r (.l (.l (.l .z)))))), (3, (.t (.l (.l (.r (.l .z)))))), (4, (.t (.r (.r (.r (.l .z)))))), (5, (.t (.l (.r (.l (.r .z)))))), (6, (.t (.r (.l (.r (.r .z)))))), (7, (.t (.l (.l (.l (.l (.l .z))))))), (8, (.t (.r (.r (.l (.l (.l .z)))))))], none, none, []⟩,
    ⟨(some (.l (.l .z))), .mv (.t (.l (.l (.r (.l (.l .z)))))), none, none, []⟩])
  (.seq (.seq (.region false 0 [
    ⟨(some (.r (.l (.r (.l (.l .z)))))), .fieldA 8 (.t (.l .z)), none, none, []⟩,
    ⟨(some (.l (.r (.r (.l (.l .z)))))), .load true 3 (.t (.r (.l (.r (.l (.l .z)))))), none, none, []⟩,
    ⟨(some (.r (.r (.r (.l (.l .z)))))), .mv (.c (.int .i64 0)), none, none, []⟩])
  (.block 0 (.loop (.seq (.region false 0 [
      ⟨(some (.l (.l (.l (.r (.l .z)))))), .bin .lss (.t (.r (.r (.r (.l (.l .z)))))) (.c (.int .i64 3)), none, none, []⟩])
    (.seq (.cond (.t (.l (.l (.l (.r (.l .z))))))
    .skip
    (.exit 0))
    (.seq (.block 1 (.seq (.region false 0 [
       ⟨(some (.r (.l (.l (.r (.l .z)))))), .idxV 1 3 false (.t (.l (.r (.r (.l (.l .z)))))) (.t (.r (.r (.r (.l (.l .z)))))), none, none, []⟩,
       ⟨(some (.l (.r .z))), .mv (.t (.r (.l (.l (.r (.l .z)))))), none, none, []⟩])
     (.region false 0 [
       ⟨(some (.l (.r (.l (.r (.l .z)))))), .mv (.t (.l (.l .z))), none, none, []⟩,
       ⟨(some (.r (.r (.l (.r (.l .z)))))), .mv (.t (.l (.r .z))), none, none, []⟩,
       ⟨(some (.l (.l (.r (.r (.l .z)))))), .build [(.int .i64 0), (.int .i64 0), (.int .i64 0)] [(0, 1, (.t (.r (.r (.l (.r (.l .z))))))), (1, 1, (.c (.int .i64 1))), (2, 1, (.c (.int .i64 100)))], none, none, []⟩,
       ⟨(some (.r (.l (.r (.r (.l .z)))))), .slit 3 1 [(.int .i64 0), (.int .i64 0), (.int .i64 0)] [(0, (.t (.l (.l (.r (.r (.l .z)))))))], none, none, []⟩,
       ⟨(some (.l (.r (.r (.r (.l .z)))))), .app 3 24 (.t (.l (.r (.l (.r (.l .z)))))) (.t (.r (.l (.r (.r (.l .z)))))), none, none, []⟩,
       ⟨(some (.l (.l .z))), .mv (.t (.l (.r (.r (.r (.l .z)))))), none, none, []⟩])))
    (.region false 0 [
      ⟨(some (.r (.r (.r (.r (.l .z)))))), .bin .add (.t (.r (.r (.r (.l (.l .z)))))) (.c (.int .i64 1)), none, none, []⟩,
      ⟨(some (.r (.r (.r (.l (.l .z)))))), .mv (.t (.r (.r (.r (.r (.l .z)))))), none, none, []⟩])))))))
  (.seq (.seq (.region false 0 [
    ⟨(some (.l (.l (.l (.l (.r .z)))))), .mv (.t (.l (.l .z))), none, none, []⟩,
    ⟨(some (.r (.l (.l (.l (.r .z)))))), .call 54 [(.t (.l (.l (.l (.l (.r .z))))))], none, none, []⟩,
    ⟨(some (.l (.r (.l (.l (.r .z)))))), .un .not (.t (.r (.l (.l (.l (.r .z)))))), none, none, []⟩,
    ⟨(some (.r (.r (.l (.l (.r .z)))))), .mv (.t (.l (.r (.l (.l (.r .z)))))), none, none, []⟩,
    ⟨(some (.l (.l (.r (.l (.r .z)))))), .fieldA 1 (.t (.l .z)), (some ((.r (.r (.l (.l (.r .z))))), false)), none, []⟩,
    ⟨(some (.r (.l (.r (.l (.r .z)))))), .load false 1 (.t (.l (.l (.r (.l (.r .z)))))), (some ((.r (.r (.l (.l (.r .z))))), false)), none, []⟩,
    ⟨(some (.l (.r (.r (.l (.r .z)))))), .build [(.int .u64 0), (.int .u64 0), (.int .u64 0)] [(0, 1, (.t (.r (.l (.r (.l (.r .z))))))), (1, 1, (.c (.int .u64 1))), (2, 1, (.c (.int .u64 1099511627776)))], (some ((.r (.r (.l (.l (.r .z))))), false)), none, []⟩,
    ⟨(some (.r (.r (.r (.l (.r .z)))))), .fieldA 2 (.t (.l .z)), (some ((.r (.r (.l (.l (.r .z))))), false)), none, []⟩,
    ⟨(some (.l (.l (.l (.r (.r .z)))))), .load false 1 (.t (.r (.r (.r (.l (.r .z)))))), (some ((.r (.r (.l (.l (.r .z))))), false)), none, []⟩,
    ⟨(some (.r (.l (.l (.r (.r .z)))))), .build [(.int .u64 0), (.int .u64 0), (.int .u64 0)] [(0, 1, (.t (.l (.l (.l (.r (.r .z))))))), (1, 1, (.c (.int .u64 1))), (2, 1, (.c (.int .u64 1200)))], (some ((.r (.r (.l (.l (.r .z))))), false)), none, []⟩,
    ⟨(some (.l (.r (.l (.r (.r .z)))))), .fieldA 3 (.t (.l .z)), (some ((.r (.r (.l (.l (.r .z))))), false)), none, []⟩,
    ⟨(some (.r (.r (.l (.r (.r .z)))))), .load false 1 (.t (.l (.r (.l (.r (.r .z)))))), (some ((.r (.r (.l (.l (.r .z))))), false)), none, []⟩,
    ⟨(some (.l (.l (.r (.r (.r .z)))))), .fieldA 1 (.t (.l .z)), (some ((.r (.r (.l (.l (.r .z))))), false)), none, []⟩,
    ⟨(some (.r (.l (.r (.r (.r .z)))))), .load false 1 (.t (.l (.l (.r (.r (.r .z)))))), (some ((.r (.r (.l (.l (.r .z))))), false)), none, []⟩,
    ⟨(some (.l (.r (.r (.r (.r .z)))))), .build [(.int .u64 0), (.int .u64 0), (.int .u64 0)] [(0, 1, (.t (.r (.r (.l (.r (.r .z))))))), (1, 1, (.c (.int .u64 0))), (2, 1, (.t (.r (.l (.r (.r (.r .z)))))))], (some ((.r (.r (.l (.l (.r .z))))), false)), none, []⟩,
    ⟨(some (.r (.r (.r (.r (.r .z)))))), .fieldA 4 (.t (.l .z)), (some ((.r (.r (.l (.l (.r .z))))), false)), none, []⟩,
    ⟨(some (.l (.l (.l (.l (.l (.l .z))))))), .load false 1 (.t (.r (.r (.r (.r (.r .z)))))), (some ((.r (.r (.l (.l (.r .z))))), false)), none, []⟩,
    ⟨(some (.r (.l (.l (.l (.l (.l .z))))))), .fieldA 1 (.t (.l .z)), (some ((.r (.r (.l (.l (.r .z))))), false)), none, []⟩,
    ⟨(some (.l (.r (.l (.l (.l (.l .z))))))), .load false 1 (.t (.r (.l (.l (.l (.l (.l .z))))))), (some ((.r (.r (.l (.l (.r .z))))), false)), none, []⟩,
    ⟨(some (.r (.r (.l (.l (.l (.l .z))))))), .build [(.int .u64 0), (.int .u64 0), (.int .u64 0)] [(0, 1, (.t (.l (.l (.l (.l (.l (.l .z)))))))), (1, 1, (.c (.int .u64 0))), (2, 1, (.t (.l (.r (.l (.l (.l (.l .z))))))))], (some ((.r (.r (.l (.l (.r .z))))), false)), none, []⟩,
    ⟨(some (.l (.l (.r (.l (.l (.l .z))))))), .slit 3 4 [(.int .u64 0), (.int .u64 0), (.int .u64 0)] [(0, (.t (.l (.r (.r (.l (.r .z))))))), (1, (.t (.r (.l (.l (.r (.r .z))))))), (2, (.t (.l (.r (.r (.r (.r .z))))))), (3, (.t (.r (.r (.l (.l (.l (.l .z))))))))], (some ((.r (.r (.l (.l (.r .z))))), false)), none, []⟩,
    ⟨(some (.r (.l (.r (.l (.l (.l .z))))))), .call 55 [(.t (.l (.l (.r (.l (.l (.l .z)))))))], (some ((.r (.r (.l (.l (.r .z))))), false)), none, []⟩,
    ⟨(some (.l (.r (.r (.l (.l (.l .z))))))), .un .not (.t (.r (.l (.r (.l (.l (.l .z))))))), (some ((.r (.r (.l (.l (.r .z))))), false)), none, []⟩,
    ⟨(some (.r (.r (.r (.l (.l (.l .z))))))), .pick (.t (.r (.r (.l (.l (.r .z)))))) (.c (.bool true)) (.t (.l (.r (.r (.l (.l (.l .z))))))), none, none, []⟩])
  (.cond (.t (.r (.r (.r (.l (.l (.l .z)))))))
  (.seq (.region false 0 [
     ⟨(some (.r .z)), .mv (.c (.int .i64 2)), none, none, []⟩])
   .ret)
  .skip))
  (.seq (.region false 0 [
    ⟨(some (.r .z)), .mv (.c (.int .i64 0)), none, none, []⟩])
  .ret)))))⟩
def AF45 : AFunc := ⟨52, [.tmp (.r .z), .tmp (.l (.l .z))],
  (.seq (.region false 0 [
    ⟨(some (.r .z)), .mv (.c (.int .i64 0)), none, none, []⟩,
    ⟨(some (.l (.l .z))), .mv (.c (.int .i64 0)), none, none, []⟩])
  (.seq (.seq (.region false 0 [
    ⟨(some (.l (.l (.l .z)))), .mv (.t .z), none, none, []⟩,
    ⟨(some (.r (.l (.l .z)))), .len .slice (.t (.l (.l (.l .z)))), none, none, []⟩,
    ⟨(some (.l (.r (.l .z)))), .bin .gtr (.t (.r (.l (.l .z)))) (.c (.int .i64 200)), none, none, []⟩])
  (.cond (.t (.l (.r (.l .z))))
  (.seq (.region false 0 [
     ⟨(some (.r .z)), .mv (.c (.int .i64 5)), none, none, []⟩,
     ⟨(some (.l (.l .z))), .mv (.c (.int .i64 0)), none, none, []⟩])
   .ret)
  .skip))
  (.seq (.region false 0 [
    ⟨(some (.r (.r (.l .z)))), .mkmap, none, none, []⟩,
    ⟨(some (.r (.l .z))), .mv (.t (.r (.r (.l .z)))), none, none, []⟩])
  (.seq (.seq (.region false 0 [
    ⟨(some (.l (.l (.r .z)))), .mv (.t .z), none, none, []⟩,
    ⟨(some (.r (.l (.r .z)))), .len .slice (.t (.l (.l (.r .z)))), none, none, []⟩,
    ⟨(some (.l (.r (.r .z)))), .mv (.c (.int .i64 0)), none, none, []⟩])
  (.block 0 (.loop (.seq (.region false 0 [
      ⟨(some (.r (.r (.r .z)))), .bin .lss (.t (.l (.r (.r .z)))) (.t (.r (.l (.r .z)))), none, none, []⟩])
    (.seq (.cond (.t (.r (.r (.r .z))))
    .skip
    (.exit 0))
    (.seq (.block 1 (.seq (.region false 0 [
       ⟨(some (.l (.l (.l (.l .z))))), .mv (.t (.l (.r (.r .z)))), none, none, []⟩,
       ⟨(some (.r (.l (.l (.l .z))))), .idxS 6 (.t (.l (.l (.r .z)))) (.t (.l (.r (.r .z)))), none, none, []⟩,
       ⟨(some (.l (.r (.l (.l .z))))), .load true 6 (.t (.r (.l (.l (.l .z))))), none, none, []⟩,
       ⟨(some (.r (.r .z))), .alloc 6 [[(.int .i64 0), (.int .i64 0), (.int .i64 0), (.int .i64 0), (.int .i64 0), (.int .i64 0)]], none, none, []⟩,
       ⟨(some (.l (.r .z))), .mv (.t (.l (.l (.l (.l .z))))), none, none, []⟩,
       ⟨none, .store 6 (.t (.r (.r .z))) (.t (.l (.r (.l (.l .z))))), none, none, []⟩])
     (.seq (.block 2 (.seq (.region false 0 [
        ⟨(some (.l (.l (.r (.l .z))))), .load true 6 (.t (.r (.r .z))), none, none, []⟩,
        ⟨(some (.r (.l (.r (.l .z))))), .call 56 [(.t (.l (.l (.r (.l .z)))))], none, none, []⟩,
        ⟨(some (.l (.r (.r (.l .z))))), .eql true false [.i] (.t (.r (.l (.r (.l .z))))) (.c (.int .i64 0)), none, none, []⟩,
        ⟨(some (.r (.r (.l (.l .z))))), .mv (.t (.l (.r (.r (.l .z))))), none, none, []⟩])
      (.cond (.t (.r (.r (.l (.l .z)))))
      (.seq (.region false 0 [
         ⟨(some (.r (.r (.r (.l .z))))), .mv (.t (.l (.r .z))), none, none, []⟩,
         ⟨(some (.r .z)), .mv (.c (.int .i64 2)), none, none, []⟩,
         ⟨(some (.l (.l .z))), .mv (.t (.r (.r (.r (.l .z))))), none, none, []⟩])
       .ret)
      (.seq (.region true 0 [
         ⟨(some (.r (.l (.l (.r .z))))), .mv (.t (.l (.r .z))), none, none, []⟩,
         ⟨(some (.l (.r (.l (.r .z))))), .bin .gtr (.t (.r (.l (.l (.r .z))))) (.c (.int .i64 0)), none, none, [0]⟩,
         ⟨(some (.r (.r (.l (.r .z))))), .mv (.t (.l (.r (.l (.r .z))))), none, none, [0, 1]⟩,
         ⟨(some (.l (.l (.r (.r .z))))), .mv (.t .z), (some ((.r (.r (.l (.r .z)))), true)), none, [0, 1, 2]⟩,
         ⟨(some (.r (.l (.r (.r .z))))), .mv (.t (.l (.r .z))), (some ((.r (.r (.l (.r .z)))), true)), none, [0, 1, 2]⟩,
         ⟨(some (.l (.r (.r (.r .z))))), .bin .sub (.t (.r (.l (.r (.r .z))))) (.c (.int .i64 1)), (some ((.r (.r (.l (.r .z)))), true)), none, [0, 1, 2, 4]⟩,
         ⟨(some (.r (.r (.r (.r .z))))), .idxS 6 (.t (.l (.l (.r (.r .z))))) (.t (.l (.r (.r (.r .z))))), (some ((.r (.r (.l (.r .z)))), true)), none, [0, 1, 2, 3, 4, 5]⟩,
         ⟨(some (.l (.l (.l (.l (.l .z)))))), .load true 6 (.t (.r (.r (.r (.r .z))))), (some ((.r (.r (.l (.r .z)))), true)), none, [0, 1, 2, 3, 4, 5, 6]⟩,
         ⟨(some (.r (.l (.l (.l (.l .z)))))), .load true 6 (.t (.r (.r .z))), (some ((.r (.r (.l (.r .z)))), true)), none, [0, 1, 2]⟩,
         ⟨(some (.l (.r (.l (.l (.l .z)))))), .call 57 [(.t (.l (.l (.l (.l (.l .z)))))), (.t (.r (.l (.l (.l (.l .z))))))], (some ((.r (.r (.l (.r .z)))), true)), none, [0, 1, 2, 3, 4, 5, 6, 7, 8]⟩,
         ⟨(some (.r (.r (.l (.l (.l .z)))))), .bin .geq (.t (.l (.r (.l (.l (.l .z)))))) (.c (.int .i64 0)), (some ((.r (.r (.l (.r .z)))), true)), none, [0, 1, 2, 3, 4, 5, 6, 7, 8, 9]⟩,
         ⟨(some (.l (.l (.r (.l (.l .z)))))), .pick (.t (.r (.r (.l (.r .z))))) (.t (.r (.r (.l (.l (.l .z)))))) (.c (.bool false)), none, none, [0, 1, 2, 3, 4, 5, 6, 7, 8, 9, 10]⟩,
         ⟨(some (.l (.l (.l (.r .z))))), .mv (.t (.l (.l (.r (.l (.l .z)))))), none, none, [0, 1, 2, 3, 4, 5, 6, 7, 8, 9, 10, 11]⟩])
       (.cond (.t (.l (.l (.l (.r .z)))))
       (.seq (.region false 0 [
          ⟨(some (.r (.l (.r (.l (.l .z)))))), .mv (.t (.l (.r .z))), none, none, []⟩,
          ⟨(some (.r .z)), .mv (.c (.int .i64 19)), none, none, []⟩,
          ⟨(some (.l (.l .z))), .mv (.t (.r (.l (.r (.l (.l .z)))))), none, none, []⟩])
        .ret)
       (.seq (.region true 0 [
          ⟨(some (.r (.r (.r (.l (.l .z)))))), .mv (.t (.r (.l .z))), none, none, []⟩,
          ⟨(some (.l (.l (.l (.r (.l .z)))))), .load true 6 (.t (.r (.r .z))), none, none, []⟩,
          ⟨(some (.r (.l (.l (.r (.l .z)))))), .call 58 [(.t (.l (.l (.l (.r (.l .z))))))], none, none, [1]⟩,
          ⟨(some (.l (.r (.l (.r (.l .z)))))), .look true [.i, .i] (.int .i64 0) false (.t (.r (.r (.r (.l (.l .z)))))) (.t (.r (.l (.l (.r (.l .z)))))), none, none, [0, 1, 2]⟩,
          ⟨(some (.r (.r (.l (.r (.l .z)))))), .fieldA 2 (.t (.r (.r .z))), none, none, []⟩,
          ⟨(some (.l (.l (.r (.r (.l .z)))))), .load false 1 (.t (.r (.r (.l (.r (.l .z)))))), none, none, [4]⟩,
          ⟨(some (.r (.l (.r (.r (.l .z)))))), .bin .gtr (.t (.l (.r (.l (.r (.l .z)))))) (.t (.l (.l (.r (.r (.l .z)))))), none, none, [0, 1, 2, 3, 4, 5]⟩,
          ⟨(some (.l (.r (.r (.l (.l .z)))))), .mv (.t (.r (.l (.r (.r (.l .z)))))), none, none, [0, 1, 2, 3, 4, 5, 6]⟩])
        (.cond (.t (.l (.r (.r (.l (.l .z))))))
        (.seq (.region false 0 [
           ⟨(some (.l (.r (.r (.r (.l .z)))))), .mv (.t (.l (.r .z))), none, none, []⟩,
           ⟨(some (.r .z)), .mv (.c (.int .i64 12)), none, none, []⟩,
           ⟨(some (.l (.l .z))), .mv (.t (.l (.r (.r (.r (.l .z)))))), none, none, []⟩])
         .ret)
        .skip)))))))
     (.region true 0 [
       ⟨(some (.r (.r (.r (.r (.l .z)))))), .mv (.t (.r (.l .z))), none, none, []⟩,
       ⟨(some (.l (.l (.l (.l (.r .z)))))), .load true 6 (.t (.r (.r .z))), none, none, []⟩,
       ⟨(some (.r (.l (.l (.l (.r .z)))))), .call 58 [(.t (.l (.l (.l (.l (.r .z))))))], none, none, [1]⟩,
       ⟨(some (.l (.r (.l (.l (.r .z)))))), .fieldA 3 (.t (.r (.r .z))), none, none, []⟩,
       ⟨(some (.r (.r (.l (.l (.r .z)))))), .load false 1 (.t (.l (.r (.l (.l (.r .z)))))), none, none, [3]⟩,
       ⟨none, .mapset true [.i, .i] (.t (.r (.r (.r (.r (.l .z)))))) (.t (.r (.l (.l (.l (.r .z)))))) (.t (.r (.r (.l (.l (.r .z)))))), none, none, [0, 1, 2, 3, 4]⟩]))))
    (.region false 0 [
      ⟨(some (.l (.l (.r (.l (.r .z)))))), .bin .add (.t (.l (.r (.r .z)))) (.c (.int .i64 1)), none, none, []⟩,
      ⟨(some (.l (.r (.r .z)))), .mv (.t (.l (.l (.r (.l (.r .z)))))), none, none, []⟩])))))))
  (.seq (.region false 0 [
    ⟨(some (.r .z)), .mv (.c (.int .i64 0)), none, none, []⟩,
    ⟨(some (.l (.l .z))), .mv (.c (.int .i64 0)), none, none, []⟩])
  .ret)))))⟩
def AF46 : AFunc := ⟨8, [.tmp (.r (.l .z))],
  (.seq (.region false 0 [
    ⟨(some (.r .z)), .box 3 3 (.t .z), none, none, []⟩,
    ⟨(some (.l (.l .z))), .box 15 15 (.t (.l .z)), none, none, []⟩,
    ⟨(some (.r (.l .z))), .mv (.c (.int .i64 0)), none, none, []⟩])
  (.seq (.region false 0 [
    ⟨(some (.l (.r .z))), .load true 15 (.t (.l (.l .z))), none, none, []⟩,
    ⟨(some (.r (.r .z))), .mkfunc 60 [] [(.t (.r .z))], none, none, []⟩,
    ⟨(some (.l (.l (.l .z)))), .call 59 [(.t (.l (.r .z))), (.t (.r (.r .z)))], none, none, []⟩,
    ⟨(some (.r (.l .z))), .mv (.t (.l (.l (.l .z)))), none, none, []⟩])
  .ret))⟩
def AF47 : AFunc := ⟨7, [.tmp (.r .z)],
  (.seq (.region false 0 [
    ⟨(some (.l .z)), .box 4 4 (.t .z), none, none, []⟩,
    ⟨(some (.r .z)), .mv (.c (.int .i64 0)), none, none, []⟩])
  (.seq (.region false 0 [
    ⟨(some (.l (.l .z))), .fieldA 2 (.t (.l .z)), none, none, []⟩,
    ⟨(some (.r (.l .z))), .load false 1 (.t (.l (.l .z))), none, none, []⟩,
    ⟨(some (.l (.r .z))), .bin .quo (.c (.int .i64 1199)) (.t (.r (.l .z))), none, none, []⟩,
    ⟨(some (.r (.r .z))), .bin .add (.t (.l (.r .z))) (.c (.int .i64 2)), none, none, []⟩,
    ⟨(some (.r .z)), .mv (.t (.r (.r .z))), none, none, []⟩])
  .ret))⟩
def AF48 : AFunc := ⟨24, [.tmp (.r .z), .tmp (.l (.l .z))],
  (.seq (.region false 0 [
    ⟨(some (.l .z)), .box 9 9 (.t .z), none, none, []⟩,
    ⟨(some (.r .z)), .mv (.c (.int .i64 0)), none, none, []⟩,
    ⟨(some (.l (.l .z))), .mv (.c (.int .i64 0)), none, none, []⟩])
  (.seq (.seq (.region false 0 [
    ⟨(some (.l (.r .z))), .load true 9 (.t (.l .z)), none, none, []⟩,
    ⟨(some (.r (.r .z))), .call 62 [(.t (.l (.r .z)))], none, none, []⟩,
    ⟨(some (.r (.l .z))), .mv (.t (.r (.r .z))), none, none, []⟩])
  (.seq (.region false 0 [
    ⟨(some (.l (.l (.l .z)))), .mv (.t (.r (.l .z))), none, none, []⟩,
    ⟨(some (.r (.l (.l .z)))), .eql true false [.i] (.t (.l (.l (.l .z)))) (.c (.int .i64 0)), none, none, []⟩])
  (.cond (.t (.r (.l (.l .z))))
  (.seq (.region false 0 [
     ⟨(some (.l (.r (.l .z)))), .mv (.t (.r (.l .z))), none, none, []⟩,
     ⟨(some (.r .z)), .mv (.c (.int .i64 0)), none, none, []⟩,
     ⟨(some (.l (.l .z))), .mv (.t (.l (.r (.l .z)))), none, none, []⟩])
   .ret)
  .skip)))
  (.seq (.region true 0 [
    ⟨(some (.r (.r (.l .z)))), .load true 9 (.t (.l .z)), none, none, []⟩,
    ⟨(some (.l (.l (.r .z)))), .call 63 [(.t (.r (.r (.l .z))))], none, none, [0]⟩,
    ⟨(some (.r (.l (.r .z)))), .len .str (.t (.l (.l (.r .z)))), none, none, [0, 1]⟩,
    ⟨(some (.l (.r (.r .z)))), .fieldA 8 (.t (.l .z)), none, none, []⟩,
    ⟨(some (.r (.r (.r .z)))), .load false 1 (.t (.l (.r (.r .z)))), none, none, [3]⟩,
    ⟨(some (.l (.l (.l (.l .z))))), .len .str (.t (.r (.r (.r .z)))), none, none, [3, 4]⟩,
    ⟨(some (.r (.l (.l (.l .z))))), .conv (.toInt .u64) (.t (.l (.l (.l (.l .z))))), none, none, [3, 4, 5]⟩,
    ⟨(some (.l (.r (.l (.l .z))))), .call 64 [(.t (.r (.l (.l (.l .z)))))], none, none, [0, 1, 3, 4, 5, 6]⟩,
    ⟨(some (.r (.r (.l (.l .z))))), .bin .add (.t (.r (.l (.r .z)))) (.t (.l (.r (.l (.l .z))))), none, none, [0, 1, 2, 3, 4, 5, 6, 7]⟩,
    ⟨(some (.l (.l (.r (.l .z))))), .fieldA 8 (.t (.l .z)), none, none, []⟩,
    ⟨(some (.r (.l (.r (.l .z))))), .load false 1 (.t (.l (.l (.r (.l .z))))), none, none, [9]⟩,
    ⟨(some (.l (.r (.r (.l .z))))), .len .str (.t (.r (.l (.r (.l .z))))), none, none, [9, 10]⟩,
    ⟨(some (.r (.r (.r (.l .z))))), .bin .add (.t (.r (.r (.l (.l .z))))) (.t (.l (.r (.r (.l .z))))), none, none, [0, 1, 2, 3, 4, 5, 6, 7, 8, 9, 10, 11]⟩,
    ⟨(some (.l (.l (.l (.r .z))))), .bin .add (.t (.r (.r (.r (.l .z))))) (.c (.int .i64 4)), none, none, [0, 1, 2, 3, 4, 5, 6, 7, 8, 9, 10, 11, 12]⟩,
    ⟨(some (.r .z)), .mv (.t (.l (.l (.l (.r .z))))), none, none, [0, 1, 2, 3, 4, 5, 6, 7, 8, 9, 10, 11, 12, 13]⟩,
    ⟨(some (.l (.l .z))), .mv (.c (.int .i64 0)), none, none, [0, 1, 2, 3, 4, 5, 6, 7, 8, 9, 10, 11, 12, 13, 14]⟩])
  .ret)))⟩
def AF49 : AFunc := ⟨9, [.tmp (.r (.l .z))],
  (.seq (.region false 0 [
    ⟨(some (.r (.l .z))), .mv (.c (.bool false)), none, none, []⟩])
  (.seq (.region false 0 [
    ⟨(some (.l (.r .z))), .mv (.t .z), none, none, []⟩,
    ⟨(some (.r (.r .z))), .mv (.t (.l .z)), none, none, []⟩,
    ⟨(some (.l (.l (.l .z)))), .call 65 [(.t (.l (.r .z))), (.t (.r (.r .z)))], none, none, []⟩,
    ⟨(some (.r (.l (.l .z)))), .bin .geq (.t (.l (.l (.l .z)))) (.c (.int .i64 0)), none, none, []⟩,
    ⟨(some (.r (.l .z))), .mv (.t (.r (.l (.l .z)))), none, none, []⟩])
  .ret))⟩
def AF50 : AFunc := ⟨8, [.tmp (.l (.l .z))],
  (.seq (.region false 0 [
    ⟨(some (.r .z)), .box 1 16 (.t .z), none, none, []⟩,
    ⟨(some (.l (.l .z))), .mv (.c (.bool false)), none, none, []⟩])
  (.seq (.region false 0 [
    ⟨(some (.r (.l .z))), .fieldA 0 (.t (.r .z)), none, none, []⟩,
    ⟨(some (.l (.r .z))), .load false 1 (.t (.r (.l .z))), none, none, []⟩,
    ⟨(some (.r (.r .z))), .load false 1 (.t (.l .z)), none, none, []⟩,
    ⟨(some (.l (.l (.l .z)))), .eql false false [.i] (.t (.l (.r .z))) (.t (.r (.r .z))), none, none, []⟩,
    ⟨(some (.l (.l .z))), .mv (.t (.l (.l (.l .z)))), none, none, []⟩])
  .ret))⟩
def AF51 : AFunc := ⟨39, [.tmp (.r (.l (.l .z)))],
  (.seq (.region false 0 [
    ⟨(some (.r (.l (.l .z)))), .mv (.c (.int .i64 0)), none, none, []⟩])
  (.seq (.seq (.region false 0 [
    ⟨(some (.l (.r (.r .z)))), .mv (.t .z), none, none, []⟩,
    ⟨(some (.r (.r (.r .z)))), .call 45 [(.t (.l (.r (.r .z))))], none, none, []⟩,
    ⟨(some (.r (.l (.r .z)))), .mv (.t (.r (.r (.r .z)))), none, none, []⟩,
    ⟨(some (.l (.l (.l (.l .z))))), .ext (.t (.r (.l (.r .z)))) 0, none, none, []⟩,
    ⟨(some (.r (.l (.l (.l .z))))), .ext (.t (.r (.l (.r .z)))) 1, none, none, []⟩,
    ⟨(some (.l (.r (.l .z)))), .mv (.t (.l (.l (.l (.l .z))))), none, none, []⟩,
    ⟨(some (.r (.r (.l .z)))), .mv (.t (.r (.l (.l (.l .z))))), none, none, []⟩])
  (.seq (.region false 0 [
    ⟨(some (.l (.r (.l (.l .z))))), .mv (.t (.l (.r (.l .z)))), none, none, []⟩,
    ⟨(some (.r (.r (.l (.l .z))))), .eql true false [.i] (.t (.l (.r (.l (.l .z))))) (.c (.int .i64 0)), none, none, []⟩])
  (.cond (.t (.r (.r (.l (.l .z)))))
  (.seq (.region false 0 [
     ⟨(some (.l (.l (.r (.l .z))))), .mv (.t (.l (.r (.l .z)))), none, none, []⟩,
     ⟨(some (.r (.l (.l .z)))), .mv (.t (.l (.l (.r (.l .z))))), none, none, []⟩])
   .ret)
  .skip)))
  (.seq (.region false 0 [
    ⟨(some (.l (.l (.r .z)))), .mv (.c (.func 66 [] [])), none, none, []⟩])
  (.seq (.seq (.region false 0 [
    ⟨(some (.r (.l (.r (.l .z))))), .mv (.t (.l .z)), none, none, []⟩,
    ⟨(some (.l (.r (.r (.l .z))))), .bin .lss (.t (.r (.l (.r (.l .z))))) (.c (.int .i64 0)), none, none, []⟩,
    ⟨(some (.r (.r (.r (.l .z))))), .mv (.t (.l (.r (.r (.l .z))))), none, none, []⟩,
    ⟨(some (.l (.l (.l (.r .z))))), .mv (.t (.l .z)), (some ((.r (.r (.r (.l .z)))), false)), none, []⟩,
    ⟨(some (.r (.l (.l (.r .z))))), .bin .gtr (.t (.l (.l (.l (.r .z))))) (.c (.int .i64 1099511627776)), (some ((.r (.r (.r (.l .z)))), false)), none, []⟩,
    ⟨(some (.l (.r (.l (.r .z))))), .pick (.t (.r (.r (.r (.l .z))))) (.c (.bool true)) (.t (.r (.l (.l (.r .z))))), none, none, []⟩,
    ⟨(some (.r (.r (.l (.r .z))))), .mv (.t (.l (.r (.l (.r .z))))), none, none, []⟩,
    ⟨(some (.l (.l (.r (.r .z))))), .mv (.t (.r .z)), (some ((.r (.r (.l (.r .z)))), false)), none, []⟩,
    ⟨(some (.r (.l (.r (.r .z))))), .bin .lss (.t (.l (.l (.r (.r .z))))) (.c (.int .i64 1)), (some ((.r (.r (.l (.r .z)))), false)), none, []⟩,
    ⟨(some (.l (.r (.r (.r .z))))), .pick (.t (.r (.r (.l (.r .z))))) (.c (.bool true)) (.t (.r (.l (.r (.r .z))))), none, none, []⟩,
    ⟨(some (.r (.r (.r (.r .z))))), .mv (.t (.l (.r (.r (.r .z))))), none, none, []⟩,
    ⟨(some (.l (.l (.l (.l (.l .z)))))), .mv (.t (.r .z)), (some ((.r (.r (.r (.r .z)))), false)), none, []⟩,
    ⟨(some (.r (.l (.l (.l (.l .z)))))), .bin .gtr (.t (.l (.l (.l (.l (.l .z)))))) (.c (.int .i64 1200)), (some ((.r (.r (.r (.r .z)))), false)), none, []⟩,
    ⟨(some (.l (.r (.l (.l (.l .z)))))), .pick (.t (.r (.r (.r (.r .z))))) (.c (.bool true)) (.t (.r (.l (.l (.l (.l .z)))))), none, none, []⟩,
    ⟨(some (.r (.r (.l (.l (.l .z)))))), .mv (.t (.l (.r (.l (.l (.l .z)))))), none, none, []⟩,
    ⟨(some (.l (.l (.r (.l (.l .z)))))), .mv (.t (.l (.l .z))), (some ((.r (.r (.l (.l (.l .z))))), false)), none, []⟩,
    ⟨(some (.r (.l (.r (.l (.l .z)))))), .mv (.t (.l (.l (.r .z)))), (some ((.r (.r (.l (.l (.l .z))))), false)), none, []⟩,
    ⟨(some (.l (.r (.r (.l (.l .z)))))), .call 68 [(.t (.l (.l (.r (.l (.l .z)))))), (.t (.r (.l (.r (.l (.l .z))))))], (some ((.r (.r (.l (.l (.l .z))))), false)), none, []⟩,
    ⟨(some (.r (.r (.r (.l (.l .z)))))), .pick (.t (.r (.r (.l (.l (.l .z)))))) (.c (.bool true)) (.t (.l (.r (.r (.l (.l .z)))))), none, none, []⟩])
  (.cond (.t (.r (.r (.r (.l (.l .z))))))
  (.seq (.region false 0 [
     ⟨(some (.r (.l (.l .z)))), .mv (.c (.int .i64 2)), none, none, []⟩])
   .ret)
  .skip))
  (.seq (.region false 0 [
    ⟨(some (.r (.l (.l .z)))), .mv (.c (.int .i64 0)), none, none, []⟩])
  .ret)))))⟩
def AF52 : AFunc := ⟨96, [.cell (.r (.l (.l .z))) true 17],
  (.seq (.region false 0 [
    ⟨(some (.r (.l (.l .z)))), .alloc 1 [[(.int .i64 0)], [(.int .i64 0)], [(.int .i64 0)], [(.int .i64 0)], [(.int .i64 0)], [(.int .i64 0)], [(.int .i64 0)], [(.int .i64 0)], [(.int .i64 0)], [(.int .i64 0)], [(.int .i64 0)], [(.int .i64 0)], [(.int .i64 0)], [(.int .i64 0)], [(.int .i64 0)], [(.int .i64 0)], [(.int .i64 0)]], none, none, []⟩])
  (.seq (.region false 0 [
    ⟨(some (.l (.r (.l .z)))), .alloc 1 [[(.int .i64 0)], [(.int .i64 0)], [(.int .i64 0)], [(.int .i64 0)], [(.int .i64 0)], [(.int .i64 0)], [(.int .i64 0)], [(.int .i64 0)], [(.int .i64 0)], [(.int .i64 0)], [(.int .i64 0)], [(.int .i64 0)], [(.int .i64 0)], [(.int .i64 0)], [(.int .i64 0)], [(.int .i64 0)], [(.int .i64 0)]], none, none, []⟩])
  (.seq (.seq (.region false 0 [
    ⟨(some (.l (.r (.l (.l .z))))), .mv (.c (.int .i64 0)), none, none, []⟩])
  (.block 0 (.loop (.seq (.region false 0 [
      ⟨(some (.r (.r (.l (.l .z))))), .bin .lss (.t (.l (.r (.l (.l .z))))) (.c (.int .i64 17)), none, none, []⟩])
    (.seq (.cond (.t (.r (.r (.l (.l .z)))))
    .skip
    (.exit 0))
    (.seq (.block 1 (.seq (.region false 0 [
       ⟨(some (.l (.l (.r (.l .z))))), .mv (.t (.l (.r (.l (.l .z))))), none, none, []⟩,
       ⟨(some (.r (.r (.l .z)))), .mv (.t (.l (.l (.r (.l .z))))), none, none, []⟩])
     (.region false 0 [
       ⟨(some (.r (.l (.r (.l .z))))), .mv (.t (.r (.r (.l .z)))), none, none, []⟩,
       ⟨(some (.l (.r (.r (.l .z))))), .idxA 1 17 (.t (.l (.r (.l .z)))) (.t (.r (.l (.r (.l .z))))), none, none, []⟩,
       ⟨none, .store 1 (.t (.l (.r (.r (.l .z))))) (.c (.int .i64 (-1))), none, none, []⟩])))
    (.region false 0 [
      ⟨(some (.r (.r (.r (.l .z))))), .bin .add (.t (.l (.r (.l (.l .z))))) (.c (.int .i64 1)), none, none, []⟩,
      ⟨(some (.l (.r (.l (.l .z))))), .mv (.t (.r (.r (.r (.l .z))))), none, none, []⟩])))))))
  (.seq (.region false 0 [
    ⟨(some (.l (.l (.l (.r .z))))), .mv (.t (.l .z)), none, none, []⟩,
    ⟨(some (.r (.l (.l (.r .z))))), .mv (.t (.r .z)), none, none, []⟩,
    ⟨(some (.l (.r (.l (.r .z))))), .idxA 1 17 (.t (.l (.r (.l .z)))) (.t (.l (.l (.l (.r .z))))), none, none, []⟩,
    ⟨none, .store 1 (.t (.l (.r (.l (.r .z))))) (.t (.r (.l (.l (.r .z))))), none, none, []⟩])
  (.seq (.region false 0 [
    ⟨(some (.r (.r (.l (.r .z))))), .mv (.t (.l .z)), none, none, []⟩,
    ⟨(some (.l (.l (.r (.r .z))))), .mv (.t (.r .z)), none, none, []⟩,
    ⟨(some (.r (.l (.r (.r .z))))), .build [(.int .i64 0), (.int .i64 0)] [(0, 1, (.t (.r (.r (.l (.r .z)))))), (1, 1, (.t (.l (.l (.r (.r .z))))))], none, none, []⟩,
    ⟨(some (.l (.r (.r (.r .z))))), .slit 2 1 [(.int .i64 0), (.int .i64 0)] [(0, (.t (.r (.l (.r (.r .z))))))], none, none, []⟩,
    ⟨(some (.r (.r (.r (.r .z))))), .box 1 1 (.t (.l (.r (.r (.r .z))))), none, none, []⟩,
    ⟨(some (.l (.l (.r .z)))), .mv (.t (.r (.r (.r (.r .z))))), none, none, []⟩])
  (.seq (.block 2 (.loop (.seq (.seq (.region false 0 [
      ⟨(some (.l (.l (.l (.l (.l .z)))))), .mv (.t (.l (.l (.r .z)))), none, none, []⟩,
      ⟨(some (.r (.l (.l (.l (.l .z)))))), .nilc (.t (.l (.l (.l (.l (.l .z)))))), none, none, []⟩,
      ⟨(some (.l (.r (.l (.l (.l .z)))))), .load false 1 (.t (.r (.l (.l (.l (.l .z)))))), none, none, []⟩,
      ⟨(some (.r (.r (.l (.l (.l .z)))))), .call 69 [(.t (.l (.r (.l (.l (.l .z))))))], none, none, []⟩,
      ⟨(some (.l (.l (.r (.l (.l .z)))))), .bin .gtr (.t (.r (.r (.l (.l (.l .z)))))) (.c (.int .i64 0)), none, none, []⟩])
    (.cond (.t (.l (.l (.r (.l (.l .z))))))
    .skip
    (.exit 2)))
    (.block 3 (.seq (.region false 0 [
       ⟨(some (.r (.l (.r (.l (.l .z)))))), .mv (.t (.l (.l (.r .z)))), none, none, []⟩,
       ⟨(some (.l (.r (.r (.l (.l .z)))))), .iface 126 (.t (.r (.l (.r (.l (.l .z)))))), none, none, []⟩,
       ⟨(some (.r (.r (.r (.l (.l .z)))))), .call 70 [(.t (.l (.r (.r (.l (.l .z))))))], none, none, []⟩,
       ⟨(some (.l (.l (.l (.r (.l .z)))))), .tassert 128 false (.t (.r (.r (.r (.l (.l .z)))))), none, none, []⟩,
       ⟨(some (.r (.l (.r .z)))), .alloc 2 [[(.int .i64 0), (.int .i64 0)]], none, none, []⟩,
       ⟨none, .store 2 (.t (.r (.l (.r .z)))) (.t (.l (.l (.l (.r (.l .z)))))), none, none, []⟩])
     (.seq (.seq (.region true 0 [
       ⟨(some (.r (.l (.l (.r (.l .z)))))), .fieldA 1 (.t (.r (.l (.r .z)))), none, none, []⟩,
       ⟨(some (.l (.r (.l (.r (.l .z)))))), .load false 1 (.t (.r (.l (.l (.r (.l .z)))))), none, none, [0]⟩,
       ⟨(some (.r (.r (.l (.r (.l .z)))))), .fieldA 0 (.t (.r (.l (.r .z)))), none, none, []⟩,
       ⟨(some (.l (.l (.r (.r (.l .z)))))), .load false 1 (.t (.r (.r (.l (.r (.l .z)))))), none, none, [2]⟩,
       ⟨(some (.r (.l (.r (.r (.l .z)))))), .idxA 1 17 (.t (.l (.r (.l .z)))) (.t (.l (.l (.r (.r (.l .z)))))), none, none, [2, 3]⟩,
       ⟨(some (.l (.r (.r (.r (.l .z)))))), .load false 1 (.t (.r (.l (.r (.r (.l .z)))))), none, none, [2, 3, 4]⟩,
       ⟨(some (.r (.r (.r (.r (.l .z)))))), .bin .gtr (.t (.l (.r (.l (.r (.l .z)))))) (.t (.l (.r (.r (.r (.l .z)))))), none, none, [0, 1, 2, 3, 4, 5]⟩])
     (.cond (.t (.r (.r (.r (.r (.l .z))))))
     (.exit 3)
     .skip))
     (.seq (.region false 0 [
       ⟨(some (.l (.l (.l (.l (.r .z)))))), .mv (.t .z), none, none, []⟩,
       ⟨(some (.r (.l (.l (.l (.r .z)))))), .len .slice (.t (.l (.l (.l (.l (.r .z)))))), none, none, []⟩,
       ⟨(some (.l (.r (.l (.l (.r .z)))))), .mv (.c (.int .i64 0)), none, none, []⟩])
     (.block 4 (.loop (.seq (.region false 0 [
         ⟨(some (.r (.r (.l (.l (.r .z)))))), .bin .lss (.t (.l (.r (.l (.l (.r .z)))))) (.t (.r (.l (.l (.l (.r .z)))))), none, none, []⟩])
       (.seq (.cond (.t (.r (.r (.l (.l (.r .z))))))
       .skip
       (.exit 4))
       (.seq (.block 5 (.seq (.region false 0 [
          ⟨(some (.l (.l (.r (.l (.r .z)))))), .idxS 6 (.t (.l (.l (.l (.l (.r .z)))))) (.t (.l (.r (.l (.l (.r .z)))))), none, none, []⟩,
          ⟨(some (.r (.l (.r (.l (.r .z)))))), .load true 6 (.t (.l (.l (.r (.l (.r .z)))))), none, none, []⟩,
          ⟨(some (.r (.r (.r .z)))), .alloc 6 [[(.int .i64 0), (.int .i64 0), (.int .i64 0), (.int .i64 0), (.int .i64 0), (.int .i64 0)]], none, none, []⟩,
          ⟨none, .store 6 (.t (.r (.r (.r .z)))) (.t (.r (.l (.r (.l (.r .z)))))), none, none, []⟩])
        (.seq (.seq (.region false 0 [
          ⟨(some (.l (.r (.r (.l (.r .z)))))), .fieldA 0 (.t (.r (.r (.r .z)))), none, none, []⟩,
          ⟨(some (.r (.r (.r (.l (.r .z)))))), .load false 1 (.t (.l (.r (.r (.l (.r .z)))))), none, none, []⟩,
          ⟨(some (.l (.l (.l (.r (.r .z)))))), .fieldA 0 (.t (.r (.l (.r .z)))), none, none, []⟩,
          ⟨(some (.r (.l (.l (.r (.r .z)))))), .load false 1 (.t (.l (.l (.l (.r (.r .z)))))), none, none, []⟩,
          ⟨(some (.l (.r (.l (.r (.r .z)))))), .eql true false [.i] (.t (.r (.r (.r (.l (.r .z)))))) (.t (.r (.l (.l (.r (.r .z)))))), none, none, []⟩])
        (.cond (.t (.l (.r (.l (.r (.r .z))))))
        (.exit 5)
        .skip))
        (.seq (.region false 0 [
          ⟨(some (.l (.l (.r (.r (.r .z)))))), .load true 6 (.t (.r (.r (.r .z)))), none, none, []⟩,
          ⟨(some (.r (.l (.r (.r (.r .z)))))), .fieldA 1 (.t (.r (.l (.r .z)))), none, none, []⟩,
          ⟨(some (.l (.r (.r (.r (.r .z)))))), .load false 1 (.t (.r (.l (.r (.r (.r .z)))))), none, none, []⟩,
          ⟨(some (.r (.r (.r (.r (.r .z)))))), .mv (.t (.l (.l .z))), none, none, []⟩,
          ⟨(some (.l (.l (.l (.l (.l (.l .z))))))), .call 71 [(.t (.l (.l (.r (.r (.r .z)))))), (.t (.l (.r (.r (.r (.r .z)))))), (.t (.r (.r (.r (.r (.r .z))))))], none, none, []⟩,
          ⟨(some (.r (.r (.l (.r (.r .z)))))), .mv (.t (.l (.l (.l (.l (.l (.l .z))))))), none, none, []⟩,
          ⟨(some (.r (.l (.l (.l (.l (.l .z))))))), .ext (.t (.r (.r (.l (.r (.r .z)))))) 0, none, none, []⟩,
          ⟨(some (.l (.r (.l (.l (.l (.l .z))))))), .ext (.t (.r (.r (.l (.r (.r .z)))))) 1, none, none, []⟩,
          ⟨(some (.l (.l (.l (.l .z))))), .mv (.t (.r (.l (.l (.l (.l (.l .z))))))), none, none, []⟩,
          ⟨(some (.r (.l (.l (.l .z))))), .mv (.t (.l (.r (.l (.l (.l (.l .z))))))), none, none, []⟩])
        (.seq (.region false 0 [
          ⟨(some (.r (.r (.l (.l (.l (.l .z))))))), .mv (.t (.r (.l (.l (.l .z))))), none, none, []⟩,
          ⟨(some (.l (.l (.r (.l (.l (.l .z))))))), .mv (.t (.r (.r (.l (.l (.l (.l .z))))))), none, none, []⟩,
          ⟨(some (.r (.l (.r (.l (.l (.l .z))))))), .fieldA 1 (.t (.r (.r (.r .z)))), (some ((.l (.l (.r (.l (.l (.l .z)))))), true)), none, []⟩,
          ⟨(some (.l (.r (.r (.l (.l (.l .z))))))), .load false 1 (.t (.r (.l (.r (.l (.l (.l .z))))))), (some ((.l (.l (.r (.l (.l (.l .z)))))), true)), none, []⟩,
          ⟨(some (.r (.r (.r (.l (.l (.l .z))))))), .idxA 1 17 (.t (.l (.r (.l .z)))) (.t (.l (.r (.r (.l (.l (.l .z))))))), (some ((.l (.l (.r (.l (.l (.l .z)))))), true)), none, []⟩,
          ⟨(some (.l (.l (.l (.r (.l (.l .z))))))), .load false 1 (.t (.r (.r (.r (.l (.l (.l .z))))))), (some ((.l (.l (.r (.l (.l (.l .z)))))), true)), none, []⟩,
          ⟨(some (.r (.l (.l (.r (.l (.l .z))))))), .eql false false [.i] (.t (.l (.l (.l (.r (.l (.l .z))))))) (.c (.int .i64 (-1))), (some ((.l (.l (.r (.l (.l (.l .z)))))), true)), none, []⟩,
          ⟨(some (.l (.r (.l (.r (.l (.l .z))))))), .mv (.t (.r (.l (.l (.r (.l (.l .z))))))), (some ((.l (.l (.r (.l (.l (.l .z)))))), true)), none, []⟩,
          ⟨(some (.r (.r (.l (.r (.l (.l .z))))))), .mv (.t (.l (.l (.l (.l .z))))), (some ((.l (.r (.l (.r (.l (.l .z)))))), false)), none, []⟩,
          ⟨(some (.l (.l (.r (.r (.l (.l .z))))))), .fieldA 1 (.t (.r (.r (.r .z)))), (some ((.l (.r (.l (.r (.l (.l .z)))))), false)), none, []⟩,
          ⟨(some (.r (.l (.r (.r (.l (.l .z))))))), .load false 1 (.t (.l (.l (.r (.r (.l (.l .z))))))), (some ((.l (.r (.l (.r (.l (.l .z)))))), false)), none, []⟩,
          ⟨(some (.l (.r (.r (.r (.l (.l .z))))))), .idxA 1 17 (.t (.l (.r (.l .z)))) (.t (.r (.l (.r (.r (.l (.l .z))))))), (some ((.l (.r (.l (.r (.l (.l .z)))))), false)), none, []⟩,
          ⟨(some (.r (.r (.r (.r (.l (.l .z))))))), .load false 1 (.t (.l (.r (.r (.r (.l (.l .z))))))), (some ((.l (.r (.l (.r (.l (.l .z)))))), false)), none, []⟩,
          ⟨(some (.l (.l (.l (.l (.r (.l .z))))))), .bin .lss (.t (.r (.r (.l (.r (.l (.l .z))))))) (.t (.r (.r (.r (.r (.l (.l .z))))))), (some ((.l (.r (.l (.r (.l (.l .z)))))), false)), none, []⟩,
          ⟨(some (.r (.l (.l (.l (.r (.l .z))))))), .pick (.t (.l (.r (.l (.r (.l (.l .z))))))) (.c (.bool true)) (.t (.l (.l (.l (.l (.r (.l .z))))))), (some ((.l (.l (.r (.l (.l (.l .z)))))), true)), none, []⟩,
          ⟨(some (.l (.r (.l (.l (.r (.l .z))))))), .pick (.t (.l (.l (.r (.l (.l (.l .z))))))) (.t (.r (.l (.l (.l (.r (.l .z))))))) (.c (.bool false)), none, none, []⟩])
        (.cond (.t (.l (.r (.l (.l (.r (.l .z)))))))
        (.seq (.region false 0 [
           ⟨(some (.r (.r (.l (.l (.r (.l .z))))))), .fieldA 1 (.t (.r (.r (.r .z)))), none, none, []⟩,
           ⟨(some (.l (.l (.r (.l (.r (.l .z))))))), .load false 1 (.t (.r (.r (.l (.l (.r (.l .z))))))), none, none, []⟩,
           ⟨(some (.r (.l (.r (.l (.r (.l .z))))))), .mv (.t (.l (.l (.l (.l .z))))), none, none, []⟩,
           ⟨(some (.l (.r (.r (.l (.r (.l .z))))))), .idxA 1 17 (.t (.l (.r (.l .z)))) (.t (.l (.l (.r (.l (.r (.l .z))))))), none, none, []⟩,
           ⟨none, .store 1 (.t (.l (.r (.r (.l (.r (.l .z))))))) (.t (.r (.l (.r (.l (.r (.l .z))))))), none, none, []⟩])
         (.region false 0 [
           ⟨(some (.r (.r (.r (.l (.r (.l .z))))))), .mv (.t (.l (.l (.r .z)))), none, none, []⟩,
           ⟨(some (.l (.l (.l (.r (.r (.l .z))))))), .iface 126 (.t (.r (.r (.r (.l (.r (.l .z))))))), none, none, []⟩,
           ⟨(some (.r (.l (.l (.r (.r (.l .z))))))), .fieldA 1 (.t (.r (.r (.r .z)))), none, none, []⟩,
           ⟨(some (.l (.r (.l (.r (.r (.l .z))))))), .load false 1 (.t (.r (.l (.l (.r (.r (.l .z))))))), none, none, []⟩,
           ⟨(some (.r (.r (.l (.r (.r (.l .z))))))), .mv (.t (.l (.l (.l (.l .z))))), none, none, []⟩,
           ⟨(some (.l (.l (.r (.r (.r (.l .z))))))), .build [(.int .i64 0), (.int .i64 0)] [(0, 1, (.t (.l (.r (.l (.r (.r (.l .z)))))))), (1, 1, (.t (.r (.r (.l (.r (.r (.l .z))))))))], none, none, []⟩,
           ⟨(some (.r (.l (.r (.r (.r (.l .z))))))), .iface 128 (.t (.l (.l (.r (.r (.r (.l .z))))))), none, none, []⟩,
           ⟨(some (.l (.r (.r (.r (.r (.l .z))))))), .call 72 [(.t (.l (.l (.l (.r (.r (.l .z))))))), (.t (.r (.l (.r (.r (.r (.l .z)))))))], none, none, []⟩]))
        .skip))))))
       (.region false 0 [
         ⟨(some (.r (.r (.r (.r (.r (.l .z))))))), .bin .add (.t (.l (.r (.l (.l (.r .z)))))) (.c (.int .i64 1)), none, none, []⟩,
         ⟨(some (.l (.r (.l (.l (.r .z)))))), .mv (.t (.r (.r (.r (.r (.r (.l .z))))))), none, none, []⟩])))))))))))))
  (.seq (.region false 0 [
    ⟨(some (.l (.l (.l (.l (.l (.r .z))))))), .load true 17 (.t (.l (.r (.l .z)))), none, none, []⟩,
    ⟨none, .store 17 (.t (.r (.l (.l .z)))) (.t (.l (.l (.l (.l (.l (.r .z))))))), none, none, []⟩])
  .ret)))))))⟩
def AF53 : AFunc := ⟨19, [.tmp (.r (.l .z))],
  (.seq (.region false 0 [
    ⟨(some (.r (.l .z))), .mv (.c (.int .i64 0)), none, none, []⟩])
  (.seq (.seq (.region false 0 [
    ⟨(some (.r (.r .z))), .mv (.t .z), none, none, []⟩,
    ⟨(some (.l (.l (.l .z)))), .len .slice (.t (.r (.r .z))), none, none, []⟩,
    ⟨(some (.r (.l (.l .z)))), .mv (.c (.int .i64 0)), none, none, []⟩])
  (.block 0 (.loop (.seq (.region false 0 [
      ⟨(some (.l (.r (.l .z)))), .bin .lss (.t (.r (.l (.l .z)))) (.t (.l (.l (.l .z)))), none, none, []⟩])
    (.seq (.cond (.t (.l (.r (.l .z))))
    .skip
    (.exit 0))
    (.seq (.block 1 (.seq (.region false 0 [
       ⟨(some (.r (.r (.l .z)))), .mv (.t (.r (.l (.l .z)))), none, none, []⟩,
       ⟨(some (.l (.r .z))), .mv (.t (.r (.r (.l .z)))), none, none, []⟩])
     (.seq (.region false 0 [
       ⟨(some (.l (.l (.r .z)))), .mv (.t (.l .z)), none, none, []⟩,
       ⟨(some (.r (.l (.r .z)))), .mv (.t .z), none, none, []⟩,
       ⟨(some (.l (.r (.r .z)))), .mv (.t (.l (.r .z))), none, none, []⟩,
       ⟨(some (.r (.r (.r .z)))), .idxS 6 (.t (.r (.l (.r .z)))) (.t (.l (.r (.r .z)))), none, none, []⟩,
       ⟨(some (.l (.l (.l (.l .z))))), .load true 6 (.t (.r (.r (.r .z)))), none, none, []⟩,
       ⟨(some (.r (.l (.l (.l .z))))), .callv (.t (.l (.l (.r .z)))) [(.t (.l (.l (.l (.l .z)))))], none, none, []⟩])
     (.cond (.t (.r (.l (.l (.l .z)))))
     (.seq (.region false 0 [
        ⟨(some (.l (.r (.l (.l .z))))), .mv (.t (.l (.r .z))), none, none, []⟩,
        ⟨(some (.r (.l .z))), .mv (.t (.l (.r (.l (.l .z))))), none, none, []⟩])
      .ret)
     .skip))))
    (.region false 0 [
      ⟨(some (.r (.r (.l (.l .z))))), .bin .add (.t (.r (.l (.l .z)))) (.c (.int .i64 1)), none, none, []⟩,
      ⟨(some (.r (.l (.l .z)))), .mv (.t (.r (.r (.l (.l .z))))), none, none, []⟩])))))))
  (.seq (.region false 0 [
    ⟨(some (.r (.l .z))), .mv (.c (.int .i64 (-1))), none, none, []⟩])
  .ret)))⟩
def AF54 : AFunc := ⟨24, [.tmp (.r .z)],
  (.seq (.region false 0 [
    ⟨(some (.r .z)), .mv (.c (.bool false)), none, none, []⟩])
  (.seq (.seq (.region false 0 [
    ⟨(some (.l (.r .z))), .mv (.t .z), none, none, []⟩,
    ⟨(some (.r (.r .z))), .len .slice (.t (.l (.r .z))), none, none, []⟩,
    ⟨(some (.l (.l (.l .z)))), .mv (.c (.int .i64 0)), none, none, []⟩])
  (.block 0 (.loop (.seq (.region false 0 [
      ⟨(some (.r (.l (.l .z)))), .bin .lss (.t (.l (.l (.l .z)))) (.t (.r (.r .z))), none, none, []⟩])
    (.seq (.cond (.t (.r (.l (.l .z))))
    .skip
    (.exit 0))
    (.seq (.block 1 (.seq (.region false 0 [
       ⟨(some (.l (.r (.l .z)))), .idxS 3 (.t (.l (.r .z))) (.t (.l (.l (.l .z)))), none, none, []⟩,
       ⟨(some (.r (.r (.l .z)))), .load true 3 (.t (.l (.r (.l .z)))), none, none, []⟩,
       ⟨(some (.r (.l .z))), .alloc 3 [[(.int .i64 0), (.int .i64 0), (.int .i64 0)]], none, none, []⟩,
       ⟨none, .store 3 (.t (.r (.l .z))) (.t (.r (.r (.l .z)))), none, none, []⟩])
     (.seq (.region false 0 [
       ⟨(some (.l (.l (.r .z)))), .fieldA 0 (.t (.r (.l .z))), none, none, []⟩,
       ⟨(some (.r (.l (.r .z)))), .load false 1 (.t (.l (.l (.r .z)))), none, none, []⟩,
       ⟨(some (.l (.r (.r .z)))), .fieldA 1 (.t (.r (.l .z))), none, none, []⟩,
       ⟨(some (.r (.r (.r .z)))), .load false 1 (.t (.l (.r (.r .z)))), none, none, []⟩,
       ⟨(some (.l (.l (.l (.l .z))))), .bin .lss (.t (.r (.l (.r .z)))) (.t (.r (.r (.r .z)))), none, none, []⟩,
       ⟨(some (.r (.l (.l (.l .z))))), .mv (.t (.l (.l (.l (.l .z))))), none, none, []⟩,
       ⟨(some (.l (.r (.l (.l .z))))), .fieldA 0 (.t (.r (.l .z))), (some ((.r (.l (.l (.l .z)))), false)), none, []⟩,
       ⟨(some (.r (.r (.l (.l .z))))), .load false 1 (.t (.l (.r (.l (.l .z))))), (some ((.r (.l (.l (.l .z)))), false)), none, []⟩,
       ⟨(some (.l (.l (.r (.l .z))))), .fieldA 2 (.t (.r (.l .z))), (some ((.r (.l (.l (.l .z)))), false)), none, []⟩,
       ⟨(some (.r (.l (.r (.l .z))))), .load false 1 (.t (.l (.l (.r (.l .z))))), (some ((.r (.l (.l (.l .z)))), false)), none, []⟩,
       ⟨(some (.l (.r (.r (.l .z))))), .bin .gtr (.t (.r (.r (.l (.l .z))))) (.t (.r (.l (.r (.l .z))))), (some ((.r (.l (.l (.l .z)))), false)), none, []⟩,
       ⟨(some (.r (.r (.r (.l .z))))), .pick (.t (.r (.l (.l (.l .z))))) (.c (.bool true)) (.t (.l (.r (.r (.l .z))))), none, none, []⟩])
     (.cond (.t (.r (.r (.r (.l .z)))))
     (.seq (.region false 0 [
        ⟨(some (.r .z)), .mv (.c (.bool false)), none, none, []⟩])
      .ret)
     .skip))))
    (.region false 0 [
      ⟨(some (.l (.l (.l (.r .z))))), .bin .add (.t (.l (.l (.l .z)))) (.c (.int .i64 1)), none, none, []⟩,
      ⟨(some (.l (.l (.l .z)))), .mv (.t (.l (.l (.l (.r .z))))), none, none, []⟩])))))))
  (.seq (.region false 0 [
    ⟨(some (.r .z)), .mv (.c (.bool true)), none, none, []⟩])
  .ret)))⟩
def AF55 : AFunc := ⟨24, [.tmp (.r .z)],
  (.seq (.region false 0 [
    ⟨(some (.r .z)), .mv (.c (.bool false)), none, none, []⟩])
  (.seq (.seq (.region false 0 [
    ⟨(some (.l (.r .z))), .mv (.t .z), none, none, []⟩,
    ⟨(some (.r (.r .z))), .len .slice (.t (.l (.r .z))), none, none, []⟩,
    ⟨(some (.l (.l (.l .z)))), .mv (.c (.int .i64 0)), none, none, []⟩])
  (.block 0 (.loop (.seq (.region false 0 [
      ⟨(some (.r (.l (.l .z)))), .bin .lss (.t (.l (.l (.l .z)))) (.t (.r (.r .z))), none, none, []⟩])
    (.seq (.cond (.t (.r (.l (.l .z))))
    .skip
    (.exit 0))
    (.seq (.block 1 (.seq (.region false 0 [
       ⟨(some (.l (.r (.l .z)))), .idxS 3 (.t (.l (.r .z))) (.t (.l (.l (.l .z)))), none, none, []⟩,
       ⟨(some (.r (.r (.l .z)))), .load true 3 (.t (.l (.r (.l .z)))), none, none, []⟩,
       ⟨(some (.r (.l .z))), .alloc 3 [[(.int .u64 0), (.int .u64 0), (.int .u64 0)]], none, none, []⟩,
       ⟨none, .store 3 (.t (.r (.l .z))) (.t (.r (.r (.l .z)))), none, none, []⟩])
     (.seq (.region false 0 [
       ⟨(some (.l (.l (.r .z)))), .fieldA 0 (.t (.r (.l .z))), none, none, []⟩,
       ⟨(some (.r (.l (.r .z)))), .load false 1 (.t (.l (.l (.r .z)))), none, none, []⟩,
       ⟨(some (.l (.r (.r .z)))), .fieldA 1 (.t (.r (.l .z))), none, none, []⟩,
       ⟨(some (.r (.r (.r .z)))), .load false 1 (.t (.l (.r (.r .z)))), none, none, []⟩,
       ⟨(some (.l (.l (.l (.l .z))))), .bin .lss (.t (.r (.l (.r .z)))) (.t (.r (.r (.r .z)))), none, none, []⟩,
       ⟨(some (.r (.l (.l (.l .z))))), .mv (.t (.l (.l (.l (.l .z))))), none, none, []⟩,
       ⟨(some (.l (.r (.l (.l .z))))), .fieldA 0 (.t (.r (.l .z))), (some ((.r (.l (.l (.l .z)))), false)), none, []⟩,
       ⟨(some (.r (.r (.l (.l .z))))), .load false 1 (.t (.l (.r (.l (.l .z))))), (some ((.r (.l (.l (.l .z)))), false)), none, []⟩,
       ⟨(some (.l (.l (.r (.l .z))))), .fieldA 2 (.t (.r (.l .z))), (some ((.r (.l (.l (.l .z)))), false)), none, []⟩,
       ⟨(some (.r (.l (.r (.l .z))))), .load false 1 (.t (.l (.l (.r (.l .z))))), (some ((.r (.l (.l (.l .z)))), false)), none, []⟩,
       ⟨(some (.l (.r (.r (.l .z))))), .bin .gtr (.t (.r (.r (.l (.l .z))))) (.t (.r (.l (.r (.l .z))))), (some ((.r (.l (.l (.l .z)))), false)), none, []⟩,
       ⟨(some (.r (.r (.r (.l .z))))), .pick (.t (.r (.l (.l (.l .z))))) (.c (.bool true)) (.t (.l (.r (.r (.l .z))))), none, none, []⟩])
     (.cond (.t (.r (.r (.r (.l .z)))))
     (.seq (.region false 0 [
        ⟨(some (.r .z)), .mv (.c (.bool false)), none, none, []⟩])
      .ret)
     .skip))))
    (.region false 0 [
      ⟨(some (.l (.l (.l (.r .z))))), .bin .add (.t (.l (.l (.l .z)))) (.c (.int .i64 1)), none, none, []⟩,
      ⟨(some (.l (.l (.l .z)))), .mv (.t (.l (.l (.l (.r .z))))), none, none, []⟩])))))))
  (.seq (.region false 0 [
    ⟨(some (.r .z)), .mv (.c (.bool true)), none, none, []⟩])
  .ret)))⟩
def AF56 : AFunc := ⟨54, [.tmp (.r .z)],
  (.seq (.region false 0 [
    ⟨(some (.l .z)), .box 6 6 (.t .z), none, none, []⟩,
    ⟨(some (.r .z)), .mv (.c (.int .i64 0)), none, none, []⟩])
  (.seq (.seq (.region false 0 [
    ⟨(some (.l (.l .z))), .fieldA 0 (.t (.l .z)), none, none, []⟩,
    ⟨(some (.r (.l .z))), .load false 1 (.t (.l (.l .z))), none, none, []⟩,
    ⟨(some (.l (.r .z))), .fieldA 1 (.t (.l .z)), none, none, []⟩,
    ⟨(some (.r (.r .z))), .load false 1 (.t (.l (.r .z))), none, none, []⟩,
    ⟨(some (.l (.l (.l .z)))), .slit 1 2 [(.int .i64 0)] [(0, (.t (.r (.l .z)))), (1, (.t (.r (.r .z))))], none, none, []⟩,
    ⟨(some (.r (.l (.l .z)))), .call 73 [(.t (.l (.l (.l .z))))], none, none, []⟩,
    ⟨(some (.l (.r (.l .z)))), .un .not (.t (.r (.l (.l .z)))), none, none, []⟩,
    ⟨(some (.r (.r (.l .z)))), .mv (.t (.l (.r (.l .z)))), none, none, []⟩,
    ⟨(some (.l (.l (.r .z)))), .fieldA 0 (.t (.l .z)), (some ((.r (.r (.l .z))), false)), none, []⟩,
    ⟨(some (.r (.l (.r .z)))), .load false 1 (.t (.l (.l (.r .z)))), (some ((.r (.r (.l .z))), false)), none, []⟩,
    ⟨(some (.l (.r (.r .z)))), .fieldA 1 (.t (.l .z)), (some ((.r (.r (.l .z))), false)), none, []⟩,
    ⟨(some (.r (.r (.r .z)))), .load false 1 (.t (.l (.r (.r .z)))), (some ((.r (.r (.l .z))), false)), none, []⟩,
    ⟨(some (.l (.l (.l (.l .z))))), .eql false false [.i] (.t (.r (.l (.r .z)))) (.t (.r (.r (.r .z)))), (some ((.r (.r (.l .z))), false)), none, []⟩,
    ⟨(some (.r (.l (.l (.l .z))))), .pick (.t (.r (.r (.l .z)))) (.c (.bool true)) (.t (.l (.l (.l (.l .z))))), none, none, []⟩,
    ⟨(some (.l (.r (.l (.l .z))))), .mv (.t (.r (.l (.l (.l .z))))), none, none, []⟩,
    ⟨(some (.r (.r (.l (.l .z))))), .fieldA 2 (.t (.l .z)), (some ((.l (.r (.l (.l .z)))), false)), none, []⟩,
    ⟨(some (.l (.l (.r (.l .z))))), .load false 1 (.t (.r (.r (.l (.l .z))))), (some ((.l (.r (.l (.l .z)))), false)), none, []⟩,
    ⟨(some (.r (.l (.r (.l .z))))), .bin .lss (.t (.l (.l (.r (.l .z))))) (.c (.int .i64 0)), (some ((.l (.r (.l (.l .z)))), false)), none, []⟩,
    ⟨(some (.l (.r (.r (.l .z))))), .pick (.t (.l (.r (.l (.l .z))))) (.c (.bool true)) (.t (.r (.l (.r (.l .z))))), none, none, []⟩,
    ⟨(some (.r (.r (.r (.l .z))))), .mv (.t (.l (.r (.r (.l .z))))), none, none, []⟩,
    ⟨(some (.l (.l (.l (.r .z))))), .fieldA 3 (.t (.l .z)), (some ((.r (.r (.r (.l .z)))), false)), none, []⟩,
    ⟨(some (.r (.l (.l (.r .z))))), .load false 1 (.t (.l (.l (.l (.r .z))))), (some ((.r (.r (.r (.l .z)))), false)), none, []⟩,
    ⟨(some (.l (.r (.l (.r .z))))), .fieldA 2 (.t (.l .z)), (some ((.r (.r (.r (.l .z)))), false)), none, []⟩,
    ⟨(some (.r (.r (.l (.r .z))))), .load false 1 (.t (.l (.r (.l (.r .z))))), (some ((.r (.r (.r (.l .z)))), false)), none, []⟩,
    ⟨(some (.l (.l (.r (.r .z))))), .bin .leq (.t (.r (.l (.l (.r .z))))) (.t (.r (.r (.l (.r .z))))), (some ((.r (.r (.r (.l .z)))), false)), none, []⟩,
    ⟨(some (.r (.l (.r (.r .z))))), .pick (.t (.r (.r (.r (.l .z))))) (.c (.bool true)) (.t (.l (.l (.r (.r .z))))), none, none, []⟩,
    ⟨(some (.l (.r (.r (.r .z))))), .mv (.t (.r (.l (.r (.r .z))))), none, none, []⟩,
    ⟨(some (.r (.r (.r (.r .z))))), .fieldA 3 (.t (.l .z)), (some ((.l (.r (.r (.r .z)))), false)), none, []⟩,
    ⟨(some (.l (.l (.l (.l (.l .z)))))), .load false 1 (.t (.r (.r (.r (.r .z))))), (some ((.l (.r (.r (.r .z)))), false)), none, []⟩,
    ⟨(some (.r (.l (.l (.l (.l .z)))))), .bin .gtr (.t (.l (.l (.l (.l (.l .z)))))) (.c (.int .i64 1099511627776)), (some ((.l (.r (.r (.r .z)))), false)), none, []⟩,
    ⟨(some (.l (.r (.l (.l (.l .z)))))), .pick (.t (.l (.r (.r (.r .z))))) (.c (.bool true)) (.t (.r (.l (.l (.l (.l .z)))))), none, none, []⟩,
    ⟨(some (.r (.r (.l (.l (.l .z)))))), .mv (.t (.l (.r (.l (.l (.l .z)))))), none, none, []⟩,
    ⟨(some (.l (.l (.r (.l (.l .z)))))), .fieldA 4 (.t (.l .z)), (some ((.r (.r (.l (.l (.l .z))))), false)), none, []⟩,
    ⟨(some (.r (.l (.r (.l (.l .z)))))), .load false 1 (.t (.l (.l (.r (.l (.l .z)))))), (some ((.r (.r (.l (.l (.l .z))))), false)), none, []⟩,
    ⟨(some (.l (.r (.r (.l (.l .z)))))), .bin .lss (.t (.r (.l (.r (.l (.l .z)))))) (.c (.int .i64 1)), (some ((.r (.r (.l (.l (.l .z))))), false)), none, []⟩,
    ⟨(some (.r (.r (.r (.l (.l .z)))))), .pick (.t (.r (.r (.l (.l (.l .z)))))) (.c (.bool true)) (.t (.l (.r (.r (.l (.l .z)))))), none, none, []⟩,
    ⟨(some (.l (.l (.l (.r (.l .z)))))), .mv (.t (.r (.r (.r (.l (.l .z)))))), none, none, []⟩,
    ⟨(some (.r (.l (.l (.r (.l .z)))))), .fieldA 4 (.t (.l .z)), (some ((.l (.l (.l (.r (.l .z))))), false)), none, []⟩,
    ⟨(some (.l (.r (.l (.r (.l .z)))))), .load false 1 (.t (.r (.l (.l (.r (.l .z)))))), (some ((.l (.l (.l (.r (.l .z))))), false)), none, []⟩,
    ⟨(some (.r (.r (.l (.r (.l .z)))))), .bin .gtr (.t (.l (.r (.l (.r (.l .z)))))) (.c (.int .i64 1048576)), (some ((.l (.l (.l (.r (.l .z))))), false)), none, []⟩,
    ⟨(some (.l (.l (.r (.r (.l .z)))))), .pick (.t (.l (.l (.l (.r (.l .z)))))) (.c (.bool true)) (.t (.r (.r (.l (.r (.l .z)))))), none, none, []⟩,
    ⟨(some (.r (.l (.r (.r (.l .z)))))), .mv (.t (.l (.l (.r (.r (.l .z)))))), none, none, []⟩,
    ⟨(some (.l (.r (.r (.r (.l .z)))))), .fieldA 5 (.t (.l .z)), (some ((.r (.l (.r (.r (.l .z))))), false)), none, []⟩,
    ⟨(some (.r (.r (.r (.r (.l .z)))))), .load false 1 (.t (.l (.r (.r (.r (.l .z)))))), (some ((.r (.l (.r (.r (.l .z))))), false)), none, []⟩,
    ⟨(some (.l (.l (.l (.l (.r .z)))))), .bin .lss (.t (.r (.r (.r (.r (.l .z)))))) (.c (.int .i64 0)), (some ((.r (.l (.r (.r (.l .z))))), false)), none, []⟩,
    ⟨(some (.r (.l (.l (.l (.r .z)))))), .pick (.t (.r (.l (.r (.r (.l .z)))))) (.c (.bool true)) (.t (.l (.l (.l (.l (.r .z)))))), none, none, []⟩,
    ⟨(some (.l (.r (.l (.l (.r .z)))))), .mv (.t (.r (.l (.l (.l (.r .z)))))), none, none, []⟩,
    ⟨(some (.r (.r (.l (.l (.r .z)))))), .fieldA 5 (.t (.l .z)), (some ((.l (.r (.l (.l (.r .z))))), false)), none, []⟩,
    ⟨(some (.l (.l (.r (.l (.r .z)))))), .load false 1 (.t (.r (.r (.l (.l (.r .z)))))), (some ((.l (.r (.l (.l (.r .z))))), false)), none, []⟩,
    ⟨(some (.r (.l (.r (.l (.r .z)))))), .bin .gtr (.t (.l (.l (.r (.l (.r .z)))))) (.c (.int .i64 1048576)), (some ((.l (.r (.l (.l (.r .z))))), false)), none, []⟩,
    ⟨(some (.l (.r (.r (.l (.r .z)))))), .pick (.t (.l (.r (.l (.l (.r .z)))))) (.c (.bool true)) (.t (.r (.l (.r (.l (.r .z)))))), none, none, []⟩])
  (.cond (.t (.l (.r (.r (.l (.r .z))))))
  (.seq (.region false 0 [
     ⟨(some (.r .z)), .mv (.c (.int .i64 2)), none, none, []⟩])
   .ret)
  .skip))
  (.seq (.region false 0 [
    ⟨(some (.r .z)), .mv (.c (.int .i64 0)), none, none, []⟩])
  .ret)))⟩
def AF57 : AFunc := ⟨22, [.tmp (.r (.l .z))],
  (.seq (.region false 0 [
    ⟨(some (.r .z)), .box 6 6 (.t .z), none, none, []⟩,
    ⟨(some (.l (.l .z))), .box 6 6 (.t (.l .z)), none, none, []⟩,
    ⟨(some (.r (.l .z))), .mv (.c (.int .i64 0)), none, none, []⟩])
  (.seq (.region true 1 [
    ⟨(some (.l (.r .z))), .fieldA 2 (.t (.r .z)), none, none, []⟩,
    ⟨(some (.r (.r .z))), .load false 1 (.t (.l (.r .z))), none, none, [0]⟩,
    ⟨(some (.l (.l (.l .z)))), .fieldA 2 (.t (.l (.l .z))), none, none, []⟩,
    ⟨(some (.r (.l (.l .z)))), .load false 1 (.t (.l (.l (.l .z)))), none, none, [2]⟩,
    ⟨(some (.l (.r (.l .z)))), .call 75 [(.t (.r (.r .z))), (.t (.r (.l (.l .z))))], none, none, [0, 1, 2, 3]⟩,
    ⟨(some (.r (.r (.l .z)))), .fieldA 0 (.t (.r .z)), none, none, []⟩,
    ⟨(some (.l (.l (.r .z)))), .load false 1 (.t (.r (.r (.l .z)))), none, none, [5]⟩,
    ⟨(some (.r (.l (.r .z)))), .fieldA 0 (.t (.l (.l .z))), none, none, []⟩,
    ⟨(some (.l (.r (.r .z)))), .load false 1 (.t (.r (.l (.r .z)))), none, none, [7]⟩,
    ⟨(some (.r (.r (.r .z)))), .call 75 [(.t (.l (.l (.r .z)))), (.t (.l (.r (.r .z))))], none, none, [0, 1, 2, 3, 4, 5, 6, 7, 8]⟩,
    ⟨(some (.l (.l (.l (.l .z))))), .fieldA 1 (.t (.r .z)), none, none, []⟩,
    ⟨(some (.r (.l (.l (.l .z))))), .load false 1 (.t (.l (.l (.l (.l .z))))), none, none, [10]⟩,
    ⟨(some (.l (.r (.l (.l .z))))), .fieldA 1 (.t (.l (.l .z))), none, none, []⟩,
    ⟨(some (.r (.r (.l (.l .z))))), .load false 1 (.t (.l (.r (.l (.l .z))))), none, none, [12]⟩,
    ⟨(some (.l (.l (.r (.l .z))))), .call 75 [(.t (.r (.l (.l (.l .z))))), (.t (.r (.r (.l (.l .z)))))], none, none, [0, 1, 2, 3, 4, 5, 6, 7, 8, 9, 10, 11, 12, 13]⟩,
    ⟨(some (.r (.l (.r (.l .z))))), .slit 1 3 [(.int .i64 0)] [(0, (.t (.l (.r (.l .z))))), (1, (.t (.r (.r (.r .z))))), (2, (.t (.l (.l (.r (.l .z))))))], none, (some 0), [0, 1, 2, 3, 4, 5, 6, 7, 8, 9, 10, 11, 12, 13, 14]⟩,
    ⟨(some (.l (.r (.r (.l .z))))), .call 74 [(.t (.r (.l (.r (.l .z)))))], none, none, [0, 1, 2, 3, 4, 5, 6, 7, 8, 9, 10, 11, 12, 13, 14, 15]⟩,
    ⟨(some (.r (.l .z))), .mv (.t (.l (.r (.r (.l .z))))), none, none, [0, 1, 2, 3, 4, 5, 6, 7, 8, 9, 10, 11, 12, 13, 14, 15, 16]⟩])
  .ret))⟩
def AF58 : AFunc := ⟨8, [.cell (.r .z) true 2],
  (.seq (.region false 0 [
    ⟨(some (.l .z)), .box 6 6 (.t .z), none, none, []⟩,
    ⟨(some (.r .z)), .alloc 1 [[(.int .i64 0)], [(.int .i64 0)]], none, none, []⟩])
  (.seq (.region false 0 [
    ⟨(some (.l (.l .z))), .fieldA 0 (.t (.l .z)), none, none, []⟩,
    ⟨(some (.r (.l .z))), .load false 1 (.t (.l (.l .z))), none, none, []⟩,
    ⟨(some (.l (.r .z))), .fieldA 1 (.t (.l .z)), none, none, []⟩,
    ⟨(some (.r (.r .z))), .load false 1 (.t (.l (.r .z))), none, none, []⟩,
    ⟨(some (.l (.l (.l .z)))), .build [(.int .i64 0), (.int .i64 0)] [(0, 1, (.t (.r (.l .z)))), (1, 1, (.t (.r (.r .z))))], none, none, []⟩,
    ⟨none, .store 2 (.t (.r .z)) (.t (.l (.l (.l .z)))), none, none, []⟩])
  .ret))⟩
def AF59 : AFunc := ⟨141, [.tmp (.r (.l .z))],
  (.seq (.region false 0 [
    ⟨(some (.r .z)), .box 15 15 (.t .z), none, none, []⟩,
    ⟨(some (.r (.l .z))), .mv (.c (.int .i64 0)), none, none, []⟩])
  (.seq (.seq (.region false 0 [
    ⟨(some (.r (.r .z))), .fieldA 0 (.t (.r .z)), none, none, []⟩,
    ⟨(some (.l (.l (.l .z)))), .load false 1 (.t (.r (.r .z))), none, none, []⟩,
    ⟨(some (.r (.l (.l .z)))), .bin .lss (.t (.l (.l (.l .z)))) (.c (.int .i64 1)), none, none, []⟩,
    ⟨(some (.l (.r (.l .z)))), .mv (.t (.r (.l (.l .z)))), none, none, []⟩,
    ⟨(some (.r (.r (.l .z)))), .fieldA 0 (.t (.r .z)), (some ((.l (.r (.l .z))), false)), none, []⟩,
    ⟨(some (.l (.l (.r .z)))), .load false 1 (.t (.r (.r (.l .z)))), (some ((.l (.r (.l .z))), false)), none, []⟩,
    ⟨(some (.r (.l (.r .z)))), .bin .gtr (.t (.l (.l (.r .z)))) (.c (.int .i64 14)), (some ((.l (.r (.l .z))), false)), none, []⟩,
    ⟨(some (.l (.r (.r .z)))), .pick (.t (.l (.r (.l .z)))) (.c (.bool true)) (.t (.r (.l (.r .z)))), none, none, []⟩])
  (.cond (.t (.l (.r (.r .z))))
  (.seq (.region false 0 [
     ⟨(some (.r (.l .z))), .mv (.c (.int .i64 7)), none, none, []⟩])
   .ret)
  .skip))
  (.seq (.region false 0 [
    ⟨(some (.r (.r (.r .z)))), .fieldA 0 (.t (.r .z)), none, none, []⟩,
    ⟨(some (.l (.l (.l (.l .z))))), .load false 1 (.t (.r (.r (.r .z)))), none, none, []⟩,
    ⟨(some (.r (.l (.l (.l .z))))), .idxA 8 15 (.c (.ptr 0 0 0)) (.t (.l (.l (.l (.l .z))))), none, none, []⟩,
    ⟨(some (.l (.r (.l (.l .z))))), .load true 8 (.t (.r (.l (.l (.l .z))))), none, none, []⟩,
    ⟨(some (.l (.r .z))), .alloc 8 [[(.str []), (.bool false), (.bool false), (.int .i64 0), (.int .i64 0), (.int .i64 0), (.int .i64 0), (.bool false)]], none, none, []⟩,
    ⟨none, .store 8 (.t (.l (.r .z))) (.t (.l (.r (.l (.l .z))))), none, none, []⟩])
  (.seq (.block 0 (.seq (.seq (.region false 0 [
     ⟨(some (.l (.l (.r (.l .z))))), .fieldA 1 (.t (.l (.r .z))), none, none, []⟩,
     ⟨(some (.r (.l (.r (.l .z))))), .load false 1 (.t (.l (.l (.r (.l .z))))), none, none, []⟩,
     ⟨(some (.l (.r (.r (.l .z))))), .mv (.t (.r (.l (.r (.l .z))))), none, none, []⟩,
     ⟨(some (.r (.r (.r (.l .z))))), .fieldA 1 (.t (.r .z)), (some ((.l (.r (.r (.l .z)))), true)), none, []⟩,
     ⟨(some (.l (.l (.l (.r .z))))), .load false 1 (.t (.r (.r (.r (.l .z))))), (some ((.l (.r (.r (.l .z)))), true)), none, []⟩,
     ⟨(some (.r (.l (.l (.r .z))))), .call 76 [(.t (.l (.l (.l (.r .z)))))], (some ((.l (.r (.r (.l .z)))), true)), none, []⟩,
     ⟨(some (.l (.r (.l (.r .z))))), .un .not (.t (.r (.l (.l (.r .z))))), (some ((.l (.r (.r (.l .z)))), true)), none, []⟩,
     ⟨(some (.r (.r (.l (.r .z))))), .pick (.t (.l (.r (.r (.l .z))))) (.t (.l (.r (.l (.r .z))))) (.c (.bool false)), none, none, []⟩,
     ⟨(some (.r (.r (.l (.l .z))))), .mv (.t (.r (.r (.l (.r .z))))), none, none, []⟩])
   (.cond (.t (.r (.r (.l (.l .z)))))
   .skip
   (.region false 0 [
      ⟨(some (.l (.l (.r (.r .z))))), .fieldA 2 (.t (.l (.r .z))), none, none, []⟩,
      ⟨(some (.r (.l (.r (.r .z))))), .load false 1 (.t (.l (.l (.r (.r .z))))), none, none, []⟩,
      ⟨(some (.l (.r (.r (.r .z))))), .mv (.t (.r (.l (.r (.r .z))))), none, none, []⟩,
      ⟨(some (.r (.r (.r (.r .z))))), .fieldA 2 (.t (.r .z)), (some ((.l (.r (.r (.r .z)))), true)), none, []⟩,
      ⟨(some (.l (.l (.l (.l (.l .z)))))), .load false 1 (.t (.r (.r (.r (.r .z))))), (some ((.l (.r (.r (.r .z)))), true)), none, []⟩,
      ⟨(some (.r (.l (.l (.l (.l .z)))))), .call 76 [(.t (.l (.l (.l (.l (.l .z))))))], (some ((.l (.r (.r (.r .z)))), true)), none, []⟩,
      ⟨(some (.l (.r (.l (.l (.l .z)))))), .un .not (.t (.r (.l (.l (.l (.l .z)))))), (some ((.l (.r (.r (.r .z)))), true)), none, []⟩,
      ⟨(some (.r (.r (.l (.l (.l .z)))))), .mv (.t (.l (.r (.l (.l (.l .z)))))), (some ((.l (.r (.r (.r .z)))), true)), none, []⟩,
      ⟨(some (.l (.l (.r (.l (.l .z)))))), .fieldA 2 (.t (.r .z)), (some ((.r (.r (.l (.l (.l .z))))), false)), none, []⟩,
      ⟨(some (.r (.l (.r (.l (.l .z)))))), .load false 1 (.t (.l (.l (.r (.l (.l .z)))))), (some ((.r (.r (.l (.l (.l .z))))), false)), none, []⟩,
      ⟨(some (.l (.r (.r (.l (.l .z)))))), .fieldA 1 (.t (.r .z)), (some ((.r (.r (.l (.l (.l .z))))), false)), none, []⟩,
      ⟨(some (.r (.r (.r (.l (.l .z)))))), .load false 1 (.t (.l (.r (.r (.l (.l .z)))))), (some ((.r (.r (.l (.l (.l .z))))), false)), none, []⟩,
      ⟨(some (.l (.l (.l (.r (.l .z)))))), .eql false false [.i] (.t (.r (.l (.r (.l (.l .z)))))) (.t (.r (.r (.r (.l (.l .z)))))), (some ((.r (.r (.l (.l (.l .z))))), false)), none, []⟩,
      ⟨(some (.r (.l (.l (.r (.l .z)))))), .pick (.t (.r (.r (.l (.l (.l .z)))))) (.c (.bool true)) (.t (.l (.l (.l (.r (.l .z)))))), (some ((.l (.r (.r (.r .z)))), true)), none, []⟩,
      ⟨(some (.l (.r (.l (.r (.l .z)))))), .pick (.t (.l (.r (.r (.r .z))))) (.t (.r (.l (.l (.r (.l .z)))))) (.c (.bool false)), none, none, []⟩,
      ⟨(some (.r (.r (.l (.l .z))))), .mv (.t (.l (.r (.l (.r (.l .z)))))), none, none, []⟩])))
   (.cond (.t (.r (.r (.l (.l .z)))))
   (.seq (.region false 0 [
      ⟨(some (.r (.l .z))), .mv (.c (.int .i64 2)), none, none, []⟩])
    .ret)
   (.seq (.region false 0 [
      ⟨(some (.l (.l (.r (.r (.l .z)))))), .fieldA 3 (.t (.r .z)), none, none, []⟩,
      ⟨(some (.r (.l (.r (.r (.l .z)))))), .load false 1 (.t (.l (.l (.r (.r (.l .z)))))), none, none, []⟩,
      ⟨(some (.l (.r (.r (.r (.l .z)))))), .fieldA 3 (.t (.l (.r .z))), none, none, []⟩,
      ⟨(some (.r (.r (.r (.r (.l .z)))))), .load false 1 (.t (.l (.r (.r (.r (.l .z)))))), none, none, []⟩,
      ⟨(some (.l (.l (.l (.l (.r .z)))))), .fieldA 4 (.t (.l (.r .z))), none, none, []⟩,
      ⟨(some (.r (.l (.l (.l (.r .z)))))), .load false 1 (.t (.l (.l (.l (.l (.r .z)))))), none, none, []⟩,
      ⟨(some (.l (.r (.l (.l (.r .z)))))), .call 77 [(.t (.r (.l (.r (.r (.l .z)))))), (.t (.r (.r (.r (.r (.l .z)))))), (.t (.r (.l (.l (.l (.r .z))))))], none, none, []⟩,
      ⟨(some (.r (.r (.l (.l (.r .z)))))), .un .not (.t (.l (.r (.l (.l (.r .z)))))), none, none, []⟩,
      ⟨(some (.l (.l (.r (.l (.r .z)))))), .mv (.t (.r (.r (.l (.l (.r .z)))))), none, none, []⟩,
      ⟨(some (.r (.l (.r (.l (.r .z)))))), .fieldA 4 (.t (.r .z)), (some ((.l (.l (.r (.l (.r .z))))), false)), none, []⟩,
      ⟨(some (.l (.r (.r (.l (.r .z)))))), .load false 1 (.t (.r (.l (.r (.l (.r .z)))))), (some ((.l (.l (.r (.l (.r .z))))), false)), none, []⟩,
      ⟨(some (.r (.r (.r (.l (.r .z)))))), .fieldA 5 (.t (.l (.r .z))), (some ((.l (.l (.r (.l (.r .z))))), false)), none, []⟩,
      ⟨(some (.l (.l (.l (.r (.r .z)))))), .load false 1 (.t (.r (.r (.r (.l (.r .z)))))), (some ((.l (.l (.r (.l (.r .z))))), false)), none, []⟩,
      ⟨(some (.r (.l (.l (.r (.r .z)))))), .call 77 [(.t (.l (.r (.r (.l (.r .z)))))), (.c (.int .i64 0)), (.t (.l (.l (.l (.r (.r .z))))))], (some ((.l (.l (.r (.l (.r .z))))), false)), none, []⟩,
      ⟨(some (.l (.r (.l (.r (.r .z)))))), .un .not (.t (.r (.l (.l (.r (.r .z)))))), (some ((.l (.l (.r (.l (.r .z))))), false)), none, []⟩,
      ⟨(some (.r (.r (.l (.r (.r .z)))))), .pick (.t (.l (.l (.r (.l (.r .z)))))) (.c (.bool true)) (.t (.l (.r (.l (.r (.r .z)))))), none, none, []⟩,
      ⟨(some (.l (.l (.r (.r (.r .z)))))), .mv (.t (.r (.r (.l (.r (.r .z)))))), none, none, []⟩,
      ⟨(some (.r (.l (.r (.r (.r .z)))))), .fieldA 5 (.t (.r .z)), (some ((.l (.l (.r (.r (.r .z))))), false)), none, []⟩,
      ⟨(some (.l (.r (.r (.r (.r .z)))))), .load false 1 (.t (.r (.l (.r (.r (.r .z)))))), (some ((.l (.l (.r (.r (.r .z))))), false)), none, []⟩,
      ⟨(some (.r (.r (.r (.r (.r .z)))))), .fieldA 6 (.t (.l (.r .z))), (some ((.l (.l (.r (.r (.r .z))))), false)), none, []⟩,
      ⟨(some (.l (.l (.l (.l (.l (.l .z))))))), .load false 1 (.t (.r (.r (.r (.r (.r .z)))))), (some ((.l (.l (.r (.r (.r .z))))), false)), none, []⟩,
      ⟨(some (.r (.l (.l (.l (.l (.l .z))))))), .call 77 [(.t (.l (.r (.r (.r (.r .z)))))), (.c (.int .i64 1)), (.t (.l (.l (.l (.l (.l (.l .z)))))))], (some ((.l (.l (.r (.r (.r .z))))), false)), none, []⟩,
      ⟨(some (.l (.r (.l (.l (.l (.l .z))))))), .un .not (.t (.r (.l (.l (.l (.l (.l .z))))))), (some ((.l (.l (.r (.r (.r .z))))), false)), none, []⟩,
      ⟨(some (.r (.r (.l (.l (.l (.l .z))))))), .pick (.t (.l (.l (.r (.r (.r .z)))))) (.c (.bool true)) (.t (.l (.r (.l (.l (.l (.l .z))))))), none, none, []⟩,
      ⟨(some (.r (.r (.l (.r (.l .z)))))), .mv (.t (.r (.r (.l (.l (.l (.l .z))))))), none, none, []⟩])
    (.cond (.t (.r (.r (.l (.r (.l .z))))))
    (.seq (.region false 0 [
       ⟨(some (.r (.l .z))), .mv (.c (.int .i64 2)), none, none, []⟩])
     .ret)
    (.seq (.seq (.region false 0 [
       ⟨(some (.r (.l (.r (.l (.l (.l .z))))))), .fieldA 1 (.t (.l (.r .z))), none, none, []⟩,
       ⟨(some (.l (.r (.r (.l (.l (.l .z))))))), .load false 1 (.t (.r (.l (.r (.l (.l (.l .z))))))), none, none, []⟩,
       ⟨(some (.r (.r (.r (.l (.l (.l .z))))))), .mv (.t (.l (.r (.r (.l (.l (.l .z))))))), none, none, []⟩,
       ⟨(some (.l (.l (.l (.r (.l (.l .z))))))), .mv (.t (.l .z)), (some ((.r (.r (.r (.l (.l (.l .z)))))), true)), none, []⟩,
       ⟨(some (.r (.l (.l (.r (.l (.l .z))))))), .fieldA 1 (.t (.r .z)), (some ((.r (.r (.r (.l (.l (.l .z)))))), true)), none, []⟩,
       ⟨(some (.l (.r (.l (.r (.l (.l .z))))))), .load false 1 (.t (.r (.l (.l (.r (.l (.l .z))))))), (some ((.r (.r (.r (.l (.l (.l .z)))))), true)), none, []⟩,
       ⟨(some (.r (.r (.l (.r (.l (.l .z))))))), .callv (.t (.l (.l (.l (.r (.l (.l .z))))))) [(.t (.l (.r (.l (.r (.l (.l .z)))))))], (some ((.r (.r (.r (.l (.l (.l .z)))))), true)), none, []⟩,
       ⟨(some (.l (.l (.r (.r (.l (.l .z))))))), .un .not (.t (.r (.r (.l (.r (.l (.l .z))))))), (some ((.r (.r (.r (.l (.l (.l .z)))))), true)), none, []⟩,
       ⟨(some (.r (.l (.r (.r (.l (.l .z))))))), .pick (.t (.r (.r (.r (.l (.l (.l .z))))))) (.t (.l (.l (.r (.r (.l (.l .z))))))) (.c (.bool false)), none, none, []⟩,
       ⟨(some (.l (.l (.r (.l (.l (.l .z))))))), .mv (.t (.r (.l (.r (.r (.l (.l .z))))))), none, none, []⟩])
     (.cond (.t (.l (.l (.r (.l (.l (.l .z)))))))
     .skip
     (.region false 0 [
        ⟨(some (.l (.r (.r (.r (.l (.l .z))))))), .fieldA 2 (.t (.l (.r .z))), none, none, []⟩,
        ⟨(some (.r (.r (.r (.r (.l (.l .z))))))), .load false 1 (.t (.l (.r (.r (.r (.l (.l .z))))))), none, none, []⟩,
        ⟨(some (.l (.l (.l (.l (.r (.l .z))))))), .mv (.t (.r (.r (.r (.r (.l (.l .z))))))), none, none, []⟩,
        ⟨(some (.r (.l (.l (.l (.r (.l .z))))))), .mv (.t (.l .z)), (some ((.l (.l (.l (.l (.r (.l .z)))))), true)), none, []⟩,
        ⟨(some (.l (.r (.l (.l (.r (.l .z))))))), .fieldA 2 (.t (.r .z)), (some ((.l (.l (.l (.l (.r (.l .z)))))), true)), none, []⟩,
        ⟨(some (.r (.r (.l (.l (.r (.l .z))))))), .load false 1 (.t (.l (.r (.l (.l (.r (.l .z))))))), (some ((.l (.l (.l (.l (.r (.l .z)))))), true)), none, []⟩,
        ⟨(some (.l (.l (.r (.l (.r (.l .z))))))), .callv (.t (.r (.l (.l (.l (.r (.l .z))))))) [(.t (.r (.r (.l (.l (.r (.l .z)))))))], (some ((.l (.l (.l (.l (.r (.l .z)))))), true)), none, []⟩,
        ⟨(some (.r (.l (.r (.l (.r (.l .z))))))), .un .not (.t (.l (.l (.r (.l (.r (.l .z))))))), (some ((.l (.l (.l (.l (.r (.l .z)))))), true)), none, []⟩,
        ⟨(some (.l (.r (.r (.l (.r (.l .z))))))), .pick (.t (.l (.l (.l (.l (.r (.l .z))))))) (.t (.r (.l (.r (.l (.r (.l .z))))))) (.c (.bool false)), none, none, []⟩,
        ⟨(some (.l (.l (.r (.l (.l (.l .z))))))), .mv (.t (.l (.r (.r (.l (.r (.l .z))))))), none, none, []⟩])))
     (.cond (.t (.l (.l (.r (.l (.l (.l .z)))))))
     (.seq (.region false 0 [
        ⟨(some (.r (.l .z))), .mv (.c (.int .i64 8)), none, none, []⟩])
      .ret)
     (.seq (.seq (.region false 0 [
        ⟨(some (.l (.l (.l (.r (.r (.l .z))))))), .fieldA 1 (.t (.l (.r .z))), none, none, []⟩,
        ⟨(some (.r (.l (.l (.r (.r (.l .z))))))), .load false 1 (.t (.l (.l (.l (.r (.r (.l .z))))))), none, none, []⟩,
        ⟨(some (.l (.r (.l (.r (.r (.l .z))))))), .un .not (.t (.r (.l (.l (.r (.r (.l .z))))))), none, none, []⟩,
        ⟨(some (.r (.r (.l (.r (.r (.l .z))))))), .mv (.t (.l (.r (.l (.r (.r (.l .z))))))), none, none, []⟩,
        ⟨(some (.l (.l (.r (.r (.r (.l .z))))))), .fieldA 1 (.t (.r .z)), (some ((.r (.r (.l (.r (.r (.l .z)))))), true)), none, []⟩,
        ⟨(some (.r (.l (.r (.r (.r (.l .z))))))), .load false 1 (.t (.l (.l (.r (.r (.r (.l .z))))))), (some ((.r (.r (.l (.r (.r (.l .z)))))), true)), none, []⟩,
        ⟨(some (.l (.r (.r (.r (.r (.l .z))))))), .eql true false [.i] (.t (.r (.l (.r (.r (.r (.l .z))))))) (.c (.int .i64 0)), (some ((.r (.r (.l (.r (.r (.l .z)))))), true)), none, []⟩,
        ⟨(some (.r (.r (.r (.r (.r (.l .z))))))), .pick (.t (.r (.r (.l (.r (.r (.l .z))))))) (.t (.l (.r (.r (.r (.r (.l .z))))))) (.c (.bool false)), none, none, []⟩,
        ⟨(some (.r (.r (.r (.l (.r (.l .z))))))), .mv (.t (.r (.r (.r (.r (.r (.l .z))))))), none, none, []⟩])
      (.cond (.t (.r (.r (.r (.l (.r (.l .z)))))))
      .skip
      (.seq (.region false 0 [
         ⟨(some (.l (.l (.l (.l (.l (.r .z))))))), .fieldA 2 (.t (.l (.r .z))), none, none, []⟩,
         ⟨(some (.r (.l (.l (.l (.l (.r .z))))))), .load false 1 (.t (.l (.l (.l (.l (.l (.r .z))))))), none, none, []⟩,
         ⟨(some (.l (.r (.l (.l (.l (.r .z))))))), .un .not (.t (.r (.l (.l (.l (.l (.r .z))))))), none, none, []⟩,
         ⟨(some (.r (.r (.l (.l (.l (.r .z))))))), .mv (.t (.l (.r (.l (.l (.l (.r .z))))))), none, none, []⟩,
         ⟨(some (.l (.l (.r (.l (.l (.r .z))))))), .fieldA 2 (.t (.r .z)), (some ((.r (.r (.l (.l (.l (.r .z)))))), true)), none, []⟩,
         ⟨(some (.r (.l (.r (.l (.l (.r .z))))))), .load false 1 (.t (.l (.l (.r (.l (.l (.r .z))))))), (some ((.r (.r (.l (.l (.l (.r .z)))))), true)), none, []⟩,
         ⟨(some (.l (.r (.r (.l (.l (.r .z))))))), .eql true false [.i] (.t (.r (.l (.r (.l (.l (.r .z))))))) (.c (.int .i64 0)), (some ((.r (.r (.l (.l (.l (.r .z)))))), true)), none, []⟩,
         ⟨(some (.r (.r (.r (.l (.l (.r .z))))))), .pick (.t (.r (.r (.l (.l (.l (.r .z))))))) (.t (.l (.r (.r (.l (.l (.r .z))))))) (.c (.bool false)), none, none, []⟩,
         ⟨(some (.r (.r (.r (.l (.r (.l .z))))))), .mv (.t (.r (.r (.r (.l (.l (.r .z))))))), none, none, []⟩])
       (.cond (.t (.r (.r (.r (.l (.r (.l .z)))))))
       .skip
       (.seq (.region false 0 [
          ⟨(some (.l (.l (.l (.r (.l (.r .z))))))), .fieldA 4 (.t (.l (.r .z))), none, none, []⟩,
          ⟨(some (.r (.l (.l (.r (.l (.r .z))))))), .load false 1 (.t (.l (.l (.l (.r (.l (.r .z))))))), none, none, []⟩,
          ⟨(some (.l (.r (.l (.r (.l (.r .z))))))), .bin .lss (.t (.r (.l (.l (.r (.l (.r .z))))))) (.c (.int .i64 0)), none, none, []⟩,
          ⟨(some (.r (.r (.l (.r (.l (.r .z))))))), .mv (.t (.l (.r (.l (.r (.l (.r .z))))))), none, none, []⟩,
          ⟨(some (.l (.l (.r (.r (.l (.r .z))))))), .fieldA 3 (.t (.r .z)), (some ((.r (.r (.l (.r (.l (.r .z)))))), true)), none, []⟩,
          ⟨(some (.r (.l (.r (.r (.l (.r .z))))))), .load false 1 (.t (.l (.l (.r (.r (.l (.r .z))))))), (some ((.r (.r (.l (.r (.l (.r .z)))))), true)), none, []⟩,
          ⟨(some (.l (.r (.r (.r (.l (.r .z))))))), .eql true false [.i] (.t (.r (.l (.r (.r (.l (.r .z))))))) (.c (.int .i64 0)), (some ((.r (.r (.l (.r (.l (.r .z)))))), true)), none, []⟩,
          ⟨(some (.r (.r (.r (.r (.l (.r .z))))))), .pick (.t (.r (.r (.l (.r (.l (.r .z))))))) (.t (.l (.r (.r (.r (.l (.r .z))))))) (.c (.bool false)), none, none, []⟩,
          ⟨(some (.r (.r (.r (.l (.r (.l .z))))))), .mv (.t (.r (.r (.r (.r (.l (.r .z))))))), none, none, []⟩])
        (.cond (.t (.r (.r (.r (.l (.r (.l .z)))))))
        .skip
        (.seq (.region false 0 [
           ⟨(some (.l (.l (.l (.l (.r (.r .z))))))), .fieldA 5 (.t (.l (.r .z))), none, none, []⟩,
           ⟨(some (.r (.l (.l (.l (.r (.r .z))))))), .load false 1 (.t (.l (.l (.l (.l (.r (.r .z))))))), none, none, []⟩,
           ⟨(some (.l (.r (.l (.l (.r (.r .z))))))), .bin .lss (.t (.r (.l (.l (.l (.r (.r .z))))))) (.c (.int .i64 0)), none, none, []⟩,
           ⟨(some (.r (.r (.l (.l (.r (.r .z))))))), .mv (.t (.l (.r (.l (.l (.r (.r .z))))))), none, none, []⟩,
           ⟨(some (.l (.l (.r (.l (.r (.r .z))))))), .fieldA 4 (.t (.r .z)), (some ((.r (.r (.l (.l (.r (.r .z)))))), true)), none, []⟩,
           ⟨(some (.r (.l (.r (.l (.r (.r .z))))))), .load false 1 (.t (.l (.l (.r (.l (.r (.r .z))))))), (some ((.r (.r (.l (.l (.r (.r .z)))))), true)), none, []⟩,
           ⟨(some (.l (.r (.r (.l (.r (.r .z))))))), .eql true false [.i] (.t (.r (.l (.r (.l (.r (.r .z))))))) (.c (.int .i64 0)), (some ((.r (.r (.l (.l (.r (.r .z)))))), true)), none, []⟩,
           ⟨(some (.r (.r (.r (.l (.r (.r .z))))))), .pick (.t (.r (.r (.l (.l (.r (.r .z))))))) (.t (.l (.r (.r (.l (.r (.r .z))))))) (.c (.bool false)), none, none, []⟩,
           ⟨(some (.r (.r (.r (.l (.r (.l .z))))))), .mv (.t (.r (.r (.r (.l (.r (.r .z))))))), none, none, []⟩])
         (.cond (.t (.r (.r (.r (.l (.r (.l .z)))))))
         .skip
         (.seq (.region false 0 [
            ⟨(some (.l (.l (.l (.r (.r (.r .z))))))), .fieldA 6 (.t (.l (.r .z))), none, none, []⟩,
            ⟨(some (.r (.l (.l (.r (.r (.r .z))))))), .load false 1 (.t (.l (.l (.l (.r (.r (.r .z))))))), none, none, []⟩,
            ⟨(some (.l (.r (.l (.r (.r (.r .z))))))), .bin .lss (.t (.r (.l (.l (.r (.r (.r .z))))))) (.c (.int .i64 0)), none, none, []⟩,
            ⟨(some (.r (.r (.l (.r (.r (.r .z))))))), .mv (.t (.l (.r (.l (.r (.r (.r .z))))))), none, none, []⟩,
            ⟨(some (.l (.l (.r (.r (.r (.r .z))))))), .fieldA 5 (.t (.r .z)), (some ((.r (.r (.l (.r (.r (.r .z)))))), true)), none, []⟩,
            ⟨(some (.r (.l (.r (.r (.r (.r .z))))))), .load false 1 (.t (.l (.l (.r (.r (.r (.r .z))))))), (some ((.r (.r (.l (.r (.r (.r .z)))))), true)), none, []⟩,
            ⟨(some (.l (.r (.r (.r (.r (.r .z))))))), .eql true false [.i] (.t (.r (.l (.r (.r (.r (.r .z))))))) (.c (.int .i64 0)), (some ((.r (.r (.l (.r (.r (.r .z)))))), true)), none, []⟩,
            ⟨(some (.r (.r (.r (.r (.r (.r .z))))))), .pick (.t (.r (.r (.l (.r (.r (.r .z))))))) (.t (.l (.r (.r (.r (.r (.r .z))))))) (.c (.bool false)), none, none, []⟩,
            ⟨(some (.r (.r (.r (.l (.r (.l .z))))))), .mv (.t (.r (.r (.r (.r (.r (.r .z))))))), none, none, []⟩])
          (.cond (.t (.r (.r (.r (.l (.r (.l .z)))))))
          .skip
          (.region false 0 [
             ⟨(some (.l (.l (.l (.l (.l (.l (.l .z)))))))), .fieldA 7 (.t (.l (.r .z))), none, none, []⟩,
             ⟨(some (.r (.l (.l (.l (.l (.l (.l .z)))))))), .load false 1 (.t (.l (.l (.l (.l (.l (.l (.l .z)))))))), none, none, []⟩,
             ⟨(some (.l (.r (.l (.l (.l (.l (.l .z)))))))), .un .not (.t (.r (.l (.l (.l (.l (.l (.l .z)))))))), none, none, []⟩,
             ⟨(some (.r (.r (.l (.l (.l (.l (.l .z)))))))), .mv (.t (.l (.r (.l (.l (.l (.l (.l .z)))))))), none, none, []⟩,
             ⟨(some (.l (.l (.r (.l (.l (.l (.l .z)))))))), .fieldA 6 (.t (.r .z)), (some ((.r (.r (.l (.l (.l (.l (.l .z))))))), true)), none, []⟩,
             ⟨(some (.r (.l (.r (.l (.l (.l (.l .z)))))))), .load true 9 (.t (.l (.l (.r (.l (.l (.l (.l .z)))))))), (some ((.r (.r (.l (.l (.l (.l (.l .z))))))), true)), none, []⟩,
             ⟨(some (.l (.r (.r (.l (.l (.l (.l .z)))))))), .build [(.int .i64 0), (.int .u64 0), (.int .i64 0), (.int .i64 0), (.int .i64 0), (.int .i64 0), (.int .i64 0), (.int .i64 0), (.str [])] [], (some ((.r (.r (.l (.l (.l (.l (.l .z))))))), true)), none, []⟩,
             ⟨(some (.r (.r (.r (.l (.l (.l (.l .z)))))))), .eql true true [.i, .i, .i, .i, .i, .i, .i, .i, .s] (.t (.r (.l (.r (.l (.l (.l (.l .z)))))))) (.t (.l (.r (.r (.l (.l (.l (.l .z)))))))), (some ((.r (.r (.l (.l (.l (.l (.l .z))))))), true)), none, []⟩,
             ⟨(some (.l (.l (.l (.r (.l (.l (.l .z)))))))), .pick (.t (.r (.r (.l (.l (.l (.l (.l .z)))))))) (.t (.r (.r (.r (.l (.l (.l (.l .z)))))))) (.c (.bool false)), none, none, []⟩,
             ⟨(some (.r (.r (.r (.l (.r (.l .z))))))), .mv (.t (.l (.l (.l (.r (.l (.l (.l .z)))))))), none, none, []⟩])))))))))))
      (.cond (.t (.r (.r (.r (.l (.r (.l .z)))))))
      (.seq (.region false 0 [
         ⟨(some (.r (.l .z))), .mv (.c (.int .i64 3)), none, none, []⟩])
       .ret)
      .skip)))))))))
  (.seq (.seq (.region false 0 [
    ⟨(some (.r (.l (.l (.r (.l (.l (.l .z)))))))), .fieldA 7 (.t (.l (.r .z))), none, none, []⟩,
    ⟨(some (.l (.r (.l (.r (.l (.l (.l .z)))))))), .load false 1 (.t (.r (.l (.l (.r (.l (.l (.l .z)))))))), none, none, []⟩])
  (.cond (.t (.l (.r (.l (.r (.l (.l (.l .z))))))))
  (.seq (.region false 0 [
     ⟨(some (.r (.r (.l (.r (.l (.l (.l .z)))))))), .fieldA 6 (.t (.r .z)), none, none, []⟩,
     ⟨(some (.l (.l (.r (.r (.l (.l (.l .z)))))))), .load true 9 (.t (.r (.r (.l (.r (.l (.l (.l .z)))))))), none, none, []⟩,
     ⟨(some (.r (.l (.r (.r (.l (.l (.l .z)))))))), .call 62 [(.t (.l (.l (.r (.r (.l (.l (.l .z))))))))], none, none, []⟩,
     ⟨(some (.r (.l .z))), .mv (.t (.r (.l (.r (.r (.l (.l (.l .z)))))))), none, none, []⟩])
   .ret)
  .skip))
  (.seq (.region false 0 [
    ⟨(some (.r (.l .z))), .mv (.c (.int .i64 0)), none, none, []⟩])
  .ret))))))⟩
def AF60 : AFunc := ⟨8, [.tmp (.l (.l .z))],
  (.seq (.region false 0 [
    ⟨(some (.r .z)), .box 1 1 (.t .z), none, none, []⟩,
    ⟨(some (.l (.l .z))), .mv (.c (.bool false)), none, none, []⟩])
  (.seq (.region false 0 [
    ⟨(some (.r (.l .z))), .fieldA 0 (.t (.l .z)), none, none, []⟩,
    ⟨(some (.l (.r .z))), .load false 1 (.t (.r (.l .z))), none, none, []⟩,
    ⟨(some (.r (.r .z))), .mkfunc 61 [] [(.t (.r .z))], none, none, []⟩,
    ⟨(some (.l (.l (.l .z)))), .call 49 [(.t (.l (.r .z))), (.t (.r (.r .z)))], none, none, []⟩,
    ⟨(some (.l (.l .z))), .mv (.t (.l (.l (.l .z)))), none, none, []⟩])
  .ret))⟩
def AF61 : AFunc := ⟨8, [.tmp (.l (.l .z))],
  (.seq (.region false 0 [
    ⟨(some (.r .z)), .box 1 16 (.t .z), none, none, []⟩,
    ⟨(some (.l (.l .z))), .mv (.c (.bool false)), none, none, []⟩])
  (.seq (.region false 0 [
    ⟨(some (.r (.l .z))), .fieldA 0 (.t (.r .z)), none, none, []⟩,
    ⟨(some (.l (.r .z))), .load false 1 (.t (.r (.l .z))), none, none, []⟩,
    ⟨(some (.r (.r .z))), .load false 1 (.t (.l .z)), none, none, []⟩,
    ⟨(some (.l (.l (.l .z)))), .eql false false [.i] (.t (.l (.r .z))) (.t (.r (.r .z))), none, none, []⟩,
    ⟨(some (.l (.l .z))), .mv (.t (.l (.l (.l .z)))), none, none, []⟩])
  .ret))⟩
def AF62 : AFunc := ⟨50, [.tmp (.r .z)],
  (.seq (.region false 0 [
    ⟨(some (.l .z)), .box 9 9 (.t .z), none, none, []⟩,
    ⟨(some (.r .z)), .mv (.c (.int .i64 0)), none, none, []⟩])
  (.seq (.seq (.region false 0 [
    ⟨(some (.r (.r .z))), .fieldA 0 (.t (.l .z)), none, none, []⟩,
    ⟨(some (.l (.l (.l .z)))), .load true 3 (.t (.r (.r .z))), none, none, []⟩,
    ⟨(some (.r (.l (.l .z)))), .call 78 [(.t (.l (.l (.l .z))))], none, none, []⟩,
    ⟨(some (.l (.l .z))), .mv (.t (.r (.l (.l .z)))), none, none, []⟩])
  (.seq (.region false 0 [
    ⟨(some (.l (.r (.l .z)))), .mv (.t (.l (.l .z))), none, none, []⟩,
    ⟨(some (.r (.r (.l .z)))), .eql true false [.i] (.t (.l (.r (.l .z)))) (.c (.int .i64 0)), none, none, []⟩])
  (.cond (.t (.r (.r (.l .z))))
  (.seq (.region false 0 [
     ⟨(some (.l (.l (.r .z)))), .mv (.t (.l (.l .z))), none, none, []⟩,
     ⟨(some (.r .z)), .mv (.t (.l (.l (.r .z)))), none, none, []⟩])
   .ret)
  .skip)))
  (.seq (.region false 0 [
    ⟨(some (.r (.l (.r .z)))), .fieldA 3 (.t (.l .z)), none, none, []⟩,
    ⟨(some (.l (.r (.r .z)))), .load false 1 (.t (.r (.l (.r .z)))), none, none, []⟩,
    ⟨(some (.r (.r (.r .z)))), .build [(.int .i64 0), (.int .i64 0), (.int .i64 0)] [(0, 1, (.t (.l (.r (.r .z))))), (1, 1, (.c (.int .i64 1))), (2, 1, (.c (.int .i64 16)))], none, none, []⟩,
    ⟨(some (.l (.l (.l (.l .z))))), .fieldA 4 (.t (.l .z)), none, none, []⟩,
    ⟨(some (.r (.l (.l (.l .z))))), .load false 1 (.t (.l (.l (.l (.l .z))))), none, none, []⟩,
    ⟨(some (.l (.r (.l (.l .z))))), .build [(.int .i64 0), (.int .i64 0), (.int .i64 0)] [(0, 1, (.t (.r (.l (.l (.l .z)))))), (1, 1, (.c (.int .i64 0))), (2, 1, (.c (.int .i64 2)))], none, none, []⟩,
    ⟨(some (.r (.r (.l (.l .z))))), .fieldA 5 (.t (.l .z)), none, none, []⟩,
    ⟨(some (.l (.l (.r (.l .z))))), .load false 1 (.t (.r (.r (.l (.l .z))))), none, none, []⟩,
    ⟨(some (.r (.l (.r (.l .z))))), .build [(.int .i64 0), (.int .i64 0), (.int .i64 0)] [(0, 1, (.t (.l (.l (.r (.l .z)))))), (1, 1, (.c (.int .i64 0))), (2, 1, (.c (.int .i64 1099511627776)))], none, none, []⟩,
    ⟨(some (.l (.r (.r (.l .z))))), .fieldA 6 (.t (.l .z)), none, none, []⟩,
    ⟨(some (.r (.r (.r (.l .z))))), .load false 1 (.t (.l (.r (.r (.l .z))))), none, none, []⟩,
    ⟨(some (.l (.l (.l (.r .z))))), .build [(.int .i64 0), (.int .i64 0), (.int .i64 0)] [(0, 1, (.t (.r (.r (.r (.l .z)))))), (1, 1, (.c (.int .i64 1))), (2, 1, (.c (.int .i64 1048576)))], none, none, []⟩,
    ⟨(some (.r (.l (.l (.r .z))))), .fieldA 7 (.t (.l .z)), none, none, []⟩,
    ⟨(some (.l (.r (.l (.r .z))))), .load false 1 (.t (.r (.l (.l (.r .z))))), none, none, []⟩,
    ⟨(some (.r (.r (.l (.r .z))))), .build [(.int .i64 0), (.int .i64 0), (.int .i64 0)] [(0, 1, (.t (.l (.r (.l (.r .z)))))), (1, 1, (.c (.int .i64 1))), (2, 1, (.c (.int .i64 20000)))], none, none, []⟩,
    ⟨(some (.l (.l (.r (.r .z))))), .build [(.int .i64 0), (.int .i64 0), (.int .i64 0), (.int .i64 0), (.int .i64 0), (.int .i64 0), (.int .i64 0), (.int .i64 0), (.int .i64 0), (.int .i64 0), (.int .i64 0), (.int .i64 0), (.int .i64 0), (.int .i64 0), (.int .i64 0)] [(0, 3, (.t (.r (.r (.r .z))))), (3, 3, (.t (.l (.r (.l (.l .z)))))), (6, 3, (.t (.r (.l (.r (.l .z)))))), (9, 3, (.t (.l (.l (.l (.r .z)))))), (12, 3, (.t (.r (.r (.l (.r .z))))))], none, none, []⟩,
    ⟨(some (.r (.l .z))), .alloc 3 [[(.int .i64 0), (.int .i64 0), (.int .i64 0)], [(.int .i64 0), (.int .i64 0), (.int .i64 0)], [(.int .i64 0), (.int .i64 0), (.int .i64 0)], [(.int .i64 0), (.int .i64 0), (.int .i64 0)], [(.int .i64 0), (.int .i64 0), (.int .i64 0)]], none, none, []⟩,
    ⟨none, .store 15 (.t (.r (.l .z))) (.t (.l (.l (.r (.r .z))))), none, none, []⟩])
  (.seq (.seq (.region false 0 [
    ⟨(some (.r (.l (.r (.r .z))))), .fieldA 8 (.t (.l .z)), none, none, []⟩,
    ⟨(some (.l (.r (.r (.r .z))))), .load false 1 (.t (.r (.l (.r (.r .z))))), none, none, []⟩,
    ⟨(some (.r (.r (.r (.r .z))))), .len .str (.t (.l (.r (.r (.r .z))))), none, none, []⟩,
    ⟨(some (.l (.r .z))), .mv (.t (.r (.r (.r (.r .z))))), none, none, []⟩])
  (.block 0 (.seq (.region false 0 [
     ⟨(some (.r (.l (.l (.l (.l .z)))))), .sliceA 3 5 (.t (.r (.l .z))) none none none, none, none, []⟩,
     ⟨(some (.l (.r (.l (.l (.l .z)))))), .call 79 [(.t (.r (.l (.l (.l (.l .z))))))], none, none, []⟩,
     ⟨(some (.r (.r (.l (.l (.l .z)))))), .un .not (.t (.l (.r (.l (.l (.l .z)))))), none, none, []⟩,
     ⟨(some (.l (.l (.l (.l (.l .z)))))), .mv (.t (.r (.r (.l (.l (.l .z)))))), none, none, []⟩])
   (.cond (.t (.l (.l (.l (.l (.l .z))))))
   (.seq (.region false 0 [
      ⟨(some (.r .z)), .mv (.c (.int .i64 2)), none, none, []⟩])
    .ret)
   (.seq (.region false 0 [
      ⟨(some (.r (.l (.r (.l (.l .z)))))), .mv (.t (.l (.r .z))), none, none, []⟩,
      ⟨(some (.l (.r (.r (.l (.l .z)))))), .eql false false [.i] (.t (.r (.l (.r (.l (.l .z)))))) (.c (.int .i64 0)), none, none, []⟩,
      ⟨(some (.l (.l (.r (.l (.l .z)))))), .mv (.t (.l (.r (.r (.l (.l .z)))))), none, none, []⟩])
    (.cond (.t (.l (.l (.r (.l (.l .z))))))
    (.seq (.region false 0 [
       ⟨(some (.r .z)), .mv (.c (.int .i64 11)), none, none, []⟩])
     .ret)
    (.seq (.region false 0 [
       ⟨(some (.l (.l (.l (.r (.l .z)))))), .mv (.t (.l (.r .z))), none, none, []⟩,
       ⟨(some (.r (.l (.l (.r (.l .z)))))), .bin .gtr (.t (.l (.l (.l (.r (.l .z)))))) (.c (.int .i64 1000)), none, none, []⟩,
       ⟨(some (.r (.r (.r (.l (.l .z)))))), .mv (.t (.r (.l (.l (.r (.l .z)))))), none, none, []⟩])
     (.cond (.t (.r (.r (.r (.l (.l .z))))))
     (.seq (.region false 0 [
        ⟨(some (.r .z)), .mv (.c (.int .i64 4)), none, none, []⟩])
      .ret)
     (.seq (.region false 0 [
        ⟨(some (.r (.r (.l (.r (.l .z)))))), .fieldA 0 (.t (.l .z)), none, none, []⟩,
        ⟨(some (.l (.l (.r (.r (.l .z)))))), .fieldA 2 (.t (.r (.r (.l (.r (.l .z)))))), none, none, []⟩,
        ⟨(some (.r (.l (.r (.r (.l .z)))))), .load false 1 (.t (.l (.l (.r (.r (.l .z)))))), none, none, []⟩,
        ⟨(some (.l (.r (.r (.r (.l .z)))))), .fieldA 7 (.t (.l .z)), none, none, []⟩,
        ⟨(some (.r (.r (.r (.r (.l .z)))))), .load false 1 (.t (.l (.r (.r (.r (.l .z)))))), none, none, []⟩,
        ⟨(some (.l (.l (.l (.l (.r .z)))))), .mv (.t (.l (.r .z))), none, none, []⟩,
        ⟨(some (.r (.l (.l (.l (.r .z)))))), .bin .sub (.t (.r (.r (.r (.r (.l .z)))))) (.t (.l (.l (.l (.l (.r .z)))))), none, none, []⟩,
        ⟨(some (.l (.r (.l (.l (.r .z)))))), .bin .gtr (.t (.r (.l (.r (.r (.l .z)))))) (.t (.r (.l (.l (.l (.r .z)))))), none, none, []⟩,
        ⟨(some (.l (.r (.l (.r (.l .z)))))), .mv (.t (.l (.r (.l (.l (.r .z)))))), none, none, []⟩])
      (.cond (.t (.l (.r (.l (.r (.l .z))))))
      (.seq (.region false 0 [
         ⟨(some (.r .z)), .mv (.c (.int .i64 12)), none, none, []⟩])
       .ret)
      .skip))))))))))
  (.seq (.region false 0 [
    ⟨(some (.r .z)), .mv (.c (.int .i64 0)), none, none, []⟩])
  .ret)))))⟩
def AF63 : AFunc := ⟨43, [.tmp (.r .z)],
  (.seq (.region false 0 [
    ⟨(some (.l .z)), .box 9 9 (.t .z), none, none, []⟩,
    ⟨(some (.r .z)), .mv (.c (.str [])), none, none, []⟩])
  (.seq (.region false 0 [
    ⟨(some (.l (.r .z))), .fieldA 4 (.t (.l .z)), none, none, []⟩,
    ⟨(some (.r (.r .z))), .load false 1 (.t (.l (.r .z))), none, none, []⟩,
    ⟨(some (.l (.l .z))), .mv (.t (.r (.r .z))), none, none, []⟩])
  (.seq (.seq (.region false 0 [
    ⟨(some (.l (.l (.l .z)))), .load true 9 (.t (.l .z)), none, none, []⟩,
    ⟨(some (.r (.l (.l .z)))), .call 80 [(.t (.l (.l (.l .z))))], none, none, []⟩])
  (.cond (.t (.r (.l (.l .z))))
  (.region false 0 [
     ⟨(some (.l (.r (.l .z)))), .mv (.t (.l (.l .z))), none, none, []⟩,
     ⟨(some (.r (.r (.l .z)))), .bin .add (.t (.l (.r (.l .z)))) (.c (.int .i64 3)), none, none, []⟩,
     ⟨(some (.l (.l .z))), .mv (.t (.r (.r (.l .z)))), none, none, []⟩])
  .skip))
  (.seq (.region true 2 [
    ⟨(some (.l (.l (.r .z)))), .mv (.t (.l (.l .z))), none, none, []⟩,
    ⟨(some (.r (.l (.r .z)))), .mv (.t (.l (.l .z))), none, none, []⟩,
    ⟨(some (.l (.r (.r .z)))), .bin .add (.t (.r (.l (.r .z)))) (.c (.int .i64 1)), none, none, [1]⟩,
    ⟨(some (.r (.r (.r .z)))), .sliceA 1 6 (.c (.ptr 1 0 0)) (some (.t (.l (.l (.r .z))))) (some (.t (.l (.r (.r .z))))) none, none, none, [0, 1, 2]⟩,
    ⟨(some (.l (.l (.l (.l .z))))), .conv .b2s (.t (.r (.r (.r .z)))), none, none, [0, 1, 2, 3]⟩,
    ⟨(some (.r (.l (.l (.l .z))))), .fieldA 0 (.t (.l .z)), none, none, []⟩,
    ⟨(some (.l (.r (.l (.l .z))))), .fieldA 0 (.t (.r (.l (.l (.l .z))))), none, none, [5]⟩,
    ⟨(some (.r (.r (.l (.l .z))))), .slit 1 1 [.nilptr] [(0, (.t (.l (.r (.l (.l .z))))))], none, (some 0), [5, 6]⟩,
    ⟨(some (.l (.l (.r (.l .z))))), .call 81 [(.t (.r (.r (.l (.l .z)))))], none, none, [5, 6, 7]⟩,
    ⟨(some (.r (.l (.r (.l .z))))), .bin .add (.t (.l (.l (.l (.l .z))))) (.t (.l (.l (.r (.l .z))))), none, none, [0, 1, 2, 3, 4, 5, 6, 7, 8]⟩,
    ⟨(some (.l (.r (.r (.l .z))))), .fieldA 0 (.t (.l .z)), none, none, []⟩,
    ⟨(some (.r (.r (.r (.l .z))))), .fieldA 1 (.t (.l (.r (.r (.l .z))))), none, none, [10]⟩,
    ⟨(some (.l (.l (.l (.r .z))))), .load false 1 (.t (.r (.r (.r (.l .z))))), none, none, [10, 11]⟩,
    ⟨(some (.r (.l (.l (.r .z))))), .call 82 [(.t (.l (.l (.l (.r .z)))))], none, none, [5, 6, 7, 8, 10, 11, 12]⟩,
    ⟨(some (.l (.r (.l (.r .z))))), .bin .add (.t (.r (.l (.r (.l .z))))) (.t (.r (.l (.l (.r .z))))), none, none, [0, 1, 2, 3, 4, 5, 6, 7, 8, 9, 10, 11, 12, 13]⟩,
    ⟨(some (.r (.r (.l (.r .z))))), .fieldA 3 (.t (.l .z)), none, none, []⟩,
    ⟨(some (.l (.l (.r (.r .z))))), .fieldA 5 (.t (.l .z)), none, none, []⟩,
    ⟨(some (.r (.l (.r (.r .z))))), .fieldA 6 (.t (.l .z)), none, none, []⟩,
    ⟨(some (.l (.r (.r (.r .z))))), .slit 1 3 [.nilptr] [(0, (.t (.r (.r (.l (.r .z)))))), (1, (.t (.l (.l (.r (.r .z)))))), (2, (.t (.r (.l (.r (.r .z))))))], none, (some 1), [15, 16, 17]⟩,
    ⟨(some (.r (.r (.r (.r .z))))), .call 81 [(.t (.l (.r (.r (.r .z)))))], none, none, [5, 6, 7, 8, 10, 11, 12, 13, 15, 16, 17, 18]⟩,
    ⟨(some (.l (.l (.l (.l (.l .z)))))), .bin .add (.t (.l (.r (.l (.r .z))))) (.t (.r (.r (.r (.r .z))))), none, none, [0, 1, 2, 3, 4, 5, 6, 7, 8, 9, 10, 11, 12, 13, 14, 15, 16, 17, 18, 19]⟩,
    ⟨(some (.r (.l .z))), .mv (.t (.l (.l (.l (.l (.l .z)))))), none, none, [0, 1, 2, 3, 4, 5, 6, 7, 8, 9, 10, 11, 12, 13, 14, 15, 16, 17, 18, 19, 20]⟩])
  (.seq (.seq (.region false 0 [
    ⟨(some (.r (.l (.l (.l (.l .z)))))), .load true 9 (.t (.l .z)), none, none, []⟩,
    ⟨(some (.l (.r (.l (.l (.l .z)))))), .call 80 [(.t (.r (.l (.l (.l (.l .z))))))], none, none, []⟩,
    ⟨(some (.r (.r (.l (.l (.l .z)))))), .un .not (.t (.l (.r (.l (.l (.l .z)))))), none, none, []⟩])
  (.cond (.t (.r (.r (.l (.l (.l .z))))))
  (.region false 0 [
     ⟨(some (.l (.l (.r (.l (.l .z)))))), .mv (.t (.r (.l .z))), none, none, []⟩,
     ⟨(some (.r (.l (.r (.l (.l .z)))))), .fieldA 0 (.t (.l .z)), none, none, []⟩,
     ⟨(some (.l (.r (.r (.l (.l .z)))))), .fieldA 2 (.t (.r (.l (.r (.l (.l .z)))))), none, none, []⟩,
     ⟨(some (.r (.r (.r (.l (.l .z)))))), .fieldA 7 (.t (.l .z)), none, none, []⟩,
     ⟨(some (.l (.l (.l (.r (.l .z)))))), .slit 1 2 [.nilptr] [(0, (.t (.l (.r (.r (.l (.l .z))))))), (1, (.t (.r (.r (.r (.l (.l .z)))))))], none, none, []⟩,
     ⟨(some (.r (.l (.l (.r (.l .z)))))), .call 81 [(.t (.l (.l (.l (.r (.l .z))))))], none, none, []⟩,
     ⟨(some (.l (.r (.l (.r (.l .z)))))), .bin .add (.t (.l (.l (.r (.l (.l .z)))))) (.t (.r (.l (.l (.r (.l .z)))))), none, none, []⟩,
     ⟨(some (.r (.l .z))), .mv (.t (.l (.r (.l (.r (.l .z)))))), none, none, []⟩])
  .skip))
  (.seq (.region false 0 [
    ⟨(some (.r (.r (.l (.r (.l .z)))))), .mv (.t (.r (.l .z))), none, none, []⟩,
    ⟨(some (.r .z)), .mv (.t (.r (.r (.l (.r (.l .z)))))), none, none, []⟩])
  .ret))))))⟩
def AF64 : AFunc := ⟨12, [.tmp (.r .z)],
  (.seq (.region false 0 [
    ⟨(some (.r .z)), .mv (.c (.int .i64 0)), none, none, []⟩])
  (.seq (.region false 0 [
    ⟨(some (.l (.l .z))), .alloc 1 [[(.int .i64 0)]], none, none, []⟩,
    ⟨none, .store 1 (.t (.l (.l .z))) (.c (.int .i64 0)), none, none, []⟩])
  (.seq (.seq (.region false 0 [
    ⟨(some (.l (.r .z))), .mv (.t .z), none, none, []⟩,
    ⟨(some (.r (.r .z))), .call 83 [(.t (.l (.r .z)))], none, none, []⟩])
  (.block 0 (.rangeFunc (.t (.r (.r .z))) [(.l (.l (.l .z))), (.r (.l (.l .z)))]
   (.region false 0 [
      ⟨(some (.r (.l .z))), .mv (.t (.l (.l (.l .z)))), none, none, []⟩])
   (.block 1 (.region false 0 [
       ⟨(some (.l (.r (.l .z)))), .mv (.t (.r (.l .z))), none, none, []⟩,
       ⟨(some (.r (.r (.l .z)))), .bin .add (.t (.l (.r (.l .z)))) (.c (.int .i64 1)), none, none, []⟩,
       ⟨none, .store 1 (.t (.l (.l .z))) (.t (.r (.r (.l .z)))), none, none, []⟩])))))
  (.seq (.region false 0 [
    ⟨(some (.l (.l (.r .z)))), .load false 1 (.t (.l (.l .z))), none, none, []⟩,
    ⟨(some (.r .z)), .mv (.t (.l (.l (.r .z)))), none, none, []⟩])
  .ret))))⟩
def AF65 : AFunc := ⟨19, [.tmp (.r (.l .z))],
  (.seq (.region false 0 [
    ⟨(some (.r (.l .z))), .mv (.c (.int .i64 0)), none, none, []⟩])
  (.seq (.seq (.region false 0 [
    ⟨(some (.r (.r .z))), .mv (.t .z), none, none, []⟩,
    ⟨(some (.l (.l (.l .z)))), .len .slice (.t (.r (.r .z))), none, none, []⟩,
    ⟨(some (.r (.l (.l .z)))), .mv (.c (.int .i64 0)), none, none, []⟩])
  (.block 0 (.loop (.seq (.region false 0 [
      ⟨(some (.l (.r (.l .z)))), .bin .lss (.t (.r (.l (.l .z)))) (.t (.l (.l (.l .z)))), none, none, []⟩])
    (.seq (.cond (.t (.l (.r (.l .z))))
    .skip
    (.exit 0))
    (.seq (.block 1 (.seq (.region false 0 [
       ⟨(some (.r (.r (.l .z)))), .mv (.t (.r (.l (.l .z)))), none, none, []⟩,
       ⟨(some (.l (.r .z))), .mv (.t (.r (.r (.l .z)))), none, none, []⟩])
     (.seq (.region false 0 [
       ⟨(some (.l (.l (.r .z)))), .mv (.t (.l .z)), none, none, []⟩,
       ⟨(some (.r (.l (.r .z)))), .mv (.t .z), none, none, []⟩,
       ⟨(some (.l (.r (.r .z)))), .mv (.t (.l (.r .z))), none, none, []⟩,
       ⟨(some (.r (.r (.r .z)))), .idxS 16 (.t (.r (.l (.r .z)))) (.t (.l (.r (.r .z)))), none, none, []⟩,
       ⟨(some (.l (.l (.l (.l .z))))), .load true 16 (.t (.r (.r (.r .z)))), none, none, []⟩,
       ⟨(some (.r (.l (.l (.l .z))))), .callv (.t (.l (.l (.r .z)))) [(.t (.l (.l (.l (.l .z)))))], none, none, []⟩])
     (.cond (.t (.r (.l (.l (.l .z)))))
     (.seq (.region false 0 [
        ⟨(some (.l (.r (.l (.l .z))))), .mv (.t (.l (.r .z))), none, none, []⟩,
        ⟨(some (.r (.l .z))), .mv (.t (.l (.r (.l (.l .z))))), none, none, []⟩])
      .ret)
     .skip))))
    (.region false 0 [
      ⟨(some (.r (.r (.l (.l .z))))), .bin .add (.t (.r (.l (.l .z)))) (.c (.int .i64 1)), none, none, []⟩,
      ⟨(some (.r (.l (.l .z)))), .mv (.t (.r (.r (.l (.l .z))))), none, none, []⟩])))))))
  (.seq (.region false 0 [
    ⟨(some (.r (.l .z))), .mv (.c (.int .i64 (-1))), none, none, []⟩])
  .ret)))⟩
def AF66 : AFunc := ⟨6, [.tmp (.r .z)],
  (.seq (.region false 0 [
    ⟨(some (.r .z)), .mv (.c (.bool false)), none, none, []⟩])
  (.seq (.region false 0 [
    ⟨(some (.l (.l .z))), .mv (.t .z), none, none, []⟩,
    ⟨(some (.r (.l .z))), .call 67 [(.t (.l (.l .z)))], none, none, []⟩,
    ⟨(some (.l (.r .z))), .un .not (.t (.r (.l .z))), none, none, []⟩,
    ⟨(some (.r .z)), .mv (.t (.l (.r .z))), none, none, []⟩])
  .ret))⟩
def AF67 : AFunc := ⟨9, [.tmp (.r .z)],
  (.seq (.region false 0 [
    ⟨(some (.r .z)), .mv (.c (.bool false)), none, none, []⟩])
  (.seq (.region false 0 [
    ⟨(some (.l (.l .z))), .mv (.t .z), none, none, []⟩,
    ⟨(some (.r (.l .z))), .bin .geq (.t (.l (.l .z))) (.c (.int .i64 1)), none, none, []⟩,
    ⟨(some (.l (.r .z))), .mv (.t (.r (.l .z))), none, none, []⟩,
    ⟨(some (.r (.r .z))), .mv (.t .z), (some ((.l (.r .z)), true)), none, []⟩,
    ⟨(some (.l (.l (.l .z)))), .bin .leq (.t (.r (.r .z))) (.c (.int .i64 16)), (some ((.l (.r .z)), true)), none, []⟩,
    ⟨(some (.r (.l (.l .z)))), .pick (.t (.l (.r .z))) (.t (.l (.l (.l .z)))) (.c (.bool false)), none, none, []⟩,
    ⟨(some (.r .z)), .mv (.t (.r (.l (.l .z)))), none, none, []⟩])
  .ret))⟩
def AF68 : AFunc := ⟨9, [.tmp (.r (.l .z))],
  (.seq (.region false 0 [
    ⟨(some (.r (.l .z))), .mv (.c (.bool false)), none, none, []⟩])
  (.seq (.region false 0 [
    ⟨(some (.l (.r .z))), .mv (.t .z), none, none, []⟩,
    ⟨(some (.r (.r .z))), .mv (.t (.l .z)), none, none, []⟩,
    ⟨(some (.l (.l (.l .z)))), .call 84 [(.t (.l (.r .z))), (.t (.r (.r .z)))], none, none, []⟩,
    ⟨(some (.r (.l (.l .z)))), .bin .geq (.t (.l (.l (.l .z)))) (.c (.int .i64 0)), none, none, []⟩,
    ⟨(some (.r (.l .z))), .mv (.t (.r (.l (.l .z)))), none, none, []⟩])
  .ret))⟩
def AF69 : AFunc := ⟨5, [.tmp (.r .z)],
  (.seq (.region false 0 [
    ⟨(some (.r .z)), .mv (.c (.int .i64 0)), none, none, []⟩])
  (.seq (.region false 0 [
    ⟨(some (.l (.l .z))), .mv (.t .z), none, none, []⟩,
    ⟨(some (.r (.l .z))), .len .slice (.t (.l (.l .z))), none, none, []⟩,
    ⟨(some (.r .z)), .mv (.t (.r (.l .z))), none, none, []⟩])
  .ret))⟩
def AF70 : AFunc := ⟨15, [.tmp (.r .z)],
  (.seq (.region false 0 [
    ⟨(some (.r .z)), .mv (.c .nilIface), none, none, []⟩])
  (.seq (.region false 0 [
    ⟨(some (.r (.l .z))), .mv (.t .z), none, none, []⟩,
    ⟨(some (.l (.r .z))), .invoke (.t (.r (.l .z))) "Len" [], none, none, []⟩,
    ⟨(some (.r (.r .z))), .bin .sub (.t (.l (.r .z))) (.c (.int .i64 1)), none, none, []⟩,
    ⟨(some (.l (.l .z))), .mv (.t (.r (.r .z))), none, none, []⟩])
  (.seq (.region false 0 [
    ⟨(some (.l (.l (.l .z)))), .mv (.t .z), none, none, []⟩,
    ⟨(some (.r (.l (.l .z)))), .mv (.t (.l (.l .z))), none, none, []⟩,
    ⟨(some (.l (.r (.l .z)))), .invoke (.t (.l (.l (.l .z)))) "Swap" [(.c (.int .i64 0)), (.t (.r (.l (.l .z))))], none, none, []⟩])
  (.seq (.region false 0 [
    ⟨(some (.r (.r (.l .z)))), .mv (.t .z), none, none, []⟩,
    ⟨(some (.l (.l (.r .z)))), .mv (.t (.l (.l .z))), none, none, []⟩,
    ⟨(some (.r (.l (.r .z)))), .call 85 [(.t (.r (.r (.l .z)))), (.c (.int .i64 0)), (.t (.l (.l (.r .z))))], none, none, []⟩])
  (.seq (.region false 0 [
    ⟨(some (.l (.r (.r .z)))), .mv (.t .z), none, none, []⟩,
    ⟨(some (.r (.r (.r .z)))), .invoke (.t (.l (.r (.r .z)))) "Pop" [], none, none, []⟩,
    ⟨(some (.r .z)), .mv (.t (.r (.r (.r .z)))), none, none, []⟩])
  .ret)))))⟩
def AF71 : AFunc := ⟨25, [.tmp (.r (.r .z)), .tmp (.l (.l (.l .z)))],
  (.seq (.region false 0 [
    ⟨(some (.l (.l .z))), .box 6 6 (.t .z), none, none, []⟩,
    ⟨(some (.r (.r .z))), .mv (.c (.int .i64 0)), none, none, []⟩,
    ⟨(some (.l (.l (.l .z)))), .mv (.c (.bool false)), none, none, []⟩])
  (.seq (.seq (.region false 0 [
    ⟨(some (.r (.r (.l .z)))), .mv (.t (.l .z)), none, none, []⟩,
    ⟨(some (.l (.l (.r .z)))), .bin .gtr (.t (.r (.r (.l .z)))) (.c (.int .i64 1099511627776)), none, none, []⟩])
  (.cond (.t (.l (.l (.r .z))))
  (.seq (.region false 0 [
     ⟨(some (.r (.r .z))), .mv (.c (.int .i64 0)), none, none, []⟩,
     ⟨(some (.l (.l (.l .z)))), .mv (.c (.bool false)), none, none, []⟩])
   .ret)
  .skip))
  (.seq (.region false 0 [
    ⟨(some (.l (.r (.r .z)))), .load true 6 (.t (.l (.l .z))), none, none, []⟩,
    ⟨(some (.r (.r (.r .z)))), .mv (.t (.l .z)), none, none, []⟩,
    ⟨(some (.l (.l (.l (.l .z))))), .mv (.t (.r .z)), none, none, []⟩,
    ⟨(some (.r (.l (.l (.l .z))))), .call 86 [(.t (.l (.r (.r .z)))), (.t (.r (.r (.r .z)))), (.t (.l (.l (.l (.l .z)))))], none, none, []⟩,
    ⟨(some (.r (.l (.r .z)))), .mv (.t (.r (.l (.l (.l .z))))), none, none, []⟩,
    ⟨(some (.l (.r (.l (.l .z))))), .ext (.t (.r (.l (.r .z)))) 0, none, none, []⟩,
    ⟨(some (.r (.r (.l (.l .z))))), .ext (.t (.r (.l (.r .z)))) 1, none, none, []⟩,
    ⟨(some (.r (.l (.l .z)))), .mv (.t (.l (.r (.l (.l .z))))), none, none, []⟩,
    ⟨(some (.l (.r (.l .z)))), .mv (.t (.r (.r (.l (.l .z))))), none, none, []⟩])
  (.seq (.region false 0 [
    ⟨(some (.l (.l (.r (.l .z))))), .mv (.t (.r (.l (.l .z)))), none, none, []⟩,
    ⟨(some (.r (.l (.r (.l .z))))), .fieldA 5 (.t (.l (.l .z))), none, none, []⟩,
    ⟨(some (.l (.r (.r (.l .z))))), .load false 1 (.t (.r (.l (.r (.l .z))))), none, none, []⟩,
    ⟨(some (.r (.r (.r (.l .z))))), .bin .add (.t (.l (.l (.r (.l .z))))) (.t (.l (.r (.r (.l .z))))), none, none, []⟩,
    ⟨(some (.l (.l (.l (.r .z))))), .mv (.t (.l (.r (.l .z)))), none, none, []⟩,
    ⟨(some (.r (.l (.l (.r .z))))), .eql false false [.i] (.t (.l (.l (.l (.r .z))))) (.c (.int .i64 0)), none, none, []⟩,
    ⟨(some (.r (.r .z))), .mv (.t (.r (.r (.r (.l .z))))), none, none, []⟩,
    ⟨(some (.l (.l (.l .z)))), .mv (.t (.r (.l (.l (.r .z))))), none, none, []⟩])
  .ret))))⟩
def AF72 : AFunc := ⟨12, [],
  (.seq (.region false 0 [
    ⟨(some (.r (.l .z))), .mv (.t .z), none, none, []⟩,
    ⟨(some (.l (.r .z))), .mv (.t (.l .z)), none, none, []⟩,
    ⟨(some (.r (.r .z))), .invoke (.t (.r (.l .z))) "Push" [(.t (.l (.r .z)))], none, none, []⟩])
  (.region false 0 [
    ⟨(some (.l (.l (.l .z)))), .mv (.t .z), none, none, []⟩,
    ⟨(some (.r (.l (.l .z)))), .mv (.t .z), none, none, []⟩,
    ⟨(some (.l (.r (.l .z)))), .invoke (.t (.r (.l (.l .z)))) "Len" [], none, none, []⟩,
    ⟨(some (.r (.r (.l .z)))), .bin .sub (.t (.l (.r (.l .z)))) (.c (.int .i64 1)), none, none, []⟩,
    ⟨(some (.l (.l (.r .z)))), .call 87 [(.t (.l (.l (.l .z)))), (.t (.r (.r (.l .z))))], none, none, []⟩]))⟩
def AF73 : AFunc := ⟨18, [.tmp (.r .z)],
  (.seq (.region false 0 [
    ⟨(some (.r .z)), .mv (.c (.bool false)), none, none, []⟩])
  (.seq (.seq (.region false 0 [
    ⟨(some (.l (.r .z))), .mv (.t .z), none, none, []⟩,
    ⟨(some (.r (.r .z))), .len .slice (.t (.l (.r .z))), none, none, []⟩,
    ⟨(some (.l (.l (.l .z)))), .mv (.c (.int .i64 0)), none, none, []⟩])
  (.block 0 (.loop (.seq (.region false 0 [
      ⟨(some (.r (.l (.l .z)))), .bin .lss (.t (.l (.l (.l .z)))) (.t (.r (.r .z))), none, none, []⟩])
    (.seq (.cond (.t (.r (.l (.l .z))))
    .skip
    (.exit 0))
    (.seq (.block 1 (.seq (.region false 0 [
       ⟨(some (.l (.r (.l .z)))), .idxS 1 (.t (.l (.r .z))) (.t (.l (.l (.l .z)))), none, none, []⟩,
       ⟨(some (.r (.r (.l .z)))), .load false 1 (.t (.l (.r (.l .z)))), none, none, []⟩,
       ⟨(some (.r (.l .z))), .mv (.t (.r (.r (.l .z)))), none, none, []⟩])
     (.seq (.region false 0 [
       ⟨(some (.l (.l (.r .z)))), .mv (.t (.r (.l .z))), none, none, []⟩,
       ⟨(some (.r (.l (.r .z)))), .bin .lss (.t (.l (.l (.r .z)))) (.c (.int .i64 1)), none, none, []⟩,
       ⟨(some (.l (.r (.r .z)))), .mv (.t (.r (.l (.r .z)))), none, none, []⟩,
       ⟨(some (.r (.r (.r .z)))), .mv (.t (.r (.l .z))), (some ((.l (.r (.r .z))), false)), none, []⟩,
       ⟨(some (.l (.l (.l (.l .z))))), .bin .gtr (.t (.r (.r (.r .z)))) (.c (.int .i64 16)), (some ((.l (.r (.r .z))), false)), none, []⟩,
       ⟨(some (.r (.l (.l (.l .z))))), .pick (.t (.l (.r (.r .z)))) (.c (.bool true)) (.t (.l (.l (.l (.l .z))))), none, none, []⟩])
     (.cond (.t (.r (.l (.l (.l .z)))))
     (.seq (.region false 0 [
        ⟨(some (.r .z)), .mv (.c (.bool false)), none, none, []⟩])
      .ret)
     .skip))))
    (.region false 0 [
      ⟨(some (.l (.r (.l (.l .z))))), .bin .add (.t (.l (.l (.l .z)))) (.c (.int .i64 1)), none, none, []⟩,
      ⟨(some (.l (.l (.l .z)))), .mv (.t (.l (.r (.l (.l .z))))), none, none, []⟩])))))))
  (.seq (.region false 0 [
    ⟨(some (.r .z)), .mv (.c (.bool true)), none, none, []⟩])
  .ret)))⟩
def AF74 : AFunc := ⟨18, [.tmp (.r .z)],
  (.seq (.region false 0 [
    ⟨(some (.r .z)), .mv (.c (.int .i64 0)), none, none, []⟩])
  (.seq (.region false 0 [
    ⟨(some (.l (.l .z))), .mv (.c (.int .i64 0)), none, none, []⟩])
  (.seq (.seq (.region false 0 [
    ⟨(some (.r (.r .z))), .mv (.t .z), none, none, []⟩,
    ⟨(some (.l (.l (.l .z)))), .len .slice (.t (.r (.r .z))), none, none, []⟩,
    ⟨(some (.r (.l (.l .z)))), .mv (.c (.int .i64 0)), none, none, []⟩])
  (.block 0 (.loop (.seq (.region false 0 [
      ⟨(some (.l (.r (.l .z)))), .bin .lss (.t (.r (.l (.l .z)))) (.t (.l (.l (.l .z)))), none, none, []⟩])
    (.seq (.cond (.t (.l (.r (.l .z))))
    .skip
    (.exit 0))
    (.seq (.block 1 (.seq (.region false 0 [
       ⟨(some (.r (.r (.l .z)))), .idxS 1 (.t (.r (.r .z))) (.t (.r (.l (.l .z)))), none, none, []⟩,
       ⟨(some (.l (.l (.r .z)))), .load false 1 (.t (.r (.r (.l .z)))), none, none, []⟩,
       ⟨(some (.l (.r .z))), .mv (.t (.l (.l (.r .z)))), none, none, []⟩])
     (.seq (.region false 0 [
       ⟨(some (.r (.l (.r .z)))), .mv (.t (.l (.r .z))), none, none, []⟩,
       ⟨(some (.l (.r (.r .z)))), .mv (.t (.l (.l .z))), none, none, []⟩,
       ⟨(some (.r (.r (.r .z)))), .eql true false [.i] (.t (.r (.l (.r .z)))) (.t (.l (.r (.r .z)))), none, none, []⟩])
     (.cond (.t (.r (.r (.r .z))))
     (.seq (.region false 0 [
        ⟨(some (.l (.l (.l (.l .z))))), .mv (.t (.l (.r .z))), none, none, []⟩,
        ⟨(some (.r .z)), .mv (.t (.l (.l (.l (.l .z))))), none, none, []⟩])
      .ret)
     .skip))))
    (.region false 0 [
      ⟨(some (.r (.l (.l (.l .z))))), .bin .add (.t (.r (.l (.l .z)))) (.c (.int .i64 1)), none, none, []⟩,
      ⟨(some (.r (.l (.l .z)))), .mv (.t (.r (.l (.l (.l .z))))), none, none, []⟩])))))))
  (.seq (.region false 0 [
    ⟨(some (.l (.r (.l (.l .z))))), .mv (.t (.l (.l .z))), none, none, []⟩,
    ⟨(some (.r .z)), .mv (.t (.l (.r (.l (.l .z))))), none, none, []⟩])
  .ret))))⟩
def AF75 : AFunc := ⟨20, [.tmp (.r (.l .z))],
  (.seq (.region false 0 [
    ⟨(some (.r (.l .z))), .mv (.c (.int .i64 0)), none, none, []⟩])
  (.seq (.region false 0 [
    ⟨(some (.l (.l (.l .z)))), .mv (.t .z), none, none, []⟩,
    ⟨(some (.r (.l (.l .z)))), .call 88 [(.t (.l (.l (.l .z))))], none, none, []⟩,
    ⟨(some (.l (.r .z))), .mv (.t (.r (.l (.l .z)))), none, none, []⟩])
  (.seq (.region false 0 [
    ⟨(some (.l (.r (.l .z)))), .mv (.t (.l .z)), none, none, []⟩,
    ⟨(some (.r (.r (.l .z)))), .call 88 [(.t (.l (.r (.l .z))))], none, none, []⟩,
    ⟨(some (.r (.r .z))), .mv (.t (.r (.r (.l .z)))), none, none, []⟩])
  (.seq (.seq (.region false 0 [
    ⟨(some (.l (.l (.r .z)))), .mv (.t (.l (.r .z))), none, none, []⟩])
  (.cond (.t (.l (.l (.r .z))))
  (.seq (.seq (.region false 0 [
     ⟨(some (.r (.l (.r .z)))), .mv (.t (.r (.r .z))), none, none, []⟩])
   (.cond (.t (.r (.l (.r .z))))
   (.seq (.region false 0 [
      ⟨(some (.r (.l .z))), .mv (.c (.int .i64 0)), none, none, []⟩])
    .ret)
   .skip))
   (.seq (.region false 0 [
     ⟨(some (.r (.l .z))), .mv (.c (.int .i64 (-1))), none, none, []⟩])
   .ret))
  .skip))
  (.seq (.seq (.region false 0 [
    ⟨(some (.l (.r (.r .z)))), .mv (.t (.r (.r .z))), none, none, []⟩])
  (.cond (.t (.l (.r (.r .z))))
  (.seq (.region false 0 [
     ⟨(some (.r (.l .z))), .mv (.c (.int .i64 1)), none, none, []⟩])
   .ret)
  .skip))
  (.seq (.seq (.region false 0 [
    ⟨(some (.r (.r (.r .z)))), .mv (.t .z), none, none, []⟩,
    ⟨(some (.l (.l (.l (.l .z))))), .mv (.t (.l .z)), none, none, []⟩,
    ⟨(some (.r (.l (.l (.l .z))))), .bin .lss (.t (.r (.r (.r .z)))) (.t (.l (.l (.l (.l .z))))), none, none, []⟩])
  (.cond (.t (.r (.l (.l (.l .z)))))
  (.seq (.region false 0 [
     ⟨(some (.r (.l .z))), .mv (.c (.int .i64 (-1))), none, none, []⟩])
   .ret)
  .skip))
  (.seq (.seq (.region false 0 [
    ⟨(some (.l (.r (.l (.l .z))))), .mv (.t .z), none, none, []⟩,
    ⟨(some (.r (.r (.l (.l .z))))), .mv (.t (.l .z)), none, none, []⟩,
    ⟨(some (.l (.l (.r (.l .z))))), .bin .gtr (.t (.l (.r (.l (.l .z))))) (.t (.r (.r (.l (.l .z))))), none, none, []⟩])
  (.cond (.t (.l (.l (.r (.l .z)))))
  (.seq (.region false 0 [
     ⟨(some (.r (.l .z))), .mv (.c (.int .i64 1)), none, none, []⟩])
   .ret)
  .skip))
  (.seq (.region false 0 [
    ⟨(some (.r (.l .z))), .mv (.c (.int .i64 0)), none, none, []⟩])
  .ret))))))))⟩
def AF76 : AFunc := ⟨9, [.tmp (.r .z)],
  (.seq (.region false 0 [
    ⟨(some (.r .z)), .mv (.c (.bool false)), none, none, []⟩])
  (.seq (.region false 0 [
    ⟨(some (.l (.l .z))), .mv (.t .z), none, none, []⟩,
    ⟨(some (.r (.l .z))), .bin .geq (.t (.l (.l .z))) (.c (.int .i64 1)), none, none, []⟩,
    ⟨(some (.l (.r .z))), .mv (.t (.r (.l .z))), none, none, []⟩,
    ⟨(some (.r (.r .z))), .mv (.t .z), (some ((.l (.r .z)), true)), none, []⟩,
    ⟨(some (.l (.l (.l .z)))), .bin .leq (.t (.r (.r .z))) (.c (.int .i64 16)), (some ((.l (.r .z)), true)), none, []⟩,
    ⟨(some (.r (.l (.l .z)))), .pick (.t (.l (.r .z))) (.t (.l (.l (.l .z)))) (.c (.bool false)), none, none, []⟩,
    ⟨(some (.r .z)), .mv (.t (.r (.l (.l .z)))), none, none, []⟩])
  .ret))⟩
def AF77 : AFunc := ⟨19, [.tmp (.r (.r .z))],
  (.seq (.region false 0 [
    ⟨(some (.r (.r .z))), .mv (.c (.bool false)), none, none, []⟩])
  (.seq (.region false 0 [
    ⟨(some (.l (.l (.l .z)))), .mv (.t (.r .z)), none, none, []⟩,
    ⟨(some (.r (.l (.l .z)))), .bin .lss (.t (.l (.l (.l .z)))) (.c (.int .i64 0)), none, none, []⟩,
    ⟨(some (.l (.r (.l .z)))), .mv (.t (.r (.l (.l .z)))), none, none, []⟩,
    ⟨(some (.r (.r (.l .z)))), .mv (.t .z), (some ((.l (.r (.l .z))), false)), none, []⟩,
    ⟨(some (.l (.l (.r .z)))), .mv (.t (.l .z)), (some ((.l (.r (.l .z))), false)), none, []⟩,
    ⟨(some (.r (.l (.r .z)))), .bin .geq (.t (.r (.r (.l .z)))) (.t (.l (.l (.r .z)))), (some ((.l (.r (.l .z))), false)), none, []⟩,
    ⟨(some (.l (.r (.r .z)))), .mv (.t (.r (.l (.r .z)))), (some ((.l (.r (.l .z))), false)), none, []⟩,
    ⟨(some (.r (.r (.r .z)))), .mv (.t .z), (some ((.l (.r (.r .z))), true)), none, []⟩,
    ⟨(some (.l (.l (.l (.l .z))))), .mv (.t (.r .z)), (some ((.l (.r (.r .z))), true)), none, []⟩,
    ⟨(some (.r (.l (.l (.l .z))))), .bin .leq (.t (.r (.r (.r .z)))) (.t (.l (.l (.l (.l .z))))), (some ((.l (.r (.r .z))), true)), none, []⟩,
    ⟨(some (.l (.r (.l (.l .z))))), .pick (.t (.l (.r (.r .z)))) (.t (.r (.l (.l (.l .z))))) (.c (.bool false)), (some ((.l (.r (.l .z))), false)), none, []⟩,
    ⟨(some (.r (.r (.l (.l .z))))), .pick (.t (.l (.r (.l .z)))) (.c (.bool true)) (.t (.l (.r (.l (.l .z))))), none, none, []⟩,
    ⟨(some (.r (.r .z))), .mv (.t (.r (.r (.l (.l .z))))), none, none, []⟩])
  .ret))⟩
def AF78 : AFunc := ⟨17, [.tmp (.r .z)],
  (.seq (.region false 0 [
    ⟨(some (.l .z)), .box 3 3 (.t .z), none, none, []⟩,
    ⟨(some (.r .z)), .mv (.c (.int .i64 0)), none, none, []⟩])
  (.seq (.seq (.region false 0 [
    ⟨(some (.l (.l .z))), .fieldA 0 (.t (.l .z)), none, none, []⟩,
    ⟨(some (.r (.l .z))), .load false 1 (.t (.l (.l .z))), none, none, []⟩,
    ⟨(some (.l (.r .z))), .build [(.int .i64 0), (.int .i64 0), (.int .i64 0)] [(0, 1, (.t (.r (.l .z)))), (1, 1, (.c (.int .i64 1))), (2, 1, (.c (.int .i64 16)))], none, none, []⟩,
    ⟨(some (.r (.r .z))), .fieldA 2 (.t (.l .z)), none, none, []⟩,
    ⟨(some (.l (.l (.l .z)))), .load false 1 (.t (.r (.r .z))), none, none, []⟩,
    ⟨(some (.r (.l (.l .z)))), .build [(.int .i64 0), (.int .i64 0), (.int .i64 0)] [(0, 1, (.t (.l (.l (.l .z))))), (1, 1, (.c (.int .i64 0))), (2, 1, (.c (.int .i64 19999)))], none, none, []⟩,
    ⟨(some (.l (.r (.l .z)))), .slit 3 2 [(.int .i64 0), (.int .i64 0), (.int .i64 0)] [(0, (.t (.l (.r .z)))), (1, (.t (.r (.l (.l .z)))))], none, none, []⟩,
    ⟨(some (.r (.r (.l .z)))), .call 79 [(.t (.l (.r (.l .z))))], none, none, []⟩,
    ⟨(some (.l (.l (.r .z)))), .un .not (.t (.r (.r (.l .z)))), none, none, []⟩,
    ⟨(some (.r (.l (.r .z)))), .mv (.t (.l (.l (.r .z)))), none, none, []⟩,
    ⟨(some (.l (.r (.r .z)))), .fieldA 1 (.t (.l .z)), (some ((.r (.l (.r .z))), false)), none, []⟩,
    ⟨(some (.r (.r (.r .z)))), .load false 1 (.t (.l (.r (.r .z)))), (some ((.r (.l (.r .z))), false)), none, []⟩,
    ⟨(some (.l (.l (.l (.l .z))))), .bin .gtr (.t (.r (.r (.r .z)))) (.c (.int .u64 1099511627776)), (some ((.r (.l (.r .z))), false)), none, []⟩,
    ⟨(some (.r (.l (.l (.l .z))))), .pick (.t (.r (.l (.r .z)))) (.c (.bool true)) (.t (.l (.l (.l (.l .z))))), none, none, []⟩])
  (.cond (.t (.r (.l (.l (.l .z)))))
  (.seq (.region false 0 [
     ⟨(some (.r .z)), .mv (.c (.int .i64 2)), none, none, []⟩])
   .ret)
  .skip))
  (.seq (.region false 0 [
    ⟨(some (.r .z)), .mv (.c (.int .i64 0)), none, none, []⟩])
  .ret)))⟩
def AF79 : AFunc := ⟨24, [.tmp (.r .z)],
  (.seq (.region false 0 [
    ⟨(some (.r .z)), .mv (.c (.bool false)), none, none, []⟩])
  (.seq (.seq (.region false 0 [
    ⟨(some (.l (.r .z))), .mv (.t .z), none, none, []⟩,
    ⟨(some (.r (.r .z))), .len .slice (.t (.l (.r .z))), none, none, []⟩,
    ⟨(some (.l (.l (.l .z)))), .mv (.c (.int .i64 0)), none, none, []⟩])
  (.block 0 (.loop (.seq (.region false 0 [
      ⟨(some (.r (.l (.l .z)))), .bin .lss (.t (.l (.l (.l .z)))) (.t (.r (.r .z))), none, none, []⟩])
    (.seq (.cond (.t (.r (.l (.l .z))))
    .skip
    (.exit 0))
    (.seq (.block 1 (.seq (.region false 0 [
       ⟨(some (.l (.r (.l .z)))), .idxS 3 (.t (.l (.r .z))) (.t (.l (.l (.l .z)))), none, none, []⟩,
       ⟨(some (.r (.r (.l .z)))), .load true 3 (.t (.l (.r (.l .z)))), none, none, []⟩,
       ⟨(some (.r (.l .z))), .alloc 3 [[(.int .i64 0), (.int .i64 0), (.int .i64 0)]], none, none, []⟩,
       ⟨none, .store 3 (.t (.r (.l .z))) (.t (.r (.r (.l .z)))), none, none, []⟩])
     (.seq (.region false 0 [
       ⟨(some (.l (.l (.r .z)))), .fieldA 0 (.t (.r (.l .z))), none, none, []⟩,
       ⟨(some (.r (.l (.r .z)))), .load false 1 (.t (.l (.l (.r .z)))), none, none, []⟩,
       ⟨(some (.l (.r (.r .z)))), .fieldA 1 (.t (.r (.l .z))), none, none, []⟩,
       ⟨(some (.r (.r (.r .z)))), .load false 1 (.t (.l (.r (.r .z)))), none, none, []⟩,
       ⟨(some (.l (.l (.l (.l .z))))), .bin .lss (.t (.r (.l (.r .z)))) (.t (.r (.r (.r .z)))), none, none, []⟩,
       ⟨(some (.r (.l (.l (.l .z))))), .mv (.t (.l (.l (.l (.l .z))))), none, none, []⟩,
       ⟨(some (.l (.r (.l (.l .z))))), .fieldA 0 (.t (.r (.l .z))), (some ((.r (.l (.l (.l .z)))), false)), none, []⟩,
       ⟨(some (.r (.r (.l (.l .z))))), .load false 1 (.t (.l (.r (.l (.l .z))))), (some ((.r (.l (.l (.l .z)))), false)), none, []⟩,
       ⟨(some (.l (.l (.r (.l .z))))), .fieldA 2 (.t (.r (.l .z))), (some ((.r (.l (.l (.l .z)))), false)), none, []⟩,
       ⟨(some (.r (.l (.r (.l .z))))), .load false 1 (.t (.l (.l (.r (.l .z))))), (some ((.r (.l (.l (.l .z)))), false)), none, []⟩,
       ⟨(some (.l (.r (.r (.l .z))))), .bin .gtr (.t (.r (.r (.l (.l .z))))) (.t (.r (.l (.r (.l .z))))), (some ((.r (.l (.l (.l .z)))), false)), none, []⟩,
       ⟨(some (.r (.r (.r (.l .z))))), .pick (.t (.r (.l (.l (.l .z))))) (.c (.bool true)) (.t (.l (.r (.r (.l .z))))), none, none, []⟩])
     (.cond (.t (.r (.r (.r (.l .z)))))
     (.seq (.region false 0 [
        ⟨(some (.r .z)), .mv (.c (.bool false)), none, none, []⟩])
      .ret)
     .skip))))
    (.region false 0 [
      ⟨(some (.l (.l (.l (.r .z))))), .bin .add (.t (.l (.l (.l .z)))) (.c (.int .i64 1)), none, none, []⟩,
      ⟨(some (.l (.l (.l .z)))), .mv (.t (.l (.l (.l (.r .z))))), none, none, []⟩])))))))
  (.seq (.region false 0 [
    ⟨(some (.r .z)), .mv (.c (.bool true)), none, none, []⟩])
  .ret)))⟩
def AF80 : AFunc := ⟨15, [.tmp (.r .z)],
  (.seq (.region false 0 [
    ⟨(some (.l .z)), .box 9 9 (.t .z), none, none, []⟩,
    ⟨(some (.r .z)), .mv (.c (.bool false)), none, none, []⟩])
  (.seq (.region false 0 [
    ⟨(some (.l (.l .z))), .fieldA 0 (.t (.l .z)), none, none, []⟩,
    ⟨(some (.r (.l .z))), .fieldA 2 (.t (.l (.l .z))), none, none, []⟩,
    ⟨(some (.l (.r .z))), .load false 1 (.t (.r (.l .z))), none, none, []⟩,
    ⟨(some (.r (.r .z))), .eql false false [.i] (.t (.l (.r .z))) (.c (.int .i64 0)), none, none, []⟩,
    ⟨(some (.l (.l (.l .z)))), .mv (.t (.r (.r .z))), none, none, []⟩,
    ⟨(some (.r (.l (.l .z)))), .fieldA 7 (.t (.l .z)), (some ((.l (.l (.l .z))), true)), none, []⟩,
    ⟨(some (.l (.r (.l .z)))), .load false 1 (.t (.r (.l (.l .z)))), (some ((.l (.l (.l .z))), true)), none, []⟩,
    ⟨(some (.r (.r (.l .z)))), .fieldA 8 (.t (.l .z)), (some ((.l (.l (.l .z))), true)), none, []⟩,
    ⟨(some (.l (.l (.r .z)))), .load false 1 (.t (.r (.r (.l .z)))), (some ((.l (.l (.l .z))), true)), none, []⟩,
    ⟨(some (.r (.l (.r .z)))), .len .str (.t (.l (.l (.r .z)))), (some ((.l (.l (.l .z))), true)), none, []⟩,
    ⟨(some (.l (.r (.r .z)))), .eql false false [.i] (.t (.l (.r (.l .z)))) (.t (.r (.l (.r .z)))), (some ((.l (.l (.l .z))), true)), none, []⟩,
    ⟨(some (.r (.r (.r .z)))), .pick (.t (.l (.l (.l .z)))) (.t (.l (.r (.r .z)))) (.c (.bool false)), none, none, []⟩,
    ⟨(some (.r .z)), .mv (.t (.r (.r (.r .z)))), none, none, []⟩])
  .ret))⟩
def AF81 : AFunc := ⟨21, [.tmp (.r .z)],
  (.seq (.region false 0 [
    ⟨(some (.r .z)), .mv (.c (.str [])), none, none, []⟩])
  (.seq (.region false 0 [
    ⟨(some (.l (.l .z))), .mv (.c (.str [])), none, none, []⟩])
  (.seq (.seq (.region false 0 [
    ⟨(some (.r (.r .z))), .mv (.t .z), none, none, []⟩,
    ⟨(some (.l (.l (.l .z)))), .len .slice (.t (.r (.r .z))), none, none, []⟩,
    ⟨(some (.r (.l (.l .z)))), .mv (.c (.int .i64 0)), none, none, []⟩])
  (.block 0 (.loop (.seq (.region false 0 [
      ⟨(some (.l (.r (.l .z)))), .bin .lss (.t (.r (.l (.l .z)))) (.t (.l (.l (.l .z)))), none, none, []⟩])
    (.seq (.cond (.t (.l (.r (.l .z))))
    .skip
    (.exit 0))
    (.seq (.block 1 (.seq (.region false 0 [
       ⟨(some (.r (.r (.l .z)))), .idxS 1 (.t (.r (.r .z))) (.t (.r (.l (.l .z)))), none, none, []⟩,
       ⟨(some (.l (.l (.r .z)))), .load false 1 (.t (.r (.r (.l .z)))), none, none, []⟩,
       ⟨(some (.l (.r .z))), .mv (.t (.l (.l (.r .z)))), none, none, []⟩])
     (.region false 0 [
       ⟨(some (.r (.l (.r .z)))), .mv (.t (.l (.l .z))), none, none, []⟩,
       ⟨(some (.l (.r (.r .z)))), .mv (.t (.l (.r .z))), none, none, []⟩,
       ⟨(some (.r (.r (.r .z)))), .nilc (.t (.l (.r (.r .z)))), none, none, []⟩,
       ⟨(some (.l (.l (.l (.l .z))))), .load false 1 (.t (.r (.r (.r .z)))), none, none, []⟩,
       ⟨(some (.r (.l (.l (.l .z))))), .conv (.toInt .u64) (.t (.l (.l (.l (.l .z))))), none, none, []⟩,
       ⟨(some (.l (.r (.l (.l .z))))), .call 82 [(.t (.r (.l (.l (.l .z)))))], none, none, []⟩,
       ⟨(some (.r (.r (.l (.l .z))))), .bin .add (.t (.r (.l (.r .z)))) (.t (.l (.r (.l (.l .z))))), none, none, []⟩,
       ⟨(some (.l (.l .z))), .mv (.t (.r (.r (.l (.l .z))))), none, none, []⟩])))
    (.region false 0 [
      ⟨(some (.l (.l (.r (.l .z))))), .bin .add (.t (.r (.l (.l .z)))) (.c (.int .i64 1)), none, none, []⟩,
      ⟨(some (.r (.l (.l .z)))), .mv (.t (.l (.l (.r (.l .z))))), none, none, []⟩])))))))
  (.seq (.region false 0 [
    ⟨(some (.r (.l (.r (.l .z))))), .mv (.t (.l (.l .z))), none, none, []⟩,
    ⟨(some (.r .z)), .mv (.t (.r (.l (.r (.l .z))))), none, none, []⟩])
  .ret))))⟩
def AF82 : AFunc := ⟨26, [.tmp (.r .z)],
  (.seq (.region false 0 [
    ⟨(some (.r .z)), .mv (.c (.str [])), none, none, []⟩])
  (.seq (.region false 0 [
    ⟨(some (.l (.l .z))), .alloc 1 [[(.int .u8 0)], [(.int .u8 0)], [(.int .u8 0)], [(.int .u8 0)], [(.int .u8 0)], [(.int .u8 0)], [(.int .u8 0)], [(.int .u8 0)], [(.int .u8 0)], [(.int .u8 0)]], none, none, []⟩])
  (.seq (.region false 0 [
    ⟨(some (.r (.l .z))), .alloc 1 [[(.int .i64 0)]], none, none, []⟩,
    ⟨none, .store 1 (.t (.r (.l .z))) (.c (.int .i64 10)), none, none, []⟩])
  (.seq (.seq (.region false 0 [
    ⟨(some (.l (.l (.l .z)))), .mv (.t .z), none, none, []⟩,
    ⟨(some (.r (.l (.l .z)))), .call 83 [(.t (.l (.l (.l .z))))], none, none, []⟩])
  (.block 0 (.rangeFunc (.t (.r (.l (.l .z)))) [(.l (.r (.l .z))), (.r (.r (.l .z)))]
   (.seq (.region false 0 [
      ⟨(some (.l (.r .z))), .mv (.t (.l (.r (.l .z)))), none, none, []⟩])
    (.region false 0 [
      ⟨(some (.r (.r .z))), .mv (.t (.r (.r (.l .z)))), none, none, []⟩]))
   (.block 1 (.seq (.region false 0 [
       ⟨(some (.l (.l (.r .z)))), .load false 1 (.t (.r (.l .z))), none, none, []⟩,
       ⟨(some (.r (.l (.r .z)))), .bin .sub (.t (.l (.l (.r .z)))) (.c (.int .i64 1)), none, none, []⟩,
       ⟨none, .store 1 (.t (.r (.l .z))) (.t (.r (.l (.r .z)))), none, none, []⟩])
     (.seq (.region false 0 [
       ⟨(some (.l (.r (.r .z)))), .load false 1 (.t (.r (.l .z))), none, none, []⟩,
       ⟨(some (.r (.r (.r .z)))), .mv (.t (.r (.r .z))), none, none, []⟩,
       ⟨(some (.l (.l (.l (.l .z))))), .idxA 1 10 (.t (.l (.l .z))) (.t (.l (.r (.r .z)))), none, none, []⟩,
       ⟨none, .store 1 (.t (.l (.l (.l (.l .z))))) (.t (.r (.r (.r .z)))), none, none, []⟩])
     (.seq (.region false 0 [
       ⟨(some (.r (.l (.l (.l .z))))), .mv (.t (.l (.r .z))), none, none, []⟩,
       ⟨(some (.l (.r (.l (.l .z))))), .bin .gtr (.t (.r (.l (.l (.l .z))))) (.c (.int .i64 0)), none, none, []⟩])
     (.cond (.t (.l (.r (.l (.l .z)))))
     (.region false 0 [
        ⟨(some (.r (.r (.l (.l .z))))), .load false 1 (.t (.r (.l .z))), none, none, []⟩,
        ⟨(some (.l (.l (.r (.l .z))))), .idxA 1 10 (.t (.l (.l .z))) (.t (.r (.r (.l (.l .z))))), none, none, []⟩,
        ⟨(some (.r (.l (.r (.l .z))))), .load false 1 (.t (.l (.l (.r (.l .z))))), none, none, []⟩,
        ⟨(some (.l (.r (.r (.l .z))))), .bin .or (.t (.r (.l (.r (.l .z))))) (.c (.int .u8 128)), none, none, []⟩,
        ⟨(some (.r (.r (.r (.l .z))))), .idxA 1 10 (.t (.l (.l .z))) (.t (.r (.r (.l (.l .z))))), none, none, []⟩,
        ⟨none, .store 1 (.t (.r (.r (.r (.l .z))))) (.t (.l (.r (.r (.l .z))))), none, none, []⟩])
     .skip))))))))
  (.seq (.region false 0 [
    ⟨(some (.l (.l (.l (.r .z))))), .load false 1 (.t (.r (.l .z))), none, none, []⟩,
    ⟨(some (.r (.l (.l (.r .z))))), .sliceA 1 10 (.t (.l (.l .z))) (some (.t (.l (.l (.l (.r .z)))))) none none, none, none, []⟩,
    ⟨(some (.l (.r (.l (.r .z))))), .conv .b2s (.t (.r (.l (.l (.r .z))))), none, none, []⟩,
    ⟨(some (.r .z)), .mv (.t (.l (.r (.l (.r .z))))), none, none, []⟩])
  .ret)))))⟩
def AF83 : AFunc := ⟨4, [.tmp (.r .z)],
  (.seq (.region false 0 [
    ⟨(some (.l .z)), .box 1 1 (.t .z), none, none, []⟩,
    ⟨(some (.r .z)), .mv (.c .nilFunc), none, none, []⟩])
  (.seq (.region false 0 [
    ⟨(some (.l (.l .z))), .mkfunc 89 [] [(.t (.l .z))], none, none, []⟩,
    ⟨(some (.r .z)), .mv (.t (.l (.l .z))), none, none, []⟩])
  .ret))⟩
def AF84 : AFunc := ⟨19, [.tmp (.r (.l .z))],
  (.seq (.region false 0 [
    ⟨(some (.r (.l .z))), .mv (.c (.int .i64 0)), none, none, []⟩])
  (.seq (.seq (.region false 0 [
    ⟨(some (.r (.r .z))), .mv (.t .z), none, none, []⟩,
    ⟨(some (.l (.l (.l .z)))), .len .slice (.t (.r (.r .z))), none, none, []⟩,
    ⟨(some (.r (.l (.l .z)))), .mv (.c (.int .i64 0)), none, none, []⟩])
  (.block 0 (.loop (.seq (.region false 0 [
      ⟨(some (.l (.r (.l .z)))), .bin .lss (.t (.r (.l (.l .z)))) (.t (.l (.l (.l .z)))), none, none, []⟩])
    (.seq (.cond (.t (.l (.r (.l .z))))
    .skip
    (.exit 0))
    (.seq (.block 1 (.seq (.region false 0 [
       ⟨(some (.r (.r (.l .z)))), .mv (.t (.r (.l (.l .z)))), none, none, []⟩,
       ⟨(some (.l (.r .z))), .mv (.t (.r (.r (.l .z)))), none, none, []⟩])
     (.seq (.region false 0 [
       ⟨(some (.l (.l (.r .z)))), .mv (.t (.l .z)), none, none, []⟩,
       ⟨(some (.r (.l (.r .z)))), .mv (.t .z), none, none, []⟩,
       ⟨(some (.l (.r (.r .z)))), .mv (.t (.l (.r .z))), none, none, []⟩,
       ⟨(some (.r (.r (.r .z)))), .idxS 1 (.t (.r (.l (.r .z)))) (.t (.l (.r (.r .z)))), none, none, []⟩,
       ⟨(some (.l (.l (.l (.l .z))))), .load false 1 (.t (.r (.r (.r .z)))), none, none, []⟩,
       ⟨(some (.r (.l (.l (.l .z))))), .callv (.t (.l (.l (.r .z)))) [(.t (.l (.l (.l (.l .z)))))], none, none, []⟩])
     (.cond (.t (.r (.l (.l (.l .z)))))
     (.seq (.region false 0 [
        ⟨(some (.l (.r (.l (.l .z))))), .mv (.t (.l (.r .z))), none, none, []⟩,
        ⟨(some (.r (.l .z))), .mv (.t (.l (.r (.l (.l .z))))), none, none, []⟩])
      .ret)
     .skip))))
    (.region false 0 [
      ⟨(some (.r (.r (.l (.l .z))))), .bin .add (.t (.r (.l (.l .z)))) (.c (.int .i64 1)), none, none, []⟩,
      ⟨(some (.r (.l (.l .z)))), .mv (.t (.r (.r (.l (.l .z))))), none, none, []⟩])))))))
  (.seq (.region false 0 [
    ⟨(some (.r (.l .z))), .mv (.c (.int .i64 (-1))), none, none, []⟩])
  .ret)))⟩
def AF85 : AFunc := ⟨48, [.tmp (.r (.r .z))],
  (.seq (.region false 0 [
    ⟨(some (.r (.r .z))), .mv (.c (.bool false)), none, none, []⟩])
  (.seq (.region false 0 [
    ⟨(some (.l (.l (.r .z)))), .mv (.t (.l .z)), none, none, []⟩,
    ⟨(some (.l (.l (.l .z)))), .mv (.t (.l (.l (.r .z)))), none, none, []⟩])
  (.seq (.block 0 (.loop (.block 1 (.seq (.region false 0 [
       ⟨(some (.r (.l (.r .z)))), .mv (.t (.l (.l (.l .z)))), none, none, []⟩,
       ⟨(some (.l (.r (.r .z)))), .bin .mul (.c (.int .i64 2)) (.t (.r (.l (.r .z)))), none, none, []⟩,
       ⟨(some (.r (.r (.r .z)))), .bin .add (.t (.l (.r (.r .z)))) (.c (.int .i64 1)), none, none, []⟩,
       ⟨(some (.r (.l (.l .z)))), .mv (.t (.r (.r (.r .z)))), none, none, []⟩])
     (.seq (.seq (.region false 0 [
       ⟨(some (.l (.l (.l (.l .z))))), .mv (.t (.r (.l (.l .z)))), none, none, []⟩,
       ⟨(some (.r (.l (.l (.l .z))))), .mv (.t (.r .z)), none, none, []⟩,
       ⟨(some (.l (.r (.l (.l .z))))), .bin .geq (.t (.l (.l (.l (.l .z))))) (.t (.r (.l (.l (.l .z))))), none, none, []⟩,
       ⟨(some (.r (.r (.l (.l .z))))), .mv (.t (.l (.r (.l (.l .z))))), none, none, []⟩,
       ⟨(some (.l (.l (.r (.l .z))))), .mv (.t (.r (.l (.l .z)))), (some ((.r (.r (.l (.l .z)))), false)), none, []⟩,
       ⟨(some (.r (.l (.r (.l .z))))), .bin .lss (.t (.l (.l (.r (.l .z))))) (.c (.int .i64 0)), (some ((.r (.r (.l (.l .z)))), false)), none, []⟩,
       ⟨(some (.l (.r (.r (.l .z))))), .pick (.t (.r (.r (.l (.l .z))))) (.c (.bool true)) (.t (.r (.l (.r (.l .z))))), none, none, []⟩])
     (.cond (.t (.l (.r (.r (.l .z)))))
     (.exit 0)
     .skip))
     (.seq (.region false 0 [
       ⟨(some (.r (.r (.r (.l .z))))), .mv (.t (.r (.l (.l .z)))), none, none, []⟩,
       ⟨(some (.l (.r (.l .z)))), .mv (.t (.r (.r (.r (.l .z))))), none, none, []⟩])
     (.seq (.seq (.region false 0 [
       ⟨(some (.l (.l (.l (.r .z))))), .mv (.t (.r (.l (.l .z)))), none, none, []⟩,
       ⟨(some (.r (.l (.l (.r .z))))), .bin .add (.t (.l (.l (.l (.r .z))))) (.c (.int .i64 1)), none, none, []⟩,
       ⟨(some (.r (.r (.l .z)))), .mv (.t (.r (.l (.l (.r .z))))), none, none, []⟩])
     (.seq (.region false 0 [
       ⟨(some (.l (.r (.l (.r .z))))), .mv (.t (.r (.r (.l .z)))), none, none, []⟩,
       ⟨(some (.r (.r (.l (.r .z))))), .mv (.t (.r .z)), none, none, []⟩,
       ⟨(some (.l (.l (.r (.r .z))))), .bin .lss (.t (.l (.r (.l (.r .z))))) (.t (.r (.r (.l (.r .z))))), none, none, []⟩,
       ⟨(some (.r (.l (.r (.r .z))))), .mv (.t (.l (.l (.r (.r .z))))), none, none, []⟩,
       ⟨(some (.l (.r (.r (.r .z))))), .mv (.t .z), (some ((.r (.l (.r (.r .z)))), true)), none, []⟩,
       ⟨(some (.r (.r (.r (.r .z))))), .mv (.t (.r (.r (.l .z)))), (some ((.r (.l (.r (.r .z)))), true)), none, []⟩,
       ⟨(some (.l (.l (.l (.l (.l .z)))))), .mv (.t (.r (.l (.l .z)))), (some ((.r (.l (.r (.r .z)))), true)), none, []⟩,
       ⟨(some (.r (.l (.l (.l (.l .z)))))), .invoke (.t (.l (.r (.r (.r .z))))) "Less" [(.t (.r (.r (.r (.r .z))))), (.t (.l (.l (.l (.l (.l .z))))))], (some ((.r (.l (.r (.r .z)))), true)), none, []⟩,
       ⟨(some (.l (.r (.l (.l (.l .z)))))), .pick (.t (.r (.l (.r (.r .z))))) (.t (.r (.l (.l (.l (.l .z)))))) (.c (.bool false)), none, none, []⟩])
     (.cond (.t (.l (.r (.l (.l (.l .z))))))
     (.region false 0 [
        ⟨(some (.r (.r (.l (.l (.l .z)))))), .mv (.t (.r (.r (.l .z)))), none, none, []⟩,
        ⟨(some (.l (.r (.l .z)))), .mv (.t (.r (.r (.l (.l (.l .z)))))), none, none, []⟩])
     .skip)))
     (.seq (.seq (.region false 0 [
       ⟨(some (.l (.l (.r (.l (.l .z)))))), .mv (.t .z), none, none, []⟩,
       ⟨(some (.r (.l (.r (.l (.l .z)))))), .mv (.t (.l (.r (.l .z)))), none, none, []⟩,
       ⟨(some (.l (.r (.r (.l (.l .z)))))), .mv (.t (.l (.l (.l .z)))), none, none, []⟩,
       ⟨(some (.r (.r (.r (.l (.l .z)))))), .invoke (.t (.l (.l (.r (.l (.l .z)))))) "Less" [(.t (.r (.l (.r (.l (.l .z)))))), (.t (.l (.r (.r (.l (.l .z))))))], none, none, []⟩,
       ⟨(some (.l (.l (.l (.r (.l .z)))))), .un .not (.t (.r (.r (.r (.l (.l .z)))))), none, none, []⟩])
     (.cond (.t (.l (.l (.l (.r (.l .z))))))
     (.exit 0)
     .skip))
     (.seq (.region false 0 [
       ⟨(some (.r (.l (.l (.r (.l .z)))))), .mv (.t .z), none, none, []⟩,
       ⟨(some (.l (.r (.l (.r (.l .z)))))), .mv (.t (.l (.l (.l .z)))), none, none, []⟩,
       ⟨(some (.r (.r (.l (.r (.l .z)))))), .mv (.t (.l (.r (.l .z)))), none, none, []⟩,
       ⟨(some (.l (.l (.r (.r (.l .z)))))), .invoke (.t (.r (.l (.l (.r (.l .z)))))) "Swap" [(.t (.l (.r (.l (.r (.l .z)))))), (.t (.r (.r (.l (.r (.l .z))))))], none, none, []⟩])
     (.region false 0 [
       ⟨(some (.r (.l (.r (.r (.l .z)))))), .mv (.t (.l (.r (.l .z)))), none, none, []⟩,
       ⟨(some (.l (.l (.l .z)))), .mv (.t (.r (.l (.r (.r (.l .z)))))), none, none, []⟩]))))))))))
  (.seq (.region false 0 [
    ⟨(some (.l (.r (.r (.r (.l .z)))))), .mv (.t (.l (.l (.l .z)))), none, none, []⟩,
    ⟨(some (.r (.r (.r (.r (.l .z)))))), .mv (.t (.l .z)), none, none, []⟩,
    ⟨(some (.l (.l (.l (.l (.r .z)))))), .bin .gtr (.t (.l (.r (.r (.r (.l .z)))))) (.t (.r (.r (.r (.r (.l .z)))))), none, none, []⟩,
    ⟨(some (.r (.r .z))), .mv (.t (.l (.l (.l (.l (.r .z)))))), none, none, []⟩])
  .ret))))⟩
def AF86 : AFunc := ⟨21, [.tmp (.r (.r .z)), .tmp (.l (.l (.l .z)))],
  (.seq (.region false 0 [
    ⟨(some (.l (.l .z))), .box 6 6 (.t .z), none, none, []⟩,
    ⟨(some (.r (.r .z))), .mv (.c (.int .i64 0)), none, none, []⟩,
    ⟨(some (.l (.l (.l .z)))), .mv (.c (.int .i64 0)), none, none, []⟩])
  (.seq (.region false 0 [
    ⟨(some (.r (.l (.r .z)))), .load true 6 (.t (.l (.l .z))), none, none, []⟩,
    ⟨(some (.l (.r (.r .z)))), .mv (.t (.l .z)), none, none, []⟩,
    ⟨(some (.r (.r (.r .z)))), .mv (.t (.r .z)), none, none, []⟩,
    ⟨(some (.l (.l (.l (.l .z))))), .call 90 [(.t (.r (.l (.r .z)))), (.c (.int .i64 0)), (.t (.l (.r (.r .z)))), (.t (.r (.r (.r .z))))], none, none, []⟩,
    ⟨(some (.l (.l (.r .z)))), .mv (.t (.l (.l (.l (.l .z))))), none, none, []⟩,
    ⟨(some (.r (.l (.l (.l .z))))), .ext (.t (.l (.l (.r .z)))) 0, none, none, []⟩,
    ⟨(some (.l (.r (.l (.l .z))))), .ext (.t (.l (.l (.r .z)))) 1, none, none, []⟩,
    ⟨(some (.r (.r (.l (.l .z))))), .ext (.t (.l (.l (.r .z)))) 2, none, none, []⟩,
    ⟨(some (.r (.l (.l .z)))), .mv (.t (.r (.l (.l (.l .z))))), none, none, []⟩,
    ⟨(some (.l (.r (.l .z)))), .mv (.t (.l (.r (.l (.l .z))))), none, none, []⟩,
    ⟨(some (.r (.r (.l .z)))), .mv (.t (.r (.r (.l (.l .z))))), none, none, []⟩])
  (.seq (.region false 0 [
    ⟨(some (.l (.l (.r (.l .z))))), .mv (.t (.r (.l (.l .z)))), none, none, []⟩,
    ⟨(some (.r (.l (.r (.l .z))))), .mv (.t (.r (.r (.l .z)))), none, none, []⟩,
    ⟨(some (.r (.r .z))), .mv (.t (.l (.l (.r (.l .z))))), none, none, []⟩,
    ⟨(some (.l (.l (.l .z)))), .mv (.t (.r (.l (.r (.l .z))))), none, none, []⟩])
  .ret)))⟩
end Go.Proofs.YtcphofamajcimaaDoor
end
