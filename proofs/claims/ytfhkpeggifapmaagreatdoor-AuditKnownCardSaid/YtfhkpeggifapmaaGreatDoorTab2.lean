/- The functions of the program as the evaluator's code: tables.
   Conditions: none. -/
import Derived.Test.YtfhkpeggifapmaaGreatDoorEv1
noncomputable section
namespace Go.Proofs.YtfhkpeggifapmaaGreatDoor
open Go Go.Abs
set_option maxRecDepth 100000
def AF57 : AFunc := ⟨134, [],
  (.seq (.region false 0 [
    ⟨(some (.r (.l (.l .z)))), .mv (.c (.bool true)), none, none, []⟩])
  (.seq (.region false 0 [
    ⟨(some (.l (.r (.l .z)))), .mv (.c (.bool true)), none, none, []⟩])
  (.block 0 (.loop (.block 1 (.seq (.region false 0 [
       ⟨(some (.l (.l (.r (.l .z))))), .mv (.t (.r .z)), none, none, []⟩,
       ⟨(some (.r (.l (.r (.l .z))))), .mv (.t (.l .z)), none, none, []⟩,
       ⟨(some (.l (.r (.r (.l .z))))), .bin .sub (.t (.l (.l (.r (.l .z))))) (.t (.r (.l (.r (.l .z))))), none, none, []⟩,
       ⟨(some (.r (.r (.l .z)))), .mv (.t (.l (.r (.r (.l .z))))), none, none, []⟩])
     (.seq (.seq (.region false 0 [
       ⟨(some (.r (.r (.r (.l .z))))), .mv (.t (.r (.r (.l .z)))), none, none, []⟩,
       ⟨(some (.l (.l (.l (.r .z))))), .bin .leq (.t (.r (.r (.r (.l .z))))) (.c (.int .i64 12)), none, none, []⟩])
     (.cond (.t (.l (.l (.l (.r .z)))))
     (.seq (.region false 0 [
        ⟨(some (.r (.l (.l (.r .z))))), .mv (.t .z), none, none, []⟩,
        ⟨(some (.l (.r (.l (.r .z))))), .mv (.t (.l .z)), none, none, []⟩,
        ⟨(some (.r (.r (.l (.r .z))))), .mv (.t (.r .z)), none, none, []⟩,
        ⟨(some (.l (.l (.r (.r .z))))), .call 92 [(.t (.r (.l (.l (.r .z))))), (.t (.l (.r (.l (.r .z))))), (.t (.r (.r (.l (.r .z)))))], none, none, []⟩])
      .ret)
     .skip))
     (.seq (.seq (.region false 0 [
       ⟨(some (.r (.l (.r (.r .z))))), .mv (.t (.l (.l .z))), none, none, []⟩,
       ⟨(some (.l (.r (.r (.r .z))))), .eql false false [.i] (.t (.r (.l (.r (.r .z))))) (.c (.int .i64 0)), none, none, []⟩])
     (.cond (.t (.l (.r (.r (.r .z)))))
     (.seq (.region false 0 [
        ⟨(some (.r (.r (.r (.r .z))))), .mv (.t .z), none, none, []⟩,
        ⟨(some (.l (.l (.l (.l (.l .z)))))), .mv (.t (.l .z)), none, none, []⟩,
        ⟨(some (.r (.l (.l (.l (.l .z)))))), .mv (.t (.r .z)), none, none, []⟩,
        ⟨(some (.l (.r (.l (.l (.l .z)))))), .call 93 [(.t (.r (.r (.r (.r .z))))), (.t (.l (.l (.l (.l (.l .z)))))), (.t (.r (.l (.l (.l (.l .z))))))], none, none, []⟩])
      .ret)
     .skip))
     (.seq (.seq (.region false 0 [
       ⟨(some (.r (.r (.l (.l (.l .z)))))), .mv (.t (.r (.l (.l .z)))), none, none, []⟩,
       ⟨(some (.l (.l (.r (.l (.l .z)))))), .un .not (.t (.r (.r (.l (.l (.l .z)))))), none, none, []⟩])
     (.cond (.t (.l (.l (.r (.l (.l .z))))))
     (.seq (.region false 0 [
        ⟨(some (.r (.l (.r (.l (.l .z)))))), .mv (.t .z), none, none, []⟩,
        ⟨(some (.l (.r (.r (.l (.l .z)))))), .mv (.t (.l .z)), none, none, []⟩,
        ⟨(some (.r (.r (.r (.l (.l .z)))))), .mv (.t (.r .z)), none, none, []⟩,
        ⟨(some (.l (.l (.l (.r (.l .z)))))), .call 94 [(.t (.r (.l (.r (.l (.l .z)))))), (.t (.l (.r (.r (.l (.l .z)))))), (.t (.r (.r (.r (.l (.l .z))))))], none, none, []⟩])
      (.region false 0 [
        ⟨(some (.r (.l (.l (.r (.l .z)))))), .mv (.t (.l (.l .z))), none, none, []⟩,
        ⟨(some (.l (.r (.l (.r (.l .z)))))), .bin .sub (.t (.r (.l (.l (.r (.l .z)))))) (.c (.int .i64 1)), none, none, []⟩,
        ⟨(some (.l (.l .z))), .mv (.t (.l (.r (.l (.r (.l .z)))))), none, none, []⟩]))
     .skip))
     (.seq (.region false 0 [
       ⟨(some (.l (.l (.r (.r (.l .z)))))), .mv (.t .z), none, none, []⟩,
       ⟨(some (.r (.l (.r (.r (.l .z)))))), .mv (.t (.l .z)), none, none, []⟩,
       ⟨(some (.l (.r (.r (.r (.l .z)))))), .mv (.t (.r .z)), none, none, []⟩,
       ⟨(some (.r (.r (.r (.r (.l .z)))))), .call 95 [(.t (.l (.l (.r (.r (.l .z)))))), (.t (.r (.l (.r (.r (.l .z)))))), (.t (.l (.r (.r (.r (.l .z))))))], none, none, []⟩,
       ⟨(some (.r (.r (.l (.r (.l .z)))))), .mv (.t (.r (.r (.r (.r (.l .z)))))), none, none, []⟩,
       ⟨(some (.l (.l (.l (.l (.r .z)))))), .ext (.t (.r (.r (.l (.r (.l .z)))))) 0, none, none, []⟩,
       ⟨(some (.r (.l (.l (.l (.r .z)))))), .ext (.t (.r (.r (.l (.r (.l .z)))))) 1, none, none, []⟩,
       ⟨(some (.l (.l (.r .z)))), .mv (.t (.l (.l (.l (.l (.r .z)))))), none, none, []⟩,
       ⟨(some (.r (.l (.r .z)))), .mv (.t (.r (.l (.l (.l (.r .z)))))), none, none, []⟩])
     (.seq (.seq (.region false 0 [
       ⟨(some (.l (.r (.l (.l (.r .z)))))), .mv (.t (.r (.l (.r .z)))), none, none, []⟩,
       ⟨(some (.r (.r (.l (.l (.r .z)))))), .eql false false [.i] (.t (.l (.r (.l (.l (.r .z)))))) (.c (.int .i64 2)), none, none, []⟩])
     (.cond (.t (.r (.r (.l (.l (.r .z))))))
     (.seq (.region false 0 [
        ⟨(some (.l (.l (.r (.l (.r .z)))))), .mv (.t .z), none, none, []⟩,
        ⟨(some (.r (.l (.r (.l (.r .z)))))), .mv (.t (.l .z)), none, none, []⟩,
        ⟨(some (.l (.r (.r (.l (.r .z)))))), .mv (.t (.r .z)), none, none, []⟩,
        ⟨(some (.r (.r (.r (.l (.r .z)))))), .call 96 [(.t (.l (.l (.r (.l (.r .z)))))), (.t (.r (.l (.r (.l (.r .z)))))), (.t (.l (.r (.r (.l (.r .z))))))], none, none, []⟩])
      (.seq (.region false 0 [
        ⟨(some (.l (.l (.l (.r (.r .z)))))), .mv (.t (.r .z)), none, none, []⟩,
        ⟨(some (.r (.l (.l (.r (.r .z)))))), .bin .sub (.t (.l (.l (.l (.r (.r .z)))))) (.c (.int .i64 1)), none, none, []⟩,
        ⟨(some (.l (.r (.l (.r (.r .z)))))), .mv (.t (.l (.l (.r .z)))), none, none, []⟩,
        ⟨(some (.r (.r (.l (.r (.r .z)))))), .mv (.t (.l .z)), none, none, []⟩,
        ⟨(some (.l (.l (.r (.r (.r .z)))))), .bin .sub (.t (.l (.r (.l (.r (.r .z)))))) (.t (.r (.r (.l (.r (.r .z)))))), none, none, []⟩,
        ⟨(some (.r (.l (.r (.r (.r .z)))))), .bin .sub (.t (.r (.l (.l (.r (.r .z)))))) (.t (.l (.l (.r (.r (.r .z)))))), none, none, []⟩,
        ⟨(some (.l (.l (.r .z)))), .mv (.t (.r (.l (.r (.r (.r .z)))))), none, none, []⟩])
      (.region false 0 [
        ⟨(some (.r (.l (.r .z)))), .mv (.c (.int .i64 1)), none, none, []⟩])))
     .skip))
     (.seq (.seq (.region false 0 [
       ⟨(some (.l (.r (.r (.r (.r .z)))))), .mv (.t (.r (.l (.l .z)))), none, none, []⟩,
       ⟨(some (.r (.r (.r (.r (.r .z)))))), .mv (.t (.l (.r (.r (.r (.r .z)))))), none, none, []⟩,
       ⟨(some (.l (.l (.l (.l (.l (.l .z))))))), .mv (.t (.l (.r (.l .z)))), (some ((.r (.r (.r (.r (.r .z))))), true)), none, []⟩,
       ⟨(some (.r (.l (.l (.l (.l (.l .z))))))), .pick (.t (.r (.r (.r (.r (.r .z)))))) (.t (.l (.l (.l (.l (.l (.l .z))))))) (.c (.bool false)), none, none, []⟩,
       ⟨(some (.l (.r (.l (.l (.l (.l .z))))))), .mv (.t (.r (.l (.l (.l (.l (.l .z))))))), none, none, []⟩,
       ⟨(some (.r (.r (.l (.l (.l (.l .z))))))), .mv (.t (.r (.l (.r .z)))), (some ((.l (.r (.l (.l (.l (.l .z)))))), true)), none, []⟩,
       ⟨(some (.l (.l (.r (.l (.l (.l .z))))))), .eql false false [.i] (.t (.r (.r (.l (.l (.l (.l .z))))))) (.c (.int .i64 1)), (some ((.l (.r (.l (.l (.l (.l .z)))))), true)), none, []⟩,
       ⟨(some (.r (.l (.r (.l (.l (.l .z))))))), .pick (.t (.l (.r (.l (.l (.l (.l .z))))))) (.t (.l (.l (.r (.l (.l (.l .z))))))) (.c (.bool false)), none, none, []⟩])
     (.cond (.t (.r (.l (.r (.l (.l (.l .z)))))))
     (.seq (.region false 0 [
        ⟨(some (.l (.r (.r (.l (.l (.l .z))))))), .mv (.t .z), none, none, []⟩,
        ⟨(some (.r (.r (.r (.l (.l (.l .z))))))), .mv (.t (.l .z)), none, none, []⟩,
        ⟨(some (.l (.l (.l (.r (.l (.l .z))))))), .mv (.t (.r .z)), none, none, []⟩,
        ⟨(some (.r (.l (.l (.r (.l (.l .z))))))), .call 97 [(.t (.l (.r (.r (.l (.l (.l .z))))))), (.t (.r (.r (.r (.l (.l (.l .z))))))), (.t (.l (.l (.l (.r (.l (.l .z)))))))], none, none, []⟩])
      (.cond (.t (.r (.l (.l (.r (.l (.l .z)))))))
      .ret
      .skip))
     .skip))
     (.seq (.seq (.region true 0 [
       ⟨(some (.l (.r (.l (.r (.l (.l .z))))))), .mv (.t (.l .z)), none, none, []⟩,
       ⟨(some (.r (.r (.l (.r (.l (.l .z))))))), .bin .gtr (.t (.l (.r (.l (.r (.l (.l .z))))))) (.c (.int .i64 0)), none, none, [0]⟩,
       ⟨(some (.l (.l (.r (.r (.l (.l .z))))))), .mv (.t (.r (.r (.l (.r (.l (.l .z))))))), none, none, [0, 1]⟩,
       ⟨(some (.r (.l (.r (.r (.l (.l .z))))))), .mv (.t .z), (some ((.l (.l (.r (.r (.l (.l .z)))))), true)), none, [0, 1, 2]⟩,
       ⟨(some (.l (.r (.r (.r (.l (.l .z))))))), .mv (.t (.l .z)), (some ((.l (.l (.r (.r (.l (.l .z)))))), true)), none, [0, 1, 2]⟩,
       ⟨(some (.r (.r (.r (.r (.l (.l .z))))))), .bin .sub (.t (.l (.r (.r (.r (.l (.l .z))))))) (.c (.int .i64 1)), (some ((.l (.l (.r (.r (.l (.l .z)))))), true)), none, [0, 1, 2, 4]⟩,
       ⟨(some (.l (.l (.l (.l (.r (.l .z))))))), .idxS 1 (.t (.r (.l (.r (.r (.l (.l .z))))))) (.t (.r (.r (.r (.r (.l (.l .z))))))), (some ((.l (.l (.r (.r (.l (.l .z)))))), true)), none, [0, 1, 2, 3, 4, 5]⟩,
       ⟨(some (.r (.l (.l (.l (.r (.l .z))))))), .load false 1 (.t (.l (.l (.l (.l (.r (.l .z))))))), (some ((.l (.l (.r (.r (.l (.l .z)))))), true)), none, [0, 1, 2, 3, 4, 5, 6]⟩,
       ⟨(some (.l (.r (.l (.l (.r (.l .z))))))), .mv (.t .z), (some ((.l (.l (.r (.r (.l (.l .z)))))), true)), none, [0, 1, 2]⟩,
       ⟨(some (.r (.r (.l (.l (.r (.l .z))))))), .mv (.t (.l (.l (.r .z)))), (some ((.l (.l (.r (.r (.l (.l .z)))))), true)), none, [0, 1, 2]⟩,
       ⟨(some (.l (.l (.r (.l (.r (.l .z))))))), .idxS 1 (.t (.l (.r (.l (.l (.r (.l .z))))))) (.t (.r (.r (.l (.l (.r (.l .z))))))), (some ((.l (.l (.r (.r (.l (.l .z)))))), true)), none, [0, 1, 2, 8, 9]⟩,
       ⟨(some (.r (.l (.r (.l (.r (.l .z))))))), .load false 1 (.t (.l (.l (.r (.l (.r (.l .z))))))), (some ((.l (.l (.r (.r (.l (.l .z)))))), true)), none, [0, 1, 2, 8, 9, 10]⟩,
       ⟨(some (.l (.r (.r (.l (.r (.l .z))))))), .call 98 [(.t (.r (.l (.l (.l (.r (.l .z))))))), (.t (.r (.l (.r (.l (.r (.l .z)))))))], (some ((.l (.l (.r (.r (.l (.l .z)))))), true)), none, [0, 1, 2, 3, 4, 5, 6, 7, 8, 9, 10, 11]⟩,
       ⟨(some (.r (.r (.r (.l (.r (.l .z))))))), .un .not (.t (.l (.r (.r (.l (.r (.l .z))))))), (some ((.l (.l (.r (.r (.l (.l .z)))))), true)), none, [0, 1, 2, 3, 4, 5, 6, 7, 8, 9, 10, 11, 12]⟩,
       ⟨(some (.l (.l (.l (.r (.r (.l .z))))))), .pick (.t (.l (.l (.r (.r (.l (.l .z))))))) (.t (.r (.r (.r (.l (.r (.l .z))))))) (.c (.bool false)), none, none, [0, 1, 2, 3, 4, 5, 6, 7, 8, 9, 10, 11, 12, 13]⟩])
     (.cond (.t (.l (.l (.l (.r (.r (.l .z)))))))
     (.seq (.region false 0 [
        ⟨(some (.r (.l (.l (.r (.r (.l .z))))))), .mv (.t .z), none, none, []⟩,
        ⟨(some (.l (.r (.l (.r (.r (.l .z))))))), .mv (.t (.l .z)), none, none, []⟩,
        ⟨(some (.r (.r (.l (.r (.r (.l .z))))))), .mv (.t (.r .z)), none, none, []⟩,
        ⟨(some (.l (.l (.r (.r (.r (.l .z))))))), .mv (.t (.l (.l (.r .z)))), none, none, []⟩,
        ⟨(some (.r (.l (.r (.r (.r (.l .z))))))), .call 99 [(.t (.r (.l (.l (.r (.r (.l .z))))))), (.t (.l (.r (.l (.r (.r (.l .z))))))), (.t (.r (.r (.l (.r (.r (.l .z))))))), (.t (.l (.l (.r (.r (.r (.l .z)))))))], none, none, []⟩,
        ⟨(some (.l (.r (.r .z)))), .mv (.t (.r (.l (.r (.r (.r (.l .z))))))), none, none, []⟩])
      (.seq (.region false 0 [
        ⟨(some (.l (.r (.r (.r (.r (.l .z))))))), .mv (.t (.l (.r (.r .z)))), none, none, []⟩,
        ⟨(some (.l .z)), .mv (.t (.l (.r (.r (.r (.r (.l .z))))))), none, none, []⟩])
      (.exit 1)))
     .skip))
     (.seq (.region false 0 [
       ⟨(some (.l (.l (.l (.l (.l (.r .z))))))), .mv (.t .z), none, none, []⟩,
       ⟨(some (.r (.l (.l (.l (.l (.r .z))))))), .mv (.t (.l .z)), none, none, []⟩,
       ⟨(some (.l (.r (.l (.l (.l (.r .z))))))), .mv (.t (.r .z)), none, none, []⟩,
       ⟨(some (.r (.r (.l (.l (.l (.r .z))))))), .mv (.t (.l (.l (.r .z)))), none, none, []⟩,
       ⟨(some (.l (.l (.r (.l (.l (.r .z))))))), .call 100 [(.t (.l (.l (.l (.l (.l (.r .z))))))), (.t (.r (.l (.l (.l (.l (.r .z))))))), (.t (.l (.r (.l (.l (.l (.r .z))))))), (.t (.r (.r (.l (.l (.l (.r .z)))))))], none, none, []⟩,
       ⟨(some (.r (.r (.r (.r (.r (.l .z))))))), .mv (.t (.l (.l (.r (.l (.l (.r .z))))))), none, none, []⟩,
       ⟨(some (.r (.l (.r (.l (.l (.r .z))))))), .ext (.t (.r (.r (.r (.r (.r (.l .z))))))) 0, none, none, []⟩,
       ⟨(some (.l (.r (.r (.l (.l (.r .z))))))), .ext (.t (.r (.r (.r (.r (.r (.l .z))))))) 1, none, none, []⟩,
       ⟨(some (.r (.r (.r .z)))), .mv (.t (.r (.l (.r (.l (.l (.r .z))))))), none, none, []⟩,
       ⟨(some (.l (.l (.l (.l .z))))), .mv (.t (.l (.r (.r (.l (.l (.r .z))))))), none, none, []⟩])
     (.seq (.region false 0 [
       ⟨(some (.r (.r (.r (.l (.l (.r .z))))))), .mv (.t (.l (.l (.l (.l .z))))), none, none, []⟩,
       ⟨(some (.l (.r (.l .z)))), .mv (.t (.r (.r (.r (.l (.l (.r .z))))))), none, none, []⟩])
     (.seq (.region false 0 [
       ⟨(some (.l (.l (.l (.r (.l (.r .z))))))), .mv (.t (.r (.r (.r .z)))), none, none, []⟩,
       ⟨(some (.r (.l (.l (.r (.l (.r .z))))))), .mv (.t (.l .z)), none, none, []⟩,
       ⟨(some (.l (.r (.l (.r (.l (.r .z))))))), .bin .sub (.t (.l (.l (.l (.r (.l (.r .z))))))) (.t (.r (.l (.l (.r (.l (.r .z))))))), none, none, []⟩,
       ⟨(some (.r (.r (.l (.r (.l (.r .z))))))), .mv (.t (.r .z)), none, none, []⟩,
       ⟨(some (.l (.l (.r (.r (.l (.r .z))))))), .mv (.t (.r (.r (.r .z)))), none, none, []⟩,
       ⟨(some (.r (.l (.r (.r (.l (.r .z))))))), .bin .sub (.t (.r (.r (.l (.r (.l (.r .z))))))) (.t (.l (.l (.r (.r (.l (.r .z))))))), none, none, []⟩,
       ⟨(some (.r (.l (.l (.l .z))))), .mv (.t (.l (.r (.l (.r (.l (.r .z))))))), none, none, []⟩,
       ⟨(some (.l (.r (.l (.l .z))))), .mv (.t (.r (.l (.r (.r (.l (.r .z))))))), none, none, []⟩])
     (.seq (.region false 0 [
       ⟨(some (.l (.r (.r (.r (.l (.r .z))))))), .mv (.t (.r (.r (.l .z)))), none, none, []⟩,
       ⟨(some (.r (.r (.r (.r (.l (.r .z))))))), .bin .quo (.t (.l (.r (.r (.r (.l (.r .z))))))) (.c (.int .i64 8)), none, none, []⟩,
       ⟨(some (.r (.r (.l (.l .z))))), .mv (.t (.r (.r (.r (.r (.l (.r .z))))))), none, none, []⟩])
     (.seq (.region false 0 [
       ⟨(some (.l (.l (.l (.l (.r (.r .z))))))), .mv (.t (.r (.l (.l (.l .z))))), none, none, []⟩,
       ⟨(some (.r (.l (.l (.l (.r (.r .z))))))), .mv (.t (.l (.r (.l (.l .z))))), none, none, []⟩,
       ⟨(some (.l (.r (.l (.l (.r (.r .z))))))), .bin .lss (.t (.l (.l (.l (.l (.r (.r .z))))))) (.t (.r (.l (.l (.l (.r (.r .z))))))), none, none, []⟩])
     (.cond (.t (.l (.r (.l (.l (.r (.r .z)))))))
     (.seq (.region false 0 [
        ⟨(some (.r (.r (.l (.l (.r (.r .z))))))), .mv (.t (.r (.l (.l (.l .z))))), none, none, []⟩,
        ⟨(some (.l (.l (.r (.l (.r (.r .z))))))), .mv (.t (.r (.r (.l (.l .z))))), none, none, []⟩,
        ⟨(some (.r (.l (.r (.l (.r (.r .z))))))), .bin .geq (.t (.r (.r (.l (.l (.r (.r .z))))))) (.t (.l (.l (.r (.l (.r (.r .z))))))), none, none, []⟩,
        ⟨(some (.r (.l (.l .z)))), .mv (.t (.r (.l (.r (.l (.r (.r .z))))))), none, none, []⟩])
      (.seq (.region false 0 [
        ⟨(some (.l (.r (.r (.l (.r (.r .z))))))), .mv (.t .z), none, none, []⟩,
        ⟨(some (.r (.r (.r (.l (.r (.r .z))))))), .mv (.t (.l .z)), none, none, []⟩,
        ⟨(some (.l (.l (.l (.r (.r (.r .z))))))), .mv (.t (.r (.r (.r .z)))), none, none, []⟩,
        ⟨(some (.r (.l (.l (.r (.r (.r .z))))))), .mv (.t (.l (.l .z))), none, none, []⟩,
        ⟨(some (.l (.r (.l (.r (.r (.r .z))))))), .call 57 [(.t (.l (.r (.r (.l (.r (.r .z))))))), (.t (.r (.r (.r (.l (.r (.r .z))))))), (.t (.l (.l (.l (.r (.r (.r .z))))))), (.t (.r (.l (.l (.r (.r (.r .z)))))))], none, none, []⟩])
      (.region false 0 [
        ⟨(some (.r (.r (.l (.r (.r (.r .z))))))), .mv (.t (.r (.r (.r .z)))), none, none, []⟩,
        ⟨(some (.l (.l (.r (.r (.r (.r .z))))))), .bin .add (.t (.r (.r (.l (.r (.r (.r .z))))))) (.c (.int .i64 1)), none, none, []⟩,
        ⟨(some (.l .z)), .mv (.t (.l (.l (.r (.r (.r (.r .z))))))), none, none, []⟩])))
     (.seq (.region false 0 [
        ⟨(some (.r (.l (.r (.r (.r (.r .z))))))), .mv (.t (.l (.r (.l (.l .z))))), none, none, []⟩,
        ⟨(some (.l (.r (.r (.r (.r (.r .z))))))), .mv (.t (.r (.r (.l (.l .z))))), none, none, []⟩,
        ⟨(some (.r (.r (.r (.r (.r (.r .z))))))), .bin .geq (.t (.r (.l (.r (.r (.r (.r .z))))))) (.t (.l (.r (.r (.r (.r (.r .z))))))), none, none, []⟩,
        ⟨(some (.r (.l (.l .z)))), .mv (.t (.r (.r (.r (.r (.r (.r .z))))))), none, none, []⟩])
      (.seq (.region false 0 [
        ⟨(some (.l (.l (.l (.l (.l (.l (.l .z)))))))), .mv (.t .z), none, none, []⟩,
        ⟨(some (.r (.l (.l (.l (.l (.l (.l .z)))))))), .mv (.t (.r (.r (.r .z)))), none, none, []⟩,
        ⟨(some (.l (.r (.l (.l (.l (.l (.l .z)))))))), .bin .add (.t (.r (.l (.l (.l (.l (.l (.l .z)))))))) (.c (.int .i64 1)), none, none, []⟩,
        ⟨(some (.r (.r (.l (.l (.l (.l (.l .z)))))))), .mv (.t (.r .z)), none, none, []⟩,
        ⟨(some (.l (.l (.r (.l (.l (.l (.l .z)))))))), .mv (.t (.l (.l .z))), none, none, []⟩,
        ⟨(some (.r (.l (.r (.l (.l (.l (.l .z)))))))), .call 57 [(.t (.l (.l (.l (.l (.l (.l (.l .z)))))))), (.t (.l (.r (.l (.l (.l (.l (.l .z)))))))), (.t (.r (.r (.l (.l (.l (.l (.l .z)))))))), (.t (.l (.l (.r (.l (.l (.l (.l .z))))))))], none, none, []⟩])
      (.region false 0 [
        ⟨(some (.l (.r (.r (.l (.l (.l (.l .z)))))))), .mv (.t (.r (.r (.r .z)))), none, none, []⟩,
        ⟨(some (.r .z)), .mv (.t (.l (.r (.r (.l (.l (.l (.l .z)))))))), none, none, []⟩]))))))))))))))))))))))⟩
def AF58 : AFunc := ⟨53, [],
  (.seq (.region false 0 [
    ⟨(some (.r (.r (.l .z)))), .mv (.t (.l .z)), none, none, []⟩,
    ⟨(some (.l (.l (.r .z)))), .bin .add (.t (.r (.r (.l .z)))) (.c (.int .i64 1)), none, none, []⟩,
    ⟨(some (.r (.l (.l .z)))), .mv (.t (.l (.l (.r .z)))), none, none, []⟩])
  (.block 0 (.loop (.seq (.seq (.region false 0 [
      ⟨(some (.r (.l (.r .z)))), .mv (.t (.r (.l (.l .z)))), none, none, []⟩,
      ⟨(some (.l (.r (.r .z)))), .mv (.t (.r .z)), none, none, []⟩,
      ⟨(some (.r (.r (.r .z)))), .bin .lss (.t (.r (.l (.r .z)))) (.t (.l (.r (.r .z)))), none, none, []⟩])
    (.cond (.t (.r (.r (.r .z))))
    .skip
    (.exit 0)))
    (.seq (.block 1 (.seq (.region false 0 [
       ⟨(some (.l (.r (.l (.l .z))))), .mv (.t (.r (.l (.l .z)))), none, none, []⟩,
       ⟨(some (.l (.r (.l .z)))), .mv (.t (.l (.r (.l (.l .z))))), none, none, []⟩])
     (.block 2 (.loop (.seq (.seq (.region true 0 [
         ⟨(some (.r (.r (.l (.l .z))))), .mv (.t (.l (.r (.l .z)))), none, none, []⟩,
         ⟨(some (.l (.l (.r (.l .z))))), .mv (.t (.l .z)), none, none, []⟩,
         ⟨(some (.r (.l (.r (.l .z))))), .bin .gtr (.t (.r (.r (.l (.l .z))))) (.t (.l (.l (.r (.l .z))))), none, none, [0, 1]⟩,
         ⟨(some (.l (.r (.r (.l .z))))), .mv (.t (.r (.l (.r (.l .z))))), none, none, [0, 1, 2]⟩,
         ⟨(some (.r (.r (.r (.l .z))))), .mv (.t (.l (.l .z))), (some ((.l (.r (.r (.l .z)))), true)), none, [0, 1, 2, 3]⟩,
         ⟨(some (.l (.l (.l (.r .z))))), .mv (.t .z), (some ((.l (.r (.r (.l .z)))), true)), none, [0, 1, 2, 3]⟩,
         ⟨(some (.r (.l (.l (.r .z))))), .mv (.t (.l (.r (.l .z)))), (some ((.l (.r (.r (.l .z)))), true)), none, [0, 1, 2, 3]⟩,
         ⟨(some (.l (.r (.l (.r .z))))), .idxS 1 (.t (.l (.l (.l (.r .z))))) (.t (.r (.l (.l (.r .z))))), (some ((.l (.r (.r (.l .z)))), true)), none, [0, 1, 2, 3, 5, 6]⟩,
         ⟨(some (.r (.r (.l (.r .z))))), .load false 1 (.t (.l (.r (.l (.r .z))))), (some ((.l (.r (.r (.l .z)))), true)), none, [0, 1, 2, 3, 5, 6, 7]⟩,
         ⟨(some (.l (.l (.r (.r .z))))), .mv (.t .z), (some ((.l (.r (.r (.l .z)))), true)), none, [0, 1, 2, 3]⟩,
         ⟨(some (.r (.l (.r (.r .z))))), .mv (.t (.l (.r (.l .z)))), (some ((.l (.r (.r (.l .z)))), true)), none, [0, 1, 2, 3]⟩,
         ⟨(some (.l (.r (.r (.r .z))))), .bin .sub (.t (.r (.l (.r (.r .z))))) (.c (.int .i64 1)), (some ((.l (.r (.r (.l .z)))), true)), none, [0, 1, 2, 3, 10]⟩,
         ⟨(some (.r (.r (.r (.r .z))))), .idxS 1 (.t (.l (.l (.r (.r .z))))) (.t (.l (.r (.r (.r .z))))), (some ((.l (.r (.r (.l .z)))), true)), none, [0, 1, 2, 3, 9, 10, 11]⟩,
         ⟨(some (.l (.l (.l (.l (.l .z)))))), .load false 1 (.t (.r (.r (.r (.r .z))))), (some ((.l (.r (.r (.l .z)))), true)), none, [0, 1, 2, 3, 9, 10, 11, 12]⟩,
         ⟨(some (.r (.l (.l (.l (.l .z)))))), .callv (.t (.r (.r (.r (.l .z))))) [(.t (.r (.r (.l (.r .z))))), (.t (.l (.l (.l (.l (.l .z))))))], (some ((.l (.r (.r (.l .z)))), true)), none, [0, 1, 2, 3, 4, 5, 6, 7, 8, 9, 10, 11, 12, 13]⟩,
         ⟨(some (.l (.r (.l (.l (.l .z)))))), .bin .lss (.t (.r (.l (.l (.l (.l .z)))))) (.c (.int .i64 0)), (some ((.l (.r (.r (.l .z)))), true)), none, [0, 1, 2, 3, 4, 5, 6, 7, 8, 9, 10, 11, 12, 13, 14]⟩,
         ⟨(some (.r (.r (.l (.l (.l .z)))))), .pick (.t (.l (.r (.r (.l .z))))) (.t (.l (.r (.l (.l (.l .z)))))) (.c (.bool false)), none, none, [0, 1, 2, 3, 4, 5, 6, 7, 8, 9, 10, 11, 12, 13, 14, 15]⟩])
       (.cond (.t (.r (.r (.l (.l (.l .z))))))
       .skip
       (.exit 2)))
       (.seq (.block 3 (.region true 0 [
          ⟨(some (.l (.r (.r (.l (.l .z)))))), .mv (.t .z), none, none, []⟩,
          ⟨(some (.r (.r (.r (.l (.l .z)))))), .mv (.t (.l (.r (.l .z)))), none, none, []⟩,
          ⟨(some (.l (.l (.l (.r (.l .z)))))), .mv (.t .z), none, none, []⟩,
          ⟨(some (.r (.l (.l (.r (.l .z)))))), .mv (.t (.l (.r (.l .z)))), none, none, []⟩,
          ⟨(some (.l (.r (.l (.r (.l .z)))))), .bin .sub (.t (.r (.l (.l (.r (.l .z)))))) (.c (.int .i64 1)), none, none, [3]⟩,
          ⟨(some (.r (.r (.l (.r (.l .z)))))), .mv (.t .z), none, none, []⟩,
          ⟨(some (.l (.l (.r (.r (.l .z)))))), .mv (.t (.l (.r (.l .z)))), none, none, []⟩,
          ⟨(some (.r (.l (.r (.r (.l .z)))))), .bin .sub (.t (.l (.l (.r (.r (.l .z)))))) (.c (.int .i64 1)), none, none, [6]⟩,
          ⟨(some (.l (.r (.r (.r (.l .z)))))), .idxS 1 (.t (.r (.r (.l (.r (.l .z)))))) (.t (.r (.l (.r (.r (.l .z)))))), none, none, [5, 6, 7]⟩,
          ⟨(some (.r (.r (.r (.r (.l .z)))))), .load false 1 (.t (.l (.r (.r (.r (.l .z)))))), none, none, [5, 6, 7, 8]⟩,
          ⟨(some (.l (.l (.l (.l (.r .z)))))), .mv (.t .z), none, none, []⟩,
          ⟨(some (.r (.l (.l (.l (.r .z)))))), .mv (.t (.l (.r (.l .z)))), none, none, []⟩,
          ⟨(some (.l (.r (.l (.l (.r .z)))))), .idxS 1 (.t (.l (.l (.l (.l (.r .z)))))) (.t (.r (.l (.l (.l (.r .z)))))), none, none, [10, 11]⟩,
          ⟨(some (.r (.r (.l (.l (.r .z)))))), .load false 1 (.t (.l (.r (.l (.l (.r .z)))))), none, none, [10, 11, 12]⟩,
          ⟨(some (.l (.l (.r (.l (.r .z)))))), .idxS 1 (.t (.l (.r (.r (.l (.l .z)))))) (.t (.r (.r (.r (.l (.l .z)))))), none, none, [0, 1, 5, 6, 7, 8, 9, 10, 11, 12, 13]⟩,
          ⟨none, .store 1 (.t (.l (.l (.r (.l (.r .z)))))) (.t (.r (.r (.r (.r (.l .z)))))), none, none, [0, 1, 5, 6, 7, 8, 9, 10, 11, 12, 13, 14]⟩,
          ⟨(some (.r (.l (.r (.l (.r .z)))))), .idxS 1 (.t (.l (.l (.l (.r (.l .z)))))) (.t (.l (.r (.l (.r (.l .z)))))), none, none, [0, 1, 2, 3, 4, 5, 6, 7, 8, 9, 10, 11, 12, 13, 14, 15]⟩,
          ⟨none, .store 1 (.t (.r (.l (.r (.l (.r .z)))))) (.t (.r (.r (.l (.l (.r .z)))))), none, none, [0, 1, 2, 3, 4, 5, 6, 7, 8, 9, 10, 11, 12, 13, 14, 15, 16]⟩]))
       (.region false 0 [
         ⟨(some (.l (.l (.r (.l (.l .z)))))), .mv (.t (.l (.r (.l .z)))), none, none, []⟩,
         ⟨(some (.r (.l (.r (.l (.l .z)))))), .bin .sub (.t (.l (.l (.r (.l (.l .z)))))) (.c (.int .i64 1)), none, none, []⟩,
         ⟨(some (.l (.r (.l .z)))), .mv (.t (.r (.l (.r (.l (.l .z)))))), none, none, []⟩])))))))
    (.region false 0 [
      ⟨(some (.l (.l (.l (.l .z))))), .mv (.t (.r (.l (.l .z)))), none, none, []⟩,
      ⟨(some (.r (.l (.l (.l .z))))), .bin .add (.t (.l (.l (.l (.l .z))))) (.c (.int .i64 1)), none, none, []⟩,
      ⟨(some (.r (.l (.l .z)))), .mv (.t (.r (.l (.l (.l .z))))), none, none, []⟩]))))))⟩
def AF67 : AFunc := ⟨25, [.tmp (.r .z)],
  (.seq (.region false 0 [
    ⟨(some (.r .z)), .mv (.c (.int .i64 0)), none, none, []⟩])
  (.seq (.seq (.region false 0 [
    ⟨(some (.l (.l .z))), .mv (.t .z), none, none, []⟩,
    ⟨(some (.r (.l .z))), .bin .geq (.t (.l (.l .z))) (.c (.int .u64 4294967296)), none, none, []⟩])
  (.cond (.t (.r (.l .z)))
  (.seq (.region false 0 [
     ⟨(some (.l (.r .z))), .mv (.t .z), none, none, []⟩,
     ⟨(some (.r (.r .z))), .bin .shr (.t (.l (.r .z))) (.c (.int .u64 32)), none, none, []⟩,
     ⟨(some .z), .mv (.t (.r (.r .z))), none, none, []⟩])
   (.region false 0 [
     ⟨(some (.r .z)), .mv (.c (.int .i64 32)), none, none, []⟩]))
  .skip))
  (.seq (.seq (.region false 0 [
    ⟨(some (.l (.l (.l .z)))), .mv (.t .z), none, none, []⟩,
    ⟨(some (.r (.l (.l .z)))), .bin .geq (.t (.l (.l (.l .z)))) (.c (.int .u64 65536)), none, none, []⟩])
  (.cond (.t (.r (.l (.l .z))))
  (.seq (.region false 0 [
     ⟨(some (.l (.r (.l .z)))), .mv (.t .z), none, none, []⟩,
     ⟨(some (.r (.r (.l .z)))), .bin .shr (.t (.l (.r (.l .z)))) (.c (.int .u64 16)), none, none, []⟩,
     ⟨(some .z), .mv (.t (.r (.r (.l .z)))), none, none, []⟩])
   (.region false 0 [
     ⟨(some (.l (.l (.r .z)))), .mv (.t (.r .z)), none, none, []⟩,
     ⟨(some (.r (.l (.r .z)))), .bin .add (.t (.l (.l (.r .z)))) (.c (.int .i64 16)), none, none, []⟩,
     ⟨(some (.r .z)), .mv (.t (.r (.l (.r .z)))), none, none, []⟩]))
  .skip))
  (.seq (.seq (.region false 0 [
    ⟨(some (.l (.r (.r .z)))), .mv (.t .z), none, none, []⟩,
    ⟨(some (.r (.r (.r .z)))), .bin .geq (.t (.l (.r (.r .z)))) (.c (.int .u64 256)), none, none, []⟩])
  (.cond (.t (.r (.r (.r .z))))
  (.seq (.region false 0 [
     ⟨(some (.l (.l (.l (.l .z))))), .mv (.t .z), none, none, []⟩,
     ⟨(some (.r (.l (.l (.l .z))))), .bin .shr (.t (.l (.l (.l (.l .z))))) (.c (.int .u64 8)), none, none, []⟩,
     ⟨(some .z), .mv (.t (.r (.l (.l (.l .z))))), none, none, []⟩])
   (.region false 0 [
     ⟨(some (.l (.r (.l (.l .z))))), .mv (.t (.r .z)), none, none, []⟩,
     ⟨(some (.r (.r (.l (.l .z))))), .bin .add (.t (.l (.r (.l (.l .z))))) (.c (.int .i64 8)), none, none, []⟩,
     ⟨(some (.r .z)), .mv (.t (.r (.r (.l (.l .z))))), none, none, []⟩]))
  .skip))
  (.seq (.region false 0 [
    ⟨(some (.l (.l (.r (.l .z))))), .mv (.t (.r .z)), none, none, []⟩,
    ⟨(some (.r (.l (.r (.l .z))))), .mv (.t .z), none, none, []⟩,
    ⟨(some (.l (.r (.r (.l .z))))), .conv (.toInt .u8) (.t (.r (.l (.r (.l .z))))), none, none, []⟩,
    ⟨(some (.r (.r (.r (.l .z))))), .idxStr (.c (.str [0, 1, 2, 2, 3, 3, 3, 3, 4, 4, 4, 4, 4, 4, 4, 4, 5, 5, 5, 5, 5, 5, 5, 5, 5, 5, 5, 5, 5, 5, 5, 5, 6, 6, 6, 6, 6, 6, 6, 6, 6, 6, 6, 6, 6, 6, 6, 6, 6, 6, 6, 6, 6, 6, 6, 6, 6, 6, 6, 6, 6, 6, 6, 6, 7, 7, 7, 7, 7, 7, 7, 7, 7, 7, 7, 7, 7, 7, 7, 7, 7, 7, 7, 7, 7, 7, 7, 7, 7, 7, 7, 7, 7, 7, 7, 7, 7, 7, 7, 7, 7, 7, 7, 7, 7, 7, 7, 7, 7, 7, 7, 7, 7, 7, 7, 7, 7, 7, 7, 7, 7, 7, 7, 7, 7, 7, 7, 7, 8, 8, 8, 8, 8, 8, 8, 8, 8, 8, 8, 8, 8, 8, 8, 8, 8, 8, 8, 8, 8, 8, 8, 8, 8, 8, 8, 8, 8, 8, 8, 8, 8, 8, 8, 8, 8, 8, 8, 8, 8, 8, 8, 8, 8, 8, 8, 8, 8, 8, 8, 8, 8, 8, 8, 8, 8, 8, 8, 8, 8, 8, 8, 8, 8, 8, 8, 8, 8, 8, 8, 8, 8, 8, 8, 8, 8, 8, 8, 8, 8, 8, 8, 8, 8, 8, 8, 8, 8, 8, 8, 8, 8, 8, 8, 8, 8, 8, 8, 8, 8, 8, 8, 8, 8, 8, 8, 8, 8, 8, 8, 8, 8, 8, 8, 8, 8, 8, 8, 8, 8, 8, 8, 8, 8, 8, 8, 8])) (.t (.l (.r (.r (.l .z))))), none, none, []⟩,
    ⟨(some (.l (.l (.l (.r .z))))), .conv (.toInt .i64) (.t (.r (.r (.r (.l .z))))), none, none, []⟩,
    ⟨(some (.r (.l (.l (.r .z))))), .bin .add (.t (.l (.l (.r (.l .z))))) (.t (.l (.l (.l (.r .z))))), none, none, []⟩,
    ⟨(some (.r .z)), .mv (.t (.r (.l (.l (.r .z))))), none, none, []⟩])
  .ret)))))⟩
def AF69 : AFunc := ⟨19, [.tmp (.r (.l .z))],
  (.seq (.region false 0 [
    ⟨(some (.r (.l .z))), .mv (.c (.int .i64 0)), none, none, []⟩])
  (.seq (.seq (.region false 0 [
    ⟨(some (.r (.r .z))), .mv (.t .z), none, none, []⟩,
    ⟨(some (.l (.l (.l .z)))), .len .slice (.t (.r (.r .z))), none, none, []⟩,
    ⟨(some (.r (.l (.l .z)))), .mv (.c (.int .i64 0)), none, none, []⟩])
  (.block 0 (.loop (.seq (.region false 0 [
      ⟨(some (.l (.r (.l .z)))), .bin .lss (.t (.r (.l (.l .z)))) (.t (.l (.l (.l .z)))), none, none, []⟩])
    (.seq (.cond (.t (.l (.r (.l .z))))
    .skip
    (.exit 0))
    (.seq (.block 1 (.seq (.region false 0 [
       ⟨(some (.r (.r (.l .z)))), .mv (.t (.r (.l (.l .z)))), none, none, []⟩,
       ⟨(some (.l (.r .z))), .mv (.t (.r (.r (.l .z)))), none, none, []⟩])
     (.seq (.region false 0 [
       ⟨(some (.l (.l (.r .z)))), .mv (.t (.l .z)), none, none, []⟩,
       ⟨(some (.r (.l (.r .z)))), .mv (.t .z), none, none, []⟩,
       ⟨(some (.l (.r (.r .z)))), .mv (.t (.l (.r .z))), none, none, []⟩,
       ⟨(some (.r (.r (.r .z)))), .idxS 9 (.t (.r (.l (.r .z)))) (.t (.l (.r (.r .z)))), none, none, []⟩,
       ⟨(some (.l (.l (.l (.l .z))))), .load true 9 (.t (.r (.r (.r .z)))), none, none, []⟩,
       ⟨(some (.r (.l (.l (.l .z))))), .callv (.t (.l (.l (.r .z)))) [(.t (.l (.l (.l (.l .z)))))], none, none, []⟩])
     (.cond (.t (.r (.l (.l (.l .z)))))
     (.seq (.region false 0 [
        ⟨(some (.l (.r (.l (.l .z))))), .mv (.t (.l (.r .z))), none, none, []⟩,
        ⟨(some (.r (.l .z))), .mv (.t (.l (.r (.l (.l .z))))), none, none, []⟩])
      .ret)
     .skip))))
    (.region false 0 [
      ⟨(some (.r (.r (.l (.l .z))))), .bin .add (.t (.r (.l (.l .z)))) (.c (.int .i64 1)), none, none, []⟩,
      ⟨(some (.r (.l (.l .z)))), .mv (.t (.r (.r (.l (.l .z))))), none, none, []⟩])))))))
  (.seq (.region false 0 [
    ⟨(some (.r (.l .z))), .mv (.c (.int .i64 (-1))), none, none, []⟩])
  .ret)))⟩
def AF70 : AFunc := ⟨50, [.tmp (.r .z)],
  (.seq (.region false 0 [
    ⟨(some (.l .z)), .box 9 9 (.t .z), none, none, []⟩,
    ⟨(some (.r .z)), .mv (.c (.int .i64 0)), none, none, []⟩])
  (.seq (.seq (.region false 0 [
    ⟨(some (.r (.r .z))), .fieldA 0 (.t (.l .z)), none, none, []⟩,
    ⟨(some (.l (.l (.l .z)))), .load true 3 (.t (.r (.r .z))), none, none, []⟩,
    ⟨(some (.r (.l (.l .z)))), .call 25 [(.t (.l (.l (.l .z))))], none, none, []⟩,
    ⟨(some (.l (.l .z))), .mv (.t (.r (.l (.l .z)))), none, none, []⟩])
  (.seq (.region false 0 [
    ⟨(some (.l (.r (.l .z)))), .mv (.t (.l (.l .z))), none, none, []⟩,
    ⟨(some (.r (.r (.l .z)))), .eql true false [.i] (.t (.l (.r (.l .z)))) (.c (.int .i64 0)), none, none, []⟩])
  (.cond (.t (.r (.r (.l .z))))
  (.seq (.region false 0 [
     ⟨(some (.l (.l (.r .z)))), .mv (.t (.l (.l .z))), none, none, []⟩,
     ⟨(some (.r .z)), .mv (.t (.l (.l (.r .z)))), none, none, []⟩])
   .ret)
  .skip)))
  (.seq (.region false 0 [
    ⟨(some (.r (.l (.r .z)))), .fieldA 3 (.t (.l .z)), none, none, []⟩,
    ⟨(some (.l (.r (.r .z)))), .load false 1 (.t (.r (.l (.r .z)))), none, none, []⟩,
    ⟨(some (.r (.r (.r .z)))), .build [(.int .i64 0), (.int .i64 0), (.int .i64 0)] [(0, 1, (.t (.l (.r (.r .z))))), (1, 1, (.c (.int .i64 1))), (2, 1, (.c (.int .i64 16)))], none, none, []⟩,
    ⟨(some (.l (.l (.l (.l .z))))), .fieldA 4 (.t (.l .z)), none, none, []⟩,
    ⟨(some (.r (.l (.l (.l .z))))), .load false 1 (.t (.l (.l (.l (.l .z))))), none, none, []⟩,
    ⟨(some (.l (.r (.l (.l .z))))), .build [(.int .i64 0), (.int .i64 0), (.int .i64 0)] [(0, 1, (.t (.r (.l (.l (.l .z)))))), (1, 1, (.c (.int .i64 0))), (2, 1, (.c (.int .i64 2)))], none, none, []⟩,
    ⟨(some (.r (.r (.l (.l .z))))), .fieldA 5 (.t (.l .z)), none, none, []⟩,
    ⟨(some (.l (.l (.r (.l .z))))), .load false 1 (.t (.r (.r (.l (.l .z))))), none, none, []⟩,
    ⟨(some (.r (.l (.r (.l .z))))), .build [(.int .i64 0), (.int .i64 0), (.int .i64 0)] [(0, 1, (.t (.l (.l (.r (.l .z)))))), (1, 1, (.c (.int .i64 0))), (2, 1, (.c (.int .i64 1099511627776)))], none, none, []⟩,
    ⟨(some (.l (.r (.r (.l .z))))), .fieldA 6 (.t (.l .z)), none, none, []⟩,
    ⟨(some (.r (.r (.r (.l .z))))), .load false 1 (.t (.l (.r (.r (.l .z))))), none, none, []⟩,
    ⟨(some (.l (.l (.l (.r .z))))), .build [(.int .i64 0), (.int .i64 0), (.int .i64 0)] [(0, 1, (.t (.r (.r (.r (.l .z)))))), (1, 1, (.c (.int .i64 1))), (2, 1, (.c (.int .i64 1048576)))], none, none, []⟩,
    ⟨(some (.r (.l (.l (.r .z))))), .fieldA 7 (.t (.l .z)), none, none, []⟩,
    ⟨(some (.l (.r (.l (.r .z))))), .load false 1 (.t (.r (.l (.l (.r .z))))), none, none, []⟩,
    ⟨(some (.r (.r (.l (.r .z))))), .build [(.int .i64 0), (.int .i64 0), (.int .i64 0)] [(0, 1, (.t (.l (.r (.l (.r .z)))))), (1, 1, (.c (.int .i64 1))), (2, 1, (.c (.int .i64 20000)))], none, none, []⟩,
    ⟨(some (.l (.l (.r (.r .z))))), .build [(.int .i64 0), (.int .i64 0), (.int .i64 0), (.int .i64 0), (.int .i64 0), (.int .i64 0), (.int .i64 0), (.int .i64 0), (.int .i64 0), (.int .i64 0), (.int .i64 0), (.int .i64 0), (.int .i64 0), (.int .i64 0), (.int .i64 0)] [(0, 3, (.t (.r (.r (.r .z))))), (3, 3, (.t (.l (.r (.l (.l .z)))))), (6, 3, (.t (.r (.l (.r (.l .z)))))), (9, 3, (.t (.l (.l (.l (.r .z)))))), (12, 3, (.t (.r (.r (.l (.r .z))))))], none, none, []⟩,
    ⟨(some (.r (.l .z))), .alloc 3 [[(.int .i64 0), (.int .i64 0), (.int .i64 0)], [(.int .i64 0), (.int .i64 0), (.int .i64 0)], [(.int .i64 0), (.int .i64 0), (.int .i64 0)], [(.int .i64 0), (.int .i64 0), (.int .i64 0)], [(.int .i64 0), (.int .i64 0), (.int .i64 0)]], none, none, []⟩,
    ⟨none, .store 15 (.t (.r (.l .z))) (.t (.l (.l (.r (.r .z))))), none, none, []⟩])
  (.seq (.seq (.region false 0 [
    ⟨(some (.r (.l (.r (.r .z))))), .fieldA 8 (.t (.l .z)), none, none, []⟩,
    ⟨(some (.l (.r (.r (.r .z))))), .load false 1 (.t (.r (.l (.r (.r .z))))), none, none, []⟩,
    ⟨(some (.r (.r (.r (.r .z))))), .len .str (.t (.l (.r (.r (.r .z))))), none, none, []⟩,
    ⟨(some (.l (.r .z))), .mv (.t (.r (.r (.r (.r .z))))), none, none, []⟩])
  (.block 0 (.seq (.region false 0 [
     ⟨(some (.r (.l (.l (.l (.l .z)))))), .sliceA 3 5 (.t (.r (.l .z))) none none none, none, none, []⟩,
     ⟨(some (.l (.r (.l (.l (.l .z)))))), .call 40 [(.t (.r (.l (.l (.l (.l .z))))))], none, none, []⟩,
     ⟨(some (.r (.r (.l (.l (.l .z)))))), .un .not (.t (.l (.r (.l (.l (.l .z)))))), none, none, []⟩,
     ⟨(some (.l (.l (.l (.l (.l .z)))))), .mv (.t (.r (.r (.l (.l (.l .z)))))), none, none, []⟩])
   (.cond (.t (.l (.l (.l (.l (.l .z))))))
   (.seq (.region false 0 [
      ⟨(some (.r .z)), .mv (.c (.int .i64 2)), none, none, []⟩])
    .ret)
   (.seq (.region false 0 [
      ⟨(some (.r (.l (.r (.l (.l .z)))))), .mv (.t (.l (.r .z))), none, none, []⟩,
      ⟨(some (.l (.r (.r (.l (.l .z)))))), .eql false false [.i] (.t (.r (.l (.r (.l (.l .z)))))) (.c (.int .i64 0)), none, none, []⟩,
      ⟨(some (.l (.l (.r (.l (.l .z)))))), .mv (.t (.l (.r (.r (.l (.l .z)))))), none, none, []⟩])
    (.cond (.t (.l (.l (.r (.l (.l .z))))))
    (.seq (.region false 0 [
       ⟨(some (.r .z)), .mv (.c (.int .i64 11)), none, none, []⟩])
     .ret)
    (.seq (.region false 0 [
       ⟨(some (.l (.l (.l (.r (.l .z)))))), .mv (.t (.l (.r .z))), none, none, []⟩,
       ⟨(some (.r (.l (.l (.r (.l .z)))))), .bin .gtr (.t (.l (.l (.l (.r (.l .z)))))) (.c (.int .i64 1000)), none, none, []⟩,
       ⟨(some (.r (.r (.r (.l (.l .z)))))), .mv (.t (.r (.l (.l (.r (.l .z)))))), none, none, []⟩])
     (.cond (.t (.r (.r (.r (.l (.l .z))))))
     (.seq (.region false 0 [
        ⟨(some (.r .z)), .mv (.c (.int .i64 4)), none, none, []⟩])
      .ret)
     (.seq (.region false 0 [
        ⟨(some (.r (.r (.l (.r (.l .z)))))), .fieldA 0 (.t (.l .z)), none, none, []⟩,
        ⟨(some (.l (.l (.r (.r (.l .z)))))), .fieldA 2 (.t (.r (.r (.l (.r (.l .z)))))), none, none, []⟩,
        ⟨(some (.r (.l (.r (.r (.l .z)))))), .load false 1 (.t (.l (.l (.r (.r (.l .z)))))), none, none, []⟩,
        ⟨(some (.l (.r (.r (.r (.l .z)))))), .fieldA 7 (.t (.l .z)), none, none, []⟩,
        ⟨(some (.r (.r (.r (.r (.l .z)))))), .load false 1 (.t (.l (.r (.r (.r (.l .z)))))), none, none, []⟩,
        ⟨(some (.l (.l (.l (.l (.r .z)))))), .mv (.t (.l (.r .z))), none, none, []⟩,
        ⟨(some (.r (.l (.l (.l (.r .z)))))), .bin .sub (.t (.r (.r (.r (.r (.l .z)))))) (.t (.l (.l (.l (.l (.r .z)))))), none, none, []⟩,
        ⟨(some (.l (.r (.l (.l (.r .z)))))), .bin .gtr (.t (.r (.l (.r (.r (.l .z)))))) (.t (.r (.l (.l (.l (.r .z)))))), none, none, []⟩,
        ⟨(some (.l (.r (.l (.r (.l .z)))))), .mv (.t (.l (.r (.l (.l (.r .z)))))), none, none, []⟩])
      (.cond (.t (.l (.r (.l (.r (.l .z))))))
      (.seq (.region false 0 [
         ⟨(some (.r .z)), .mv (.c (.int .i64 12)), none, none, []⟩])
       .ret)
      .skip))))))))))
  (.seq (.region false 0 [
    ⟨(some (.r .z)), .mv (.c (.int .i64 0)), none, none, []⟩])
  .ret)))))⟩
def AF71 : AFunc := ⟨21, [.tmp (.r (.l .z)), .tmp (.l (.r .z))],
  (.seq (.region false 0 [
    ⟨(some (.r .z)), .box 9 9 (.t .z), none, none, []⟩,
    ⟨(some (.r (.l .z))), .mv (.c (.bool false)), none, none, []⟩,
    ⟨(some (.l (.r .z))), .mv (.c (.int .i64 0)), none, none, []⟩])
  (.seq (.region false 0 [
    ⟨(some (.l (.r (.l .z)))), .load true 9 (.t (.r .z)), none, none, []⟩,
    ⟨(some (.r (.r (.l .z)))), .mv (.t (.l .z)), none, none, []⟩,
    ⟨(some (.l (.l (.r .z)))), .call 106 [(.t (.l (.r (.l .z)))), (.t (.r (.r (.l .z))))], none, none, []⟩,
    ⟨(some (.r (.l (.l .z)))), .mv (.t (.l (.l (.r .z)))), none, none, []⟩,
    ⟨(some (.r (.l (.r .z)))), .ext (.t (.r (.l (.l .z)))) 0, none, none, []⟩,
    ⟨(some (.l (.r (.r .z)))), .ext (.t (.r (.l (.l .z)))) 1, none, none, []⟩,
    ⟨(some (.r (.r .z))), .mv (.t (.r (.l (.r .z)))), none, none, []⟩,
    ⟨(some (.l (.l (.l .z)))), .mv (.t (.l (.r (.r .z)))), none, none, []⟩])
  (.seq (.region false 0 [
    ⟨(some (.r (.r (.r .z)))), .mv (.t (.r (.r .z))), none, none, []⟩,
    ⟨(some (.l (.l (.l (.l .z))))), .bin .leq (.t (.r (.r (.r .z)))) (.c (.int .i64 0)), none, none, []⟩,
    ⟨(some (.r (.l (.l (.l .z))))), .mv (.t (.l (.l (.l (.l .z))))), none, none, []⟩,
    ⟨(some (.l (.r (.l (.l .z))))), .mv (.t (.l (.l (.l .z)))), (some ((.r (.l (.l (.l .z)))), true)), none, []⟩,
    ⟨(some (.r (.r (.l (.l .z))))), .eql false false [.i] (.t (.l (.r (.l (.l .z))))) (.c (.int .i64 0)), (some ((.r (.l (.l (.l .z)))), true)), none, []⟩,
    ⟨(some (.l (.l (.r (.l .z))))), .pick (.t (.r (.l (.l (.l .z))))) (.t (.r (.r (.l (.l .z))))) (.c (.bool false)), none, none, []⟩,
    ⟨(some (.r (.l (.r (.l .z))))), .mv (.t (.l (.l (.l .z)))), none, none, []⟩,
    ⟨(some (.r (.l .z))), .mv (.t (.l (.l (.r (.l .z))))), none, none, []⟩,
    ⟨(some (.l (.r .z))), .mv (.t (.r (.l (.r (.l .z))))), none, none, []⟩])
  .ret)))⟩
def AF72 : AFunc := ⟨25, [.tmp (.r (.l .z)), .tmp (.l (.r .z))],
  (.seq (.region false 0 [
    ⟨(some (.l (.l .z))), .box 3 3 (.t (.l .z)), none, none, []⟩,
    ⟨(some (.r (.l .z))), .mv (.c (.bool false)), none, none, []⟩,
    ⟨(some (.l (.r .z))), .mv (.c (.int .i64 0)), none, none, []⟩])
  (.seq (.seq (.region false 0 [
    ⟨(some (.l (.l (.r .z)))), .mv (.t .z), none, none, []⟩,
    ⟨(some (.r (.l (.r .z)))), .call 107 [(.t (.l (.l (.r .z))))], none, none, []⟩,
    ⟨(some (.r (.r (.l .z)))), .mv (.t (.r (.l (.r .z)))), none, none, []⟩,
    ⟨(some (.l (.r (.r .z)))), .ext (.t (.r (.r (.l .z)))) 0, none, none, []⟩,
    ⟨(some (.r (.r (.r .z)))), .ext (.t (.r (.r (.l .z)))) 1, none, none, []⟩,
    ⟨(some (.r (.r .z))), .mv (.t (.l (.r (.r .z)))), none, none, []⟩,
    ⟨(some (.l (.l (.l .z)))), .mv (.t (.r (.r (.r .z)))), none, none, []⟩])
  (.seq (.region false 0 [
    ⟨(some (.l (.l (.l (.l .z))))), .mv (.t (.r (.r .z))), none, none, []⟩,
    ⟨(some (.r (.l (.l (.l .z))))), .eql true false [.i] (.t (.l (.l (.l (.l .z))))) (.c (.int .i64 0)), none, none, []⟩])
  (.cond (.t (.r (.l (.l (.l .z)))))
  (.seq (.region false 0 [
     ⟨(some (.l (.r (.l (.l .z))))), .mv (.t (.r (.r .z))), none, none, []⟩,
     ⟨(some (.r (.l .z))), .mv (.c (.bool false)), none, none, []⟩,
     ⟨(some (.l (.r .z))), .mv (.t (.l (.r (.l (.l .z))))), none, none, []⟩])
   .ret)
  .skip)))
  (.seq (.region false 0 [
    ⟨(some (.l (.l (.r (.l .z))))), .mv (.t .z), none, none, []⟩,
    ⟨(some (.r (.l (.r (.l .z))))), .load true 3 (.t (.l (.l .z))), none, none, []⟩,
    ⟨(some (.l (.r (.r (.l .z))))), .call 108 [(.t (.l (.l (.r (.l .z))))), (.t (.r (.l (.r (.l .z)))))], none, none, []⟩,
    ⟨(some (.r (.r (.l (.l .z))))), .mv (.t (.l (.r (.r (.l .z))))), none, none, []⟩,
    ⟨(some (.r (.r (.r (.l .z))))), .ext (.t (.r (.r (.l (.l .z))))) 0, none, none, []⟩,
    ⟨(some (.l (.l (.l (.r .z))))), .ext (.t (.r (.r (.l (.l .z))))) 1, none, none, []⟩,
    ⟨(some (.r (.l (.l .z)))), .mv (.t (.r (.r (.r (.l .z))))), none, none, []⟩,
    ⟨(some (.l (.r (.l .z)))), .mv (.t (.l (.l (.l (.r .z))))), none, none, []⟩])
  (.seq (.region false 0 [
    ⟨(some (.r (.l (.l (.r .z))))), .mv (.t (.l (.r (.l .z)))), none, none, []⟩,
    ⟨(some (.r (.l .z))), .mv (.t (.r (.l (.l (.r .z))))), none, none, []⟩,
    ⟨(some (.l (.r .z))), .mv (.c (.int .i64 0)), none, none, []⟩])
  .ret))))⟩
def AF73 : AFunc := ⟨9, [.tmp (.r (.l .z))],
  (.seq (.region false 0 [
    ⟨(some (.l (.l .z))), .box 9 9 (.t (.l .z)), none, none, []⟩,
    ⟨(some (.r (.l .z))), .mv (.c (.bool false)), none, none, []⟩])
  (.seq (.region false 0 [
    ⟨(some (.l (.r .z))), .mv (.t .z), none, none, []⟩,
    ⟨(some (.r (.r .z))), .load true 9 (.t (.l (.l .z))), none, none, []⟩,
    ⟨(some (.l (.l (.l .z)))), .call 109 [(.t (.l (.r .z))), (.t (.r (.r .z)))], none, none, []⟩,
    ⟨(some (.r (.l (.l .z)))), .bin .geq (.t (.l (.l (.l .z)))) (.c (.int .i64 0)), none, none, []⟩,
    ⟨(some (.r (.l .z))), .mv (.t (.r (.l (.l .z)))), none, none, []⟩])
  .ret))⟩
def AF74 : AFunc := ⟨125, [.tmp (.r .z)],
  (.seq (.region false 0 [
    ⟨(some (.l .z)), .box 8 8 (.t .z), none, none, []⟩,
    ⟨(some (.r .z)), .mv (.c (.int .i64 0)), none, none, []⟩])
  (.seq (.seq (.region false 0 [
    ⟨(some (.r (.l (.r .z)))), .fieldA 0 (.t (.l .z)), none, none, []⟩,
    ⟨(some (.l (.r (.r .z)))), .load false 1 (.t (.r (.l (.r .z)))), none, none, []⟩,
    ⟨(some (.r (.r (.r .z)))), .bin .lss (.t (.l (.r (.r .z)))) (.c (.int .i64 1)), none, none, []⟩,
    ⟨(some (.l (.l (.l (.l .z))))), .mv (.t (.r (.r (.r .z)))), none, none, []⟩,
    ⟨(some (.r (.l (.l (.l .z))))), .fieldA 0 (.t (.l .z)), (some ((.l (.l (.l (.l .z)))), false)), none, []⟩,
    ⟨(some (.l (.r (.l (.l .z))))), .load false 1 (.t (.r (.l (.l (.l .z))))), (some ((.l (.l (.l (.l .z)))), false)), none, []⟩,
    ⟨(some (.r (.r (.l (.l .z))))), .bin .gtr (.t (.l (.r (.l (.l .z))))) (.c (.int .i64 16)), (some ((.l (.l (.l (.l .z)))), false)), none, []⟩,
    ⟨(some (.l (.l (.r (.l .z))))), .pick (.t (.l (.l (.l (.l .z))))) (.c (.bool true)) (.t (.r (.r (.l (.l .z))))), none, none, []⟩,
    ⟨(some (.r (.l (.r (.l .z))))), .mv (.t (.l (.l (.r (.l .z))))), none, none, []⟩,
    ⟨(some (.l (.r (.r (.l .z))))), .fieldA 1 (.t (.l .z)), (some ((.r (.l (.r (.l .z)))), false)), none, []⟩,
    ⟨(some (.r (.r (.r (.l .z))))), .load false 1 (.t (.l (.r (.r (.l .z))))), (some ((.r (.l (.r (.l .z)))), false)), none, []⟩,
    ⟨(some (.l (.l (.l (.r .z))))), .bin .gtr (.t (.r (.r (.r (.l .z))))) (.c (.int .u64 1099511627776)), (some ((.r (.l (.r (.l .z)))), false)), none, []⟩,
    ⟨(some (.r (.l (.l (.r .z))))), .pick (.t (.r (.l (.r (.l .z))))) (.c (.bool true)) (.t (.l (.l (.l (.r .z))))), none, none, []⟩])
  (.cond (.t (.r (.l (.l (.r .z)))))
  (.seq (.region false 0 [
     ⟨(some (.r .z)), .mv (.c (.int .i64 2)), none, none, []⟩])
   .ret)
  .skip))
  (.seq (.seq (.region false 0 [
    ⟨(some (.l (.r (.l (.r .z))))), .fieldA 2 (.t (.l .z)), none, none, []⟩,
    ⟨(some (.r (.r (.l (.r .z))))), .load true 3 (.t (.l (.r (.l (.r .z))))), none, none, []⟩,
    ⟨(some (.l (.l (.r (.r .z))))), .build [(.int .i64 0), (.int .u64 0), (.int .i64 0)] [], none, none, []⟩,
    ⟨(some (.r (.l (.r (.r .z))))), .eql true true [.i, .i, .i] (.t (.r (.r (.l (.r .z))))) (.t (.l (.l (.r (.r .z))))), none, none, []⟩])
  (.cond (.t (.r (.l (.r (.r .z)))))
  (.seq (.seq (.region false 0 [
     ⟨(some (.l (.r (.r (.r .z))))), .fieldA 2 (.t (.l .z)), none, none, []⟩,
     ⟨(some (.r (.r (.r (.r .z))))), .load true 3 (.t (.l (.r (.r (.r .z))))), none, none, []⟩,
     ⟨(some (.l (.l (.l (.l (.l .z)))))), .call 25 [(.t (.r (.r (.r (.r .z)))))], none, none, []⟩,
     ⟨(some (.l (.l .z))), .mv (.t (.l (.l (.l (.l (.l .z)))))), none, none, []⟩])
   (.seq (.region false 0 [
     ⟨(some (.r (.l (.l (.l (.l .z)))))), .mv (.t (.l (.l .z))), none, none, []⟩,
     ⟨(some (.l (.r (.l (.l (.l .z)))))), .eql true false [.i] (.t (.r (.l (.l (.l (.l .z)))))) (.c (.int .i64 0)), none, none, []⟩])
   (.cond (.t (.l (.r (.l (.l (.l .z))))))
   (.seq (.region false 0 [
      ⟨(some (.r (.r (.l (.l (.l .z)))))), .mv (.t (.l (.l .z))), none, none, []⟩,
      ⟨(some (.r .z)), .mv (.t (.r (.r (.l (.l (.l .z)))))), none, none, []⟩])
    .ret)
   .skip)))
   (.seq (.region false 0 [
     ⟨(some (.l (.l (.r (.l (.l .z)))))), .fieldA 2 (.t (.l .z)), none, none, []⟩,
     ⟨(some (.r (.l (.r (.l (.l .z)))))), .fieldA 0 (.t (.l (.l (.r (.l (.l .z)))))), none, none, []⟩,
     ⟨(some (.l (.r (.r (.l (.l .z)))))), .load false 1 (.t (.r (.l (.r (.l (.l .z)))))), none, none, []⟩,
     ⟨(some (.r (.r (.r (.l (.l .z)))))), .fieldA 0 (.t (.l .z)), none, none, []⟩,
     ⟨(some (.l (.l (.l (.r (.l .z)))))), .load false 1 (.t (.r (.r (.r (.l (.l .z)))))), none, none, []⟩,
     ⟨(some (.r (.l (.l (.r (.l .z)))))), .eql true false [.i] (.t (.l (.r (.r (.l (.l .z)))))) (.t (.l (.l (.l (.r (.l .z)))))), none, none, []⟩])
   (.cond (.t (.r (.l (.l (.r (.l .z))))))
   (.seq (.region false 0 [
      ⟨(some (.r .z)), .mv (.c (.int .i64 3)), none, none, []⟩])
    .ret)
   .skip)))
  .skip))
  (.seq (.seq (.region false 0 [
    ⟨(some (.l (.r (.l (.r (.l .z)))))), .fieldA 5 (.t (.l .z)), none, none, []⟩,
    ⟨(some (.r (.r (.l (.r (.l .z)))))), .load false 1 (.t (.l (.r (.l (.r (.l .z)))))), none, none, []⟩,
    ⟨(some (.l (.l (.r (.r (.l .z)))))), .len .slice (.t (.r (.r (.l (.r (.l .z)))))), none, none, []⟩,
    ⟨(some (.r (.l (.r (.r (.l .z)))))), .mv (.c (.int .i64 0)), none, none, []⟩])
  (.block 0 (.loop (.seq (.region false 0 [
      ⟨(some (.l (.r (.r (.r (.l .z)))))), .bin .lss (.t (.r (.l (.r (.r (.l .z)))))) (.t (.l (.l (.r (.r (.l .z)))))), none, none, []⟩])
    (.seq (.cond (.t (.l (.r (.r (.r (.l .z))))))
    .skip
    (.exit 0))
    (.seq (.block 1 (.seq (.region false 0 [
       ⟨(some (.r (.r (.r (.r (.l .z)))))), .mv (.t (.r (.l (.r (.r (.l .z)))))), none, none, []⟩,
       ⟨(some (.l (.l (.l (.l (.r .z)))))), .idxS 9 (.t (.r (.r (.l (.r (.l .z)))))) (.t (.r (.l (.r (.r (.l .z)))))), none, none, []⟩,
       ⟨(some (.r (.l (.l (.l (.r .z)))))), .load true 9 (.t (.l (.l (.l (.l (.r .z)))))), none, none, []⟩,
       ⟨(some (.l (.r .z))), .alloc 9 [[(.int .i64 0), (.int .u64 0), (.int .i64 0), (.int .i64 0), (.int .i64 0), (.int .i64 0), (.int .i64 0), (.int .i64 0), (.str [])]], none, none, []⟩,
       ⟨(some (.r (.l .z))), .mv (.t (.r (.r (.r (.r (.l .z)))))), none, none, []⟩,
       ⟨none, .store 9 (.t (.l (.r .z))) (.t (.r (.l (.l (.l (.r .z)))))), none, none, []⟩])
     (.seq (.seq (.region false 0 [
       ⟨(some (.l (.r (.l (.l (.r .z)))))), .load true 9 (.t (.l (.r .z))), none, none, []⟩,
       ⟨(some (.r (.r (.l (.l (.r .z)))))), .call 70 [(.t (.l (.r (.l (.l (.r .z))))))], none, none, []⟩,
       ⟨(some (.r (.r .z))), .mv (.t (.r (.r (.l (.l (.r .z)))))), none, none, []⟩])
     (.seq (.region false 0 [
       ⟨(some (.l (.l (.r (.l (.r .z)))))), .mv (.t (.r (.r .z))), none, none, []⟩,
       ⟨(some (.r (.l (.r (.l (.r .z)))))), .eql true false [.i] (.t (.l (.l (.r (.l (.r .z)))))) (.c (.int .i64 0)), none, none, []⟩])
     (.cond (.t (.r (.l (.r (.l (.r .z))))))
     (.seq (.region false 0 [
        ⟨(some (.l (.r (.r (.l (.r .z)))))), .mv (.t (.r (.r .z))), none, none, []⟩,
        ⟨(some (.r .z)), .mv (.t (.l (.r (.r (.l (.r .z)))))), none, none, []⟩])
      .ret)
     .skip)))
     (.seq (.region true 0 [
       ⟨(some (.r (.r (.r (.l (.r .z)))))), .mv (.t (.r (.l .z))), none, none, []⟩,
       ⟨(some (.l (.l (.l (.r (.r .z)))))), .bin .gtr (.t (.r (.r (.r (.l (.r .z)))))) (.c (.int .i64 0)), none, none, [0]⟩,
       ⟨(some (.r (.l (.l (.r (.r .z)))))), .mv (.t (.l (.l (.l (.r (.r .z)))))), none, none, [0, 1]⟩,
       ⟨(some (.l (.r (.l (.r (.r .z)))))), .fieldA 5 (.t (.l .z)), (some ((.r (.l (.l (.r (.r .z))))), true)), none, [0, 1, 2]⟩,
       ⟨(some (.r (.r (.l (.r (.r .z)))))), .load false 1 (.t (.l (.r (.l (.r (.r .z)))))), (some ((.r (.l (.l (.r (.r .z))))), true)), none, [0, 1, 2, 3]⟩,
       ⟨(some (.l (.l (.r (.r (.r .z)))))), .mv (.t (.r (.l .z))), (some ((.r (.l (.l (.r (.r .z))))), true)), none, [0, 1, 2]⟩,
       ⟨(some (.r (.l (.r (.r (.r .z)))))), .bin .sub (.t (.l (.l (.r (.r (.r .z)))))) (.c (.int .i64 1)), (some ((.r (.l (.l (.r (.r .z))))), true)), none, [0, 1, 2, 5]⟩,
       ⟨(some (.l (.r (.r (.r (.r .z)))))), .idxS 9 (.t (.r (.r (.l (.r (.r .z)))))) (.t (.r (.l (.r (.r (.r .z)))))), (some ((.r (.l (.l (.r (.r .z))))), true)), none, [0, 1, 2, 3, 4, 5, 6]⟩,
       ⟨(some (.r (.r (.r (.r (.r .z)))))), .fieldA 0 (.t (.l (.r (.r (.r (.r .z)))))), (some ((.r (.l (.l (.r (.r .z))))), true)), none, [0, 1, 2, 3, 4, 5, 6, 7]⟩,
       ⟨(some (.l (.l (.l (.l (.l (.l .z))))))), .load true 3 (.t (.r (.r (.r (.r (.r .z)))))), (some ((.r (.l (.l (.r (.r .z))))), true)), none, [0, 1, 2, 3, 4, 5, 6, 7, 8]⟩,
       ⟨(some (.r (.l (.l (.l (.l (.l .z))))))), .fieldA 0 (.t (.l (.r .z))), (some ((.r (.l (.l (.r (.r .z))))), true)), none, [0, 1, 2]⟩,
       ⟨(some (.l (.r (.l (.l (.l (.l .z))))))), .load true 3 (.t (.r (.l (.l (.l (.l (.l .z))))))), (some ((.r (.l (.l (.r (.r .z))))), true)), none, [0, 1, 2, 10]⟩,
       ⟨(some (.r (.r (.l (.l (.l (.l .z))))))), .call 110 [(.t (.l (.l (.l (.l (.l (.l .z))))))), (.t (.l (.r (.l (.l (.l (.l .z)))))))], (some ((.r (.l (.l (.r (.r .z))))), true)), none, [0, 1, 2, 3, 4, 5, 6, 7, 8, 9, 10, 11]⟩,
       ⟨(some (.l (.l (.r (.l (.l (.l .z))))))), .bin .geq (.t (.r (.r (.l (.l (.l (.l .z))))))) (.c (.int .i64 0)), (some ((.r (.l (.l (.r (.r .z))))), true)), none, [0, 1, 2, 3, 4, 5, 6, 7, 8, 9, 10, 11, 12]⟩,
       ⟨(some (.r (.l (.r (.l (.l (.l .z))))))), .pick (.t (.r (.l (.l (.r (.r .z)))))) (.t (.l (.l (.r (.l (.l (.l .z))))))) (.c (.bool false)), none, none, [0, 1, 2, 3, 4, 5, 6, 7, 8, 9, 10, 11, 12, 13]⟩])
     (.cond (.t (.r (.l (.r (.l (.l (.l .z)))))))
     (.seq (.region false 0 [
        ⟨(some (.r .z)), .mv (.c (.int .i64 19)), none, none, []⟩])
      .ret)
     .skip)))))
    (.region false 0 [
      ⟨(some (.l (.r (.r (.l (.l (.l .z))))))), .bin .add (.t (.r (.l (.r (.r (.l .z)))))) (.c (.int .i64 1)), none, none, []⟩,
      ⟨(some (.r (.l (.r (.r (.l .z)))))), .mv (.t (.l (.r (.r (.l (.l (.l .z))))))), none, none, []⟩])))))))
  (.seq (.seq (.region false 0 [
    ⟨(some (.l (.l (.l (.r (.l (.l .z))))))), .fieldA 6 (.t (.l .z)), none, none, []⟩,
    ⟨(some (.r (.l (.l (.r (.l (.l .z))))))), .load false 1 (.t (.l (.l (.l (.r (.l (.l .z))))))), none, none, []⟩,
    ⟨(some (.l (.r (.l (.r (.l (.l .z))))))), .call 107 [(.t (.r (.l (.l (.r (.l (.l .z)))))))], none, none, []⟩,
    ⟨(some (.r (.r (.r (.l (.l (.l .z))))))), .mv (.t (.l (.r (.l (.r (.l (.l .z))))))), none, none, []⟩,
    ⟨(some (.r (.r (.l (.r (.l (.l .z))))))), .ext (.t (.r (.r (.r (.l (.l (.l .z))))))) 0, none, none, []⟩,
    ⟨(some (.l (.l (.r (.r (.l (.l .z))))))), .ext (.t (.r (.r (.r (.l (.l (.l .z))))))) 1, none, none, []⟩,
    ⟨(some (.l (.l (.l .z)))), .mv (.t (.r (.r (.l (.r (.l (.l .z))))))), none, none, []⟩,
    ⟨(some (.r (.l (.l .z)))), .mv (.t (.l (.l (.r (.r (.l (.l .z))))))), none, none, []⟩])
  (.seq (.region false 0 [
    ⟨(some (.r (.l (.r (.r (.l (.l .z))))))), .mv (.t (.l (.l (.l .z)))), none, none, []⟩,
    ⟨(some (.l (.r (.r (.r (.l (.l .z))))))), .eql true false [.i] (.t (.r (.l (.r (.r (.l (.l .z))))))) (.c (.int .i64 0)), none, none, []⟩])
  (.cond (.t (.l (.r (.r (.r (.l (.l .z)))))))
  (.seq (.region false 0 [
     ⟨(some (.r (.r (.r (.r (.l (.l .z))))))), .mv (.t (.l (.l (.l .z)))), none, none, []⟩,
     ⟨(some (.r .z)), .mv (.t (.r (.r (.r (.r (.l (.l .z))))))), none, none, []⟩])
   .ret)
  .skip)))
  (.seq (.seq (.region false 0 [
    ⟨(some (.l (.l (.l (.l (.r (.l .z))))))), .fieldA 7 (.t (.l .z)), none, none, []⟩,
    ⟨(some (.r (.l (.l (.l (.r (.l .z))))))), .load false 1 (.t (.l (.l (.l (.l (.r (.l .z))))))), none, none, []⟩,
    ⟨(some (.l (.r (.l (.l (.r (.l .z))))))), .len .slice (.t (.r (.l (.l (.l (.r (.l .z))))))), none, none, []⟩,
    ⟨(some (.r (.r (.l (.l (.r (.l .z))))))), .mv (.c (.int .i64 0)), none, none, []⟩])
  (.block 2 (.loop (.seq (.region false 0 [
      ⟨(some (.l (.l (.r (.l (.r (.l .z))))))), .bin .lss (.t (.r (.r (.l (.l (.r (.l .z))))))) (.t (.l (.r (.l (.l (.r (.l .z))))))), none, none, []⟩])
    (.seq (.cond (.t (.l (.l (.r (.l (.r (.l .z)))))))
    .skip
    (.exit 2))
    (.seq (.block 3 (.seq (.region false 0 [
       ⟨(some (.r (.l (.r (.l (.r (.l .z))))))), .mv (.t (.r (.r (.l (.l (.r (.l .z))))))), none, none, []⟩,
       ⟨(some (.l (.r (.r (.l (.r (.l .z))))))), .idxS 13 (.t (.r (.l (.l (.l (.r (.l .z))))))) (.t (.r (.r (.l (.l (.r (.l .z))))))), none, none, []⟩,
       ⟨(some (.r (.r (.r (.l (.r (.l .z))))))), .load true 13 (.t (.l (.r (.r (.l (.r (.l .z))))))), none, none, []⟩,
       ⟨(some (.r (.r (.l .z)))), .alloc 13 [[(.int .i64 0), (.int .u64 0), (.bool false), (.int .u64 0), (.int .u64 0), (.int .u64 0), (.int .u64 0), .nilslice, (.int .u64 0), (.int .u64 0), (.int .u64 0), .nilslice, .nilslice]], none, none, []⟩,
       ⟨(some (.l (.r (.l .z)))), .mv (.t (.r (.l (.r (.l (.r (.l .z))))))), none, none, []⟩,
       ⟨none, .store 13 (.t (.r (.r (.l .z)))) (.t (.r (.r (.r (.l (.r (.l .z))))))), none, none, []⟩])
     (.seq (.region false 0 [
       ⟨(some (.l (.l (.l (.r (.r (.l .z))))))), .load true 13 (.t (.r (.r (.l .z)))), none, none, []⟩,
       ⟨(some (.r (.l (.l (.r (.r (.l .z))))))), .call 80 [(.t (.l (.l (.l (.r (.r (.l .z)))))))], none, none, []⟩,
       ⟨(some (.l (.l (.r .z)))), .mv (.t (.r (.l (.l (.r (.r (.l .z))))))), none, none, []⟩])
     (.block 4 (.seq (.region false 0 [
        ⟨(some (.r (.r (.l (.r (.r (.l .z))))))), .mv (.t (.l (.l (.r .z)))), none, none, []⟩,
        ⟨(some (.l (.l (.r (.r (.r (.l .z))))))), .eql true false [.i] (.t (.r (.r (.l (.r (.r (.l .z))))))) (.c (.int .i64 0)), none, none, []⟩,
        ⟨(some (.l (.r (.l (.r (.r (.l .z))))))), .mv (.t (.l (.l (.r (.r (.r (.l .z))))))), none, none, []⟩])
      (.cond (.t (.l (.r (.l (.r (.r (.l .z)))))))
      (.seq (.region false 0 [
         ⟨(some (.r (.l (.r (.r (.r (.l .z))))))), .mv (.t (.l (.l (.r .z)))), none, none, []⟩,
         ⟨(some (.r .z)), .mv (.t (.r (.l (.r (.r (.r (.l .z))))))), none, none, []⟩])
       .ret)
      (.seq (.region false 0 [
         ⟨(some (.r (.r (.r (.r (.r (.l .z))))))), .fieldA 0 (.t (.r (.r (.l .z)))), none, none, []⟩,
         ⟨(some (.l (.l (.l (.l (.l (.r .z))))))), .load false 1 (.t (.r (.r (.r (.r (.r (.l .z))))))), none, none, []⟩,
         ⟨(some (.r (.l (.l (.l (.l (.r .z))))))), .fieldA 0 (.t (.l .z)), none, none, []⟩,
         ⟨(some (.l (.r (.l (.l (.l (.r .z))))))), .load false 1 (.t (.r (.l (.l (.l (.l (.r .z))))))), none, none, []⟩,
         ⟨(some (.r (.r (.l (.l (.l (.r .z))))))), .eql false false [.i] (.t (.l (.l (.l (.l (.l (.r .z))))))) (.t (.l (.r (.l (.l (.l (.r .z))))))), none, none, []⟩,
         ⟨(some (.l (.l (.r (.l (.l (.r .z))))))), .mv (.t (.r (.r (.l (.l (.l (.r .z))))))), none, none, []⟩,
         ⟨(some (.r (.l (.r (.l (.l (.r .z))))))), .fieldA 4 (.t (.r (.r (.l .z)))), (some ((.l (.l (.r (.l (.l (.r .z)))))), false)), none, []⟩,
         ⟨(some (.l (.r (.r (.l (.l (.r .z))))))), .load true 4 (.t (.r (.l (.r (.l (.l (.r .z))))))), (some ((.l (.l (.r (.l (.l (.r .z)))))), false)), none, []⟩,
         ⟨(some (.r (.r (.r (.l (.l (.r .z))))))), .call 111 [(.t (.l (.r (.r (.l (.l (.r .z)))))))], (some ((.l (.l (.r (.l (.l (.r .z)))))), false)), none, []⟩,
         ⟨(some (.l (.l (.l (.r (.l (.r .z))))))), .un .not (.t (.r (.r (.r (.l (.l (.r .z))))))), (some ((.l (.l (.r (.l (.l (.r .z)))))), false)), none, []⟩,
         ⟨(some (.r (.l (.l (.r (.l (.r .z))))))), .pick (.t (.l (.l (.r (.l (.l (.r .z))))))) (.c (.bool true)) (.t (.l (.l (.l (.r (.l (.r .z))))))), none, none, []⟩,
         ⟨(some (.l (.r (.l (.r (.l (.r .z))))))), .mv (.t (.r (.l (.l (.r (.l (.r .z))))))), none, none, []⟩,
         ⟨(some (.r (.r (.l (.r (.l (.r .z))))))), .fieldA 2 (.t (.r (.r (.l .z)))), (some ((.l (.r (.l (.r (.l (.r .z)))))), false)), none, []⟩,
         ⟨(some (.l (.l (.r (.r (.l (.r .z))))))), .load false 1 (.t (.r (.r (.l (.r (.l (.r .z))))))), (some ((.l (.r (.l (.r (.l (.r .z)))))), false)), none, []⟩,
         ⟨(some (.r (.l (.r (.r (.l (.r .z))))))), .pick (.t (.l (.r (.l (.r (.l (.r .z))))))) (.c (.bool true)) (.t (.l (.l (.r (.r (.l (.r .z))))))), none, none, []⟩,
         ⟨(some (.l (.r (.r (.r (.r (.l .z))))))), .mv (.t (.r (.l (.r (.r (.l (.r .z))))))), none, none, []⟩])
       (.cond (.t (.l (.r (.r (.r (.r (.l .z)))))))
       (.seq (.region false 0 [
          ⟨(some (.r .z)), .mv (.c (.int .i64 3)), none, none, []⟩])
        .ret)
       (.seq (.region true 0 [
          ⟨(some (.r (.r (.r (.r (.l (.r .z))))))), .mv (.t (.l (.r (.l .z)))), none, none, []⟩,
          ⟨(some (.l (.l (.l (.l (.r (.r .z))))))), .bin .gtr (.t (.r (.r (.r (.r (.l (.r .z))))))) (.c (.int .i64 0)), none, none, [0]⟩,
          ⟨(some (.r (.l (.l (.l (.r (.r .z))))))), .mv (.t (.l (.l (.l (.l (.r (.r .z))))))), none, none, [0, 1]⟩,
          ⟨(some (.l (.r (.l (.l (.r (.r .z))))))), .fieldA 7 (.t (.l .z)), (some ((.r (.l (.l (.l (.r (.r .z)))))), true)), none, [0, 1, 2]⟩,
          ⟨(some (.r (.r (.l (.l (.r (.r .z))))))), .load false 1 (.t (.l (.r (.l (.l (.r (.r .z))))))), (some ((.r (.l (.l (.l (.r (.r .z)))))), true)), none, [0, 1, 2, 3]⟩,
          ⟨(some (.l (.l (.r (.l (.r (.r .z))))))), .mv (.t (.l (.r (.l .z)))), (some ((.r (.l (.l (.l (.r (.r .z)))))), true)), none, [0, 1, 2]⟩,
          ⟨(some (.r (.l (.r (.l (.r (.r .z))))))), .bin .sub (.t (.l (.l (.r (.l (.r (.r .z))))))) (.c (.int .i64 1)), (some ((.r (.l (.l (.l (.r (.r .z)))))), true)), none, [0, 1, 2, 5]⟩,
          ⟨(some (.l (.r (.r (.l (.r (.r .z))))))), .idxS 13 (.t (.r (.r (.l (.l (.r (.r .z))))))) (.t (.r (.l (.r (.l (.r (.r .z))))))), (some ((.r (.l (.l (.l (.r (.r .z)))))), true)), none, [0, 1, 2, 3, 4, 5, 6]⟩,
          ⟨(some (.r (.r (.r (.l (.r (.r .z))))))), .fieldA 0 (.t (.l (.r (.r (.l (.r (.r .z))))))), (some ((.r (.l (.l (.l (.r (.r .z)))))), true)), none, [0, 1, 2, 3, 4, 5, 6, 7]⟩,
          ⟨(some (.l (.l (.l (.r (.r (.r .z))))))), .load false 1 (.t (.r (.r (.r (.l (.r (.r .z))))))), (some ((.r (.l (.l (.l (.r (.r .z)))))), true)), none, [0, 1, 2, 3, 4, 5, 6, 7, 8]⟩,
          ⟨(some (.r (.l (.l (.r (.r (.r .z))))))), .fieldA 0 (.t (.r (.r (.l .z)))), (some ((.r (.l (.l (.l (.r (.r .z)))))), true)), none, [0, 1, 2]⟩,
          ⟨(some (.l (.r (.l (.r (.r (.r .z))))))), .load false 1 (.t (.r (.l (.l (.r (.r (.r .z))))))), (some ((.r (.l (.l (.l (.r (.r .z)))))), true)), none, [0, 1, 2, 10]⟩,
          ⟨(some (.r (.r (.l (.r (.r (.r .z))))))), .bin .geq (.t (.l (.l (.l (.r (.r (.r .z))))))) (.t (.l (.r (.l (.r (.r (.r .z))))))), (some ((.r (.l (.l (.l (.r (.r .z)))))), true)), none, [0, 1, 2, 3, 4, 5, 6, 7, 8, 9, 10, 11]⟩,
          ⟨(some (.l (.l (.r (.r (.r (.r .z))))))), .pick (.t (.r (.l (.l (.l (.r (.r .z))))))) (.t (.r (.r (.l (.r (.r (.r .z))))))) (.c (.bool false)), none, none, [0, 1, 2, 3, 4, 5, 6, 7, 8, 9, 10, 11, 12]⟩,
          ⟨(some (.l (.r (.r (.r (.l (.r .z))))))), .mv (.t (.l (.l (.r (.r (.r (.r .z))))))), none, none, [0, 1, 2, 3, 4, 5, 6, 7, 8, 9, 10, 11, 12, 13]⟩])
        (.cond (.t (.l (.r (.r (.r (.l (.r .z)))))))
        (.seq (.region false 0 [
           ⟨(some (.r .z)), .mv (.c (.int .i64 19)), none, none, []⟩])
         .ret)
        .skip))))))))))
    (.region false 0 [
      ⟨(some (.r (.l (.r (.r (.r (.r .z))))))), .bin .add (.t (.r (.r (.l (.l (.r (.l .z))))))) (.c (.int .i64 1)), none, none, []⟩,
      ⟨(some (.r (.r (.l (.l (.r (.l .z))))))), .mv (.t (.r (.l (.r (.r (.r (.r .z))))))), none, none, []⟩])))))))
  (.seq (.region false 0 [
    ⟨(some (.r .z)), .mv (.c (.int .i64 0)), none, none, []⟩])
  .ret)))))))⟩
def AF75 : AFunc := ⟨16, [.cell (.r .z) true 3, .tmp (.l (.l .z))],
  (.seq (.region false 0 [
    ⟨(some (.r .z)), .alloc 3 [[(.int .u64 0), (.int .u64 0), .nilslice]], none, none, []⟩,
    ⟨(some (.l (.l .z))), .mv (.c (.int .i64 0)), none, none, []⟩])
  (.seq (.seq (.region false 0 [
    ⟨(some (.l (.r .z))), .mv (.t .z), none, none, []⟩,
    ⟨(some (.r (.r .z))), .bin .gtr (.t (.l (.r .z))) (.c (.int .u64 1099511627776)), none, none, []⟩])
  (.cond (.t (.r (.r .z)))
  (.seq (.region false 0 [
     ⟨(some (.l (.l (.l .z)))), .build [(.int .u64 0), (.int .u64 0), .nilslice] [], none, none, []⟩,
     ⟨none, .store 3 (.t (.r .z)) (.t (.l (.l (.l .z)))), none, none, []⟩,
     ⟨(some (.l (.l .z))), .mv (.c (.int .i64 2)), none, none, []⟩])
   .ret)
  .skip))
  (.seq (.region false 0 [
    ⟨(some (.r (.l (.l .z)))), .mv (.t .z), none, none, []⟩,
    ⟨(some (.l (.r (.l .z)))), .build [(.int .u64 0), (.int .u64 0), .nilslice] [(0, 1, (.t (.r (.l (.l .z)))))], none, none, []⟩,
    ⟨(some (.r (.r (.l .z)))), .build [(.int .u64 0), (.int .u64 0), .nilslice, (.int .u64 0), (.int .u64 0), (.int .u64 0), (.int .u64 0), (.int .u64 0), (.int .u64 0), (.int .u64 0), (.int .u64 0), (.int .u64 0), (.int .u64 0), (.int .u64 0), (.int .u64 0), (.int .u64 0), (.int .u64 0), (.int .u64 0), (.int .u64 0)] [(0, 3, (.t (.l (.r (.l .z)))))], none, none, []⟩,
    ⟨(some (.l (.l (.r .z)))), .box 1 19 (.t (.r (.r (.l .z)))), none, none, []⟩,
    ⟨(some (.r (.l .z))), .mv (.t (.l (.l (.r .z)))), none, none, []⟩])
  (.seq (.region false 0 [
    ⟨(some (.r (.l (.r .z)))), .mv (.t (.r (.l .z))), none, none, []⟩,
    ⟨(some (.l (.r (.r .z)))), .call 112 [(.t (.r (.l (.r .z))))], none, none, []⟩,
    ⟨(some (.r (.r (.r .z)))), .ext (.t (.l (.r (.r .z)))) 0, none, none, []⟩,
    ⟨(some (.l (.l (.l (.l .z))))), .ext (.t (.l (.r (.r .z)))) 1, none, none, []⟩,
    ⟨none, .store 3 (.t (.r .z)) (.t (.r (.r (.r .z)))), none, none, []⟩,
    ⟨(some (.l (.l .z))), .mv (.t (.l (.l (.l (.l .z))))), none, none, []⟩])
  .ret))))⟩
def AF76 : AFunc := ⟨24, [.tmp (.r .z), .tmp (.l (.l .z))],
  (.seq (.region false 0 [
    ⟨(some (.l .z)), .box 9 9 (.t .z), none, none, []⟩,
    ⟨(some (.r .z)), .mv (.c (.int .i64 0)), none, none, []⟩,
    ⟨(some (.l (.l .z))), .mv (.c (.int .i64 0)), none, none, []⟩])
  (.seq (.seq (.region false 0 [
    ⟨(some (.l (.r .z))), .load true 9 (.t (.l .z)), none, none, []⟩,
    ⟨(some (.r (.r .z))), .call 70 [(.t (.l (.r .z)))], none, none, []⟩,
    ⟨(some (.r (.l .z))), .mv (.t (.r (.r .z))), none, none, []⟩])
  (.seq (.region false 0 [
    ⟨(some (.l (.l (.l .z)))), .mv (.t (.r (.l .z))), none, none, []⟩,
    ⟨(some (.r (.l (.l .z)))), .eql true false [.i] (.t (.l (.l (.l .z)))) (.c (.int .i64 0)), none, none, []⟩])
  (.cond (.t (.r (.l (.l .z))))
  (.seq (.region false 0 [
     ⟨(some (.l (.r (.l .z)))), .mv (.t (.r (.l .z))), none, none, []⟩,
     ⟨(some (.r .z)), .mv (.c (.int .i64 0)), none, none, []⟩,
     ⟨(some (.l (.l .z))), .mv (.t (.l (.r (.l .z)))), none, none, []⟩])
   .ret)
  .skip)))
  (.seq (.region true 0 [
    ⟨(some (.r (.r (.l .z)))), .load true 9 (.t (.l .z)), none, none, []⟩,
    ⟨(some (.l (.l (.r .z)))), .call 113 [(.t (.r (.r (.l .z))))], none, none, [0]⟩,
    ⟨(some (.r (.l (.r .z)))), .len .str (.t (.l (.l (.r .z)))), none, none, [0, 1]⟩,
    ⟨(some (.l (.r (.r .z)))), .fieldA 8 (.t (.l .z)), none, none, []⟩,
    ⟨(some (.r (.r (.r .z)))), .load false 1 (.t (.l (.r (.r .z)))), none, none, [3]⟩,
    ⟨(some (.l (.l (.l (.l .z))))), .len .str (.t (.r (.r (.r .z)))), none, none, [3, 4]⟩,
    ⟨(some (.r (.l (.l (.l .z))))), .conv (.toInt .u64) (.t (.l (.l (.l (.l .z))))), none, none, [3, 4, 5]⟩,
    ⟨(some (.l (.r (.l (.l .z))))), .call 114 [(.t (.r (.l (.l (.l .z)))))], none, none, [0, 1, 3, 4, 5, 6]⟩,
    ⟨(some (.r (.r (.l (.l .z))))), .bin .add (.t (.r (.l (.r .z)))) (.t (.l (.r (.l (.l .z))))), none, none, [0, 1, 2, 3, 4, 5, 6, 7]⟩,
    ⟨(some (.l (.l (.r (.l .z))))), .fieldA 8 (.t (.l .z)), none, none, []⟩,
    ⟨(some (.r (.l (.r (.l .z))))), .load false 1 (.t (.l (.l (.r (.l .z))))), none, none, [9]⟩,
    ⟨(some (.l (.r (.r (.l .z))))), .len .str (.t (.r (.l (.r (.l .z))))), none, none, [9, 10]⟩,
    ⟨(some (.r (.r (.r (.l .z))))), .bin .add (.t (.r (.r (.l (.l .z))))) (.t (.l (.r (.r (.l .z))))), none, none, [0, 1, 2, 3, 4, 5, 6, 7, 8, 9, 10, 11]⟩,
    ⟨(some (.l (.l (.l (.r .z))))), .bin .add (.t (.r (.r (.r (.l .z))))) (.c (.int .i64 4)), none, none, [0, 1, 2, 3, 4, 5, 6, 7, 8, 9, 10, 11, 12]⟩,
    ⟨(some (.r .z)), .mv (.t (.l (.l (.l (.r .z))))), none, none, [0, 1, 2, 3, 4, 5, 6, 7, 8, 9, 10, 11, 12, 13]⟩,
    ⟨(some (.l (.l .z))), .mv (.c (.int .i64 0)), none, none, [0, 1, 2, 3, 4, 5, 6, 7, 8, 9, 10, 11, 12, 13, 14]⟩])
  .ret)))⟩
def AF77 : AFunc := ⟨39, [.cell (.r (.l .z)) true 3, .tmp (.l (.r .z))],
  (.seq (.region false 0 [
    ⟨(some (.r .z)), .box 3 3 (.t .z), none, none, []⟩,
    ⟨(some (.r (.l .z))), .alloc 3 [[(.int .u64 0), (.int .u64 0), .nilslice]], none, none, []⟩,
    ⟨(some (.l (.r .z))), .mv (.c (.int .i64 0)), none, none, []⟩])
  (.seq (.region false 0 [
    ⟨(some (.l (.r (.l .z)))), .load true 3 (.t (.r .z)), none, none, []⟩,
    ⟨(some (.r (.r (.l .z)))), .call 115 [(.t (.l (.r (.l .z))))], none, none, []⟩,
    ⟨(some (.r (.l (.l .z)))), .mv (.t (.r (.r (.l .z)))), none, none, []⟩,
    ⟨(some (.l (.l (.r .z)))), .ext (.t (.r (.l (.l .z)))) 0, none, none, []⟩,
    ⟨(some (.r (.l (.r .z)))), .ext (.t (.r (.l (.l .z)))) 1, none, none, []⟩,
    ⟨(some (.r (.r .z))), .mv (.t (.l (.l (.r .z)))), none, none, []⟩,
    ⟨(some (.l (.l (.l .z)))), .mv (.t (.r (.l (.r .z)))), none, none, []⟩])
  (.seq (.seq (.region false 0 [
    ⟨(some (.l (.r (.r .z)))), .mv (.t (.l (.l (.l .z)))), none, none, []⟩,
    ⟨(some (.r (.r (.r .z)))), .eql false false [.i] (.t (.l (.r (.r .z)))) (.c (.int .i64 0)), none, none, []⟩,
    ⟨(some (.l (.l (.l (.l .z))))), .mv (.t (.r (.r (.r .z)))), none, none, []⟩,
    ⟨(some (.r (.l (.l (.l .z))))), .mv (.t (.l .z)), (some ((.l (.l (.l (.l .z)))), true)), none, []⟩,
    ⟨(some (.l (.r (.l (.l .z))))), .mv (.t (.r (.r .z))), (some ((.l (.l (.l (.l .z)))), true)), none, []⟩,
    ⟨(some (.r (.r (.l (.l .z))))), .call 116 [(.t (.l (.r (.l (.l .z)))))], (some ((.l (.l (.l (.l .z)))), true)), none, []⟩,
    ⟨(some (.l (.l (.r (.l .z))))), .bin .gtr (.t (.r (.l (.l (.l .z))))) (.t (.r (.r (.l (.l .z))))), (some ((.l (.l (.l (.l .z)))), true)), none, []⟩,
    ⟨(some (.r (.l (.r (.l .z))))), .pick (.t (.l (.l (.l (.l .z))))) (.t (.l (.l (.r (.l .z))))) (.c (.bool false)), none, none, []⟩])
  (.cond (.t (.r (.l (.r (.l .z)))))
  (.region false 0 [
     ⟨(some (.l (.l (.l .z)))), .mv (.c (.int .i64 5)), none, none, []⟩])
  .skip))
  (.seq (.seq (.region false 0 [
    ⟨(some (.l (.r (.r (.l .z))))), .mv (.t (.l (.l (.l .z)))), none, none, []⟩,
    ⟨(some (.r (.r (.r (.l .z))))), .eql true false [.i] (.t (.l (.r (.r (.l .z))))) (.c (.int .i64 0)), none, none, []⟩])
  (.cond (.t (.r (.r (.r (.l .z)))))
  (.seq (.region false 0 [
     ⟨(some (.l (.l (.l (.r .z))))), .build [(.int .u64 0), (.int .u64 0), .nilslice] [], none, none, []⟩,
     ⟨(some (.r (.l (.l (.r .z))))), .mv (.t (.l (.l (.l .z)))), none, none, []⟩,
     ⟨none, .store 3 (.t (.r (.l .z))) (.t (.l (.l (.l (.r .z))))), none, none, []⟩,
     ⟨(some (.l (.r .z))), .mv (.t (.r (.l (.l (.r .z))))), none, none, []⟩])
   .ret)
  .skip))
  (.seq (.region false 0 [
    ⟨(some (.l (.r (.l (.r .z))))), .mv (.t (.r (.r .z))), none, none, []⟩,
    ⟨(some (.r (.r (.l (.r .z))))), .nilc (.t (.l (.r (.l (.r .z))))), none, none, []⟩,
    ⟨(some (.l (.l (.r (.r .z))))), .fieldA 0 (.t (.r (.r (.l (.r .z))))), none, none, []⟩,
    ⟨(some (.r (.l (.r (.r .z))))), .fieldA 1 (.t (.l (.l (.r (.r .z))))), none, none, []⟩,
    ⟨(some (.l (.r (.r (.r .z))))), .load false 1 (.t (.r (.l (.r (.r .z))))), none, none, []⟩,
    ⟨(some (.r (.r (.r (.r .z))))), .mv (.t (.l .z)), none, none, []⟩,
    ⟨(some (.l (.l (.l (.l (.l .z)))))), .bin .add (.t (.l (.r (.r (.r .z))))) (.t (.r (.r (.r (.r .z))))), none, none, []⟩,
    ⟨(some (.r (.l (.l (.l (.l .z)))))), .nilc (.t (.l (.r (.l (.r .z))))), none, none, []⟩,
    ⟨(some (.l (.r (.l (.l (.l .z)))))), .fieldA 0 (.t (.r (.l (.l (.l (.l .z)))))), none, none, []⟩,
    ⟨(some (.r (.r (.l (.l (.l .z)))))), .fieldA 1 (.t (.l (.r (.l (.l (.l .z)))))), none, none, []⟩,
    ⟨none, .store 1 (.t (.r (.r (.l (.l (.l .z)))))) (.t (.l (.l (.l (.l (.l .z)))))), none, none, []⟩])
  (.seq (.region false 0 [
    ⟨(some (.l (.l (.r (.l (.l .z)))))), .mv (.t (.r (.r .z))), none, none, []⟩,
    ⟨(some (.r (.l (.r (.l (.l .z)))))), .call 112 [(.t (.l (.l (.r (.l (.l .z))))))], none, none, []⟩,
    ⟨(some (.l (.r (.r (.l (.l .z)))))), .ext (.t (.r (.l (.r (.l (.l .z)))))) 0, none, none, []⟩,
    ⟨(some (.r (.r (.r (.l (.l .z)))))), .ext (.t (.r (.l (.r (.l (.l .z)))))) 1, none, none, []⟩,
    ⟨none, .store 3 (.t (.r (.l .z))) (.t (.l (.r (.r (.l (.l .z)))))), none, none, []⟩,
    ⟨(some (.l (.r .z))), .mv (.t (.r (.r (.r (.l (.l .z)))))), none, none, []⟩])
  .ret))))))⟩
def AF80 : AFunc := ⟨51, [.tmp (.r .z)],
  (.seq (.region false 0 [
    ⟨(some (.l .z)), .box 13 13 (.t .z), none, none, []⟩,
    ⟨(some (.r .z)), .mv (.c (.int .i64 0)), none, none, []⟩])
  (.seq (.seq (.region false 0 [
    ⟨(some (.l (.l (.l .z)))), .fieldA 0 (.t (.l .z)), none, none, []⟩,
    ⟨(some (.r (.l (.l .z)))), .load false 1 (.t (.l (.l (.l .z)))), none, none, []⟩,
    ⟨(some (.l (.r (.l .z)))), .bin .lss (.t (.r (.l (.l .z)))) (.c (.int .i64 1)), none, none, []⟩,
    ⟨(some (.r (.r (.l .z)))), .mv (.t (.l (.r (.l .z)))), none, none, []⟩,
    ⟨(some (.l (.l (.r .z)))), .fieldA 0 (.t (.l .z)), (some ((.r (.r (.l .z))), false)), none, []⟩,
    ⟨(some (.r (.l (.r .z)))), .load false 1 (.t (.l (.l (.r .z)))), (some ((.r (.r (.l .z))), false)), none, []⟩,
    ⟨(some (.l (.r (.r .z)))), .bin .gtr (.t (.r (.l (.r .z)))) (.c (.int .i64 16)), (some ((.r (.r (.l .z))), false)), none, []⟩,
    ⟨(some (.r (.r (.r .z)))), .pick (.t (.r (.r (.l .z)))) (.c (.bool true)) (.t (.l (.r (.r .z)))), none, none, []⟩,
    ⟨(some (.l (.l (.l (.l .z))))), .mv (.t (.r (.r (.r .z)))), none, none, []⟩,
    ⟨(some (.r (.l (.l (.l .z))))), .fieldA 1 (.t (.l .z)), (some ((.l (.l (.l (.l .z)))), false)), none, []⟩,
    ⟨(some (.l (.r (.l (.l .z))))), .load false 1 (.t (.r (.l (.l (.l .z))))), (some ((.l (.l (.l (.l .z)))), false)), none, []⟩,
    ⟨(some (.r (.r (.l (.l .z))))), .bin .gtr (.t (.l (.r (.l (.l .z))))) (.c (.int .u64 1099511627776)), (some ((.l (.l (.l (.l .z)))), false)), none, []⟩,
    ⟨(some (.l (.l (.r (.l .z))))), .pick (.t (.l (.l (.l (.l .z))))) (.c (.bool true)) (.t (.r (.r (.l (.l .z))))), none, none, []⟩,
    ⟨(some (.r (.l (.r (.l .z))))), .mv (.t (.l (.l (.r (.l .z))))), none, none, []⟩,
    ⟨(some (.l (.r (.r (.l .z))))), .fieldA 3 (.t (.l .z)), (some ((.r (.l (.r (.l .z)))), false)), none, []⟩,
    ⟨(some (.r (.r (.r (.l .z))))), .load false 1 (.t (.l (.r (.r (.l .z))))), (some ((.r (.l (.r (.l .z)))), false)), none, []⟩,
    ⟨(some (.l (.l (.l (.r .z))))), .bin .gtr (.t (.r (.r (.r (.l .z))))) (.c (.int .u64 1125899906842624)), (some ((.r (.l (.r (.l .z)))), false)), none, []⟩,
    ⟨(some (.r (.l (.l (.r .z))))), .pick (.t (.r (.l (.r (.l .z))))) (.c (.bool true)) (.t (.l (.l (.l (.r .z))))), none, none, []⟩])
  (.cond (.t (.r (.l (.l (.r .z)))))
  (.seq (.region false 0 [
     ⟨(some (.r .z)), .mv (.c (.int .i64 2)), none, none, []⟩])
   .ret)
  .skip))
  (.seq (.seq (.region false 0 [
    ⟨(some (.r (.r (.l (.r .z))))), .fieldA 4 (.t (.l .z)), none, none, []⟩,
    ⟨(some (.l (.l (.r (.r .z))))), .load true 4 (.t (.r (.r (.l (.r .z))))), none, none, []⟩,
    ⟨(some (.r (.l (.r (.r .z))))), .call 118 [(.t (.l (.l (.r (.r .z)))))], none, none, []⟩,
    ⟨(some (.l (.r (.l (.r .z))))), .mv (.t (.r (.l (.r (.r .z))))), none, none, []⟩,
    ⟨(some (.l (.r (.r (.r .z))))), .ext (.t (.l (.r (.l (.r .z))))) 0, none, none, []⟩,
    ⟨(some (.r (.r (.r (.r .z))))), .ext (.t (.l (.r (.l (.r .z))))) 1, none, none, []⟩,
    ⟨(some (.l (.l .z))), .mv (.t (.l (.r (.r (.r .z))))), none, none, []⟩,
    ⟨(some (.r (.l .z))), .mv (.t (.r (.r (.r (.r .z))))), none, none, []⟩])
  (.seq (.region false 0 [
    ⟨(some (.l (.l (.l (.l (.l .z)))))), .mv (.t (.l (.l .z))), none, none, []⟩,
    ⟨(some (.r (.l (.l (.l (.l .z)))))), .eql true false [.i] (.t (.l (.l (.l (.l (.l .z)))))) (.c (.int .i64 0)), none, none, []⟩])
  (.cond (.t (.r (.l (.l (.l (.l .z))))))
  (.seq (.region false 0 [
     ⟨(some (.l (.r (.l (.l (.l .z)))))), .mv (.t (.l (.l .z))), none, none, []⟩,
     ⟨(some (.r .z)), .mv (.t (.l (.r (.l (.l (.l .z)))))), none, none, []⟩])
   .ret)
  .skip)))
  (.seq (.seq (.region false 0 [
    ⟨(some (.l (.l (.r (.l (.l .z)))))), .fieldA 8 (.t (.l .z)), none, none, []⟩,
    ⟨(some (.r (.l (.r (.l (.l .z)))))), .load true 5 (.t (.l (.l (.r (.l (.l .z)))))), none, none, []⟩,
    ⟨(some (.l (.r (.r (.l (.l .z)))))), .call 119 [(.t (.r (.l (.r (.l (.l .z))))))], none, none, []⟩,
    ⟨(some (.r (.r (.l (.l (.l .z)))))), .mv (.t (.l (.r (.r (.l (.l .z)))))), none, none, []⟩,
    ⟨(some (.r (.r (.r (.l (.l .z)))))), .ext (.t (.r (.r (.l (.l (.l .z)))))) 0, none, none, []⟩,
    ⟨(some (.l (.l (.l (.r (.l .z)))))), .ext (.t (.r (.r (.l (.l (.l .z)))))) 1, none, none, []⟩,
    ⟨(some (.l (.r .z))), .mv (.t (.r (.r (.r (.l (.l .z)))))), none, none, []⟩,
    ⟨(some (.r (.r .z))), .mv (.t (.l (.l (.l (.r (.l .z)))))), none, none, []⟩])
  (.seq (.region false 0 [
    ⟨(some (.r (.l (.l (.r (.l .z)))))), .mv (.t (.l (.r .z))), none, none, []⟩,
    ⟨(some (.l (.r (.l (.r (.l .z)))))), .eql true false [.i] (.t (.r (.l (.l (.r (.l .z)))))) (.c (.int .i64 0)), none, none, []⟩])
  (.cond (.t (.l (.r (.l (.r (.l .z))))))
  (.seq (.region false 0 [
     ⟨(some (.r (.r (.l (.r (.l .z)))))), .mv (.t (.l (.r .z))), none, none, []⟩,
     ⟨(some (.r .z)), .mv (.t (.r (.r (.l (.r (.l .z)))))), none, none, []⟩])
   .ret)
  .skip)))
  (.seq (.seq (.region false 0 [
    ⟨(some (.l (.l (.r (.r (.l .z)))))), .fieldA 1 (.t (.l .z)), none, none, []⟩,
    ⟨(some (.r (.l (.r (.r (.l .z)))))), .load false 1 (.t (.l (.l (.r (.r (.l .z)))))), none, none, []⟩,
    ⟨(some (.l (.r (.r (.r (.l .z)))))), .eql false false [.i] (.t (.r (.l (.r (.r (.l .z)))))) (.c (.int .u64 0)), none, none, []⟩,
    ⟨(some (.r (.r (.r (.r (.l .z)))))), .mv (.t (.l (.r (.r (.r (.l .z)))))), none, none, []⟩,
    ⟨(some (.l (.l (.l (.l (.r .z)))))), .load true 13 (.t (.l .z)), (some ((.r (.r (.r (.r (.l .z))))), true)), none, []⟩,
    ⟨(some (.r (.l (.l (.l (.r .z)))))), .call 120 [(.t (.l (.l (.l (.l (.r .z))))))], (some ((.r (.r (.r (.r (.l .z))))), true)), none, []⟩,
    ⟨(some (.l (.r (.l (.l (.r .z)))))), .un .not (.t (.r (.l (.l (.l (.r .z)))))), (some ((.r (.r (.r (.r (.l .z))))), true)), none, []⟩,
    ⟨(some (.r (.r (.l (.l (.r .z)))))), .pick (.t (.r (.r (.r (.r (.l .z)))))) (.t (.l (.r (.l (.l (.r .z)))))) (.c (.bool false)), none, none, []⟩])
  (.cond (.t (.r (.r (.l (.l (.r .z))))))
  (.seq (.region false 0 [
     ⟨(some (.r .z)), .mv (.c (.int .i64 12)), none, none, []⟩])
   .ret)
  .skip))
  (.seq (.region false 0 [
    ⟨(some (.r .z)), .mv (.c (.int .i64 0)), none, none, []⟩])
  .ret))))))⟩
def AF81 : AFunc := ⟨14, [.tmp (.r .z), .tmp (.l (.l .z))],
  (.seq (.region false 0 [
    ⟨(some (.l .z)), .box 4 4 (.t .z), none, none, []⟩,
    ⟨(some (.r .z)), .mv (.c (.int .u64 0)), none, none, []⟩,
    ⟨(some (.l (.l .z))), .mv (.c (.int .i64 0)), none, none, []⟩])
  (.seq (.region false 0 [
    ⟨(some (.l (.l (.l .z)))), .load true 4 (.t (.l .z)), none, none, []⟩,
    ⟨(some (.r (.l (.l .z)))), .call 121 [(.t (.l (.l (.l .z))))], none, none, []⟩,
    ⟨(some (.r (.r .z))), .mv (.t (.r (.l (.l .z)))), none, none, []⟩,
    ⟨(some (.l (.r (.l .z)))), .ext (.t (.r (.r .z))) 0, none, none, []⟩,
    ⟨(some (.r (.r (.l .z)))), .ext (.t (.r (.r .z))) 1, none, none, []⟩,
    ⟨(some (.r (.l .z))), .alloc 4 [[(.int .u64 0), (.int .u64 0), (.int .u64 0), .nilslice]], none, none, []⟩,
    ⟨none, .store 4 (.t (.r (.l .z))) (.t (.l (.r (.l .z)))), none, none, []⟩,
    ⟨(some (.l (.r .z))), .mv (.t (.r (.r (.l .z)))), none, none, []⟩])
  (.seq (.region false 0 [
    ⟨(some (.l (.l (.r .z)))), .load true 4 (.t (.r (.l .z))), none, none, []⟩,
    ⟨(some (.r (.l (.r .z)))), .call 122 [(.t (.l (.l (.r .z))))], none, none, []⟩,
    ⟨(some (.l (.r (.r .z)))), .mv (.t (.l (.r .z))), none, none, []⟩,
    ⟨(some (.r .z)), .mv (.t (.r (.l (.r .z)))), none, none, []⟩,
    ⟨(some (.l (.l .z))), .mv (.t (.l (.r (.r .z)))), none, none, []⟩])
  .ret)))⟩
def AF82 : AFunc := ⟨8, [.tmp (.r (.r .z))],
  (.seq (.region false 0 [
    ⟨(some (.l (.l .z))), .box 13 13 (.t .z), none, none, []⟩,
    ⟨(some (.r (.l .z))), .box 13 13 (.t (.l .z)), none, none, []⟩,
    ⟨(some (.l (.r .z))), .box 1 1 (.t (.r .z)), none, none, []⟩,
    ⟨(some (.r (.r .z))), .mv (.c .nilFunc), none, none, []⟩])
  (.seq (.region false 0 [
    ⟨(some (.l (.l (.l .z)))), .mkfunc 123 [] [(.t (.l (.r .z))), (.t (.l (.l .z))), (.t (.r (.l .z)))], none, none, []⟩,
    ⟨(some (.r (.r .z))), .mv (.t (.l (.l (.l .z)))), none, none, []⟩])
  .ret))⟩
def AF83 : AFunc := ⟨24, [.tmp (.r .z), .tmp (.l (.l .z))],
  (.seq (.region false 0 [
    ⟨(some (.l .z)), .box 13 13 (.t .z), none, none, []⟩,
    ⟨(some (.r .z)), .mv (.c (.int .u64 0)), none, none, []⟩,
    ⟨(some (.l (.l .z))), .mv (.c (.bool false)), none, none, []⟩])
  (.seq (.region false 0 [
    ⟨(some (.l (.r (.l .z)))), .fieldA 8 (.t (.l .z)), none, none, []⟩,
    ⟨(some (.r (.r (.l .z)))), .load true 5 (.t (.l (.r (.l .z)))), none, none, []⟩,
    ⟨(some (.l (.l (.r .z)))), .call 125 [(.t (.r (.r (.l .z))))], none, none, []⟩,
    ⟨(some (.r (.l (.l .z)))), .mv (.t (.l (.l (.r .z)))), none, none, []⟩,
    ⟨(some (.r (.l (.r .z)))), .ext (.t (.r (.l (.l .z)))) 0, none, none, []⟩,
    ⟨(some (.l (.r (.r .z)))), .ext (.t (.r (.l (.l .z)))) 1, none, none, []⟩,
    ⟨(some (.r (.l .z))), .mv (.t (.r (.l (.r .z)))), none, none, []⟩,
    ⟨(some (.l (.r .z))), .mv (.t (.l (.r (.r .z)))), none, none, []⟩])
  (.seq (.region false 0 [
    ⟨(some (.l (.l (.l (.l .z))))), .fieldA 3 (.t (.l .z)), none, none, []⟩,
    ⟨(some (.r (.l (.l (.l .z))))), .load false 1 (.t (.l (.l (.l (.l .z))))), none, none, []⟩,
    ⟨(some (.l (.r (.l (.l .z))))), .mv (.t (.r (.l .z))), none, none, []⟩,
    ⟨(some (.r (.r (.l (.l .z))))), .add64 (.t (.r (.l (.l (.l .z))))) (.t (.l (.r (.l (.l .z))))) (.c (.int .u64 0)), none, none, []⟩,
    ⟨(some (.r (.r (.r .z)))), .mv (.t (.r (.r (.l (.l .z))))), none, none, []⟩,
    ⟨(some (.l (.l (.r (.l .z))))), .ext (.t (.r (.r (.r .z)))) 0, none, none, []⟩,
    ⟨(some (.r (.l (.r (.l .z))))), .ext (.t (.r (.r (.r .z)))) 1, none, none, []⟩,
    ⟨(some (.r (.r .z))), .mv (.t (.l (.l (.r (.l .z))))), none, none, []⟩,
    ⟨(some (.l (.l (.l .z)))), .mv (.t (.r (.l (.r (.l .z))))), none, none, []⟩])
  (.seq (.region false 0 [
    ⟨(some (.l (.r (.r (.l .z))))), .mv (.t (.r (.r .z))), none, none, []⟩,
    ⟨(some (.r (.r (.r (.l .z))))), .mv (.t (.l (.l (.l .z)))), none, none, []⟩,
    ⟨(some (.l (.l (.l (.r .z))))), .eql false false [.i] (.t (.r (.r (.r (.l .z))))) (.c (.int .u64 0)), none, none, []⟩,
    ⟨(some (.r .z)), .mv (.t (.l (.r (.r (.l .z))))), none, none, []⟩,
    ⟨(some (.l (.l .z))), .mv (.t (.l (.l (.l (.r .z))))), none, none, []⟩])
  .ret))))⟩
def AF84 : AFunc := ⟨36, [.tmp (.r .z)],
  (.seq (.region false 0 [
    ⟨(some (.r .z)), .mv (.c .nilslice), none, none, []⟩])
  (.seq (.region false 0 [
    ⟨(some (.l (.l .z))), .mv (.c (.int .i64 0)), none, none, []⟩])
  (.seq (.seq (.region false 0 [
    ⟨(some (.l (.r (.l .z)))), .mv (.t .z), none, none, []⟩,
    ⟨(some (.r (.r (.l .z)))), .len .slice (.t (.l (.r (.l .z)))), none, none, []⟩,
    ⟨(some (.l (.l (.r .z)))), .mv (.c (.int .i64 0)), none, none, []⟩])
  (.block 0 (.loop (.seq (.region false 0 [
      ⟨(some (.r (.l (.r .z)))), .bin .lss (.t (.l (.l (.r .z)))) (.t (.r (.r (.l .z)))), none, none, []⟩])
    (.seq (.cond (.t (.r (.l (.r .z))))
    .skip
    (.exit 0))
    (.seq (.block 1 (.seq (.region false 0 [
       ⟨(some (.l (.r (.r .z)))), .idxS 1 (.t (.l (.r (.l .z)))) (.t (.l (.l (.r .z)))), none, none, []⟩,
       ⟨(some (.r (.r (.r .z)))), .load false 1 (.t (.l (.r (.r .z)))), none, none, []⟩,
       ⟨(some (.l (.r .z))), .mv (.t (.r (.r (.r .z)))), none, none, []⟩])
     (.seq (.region false 0 [
       ⟨(some (.l (.l (.l (.l .z))))), .mv (.t (.l (.l .z))), none, none, []⟩,
       ⟨(some (.r (.l (.l (.l .z))))), .mv (.t (.l (.r .z))), none, none, []⟩,
       ⟨(some (.l (.r (.l (.l .z))))), .len .slice (.t (.r (.l (.l (.l .z))))), none, none, []⟩,
       ⟨(some (.r (.r (.l (.l .z))))), .bin .add (.t (.l (.l (.l (.l .z))))) (.t (.l (.r (.l (.l .z))))), none, none, []⟩,
       ⟨(some (.l (.l .z))), .mv (.t (.r (.r (.l (.l .z))))), none, none, []⟩])
     (.seq (.region false 0 [
       ⟨(some (.l (.l (.r (.l .z))))), .mv (.t (.l (.l .z))), none, none, []⟩,
       ⟨(some (.r (.l (.r (.l .z))))), .bin .lss (.t (.l (.l (.r (.l .z))))) (.c (.int .i64 0)), none, none, []⟩])
     (.cond (.t (.r (.l (.r (.l .z)))))
     (.region false 0 [
        ⟨(some (.l (.r (.r (.l .z))))), .iface 9 (.c (.str [108, 101, 110, 32, 111, 117, 116, 32, 111, 102, 32, 114, 97, 110, 103, 101])), none, none, []⟩,
        ⟨none, .bad, none, none, []⟩])
     .skip)))))
    (.region false 0 [
      ⟨(some (.r (.r (.r (.l .z))))), .bin .add (.t (.l (.l (.r .z)))) (.c (.int .i64 1)), none, none, []⟩,
      ⟨(some (.l (.l (.r .z)))), .mv (.t (.r (.r (.r (.l .z))))), none, none, []⟩])))))))
  (.seq (.region false 0 [
    ⟨(some (.l (.l (.l (.r .z))))), .mv (.t (.l (.l .z))), none, none, []⟩,
    ⟨(some (.r (.l (.l (.r .z))))), .call 127 [(.c .nilslice), (.t (.l (.l (.l (.r .z)))))], none, none, []⟩,
    ⟨(some (.r (.r .z))), .mv (.t (.r (.l (.l (.r .z))))), none, none, []⟩])
  (.seq (.seq (.region false 0 [
    ⟨(some (.l (.r (.l (.r .z))))), .mv (.t .z), none, none, []⟩,
    ⟨(some (.r (.r (.l (.r .z))))), .len .slice (.t (.l (.r (.l (.r .z))))), none, none, []⟩,
    ⟨(some (.l (.l (.r (.r .z))))), .mv (.c (.int .i64 0)), none, none, []⟩])
  (.block 2 (.loop (.seq (.region false 0 [
      ⟨(some (.r (.l (.r (.r .z))))), .bin .lss (.t (.l (.l (.r (.r .z))))) (.t (.r (.r (.l (.r .z))))), none, none, []⟩])
    (.seq (.cond (.t (.r (.l (.r (.r .z)))))
    .skip
    (.exit 2))
    (.seq (.block 3 (.seq (.region false 0 [
       ⟨(some (.l (.r (.r (.r .z))))), .idxS 1 (.t (.l (.r (.l (.r .z))))) (.t (.l (.l (.r (.r .z))))), none, none, []⟩,
       ⟨(some (.r (.r (.r (.r .z))))), .load false 1 (.t (.l (.r (.r (.r .z))))), none, none, []⟩,
       ⟨(some (.r (.l (.l .z)))), .mv (.t (.r (.r (.r (.r .z))))), none, none, []⟩])
     (.region false 0 [
       ⟨(some (.l (.l (.l (.l (.l .z)))))), .mv (.t (.r (.r .z))), none, none, []⟩,
       ⟨(some (.r (.l (.l (.l (.l .z)))))), .mv (.t (.r (.l (.l .z)))), none, none, []⟩,
       ⟨(some (.l (.r (.l (.l (.l .z)))))), .app 6 48 (.t (.l (.l (.l (.l (.l .z)))))) (.t (.r (.l (.l (.l (.l .z)))))), none, none, []⟩,
       ⟨(some (.r (.r .z))), .mv (.t (.l (.r (.l (.l (.l .z)))))), none, none, []⟩])))
    (.region false 0 [
      ⟨(some (.r (.r (.l (.l (.l .z)))))), .bin .add (.t (.l (.l (.r (.r .z))))) (.c (.int .i64 1)), none, none, []⟩,
      ⟨(some (.l (.l (.r (.r .z))))), .mv (.t (.r (.r (.l (.l (.l .z)))))), none, none, []⟩])))))))
  (.seq (.region false 0 [
    ⟨(some (.l (.l (.r (.l (.l .z)))))), .mv (.t (.r (.r .z))), none, none, []⟩,
    ⟨(some (.r .z)), .mv (.t (.l (.l (.r (.l (.l .z)))))), none, none, []⟩])
  .ret))))))⟩
def AF85 : AFunc := ⟨24, [.tmp (.r .z)],
  (.seq (.region false 0 [
    ⟨(some (.r .z)), .mv (.c (.bool false)), none, none, []⟩])
  (.seq (.seq (.region false 0 [
    ⟨(some (.l (.r .z))), .mv (.t .z), none, none, []⟩,
    ⟨(some (.r (.r .z))), .len .slice (.t (.l (.r .z))), none, none, []⟩,
    ⟨(some (.l (.l (.l .z)))), .mv (.c (.int .i64 0)), none, none, []⟩])
  (.block 0 (.loop (.seq (.region false 0 [
      ⟨(some (.r (.l (.l .z)))), .bin .lss (.t (.l (.l (.l .z)))) (.t (.r (.r .z))), none, none, []⟩])
    (.seq (.cond (.t (.r (.l (.l .z))))
    .skip
    (.exit 0))
    (.seq (.block 1 (.seq (.region false 0 [
       ⟨(some (.l (.r (.l .z)))), .idxS 3 (.t (.l (.r .z))) (.t (.l (.l (.l .z)))), none, none, []⟩,
       ⟨(some (.r (.r (.l .z)))), .load true 3 (.t (.l (.r (.l .z)))), none, none, []⟩,
       ⟨(some (.r (.l .z))), .alloc 3 [[(.int .i64 0), (.int .i64 0), (.int .i64 0)]], none, none, []⟩,
       ⟨none, .store 3 (.t (.r (.l .z))) (.t (.r (.r (.l .z)))), none, none, []⟩])
     (.seq (.region false 0 [
       ⟨(some (.l (.l (.r .z)))), .fieldA 0 (.t (.r (.l .z))), none, none, []⟩,
       ⟨(some (.r (.l (.r .z)))), .load false 1 (.t (.l (.l (.r .z)))), none, none, []⟩,
       ⟨(some (.l (.r (.r .z)))), .fieldA 1 (.t (.r (.l .z))), none, none, []⟩,
       ⟨(some (.r (.r (.r .z)))), .load false 1 (.t (.l (.r (.r .z)))), none, none, []⟩,
       ⟨(some (.l (.l (.l (.l .z))))), .bin .lss (.t (.r (.l (.r .z)))) (.t (.r (.r (.r .z)))), none, none, []⟩,
       ⟨(some (.r (.l (.l (.l .z))))), .mv (.t (.l (.l (.l (.l .z))))), none, none, []⟩,
       ⟨(some (.l (.r (.l (.l .z))))), .fieldA 0 (.t (.r (.l .z))), (some ((.r (.l (.l (.l .z)))), false)), none, []⟩,
       ⟨(some (.r (.r (.l (.l .z))))), .load false 1 (.t (.l (.r (.l (.l .z))))), (some ((.r (.l (.l (.l .z)))), false)), none, []⟩,
       ⟨(some (.l (.l (.r (.l .z))))), .fieldA 2 (.t (.r (.l .z))), (some ((.r (.l (.l (.l .z)))), false)), none, []⟩,
       ⟨(some (.r (.l (.r (.l .z))))), .load false 1 (.t (.l (.l (.r (.l .z))))), (some ((.r (.l (.l (.l .z)))), false)), none, []⟩,
       ⟨(some (.l (.r (.r (.l .z))))), .bin .gtr (.t (.r (.r (.l (.l .z))))) (.t (.r (.l (.r (.l .z))))), (some ((.r (.l (.l (.l .z)))), false)), none, []⟩,
       ⟨(some (.r (.r (.r (.l .z))))), .pick (.t (.r (.l (.l (.l .z))))) (.c (.bool true)) (.t (.l (.r (.r (.l .z))))), none, none, []⟩])
     (.cond (.t (.r (.r (.r (.l .z)))))
     (.seq (.region false 0 [
        ⟨(some (.r .z)), .mv (.c (.bool false)), none, none, []⟩])
      .ret)
     .skip))))
    (.region false 0 [
      ⟨(some (.l (.l (.l (.r .z))))), .bin .add (.t (.l (.l (.l .z)))) (.c (.int .i64 1)), none, none, []⟩,
      ⟨(some (.l (.l (.l .z)))), .mv (.t (.l (.l (.l (.r .z))))), none, none, []⟩])))))))
  (.seq (.region false 0 [
    ⟨(some (.r .z)), .mv (.c (.bool true)), none, none, []⟩])
  .ret)))⟩
def AF86 : AFunc := ⟨24, [.tmp (.r .z)],
  (.seq (.region false 0 [
    ⟨(some (.r .z)), .mv (.c (.bool false)), none, none, []⟩])
  (.seq (.seq (.region false 0 [
    ⟨(some (.l (.r .z))), .mv (.t .z), none, none, []⟩,
    ⟨(some (.r (.r .z))), .len .slice (.t (.l (.r .z))), none, none, []⟩,
    ⟨(some (.l (.l (.l .z)))), .mv (.c (.int .i64 0)), none, none, []⟩])
  (.block 0 (.loop (.seq (.region false 0 [
      ⟨(some (.r (.l (.l .z)))), .bin .lss (.t (.l (.l (.l .z)))) (.t (.r (.r .z))), none, none, []⟩])
    (.seq (.cond (.t (.r (.l (.l .z))))
    .skip
    (.exit 0))
    (.seq (.block 1 (.seq (.region false 0 [
       ⟨(some (.l (.r (.l .z)))), .idxS 3 (.t (.l (.r .z))) (.t (.l (.l (.l .z)))), none, none, []⟩,
       ⟨(some (.r (.r (.l .z)))), .load true 3 (.t (.l (.r (.l .z)))), none, none, []⟩,
       ⟨(some (.r (.l .z))), .alloc 3 [[(.int .u64 0), (.int .u64 0), (.int .u64 0)]], none, none, []⟩,
       ⟨none, .store 3 (.t (.r (.l .z))) (.t (.r (.r (.l .z)))), none, none, []⟩])
     (.seq (.region false 0 [
       ⟨(some (.l (.l (.r .z)))), .fieldA 0 (.t (.r (.l .z))), none, none, []⟩,
       ⟨(some (.r (.l (.r .z)))), .load false 1 (.t (.l (.l (.r .z)))), none, none, []⟩,
       ⟨(some (.l (.r (.r .z)))), .fieldA 1 (.t (.r (.l .z))), none, none, []⟩,
       ⟨(some (.r (.r (.r .z)))), .load false 1 (.t (.l (.r (.r .z)))), none, none, []⟩,
       ⟨(some (.l (.l (.l (.l .z))))), .bin .lss (.t (.r (.l (.r .z)))) (.t (.r (.r (.r .z)))), none, none, []⟩,
       ⟨(some (.r (.l (.l (.l .z))))), .mv (.t (.l (.l (.l (.l .z))))), none, none, []⟩,
       ⟨(some (.l (.r (.l (.l .z))))), .fieldA 0 (.t (.r (.l .z))), (some ((.r (.l (.l (.l .z)))), false)), none, []⟩,
       ⟨(some (.r (.r (.l (.l .z))))), .load false 1 (.t (.l (.r (.l (.l .z))))), (some ((.r (.l (.l (.l .z)))), false)), none, []⟩,
       ⟨(some (.l (.l (.r (.l .z))))), .fieldA 2 (.t (.r (.l .z))), (some ((.r (.l (.l (.l .z)))), false)), none, []⟩,
       ⟨(some (.r (.l (.r (.l .z))))), .load false 1 (.t (.l (.l (.r (.l .z))))), (some ((.r (.l (.l (.l .z)))), false)), none, []⟩,
       ⟨(some (.l (.r (.r (.l .z))))), .bin .gtr (.t (.r (.r (.l (.l .z))))) (.t (.r (.l (.r (.l .z))))), (some ((.r (.l (.l (.l .z)))), false)), none, []⟩,
       ⟨(some (.r (.r (.r (.l .z))))), .pick (.t (.r (.l (.l (.l .z))))) (.c (.bool true)) (.t (.l (.r (.r (.l .z))))), none, none, []⟩])
     (.cond (.t (.r (.r (.r (.l .z)))))
     (.seq (.region false 0 [
        ⟨(some (.r .z)), .mv (.c (.bool false)), none, none, []⟩])
      .ret)
     .skip))))
    (.region false 0 [
      ⟨(some (.l (.l (.l (.r .z))))), .bin .add (.t (.l (.l (.l .z)))) (.c (.int .i64 1)), none, none, []⟩,
      ⟨(some (.l (.l (.l .z)))), .mv (.t (.l (.l (.l (.r .z))))), none, none, []⟩])))))))
  (.seq (.region false 0 [
    ⟨(some (.r .z)), .mv (.c (.bool true)), none, none, []⟩])
  .ret)))⟩
def AF92 : AFunc := ⟨49, [],
  (.seq (.region false 0 [
    ⟨(some (.r (.l (.l .z)))), .mv (.t (.l .z)), none, none, []⟩,
    ⟨(some (.l (.r (.l .z)))), .bin .add (.t (.r (.l (.l .z)))) (.c (.int .i64 1)), none, none, []⟩,
    ⟨(some (.r (.r .z))), .mv (.t (.l (.r (.l .z)))), none, none, []⟩])
  (.block 0 (.loop (.seq (.seq (.region false 0 [
      ⟨(some (.r (.r (.l .z)))), .mv (.t (.r (.r .z))), none, none, []⟩,
      ⟨(some (.l (.l (.r .z)))), .mv (.t (.r .z)), none, none, []⟩,
      ⟨(some (.r (.l (.r .z)))), .bin .lss (.t (.r (.r (.l .z)))) (.t (.l (.l (.r .z)))), none, none, []⟩])
    (.cond (.t (.r (.l (.r .z))))
    .skip
    (.exit 0)))
    (.seq (.block 1 (.seq (.region false 0 [
       ⟨(some (.l (.l (.l (.l .z))))), .mv (.t (.r (.r .z))), none, none, []⟩,
       ⟨(some (.l (.l (.l .z)))), .mv (.t (.l (.l (.l (.l .z))))), none, none, []⟩])
     (.block 2 (.loop (.seq (.seq (.region true 0 [
         ⟨(some (.r (.l (.l (.l .z))))), .mv (.t (.l (.l (.l .z)))), none, none, []⟩,
         ⟨(some (.l (.r (.l (.l .z))))), .mv (.t (.l .z)), none, none, []⟩,
         ⟨(some (.r (.r (.l (.l .z))))), .bin .gtr (.t (.r (.l (.l (.l .z))))) (.t (.l (.r (.l (.l .z))))), none, none, [0, 1]⟩,
         ⟨(some (.l (.l (.r (.l .z))))), .mv (.t (.r (.r (.l (.l .z))))), none, none, [0, 1, 2]⟩,
         ⟨(some (.r (.l (.r (.l .z))))), .mv (.t .z), (some ((.l (.l (.r (.l .z)))), true)), none, [0, 1, 2, 3]⟩,
         ⟨(some (.l (.r (.r (.l .z))))), .mv (.t (.l (.l (.l .z)))), (some ((.l (.l (.r (.l .z)))), true)), none, [0, 1, 2, 3]⟩,
         ⟨(some (.r (.r (.r (.l .z))))), .idxS 1 (.t (.r (.l (.r (.l .z))))) (.t (.l (.r (.r (.l .z))))), (some ((.l (.l (.r (.l .z)))), true)), none, [0, 1, 2, 3, 4, 5]⟩,
         ⟨(some (.l (.l (.l (.r .z))))), .load false 1 (.t (.r (.r (.r (.l .z))))), (some ((.l (.l (.r (.l .z)))), true)), none, [0, 1, 2, 3, 4, 5, 6]⟩,
         ⟨(some (.r (.l (.l (.r .z))))), .mv (.t .z), (some ((.l (.l (.r (.l .z)))), true)), none, [0, 1, 2, 3]⟩,
         ⟨(some (.l (.r (.l (.r .z))))), .mv (.t (.l (.l (.l .z)))), (some ((.l (.l (.r (.l .z)))), true)), none, [0, 1, 2, 3]⟩,
         ⟨(some (.r (.r (.l (.r .z))))), .bin .sub (.t (.l (.r (.l (.r .z))))) (.c (.int .i64 1)), (some ((.l (.l (.r (.l .z)))), true)), none, [0, 1, 2, 3, 9]⟩,
         ⟨(some (.l (.l (.r (.r .z))))), .idxS 1 (.t (.r (.l (.l (.r .z))))) (.t (.r (.r (.l (.r .z))))), (some ((.l (.l (.r (.l .z)))), true)), none, [0, 1, 2, 3, 8, 9, 10]⟩,
         ⟨(some (.r (.l (.r (.r .z))))), .load false 1 (.t (.l (.l (.r (.r .z))))), (some ((.l (.l (.r (.l .z)))), true)), none, [0, 1, 2, 3, 8, 9, 10, 11]⟩,
         ⟨(some (.l (.r (.r (.r .z))))), .call 98 [(.t (.l (.l (.l (.r .z))))), (.t (.r (.l (.r (.r .z)))))], (some ((.l (.l (.r (.l .z)))), true)), none, [0, 1, 2, 3, 4, 5, 6, 7, 8, 9, 10, 11, 12]⟩,
         ⟨(some (.r (.r (.r (.r .z))))), .pick (.t (.l (.l (.r (.l .z))))) (.t (.l (.r (.r (.r .z))))) (.c (.bool false)), none, none, [0, 1, 2, 3, 4, 5, 6, 7, 8, 9, 10, 11, 12, 13]⟩])
       (.cond (.t (.r (.r (.r (.r .z)))))
       .skip
       (.exit 2)))
       (.seq (.block 3 (.region true 0 [
          ⟨(some (.l (.r (.l (.l (.l .z)))))), .mv (.t .z), none, none, []⟩,
          ⟨(some (.r (.r (.l (.l (.l .z)))))), .mv (.t (.l (.l (.l .z)))), none, none, []⟩,
          ⟨(some (.l (.l (.r (.l (.l .z)))))), .mv (.t .z), none, none, []⟩,
          ⟨(some (.r (.l (.r (.l (.l .z)))))), .mv (.t (.l (.l (.l .z)))), none, none, []⟩,
          ⟨(some (.l (.r (.r (.l (.l .z)))))), .bin .sub (.t (.r (.l (.r (.l (.l .z)))))) (.c (.int .i64 1)), none, none, [3]⟩,
          ⟨(some (.r (.r (.r (.l (.l .z)))))), .mv (.t .z), none, none, []⟩,
          ⟨(some (.l (.l (.l (.r (.l .z)))))), .mv (.t (.l (.l (.l .z)))), none, none, []⟩,
          ⟨(some (.r (.l (.l (.r (.l .z)))))), .bin .sub (.t (.l (.l (.l (.r (.l .z)))))) (.c (.int .i64 1)), none, none, [6]⟩,
          ⟨(some (.l (.r (.l (.r (.l .z)))))), .idxS 1 (.t (.r (.r (.r (.l (.l .z)))))) (.t (.r (.l (.l (.r (.l .z)))))), none, none, [5, 6, 7]⟩,
          ⟨(some (.r (.r (.l (.r (.l .z)))))), .load false 1 (.t (.l (.r (.l (.r (.l .z)))))), none, none, [5, 6, 7, 8]⟩,
          ⟨(some (.l (.l (.r (.r (.l .z)))))), .mv (.t .z), none, none, []⟩,
          ⟨(some (.r (.l (.r (.r (.l .z)))))), .mv (.t (.l (.l (.l .z)))), none, none, []⟩,
          ⟨(some (.l (.r (.r (.r (.l .z)))))), .idxS 1 (.t (.l (.l (.r (.r (.l .z)))))) (.t (.r (.l (.r (.r (.l .z)))))), none, none, [10, 11]⟩,
          ⟨(some (.r (.r (.r (.r (.l .z)))))), .load false 1 (.t (.l (.r (.r (.r (.l .z)))))), none, none, [10, 11, 12]⟩,
          ⟨(some (.l (.l (.l (.l (.r .z)))))), .idxS 1 (.t (.l (.r (.l (.l (.l .z)))))) (.t (.r (.r (.l (.l (.l .z)))))), none, none, [0, 1, 5, 6, 7, 8, 9, 10, 11, 12, 13]⟩,
          ⟨none, .store 1 (.t (.l (.l (.l (.l (.r .z)))))) (.t (.r (.r (.l (.r (.l .z)))))), none, none, [0, 1, 5, 6, 7, 8, 9, 10, 11, 12, 13, 14]⟩,
          ⟨(some (.r (.l (.l (.l (.r .z)))))), .idxS 1 (.t (.l (.l (.r (.l (.l .z)))))) (.t (.l (.r (.r (.l (.l .z)))))), none, none, [0, 1, 2, 3, 4, 5, 6, 7, 8, 9, 10, 11, 12, 13, 14, 15]⟩,
          ⟨none, .store 1 (.t (.r (.l (.l (.l (.r .z)))))) (.t (.r (.r (.r (.r (.l .z)))))), none, none, [0, 1, 2, 3, 4, 5, 6, 7, 8, 9, 10, 11, 12, 13, 14, 15, 16]⟩]))
       (.region false 0 [
         ⟨(some (.l (.l (.l (.l (.l .z)))))), .mv (.t (.l (.l (.l .z)))), none, none, []⟩,
         ⟨(some (.r (.l (.l (.l (.l .z)))))), .bin .sub (.t (.l (.l (.l (.l (.l .z)))))) (.c (.int .i64 1)), none, none, []⟩,
         ⟨(some (.l (.l (.l .z)))), .mv (.t (.r (.l (.l (.l (.l .z)))))), none, none, []⟩])))))))
    (.region false 0 [
      ⟨(some (.l (.r (.r .z)))), .mv (.t (.r (.r .z))), none, none, []⟩,
      ⟨(some (.r (.r (.r .z)))), .bin .add (.t (.l (.r (.r .z)))) (.c (.int .i64 1)), none, none, []⟩,
      ⟨(some (.r (.r .z))), .mv (.t (.r (.r (.r .z)))), none, none, []⟩]))))))⟩
def AF106 : AFunc := ⟨25, [.tmp (.r (.l .z)), .tmp (.l (.r .z))],
  (.seq (.region false 0 [
    ⟨(some (.r .z)), .box 9 9 (.t .z), none, none, []⟩,
    ⟨(some (.r (.l .z))), .mv (.c (.int .i64 0)), none, none, []⟩,
    ⟨(some (.l (.r .z))), .mv (.c (.int .i64 0)), none, none, []⟩])
  (.seq (.seq (.region false 0 [
    ⟨(some (.l (.l (.l .z)))), .load true 9 (.t (.r .z)), none, none, []⟩,
    ⟨(some (.r (.l (.l .z)))), .call 70 [(.t (.l (.l (.l .z))))], none, none, []⟩,
    ⟨(some (.r (.r .z))), .mv (.t (.r (.l (.l .z)))), none, none, []⟩])
  (.seq (.region false 0 [
    ⟨(some (.l (.r (.l .z)))), .mv (.t (.r (.r .z))), none, none, []⟩,
    ⟨(some (.r (.r (.l .z)))), .eql true false [.i] (.t (.l (.r (.l .z)))) (.c (.int .i64 0)), none, none, []⟩])
  (.cond (.t (.r (.r (.l .z))))
  (.seq (.region false 0 [
     ⟨(some (.l (.l (.r .z)))), .mv (.t (.r (.r .z))), none, none, []⟩,
     ⟨(some (.r (.l .z))), .mv (.c (.int .i64 0)), none, none, []⟩,
     ⟨(some (.l (.r .z))), .mv (.t (.l (.l (.r .z)))), none, none, []⟩])
   .ret)
  .skip)))
  (.seq (.seq (.region false 0 [
    ⟨(some (.r (.l (.r .z)))), .mv (.t (.l .z)), none, none, []⟩,
    ⟨(some (.l (.r (.r .z)))), .bin .lss (.t (.r (.l (.r .z)))) (.c (.int .i64 0)), none, none, []⟩,
    ⟨(some (.r (.r (.r .z)))), .mv (.t (.l (.r (.r .z)))), none, none, []⟩,
    ⟨(some (.l (.l (.l (.l .z))))), .mv (.t (.l .z)), (some ((.r (.r (.r .z))), false)), none, []⟩,
    ⟨(some (.r (.l (.l (.l .z))))), .bin .gtr (.t (.l (.l (.l (.l .z))))) (.c (.int .i64 1099511627776)), (some ((.r (.r (.r .z))), false)), none, []⟩,
    ⟨(some (.l (.r (.l (.l .z))))), .pick (.t (.r (.r (.r .z)))) (.c (.bool true)) (.t (.r (.l (.l (.l .z))))), none, none, []⟩])
  (.cond (.t (.l (.r (.l (.l .z)))))
  (.seq (.region false 0 [
     ⟨(some (.r (.l .z))), .mv (.c (.int .i64 0)), none, none, []⟩,
     ⟨(some (.l (.r .z))), .mv (.c (.int .i64 2)), none, none, []⟩])
   .ret)
  .skip))
  (.seq (.region false 0 [
    ⟨(some (.r (.r (.l (.l .z))))), .fieldA 5 (.t (.r .z)), none, none, []⟩,
    ⟨(some (.l (.l (.r (.l .z))))), .load false 1 (.t (.r (.r (.l (.l .z))))), none, none, []⟩,
    ⟨(some (.r (.l (.r (.l .z))))), .fieldA 6 (.t (.r .z)), none, none, []⟩,
    ⟨(some (.l (.r (.r (.l .z))))), .load false 1 (.t (.r (.l (.r (.l .z))))), none, none, []⟩,
    ⟨(some (.r (.r (.r (.l .z))))), .bin .add (.t (.l (.l (.r (.l .z))))) (.t (.l (.r (.r (.l .z))))), none, none, []⟩,
    ⟨(some (.l (.l (.l (.r .z))))), .mv (.t (.l .z)), none, none, []⟩,
    ⟨(some (.r (.l (.l (.r .z))))), .bin .sub (.t (.r (.r (.r (.l .z))))) (.t (.l (.l (.l (.r .z))))), none, none, []⟩,
    ⟨(some (.r (.l .z))), .mv (.t (.r (.l (.l (.r .z))))), none, none, []⟩,
    ⟨(some (.l (.r .z))), .mv (.c (.int .i64 0)), none, none, []⟩])
  .ret))))⟩
def AF107 : AFunc := ⟨36, [.tmp (.r .z), .tmp (.l (.l .z))],
  (.seq (.region false 0 [
    ⟨(some (.r .z)), .mv (.c (.int .i64 0)), none, none, []⟩,
    ⟨(some (.l (.l .z))), .mv (.c (.int .i64 0)), none, none, []⟩])
  (.seq (.seq (.region false 0 [
    ⟨(some (.l (.l (.l .z)))), .mv (.t .z), none, none, []⟩,
    ⟨(some (.r (.l (.l .z)))), .len .slice (.t (.l (.l (.l .z)))), none, none, []⟩,
    ⟨(some (.l (.r (.l .z)))), .mv (.c (.int .i64 0)), none, none, []⟩])
  (.block 0 (.loop (.seq (.region false 0 [
      ⟨(some (.r (.r (.l .z)))), .bin .lss (.t (.l (.r (.l .z)))) (.t (.r (.l (.l .z)))), none, none, []⟩])
    (.seq (.cond (.t (.r (.r (.l .z))))
    .skip
    (.exit 0))
    (.seq (.block 1 (.seq (.region false 0 [
       ⟨(some (.l (.l (.r .z)))), .mv (.t (.l (.r (.l .z)))), none, none, []⟩,
       ⟨(some (.r (.l (.r .z)))), .idxS 4 (.t (.l (.l (.l .z)))) (.t (.l (.r (.l .z)))), none, none, []⟩,
       ⟨(some (.l (.r (.r .z)))), .load true 4 (.t (.r (.l (.r .z)))), none, none, []⟩,
       ⟨(some (.l (.r .z))), .alloc 4 [[(.int .i64 0), (.int .u64 0), (.int .i64 0), (.int .i64 0)]], none, none, []⟩,
       ⟨(some (.r (.l .z))), .mv (.t (.l (.l (.r .z)))), none, none, []⟩,
       ⟨none, .store 4 (.t (.l (.r .z))) (.t (.l (.r (.r .z)))), none, none, []⟩])
     (.seq (.seq (.region false 0 [
       ⟨(some (.r (.r (.r .z)))), .load true 4 (.t (.l (.r .z))), none, none, []⟩,
       ⟨(some (.l (.l (.l (.l .z))))), .call 138 [(.t (.r (.r (.r .z))))], none, none, []⟩,
       ⟨(some (.r (.r .z))), .mv (.t (.l (.l (.l (.l .z))))), none, none, []⟩])
     (.seq (.region false 0 [
       ⟨(some (.r (.l (.l (.l .z))))), .mv (.t (.r (.r .z))), none, none, []⟩,
       ⟨(some (.l (.r (.l (.l .z))))), .eql true false [.i] (.t (.r (.l (.l (.l .z))))) (.c (.int .i64 0)), none, none, []⟩])
     (.cond (.t (.l (.r (.l (.l .z)))))
     (.seq (.region false 0 [
        ⟨(some (.r (.r (.l (.l .z))))), .mv (.t (.r (.r .z))), none, none, []⟩,
        ⟨(some (.l (.l (.r (.l .z))))), .mv (.t (.r (.l .z))), none, none, []⟩,
        ⟨(some (.r .z)), .mv (.t (.r (.r (.l (.l .z))))), none, none, []⟩,
        ⟨(some (.l (.l .z))), .mv (.t (.l (.l (.r (.l .z))))), none, none, []⟩])
      .ret)
     .skip)))
     (.seq (.region true 0 [
       ⟨(some (.r (.l (.r (.l .z))))), .mv (.t (.r (.l .z))), none, none, []⟩,
       ⟨(some (.l (.r (.r (.l .z))))), .bin .gtr (.t (.r (.l (.r (.l .z))))) (.c (.int .i64 0)), none, none, [0]⟩,
       ⟨(some (.r (.r (.r (.l .z))))), .mv (.t (.l (.r (.r (.l .z))))), none, none, [0, 1]⟩,
       ⟨(some (.l (.l (.l (.r .z))))), .mv (.t .z), (some ((.r (.r (.r (.l .z)))), true)), none, [0, 1, 2]⟩,
       ⟨(some (.r (.l (.l (.r .z))))), .mv (.t (.r (.l .z))), (some ((.r (.r (.r (.l .z)))), true)), none, [0, 1, 2]⟩,
       ⟨(some (.l (.r (.l (.r .z))))), .bin .sub (.t (.r (.l (.l (.r .z))))) (.c (.int .i64 1)), (some ((.r (.r (.r (.l .z)))), true)), none, [0, 1, 2, 4]⟩,
       ⟨(some (.r (.r (.l (.r .z))))), .idxS 4 (.t (.l (.l (.l (.r .z))))) (.t (.l (.r (.l (.r .z))))), (some ((.r (.r (.r (.l .z)))), true)), none, [0, 1, 2, 3, 4, 5]⟩,
       ⟨(some (.l (.l (.r (.r .z))))), .fieldA 0 (.t (.r (.r (.l (.r .z))))), (some ((.r (.r (.r (.l .z)))), true)), none, [0, 1, 2, 3, 4, 5, 6]⟩,
       ⟨(some (.r (.l (.r (.r .z))))), .load true 3 (.t (.l (.l (.r (.r .z))))), (some ((.r (.r (.r (.l .z)))), true)), none, [0, 1, 2, 3, 4, 5, 6, 7]⟩,
       ⟨(some (.l (.r (.r (.r .z))))), .fieldA 0 (.t (.l (.r .z))), (some ((.r (.r (.r (.l .z)))), true)), none, [0, 1, 2]⟩,
       ⟨(some (.r (.r (.r (.r .z))))), .load true 3 (.t (.l (.r (.r (.r .z))))), (some ((.r (.r (.r (.l .z)))), true)), none, [0, 1, 2, 9]⟩,
       ⟨(some (.l (.l (.l (.l (.l .z)))))), .call 110 [(.t (.r (.l (.r (.r .z))))), (.t (.r (.r (.r (.r .z)))))], (some ((.r (.r (.r (.l .z)))), true)), none, [0, 1, 2, 3, 4, 5, 6, 7, 8, 9, 10]⟩,
       ⟨(some (.r (.l (.l (.l (.l .z)))))), .bin .geq (.t (.l (.l (.l (.l (.l .z)))))) (.c (.int .i64 0)), (some ((.r (.r (.r (.l .z)))), true)), none, [0, 1, 2, 3, 4, 5, 6, 7, 8, 9, 10, 11]⟩,
       ⟨(some (.l (.r (.l (.l (.l .z)))))), .pick (.t (.r (.r (.r (.l .z))))) (.t (.r (.l (.l (.l (.l .z)))))) (.c (.bool false)), none, none, [0, 1, 2, 3, 4, 5, 6, 7, 8, 9, 10, 11, 12]⟩])
     (.cond (.t (.l (.r (.l (.l (.l .z))))))
     (.seq (.region false 0 [
        ⟨(some (.r (.r (.l (.l (.l .z)))))), .mv (.t (.r (.l .z))), none, none, []⟩,
        ⟨(some (.r .z)), .mv (.c (.int .i64 19)), none, none, []⟩,
        ⟨(some (.l (.l .z))), .mv (.t (.r (.r (.l (.l (.l .z)))))), none, none, []⟩])
      .ret)
     .skip)))))
    (.region false 0 [
      ⟨(some (.l (.l (.r (.l (.l .z)))))), .bin .add (.t (.l (.r (.l .z)))) (.c (.int .i64 1)), none, none, []⟩,
      ⟨(some (.l (.r (.l .z)))), .mv (.t (.l (.l (.r (.l (.l .z)))))), none, none, []⟩])))))))
  (.seq (.region false 0 [
    ⟨(some (.r .z)), .mv (.c (.int .i64 0)), none, none, []⟩,
    ⟨(some (.l (.l .z))), .mv (.c (.int .i64 0)), none, none, []⟩])
  .ret)))⟩
def AF108 : AFunc := ⟨15, [.tmp (.r (.l .z)), .tmp (.l (.r .z))],
  (.seq (.region false 0 [
    ⟨(some (.l (.l .z))), .box 3 3 (.t (.l .z)), none, none, []⟩,
    ⟨(some (.r (.l .z))), .mv (.c (.int .i64 0)), none, none, []⟩,
    ⟨(some (.l (.r .z))), .mv (.c (.bool false)), none, none, []⟩])
  (.seq (.region false 0 [
    ⟨(some (.l (.l (.l .z)))), .build [] [], none, none, []⟩,
    ⟨(some (.r (.l (.l .z)))), .mkfunc 139 [(.t (.l (.l (.l .z))))] [], none, none, []⟩,
    ⟨(some (.r (.r .z))), .mv (.t (.r (.l (.l .z)))), none, none, []⟩])
  (.seq (.region false 0 [
    ⟨(some (.l (.r (.l .z)))), .mv (.t .z), none, none, []⟩,
    ⟨(some (.r (.r (.l .z)))), .load true 3 (.t (.l (.l .z))), none, none, []⟩,
    ⟨(some (.l (.l (.r .z)))), .mv (.t (.r (.r .z))), none, none, []⟩,
    ⟨(some (.r (.l (.r .z)))), .call 140 [(.t (.l (.r (.l .z)))), (.t (.r (.r (.l .z)))), (.t (.l (.l (.r .z))))], none, none, []⟩,
    ⟨(some (.l (.r (.r .z)))), .ext (.t (.r (.l (.r .z)))) 0, none, none, []⟩,
    ⟨(some (.r (.r (.r .z)))), .ext (.t (.r (.l (.r .z)))) 1, none, none, []⟩,
    ⟨(some (.r (.l .z))), .mv (.t (.l (.r (.r .z)))), none, none, []⟩,
    ⟨(some (.l (.r .z))), .mv (.t (.r (.r (.r .z)))), none, none, []⟩])
  .ret)))⟩
def AF109 : AFunc := ⟨19, [.tmp (.r (.l .z))],
  (.seq (.region false 0 [
    ⟨(some (.l (.l .z))), .box 9 9 (.t (.l .z)), none, none, []⟩,
    ⟨(some (.r (.l .z))), .mv (.c (.int .i64 0)), none, none, []⟩])
  (.seq (.seq (.region false 0 [
    ⟨(some (.r (.r .z))), .mv (.t .z), none, none, []⟩,
    ⟨(some (.l (.l (.l .z)))), .len .slice (.t (.r (.r .z))), none, none, []⟩,
    ⟨(some (.r (.l (.l .z)))), .mv (.c (.int .i64 0)), none, none, []⟩])
  (.block 0 (.loop (.seq (.region false 0 [
      ⟨(some (.l (.r (.l .z)))), .bin .lss (.t (.r (.l (.l .z)))) (.t (.l (.l (.l .z)))), none, none, []⟩])
    (.seq (.cond (.t (.l (.r (.l .z))))
    .skip
    (.exit 0))
    (.seq (.block 1 (.seq (.region false 0 [
       ⟨(some (.r (.r (.l .z)))), .mv (.t (.r (.l (.l .z)))), none, none, []⟩,
       ⟨(some (.l (.r .z))), .mv (.t (.r (.r (.l .z)))), none, none, []⟩])
     (.seq (.region true 0 [
       ⟨(some (.l (.l (.r .z)))), .load true 9 (.t (.l (.l .z))), none, none, []⟩,
       ⟨(some (.r (.l (.r .z)))), .mv (.t .z), none, none, []⟩,
       ⟨(some (.l (.r (.r .z)))), .mv (.t (.l (.r .z))), none, none, []⟩,
       ⟨(some (.r (.r (.r .z)))), .idxS 9 (.t (.r (.l (.r .z)))) (.t (.l (.r (.r .z)))), none, none, [1, 2]⟩,
       ⟨(some (.l (.l (.l (.l .z))))), .load true 9 (.t (.r (.r (.r .z)))), none, none, [1, 2, 3]⟩,
       ⟨(some (.r (.l (.l (.l .z))))), .eql false true [.i, .i, .i, .i, .i, .i, .i, .i, .s] (.t (.l (.l (.r .z)))) (.t (.l (.l (.l (.l .z))))), none, none, [0, 1, 2, 3, 4]⟩])
     (.cond (.t (.r (.l (.l (.l .z)))))
     (.seq (.region false 0 [
        ⟨(some (.l (.r (.l (.l .z))))), .mv (.t (.l (.r .z))), none, none, []⟩,
        ⟨(some (.r (.l .z))), .mv (.t (.l (.r (.l (.l .z))))), none, none, []⟩])
      .ret)
     .skip))))
    (.region false 0 [
      ⟨(some (.r (.r (.l (.l .z))))), .bin .add (.t (.r (.l (.l .z)))) (.c (.int .i64 1)), none, none, []⟩,
      ⟨(some (.r (.l (.l .z)))), .mv (.t (.r (.r (.l (.l .z))))), none, none, []⟩])))))))
  (.seq (.region false 0 [
    ⟨(some (.r (.l .z))), .mv (.c (.int .i64 (-1))), none, none, []⟩])
  .ret)))⟩
def AF112 : AFunc := ⟨21, [.cell (.r .z) true 3, .tmp (.l (.l .z))],
  (.seq (.region false 0 [
    ⟨(some (.r .z)), .alloc 3 [[(.int .u64 0), (.int .u64 0), .nilslice]], none, none, []⟩,
    ⟨(some (.l (.l .z))), .mv (.c (.int .i64 0)), none, none, []⟩])
  (.seq (.region true 1 [
    ⟨(some (.r (.l .z))), .mv (.t .z), none, none, []⟩,
    ⟨(some (.l (.r .z))), .nilc (.t (.r (.l .z))), none, none, [0]⟩,
    ⟨(some (.r (.r .z))), .fieldA 0 (.t (.l (.r .z))), none, none, [0, 1]⟩,
    ⟨(some (.l (.l (.l .z)))), .fieldA 0 (.t (.r (.r .z))), none, none, [0, 1, 2]⟩,
    ⟨(some (.r (.l (.l .z)))), .load false 1 (.t (.l (.l (.l .z)))), none, none, [0, 1, 2, 3]⟩,
    ⟨(some (.l (.r (.l .z)))), .mv (.t .z), none, none, []⟩,
    ⟨(some (.r (.r (.l .z)))), .nilc (.t (.l (.r (.l .z)))), none, none, [5]⟩,
    ⟨(some (.l (.l (.r .z)))), .fieldA 0 (.t (.r (.r (.l .z)))), none, none, [5, 6]⟩,
    ⟨(some (.r (.l (.r .z)))), .fieldA 1 (.t (.l (.l (.r .z)))), none, none, [5, 6, 7]⟩,
    ⟨(some (.l (.r (.r .z)))), .load false 1 (.t (.r (.l (.r .z)))), none, none, [5, 6, 7, 8]⟩,
    ⟨(some (.r (.r (.r .z)))), .slit 1 0 [(.int .u64 0)] [], none, (some 0), []⟩,
    ⟨(some (.l (.l (.l (.l .z))))), .mv (.t .z), none, none, []⟩,
    ⟨(some (.r (.l (.l (.l .z))))), .nilc (.t (.l (.l (.l (.l .z))))), none, none, [11]⟩,
    ⟨(some (.l (.r (.l (.l .z))))), .fieldA 3 (.t (.r (.l (.l (.l .z))))), none, none, [11, 12]⟩,
    ⟨(some (.r (.r (.l (.l .z))))), .sliceA 1 16 (.t (.l (.r (.l (.l .z))))) none none none, none, none, [11, 12, 13]⟩,
    ⟨(some (.l (.l (.r (.l .z))))), .app 1 8 (.t (.r (.r (.r .z)))) (.t (.r (.r (.l (.l .z))))), none, none, [10, 11, 12, 13, 14]⟩,
    ⟨(some (.r (.l (.r (.l .z))))), .build [(.int .u64 0), (.int .u64 0), .nilslice] [(0, 1, (.t (.r (.l (.l .z))))), (1, 1, (.t (.l (.r (.r .z))))), (2, 1, (.t (.l (.l (.r (.l .z))))))], none, none, [0, 1, 2, 3, 4, 5, 6, 7, 8, 9, 10, 11, 12, 13, 14, 15]⟩,
    ⟨none, .store 3 (.t (.r .z)) (.t (.r (.l (.r (.l .z))))), none, none, [0, 1, 2, 3, 4, 5, 6, 7, 8, 9, 10, 11, 12, 13, 14, 15, 16]⟩,
    ⟨(some (.l (.l .z))), .mv (.c (.int .i64 0)), none, none, [0, 1, 2, 3, 4, 5, 6, 7, 8, 9, 10, 11, 12, 13, 14, 15, 16, 17]⟩])
  .ret))⟩
def AF113 : AFunc := ⟨43, [.tmp (.r .z)],
  (.seq (.region false 0 [
    ⟨(some (.l .z)), .box 9 9 (.t .z), none, none, []⟩,
    ⟨(some (.r .z)), .mv (.c (.str [])), none, none, []⟩])
  (.seq (.region false 0 [
    ⟨(some (.l (.r .z))), .fieldA 4 (.t (.l .z)), none, none, []⟩,
    ⟨(some (.r (.r .z))), .load false 1 (.t (.l (.r .z))), none, none, []⟩,
    ⟨(some (.l (.l .z))), .mv (.t (.r (.r .z))), none, none, []⟩])
  (.seq (.seq (.region false 0 [
    ⟨(some (.l (.l (.l .z)))), .load true 9 (.t (.l .z)), none, none, []⟩,
    ⟨(some (.r (.l (.l .z)))), .call 142 [(.t (.l (.l (.l .z))))], none, none, []⟩])
  (.cond (.t (.r (.l (.l .z))))
  (.region false 0 [
     ⟨(some (.l (.r (.l .z)))), .mv (.t (.l (.l .z))), none, none, []⟩,
     ⟨(some (.r (.r (.l .z)))), .bin .add (.t (.l (.r (.l .z)))) (.c (.int .i64 3)), none, none, []⟩,
     ⟨(some (.l (.l .z))), .mv (.t (.r (.r (.l .z)))), none, none, []⟩])
  .skip))
  (.seq (.region true 2 [
    ⟨(some (.l (.l (.r .z)))), .mv (.t (.l (.l .z))), none, none, []⟩,
    ⟨(some (.r (.l (.r .z)))), .mv (.t (.l (.l .z))), none, none, []⟩,
    ⟨(some (.l (.r (.r .z)))), .bin .add (.t (.r (.l (.r .z)))) (.c (.int .i64 1)), none, none, [1]⟩,
    ⟨(some (.r (.r (.r .z)))), .sliceA 1 6 (.c (.ptr 0 0 0)) (some (.t (.l (.l (.r .z))))) (some (.t (.l (.r (.r .z))))) none, none, none, [0, 1, 2]⟩,
    ⟨(some (.l (.l (.l (.l .z))))), .conv .b2s (.t (.r (.r (.r .z)))), none, none, [0, 1, 2, 3]⟩,
    ⟨(some (.r (.l (.l (.l .z))))), .fieldA 0 (.t (.l .z)), none, none, []⟩,
    ⟨(some (.l (.r (.l (.l .z))))), .fieldA 0 (.t (.r (.l (.l (.l .z))))), none, none, [5]⟩,
    ⟨(some (.r (.r (.l (.l .z))))), .slit 1 1 [.nilptr] [(0, (.t (.l (.r (.l (.l .z))))))], none, (some 0), [5, 6]⟩,
    ⟨(some (.l (.l (.r (.l .z))))), .call 143 [(.t (.r (.r (.l (.l .z)))))], none, none, [5, 6, 7]⟩,
    ⟨(some (.r (.l (.r (.l .z))))), .bin .add (.t (.l (.l (.l (.l .z))))) (.t (.l (.l (.r (.l .z))))), none, none, [0, 1, 2, 3, 4, 5, 6, 7, 8]⟩,
    ⟨(some (.l (.r (.r (.l .z))))), .fieldA 0 (.t (.l .z)), none, none, []⟩,
    ⟨(some (.r (.r (.r (.l .z))))), .fieldA 1 (.t (.l (.r (.r (.l .z))))), none, none, [10]⟩,
    ⟨(some (.l (.l (.l (.r .z))))), .load false 1 (.t (.r (.r (.r (.l .z))))), none, none, [10, 11]⟩,
    ⟨(some (.r (.l (.l (.r .z))))), .call 144 [(.t (.l (.l (.l (.r .z)))))], none, none, [5, 6, 7, 8, 10, 11, 12]⟩,
    ⟨(some (.l (.r (.l (.r .z))))), .bin .add (.t (.r (.l (.r (.l .z))))) (.t (.r (.l (.l (.r .z))))), none, none, [0, 1, 2, 3, 4, 5, 6, 7, 8, 9, 10, 11, 12, 13]⟩,
    ⟨(some (.r (.r (.l (.r .z))))), .fieldA 3 (.t (.l .z)), none, none, []⟩,
    ⟨(some (.l (.l (.r (.r .z))))), .fieldA 5 (.t (.l .z)), none, none, []⟩,
    ⟨(some (.r (.l (.r (.r .z))))), .fieldA 6 (.t (.l .z)), none, none, []⟩,
    ⟨(some (.l (.r (.r (.r .z))))), .slit 1 3 [.nilptr] [(0, (.t (.r (.r (.l (.r .z)))))), (1, (.t (.l (.l (.r (.r .z)))))), (2, (.t (.r (.l (.r (.r .z))))))], none, (some 1), [15, 16, 17]⟩,
    ⟨(some (.r (.r (.r (.r .z))))), .call 143 [(.t (.l (.r (.r (.r .z)))))], none, none, [5, 6, 7, 8, 10, 11, 12, 13, 15, 16, 17, 18]⟩,
    ⟨(some (.l (.l (.l (.l (.l .z)))))), .bin .add (.t (.l (.r (.l (.r .z))))) (.t (.r (.r (.r (.r .z))))), none, none, [0, 1, 2, 3, 4, 5, 6, 7, 8, 9, 10, 11, 12, 13, 14, 15, 16, 17, 18, 19]⟩,
    ⟨(some (.r (.l .z))), .mv (.t (.l (.l (.l (.l (.l .z)))))), none, none, [0, 1, 2, 3, 4, 5, 6, 7, 8, 9, 10, 11, 12, 13, 14, 15, 16, 17, 18, 19, 20]⟩])
  (.seq (.seq (.region false 0 [
    ⟨(some (.r (.l (.l (.l (.l .z)))))), .load true 9 (.t (.l .z)), none, none, []⟩,
    ⟨(some (.l (.r (.l (.l (.l .z)))))), .call 142 [(.t (.r (.l (.l (.l (.l .z))))))], none, none, []⟩,
    ⟨(some (.r (.r (.l (.l (.l .z)))))), .un .not (.t (.l (.r (.l (.l (.l .z)))))), none, none, []⟩])
  (.cond (.t (.r (.r (.l (.l (.l .z))))))
  (.region false 0 [
     ⟨(some (.l (.l (.r (.l (.l .z)))))), .mv (.t (.r (.l .z))), none, none, []⟩,
     ⟨(some (.r (.l (.r (.l (.l .z)))))), .fieldA 0 (.t (.l .z)), none, none, []⟩,
     ⟨(some (.l (.r (.r (.l (.l .z)))))), .fieldA 2 (.t (.r (.l (.r (.l (.l .z)))))), none, none, []⟩,
     ⟨(some (.r (.r (.r (.l (.l .z)))))), .fieldA 7 (.t (.l .z)), none, none, []⟩,
     ⟨(some (.l (.l (.l (.r (.l .z)))))), .slit 1 2 [.nilptr] [(0, (.t (.l (.r (.r (.l (.l .z))))))), (1, (.t (.r (.r (.r (.l (.l .z)))))))], none, none, []⟩,
     ⟨(some (.r (.l (.l (.r (.l .z)))))), .call 143 [(.t (.l (.l (.l (.r (.l .z))))))], none, none, []⟩,
     ⟨(some (.l (.r (.l (.r (.l .z)))))), .bin .add (.t (.l (.l (.r (.l (.l .z)))))) (.t (.r (.l (.l (.r (.l .z)))))), none, none, []⟩,
     ⟨(some (.r (.l .z))), .mv (.t (.l (.r (.l (.r (.l .z)))))), none, none, []⟩])
  .skip))
  (.seq (.region false 0 [
    ⟨(some (.r (.r (.l (.r (.l .z)))))), .mv (.t (.r (.l .z))), none, none, []⟩,
    ⟨(some (.r .z)), .mv (.t (.r (.r (.l (.r (.l .z)))))), none, none, []⟩])
  .ret))))))⟩
def AF114 : AFunc := ⟨12, [.tmp (.r .z)],
  (.seq (.region false 0 [
    ⟨(some (.r .z)), .mv (.c (.int .i64 0)), none, none, []⟩])
  (.seq (.region false 0 [
    ⟨(some (.l (.l .z))), .alloc 1 [[(.int .i64 0)]], none, none, []⟩,
    ⟨none, .store 1 (.t (.l (.l .z))) (.c (.int .i64 0)), none, none, []⟩])
  (.seq (.seq (.region false 0 [
    ⟨(some (.l (.r .z))), .mv (.t .z), none, none, []⟩,
    ⟨(some (.r (.r .z))), .call 145 [(.t (.l (.r .z)))], none, none, []⟩])
  (.block 0 (.rangeFunc (.t (.r (.r .z))) [(.l (.l (.l .z))), (.r (.l (.l .z)))]
   (.region false 0 [
      ⟨(some (.r (.l .z))), .mv (.t (.l (.l (.l .z)))), none, none, []⟩])
   (.block 1 (.region false 0 [
       ⟨(some (.l (.r (.l .z)))), .mv (.t (.r (.l .z))), none, none, []⟩,
       ⟨(some (.r (.r (.l .z)))), .bin .add (.t (.l (.r (.l .z)))) (.c (.int .i64 1)), none, none, []⟩,
       ⟨none, .store 1 (.t (.l (.l .z))) (.t (.r (.r (.l .z)))), none, none, []⟩])))))
  (.seq (.region false 0 [
    ⟨(some (.l (.l (.r .z)))), .load false 1 (.t (.l (.l .z))), none, none, []⟩,
    ⟨(some (.r .z)), .mv (.t (.l (.l (.r .z)))), none, none, []⟩])
  .ret))))⟩
def AF115 : AFunc := ⟨34, [.tmp (.r .z), .tmp (.l (.l .z))],
  (.seq (.region false 0 [
    ⟨(some (.l .z)), .box 3 3 (.t .z), none, none, []⟩,
    ⟨(some (.r .z)), .mv (.c .nilptr), none, none, []⟩,
    ⟨(some (.l (.l .z))), .mv (.c (.int .i64 0)), none, none, []⟩])
  (.seq (.block 0 (.seq (.region false 0 [
     ⟨(some (.r (.r .z))), .fieldA 0 (.t (.l .z)), none, none, []⟩,
     ⟨(some (.l (.l (.l .z)))), .load false 1 (.t (.r (.r .z))), none, none, []⟩,
     ⟨(some (.r (.l (.l .z)))), .bin .gtr (.t (.l (.l (.l .z)))) (.c (.int .u64 1099511627776)), none, none, []⟩,
     ⟨(some (.l (.r .z))), .mv (.t (.r (.l (.l .z)))), none, none, []⟩])
   (.cond (.t (.l (.r .z)))
   (.seq (.region false 0 [
      ⟨(some (.r .z)), .mv (.c .nilptr), none, none, []⟩,
      ⟨(some (.l (.l .z))), .mv (.c (.int .i64 2)), none, none, []⟩])
    .ret)
   (.seq (.region false 0 [
      ⟨(some (.r (.r (.l .z)))), .fieldA 2 (.t (.l .z)), none, none, []⟩,
      ⟨(some (.l (.l (.r .z)))), .load false 1 (.t (.r (.r (.l .z)))), none, none, []⟩,
      ⟨(some (.r (.l (.r .z)))), .len .slice (.t (.l (.l (.r .z)))), none, none, []⟩,
      ⟨(some (.l (.r (.r .z)))), .eql true false [.i] (.t (.r (.l (.r .z)))) (.c (.int .i64 16)), none, none, []⟩,
      ⟨(some (.l (.r (.l .z)))), .mv (.t (.l (.r (.r .z)))), none, none, []⟩])
    (.cond (.t (.l (.r (.l .z))))
    (.seq (.region false 0 [
       ⟨(some (.r .z)), .mv (.c .nilptr), none, none, []⟩,
       ⟨(some (.l (.l .z))), .mv (.c (.int .i64 3)), none, none, []⟩])
     .ret)
    .skip)))))
  (.seq (.region true 1 [
    ⟨(some (.r (.r (.r .z)))), .load true 3 (.t (.l .z)), none, none, []⟩,
    ⟨(some (.l (.l (.l (.l .z))))), .fieldA 2 (.t (.l .z)), none, none, []⟩,
    ⟨(some (.r (.l (.l (.l .z))))), .load false 1 (.t (.l (.l (.l (.l .z))))), none, none, [1]⟩,
    ⟨(some (.l (.r (.l (.l .z))))), .s2a 16 (.t (.r (.l (.l (.l .z))))), none, none, [1, 2]⟩,
    ⟨(some (.r (.r (.l (.l .z))))), .load true 16 (.t (.l (.r (.l (.l .z))))), none, none, [1, 2, 3]⟩,
    ⟨(some (.l (.l (.r (.l .z))))), .build [(.int .u64 0), (.int .u64 0), .nilslice, (.int .u64 0), (.int .u64 0), (.int .u64 0), (.int .u64 0), (.int .u64 0), (.int .u64 0), (.int .u64 0), (.int .u64 0), (.int .u64 0), (.int .u64 0), (.int .u64 0), (.int .u64 0), (.int .u64 0), (.int .u64 0), (.int .u64 0), (.int .u64 0)] [(0, 3, (.t (.r (.r (.r .z))))), (3, 16, (.t (.r (.r (.l (.l .z))))))], none, none, [0, 1, 2, 3, 4]⟩,
    ⟨(some (.r (.l (.r (.l .z))))), .box 1 19 (.t (.l (.l (.r (.l .z))))), none, (some 0), [0, 1, 2, 3, 4, 5]⟩,
    ⟨(some (.r (.l .z))), .mv (.t (.r (.l (.r (.l .z))))), none, none, [0, 1, 2, 3, 4, 5, 6]⟩])
  (.seq (.seq (.region true 1 [
    ⟨(some (.l (.r (.r (.l .z))))), .fieldA 1 (.t (.l .z)), none, none, []⟩,
    ⟨(some (.r (.r (.r (.l .z))))), .load false 1 (.t (.l (.r (.r (.l .z))))), none, none, [0]⟩,
    ⟨(some (.l (.l (.l (.r .z))))), .slit 1 1 [(.int .u64 0)] [(0, (.t (.r (.r (.r (.l .z))))))], none, (some 0), [0, 1]⟩,
    ⟨(some (.r (.l (.l (.r .z))))), .mv (.t (.r (.l .z))), none, none, []⟩,
    ⟨(some (.l (.r (.l (.r .z))))), .nilc (.t (.r (.l (.l (.r .z))))), none, none, [3]⟩,
    ⟨(some (.r (.r (.l (.r .z))))), .fieldA 3 (.t (.l (.r (.l (.r .z))))), none, none, [3, 4]⟩,
    ⟨(some (.l (.l (.r (.r .z))))), .sliceA 1 16 (.t (.r (.r (.l (.r .z))))) none none none, none, none, [3, 4, 5]⟩,
    ⟨(some (.r (.l (.r (.r .z))))), .app 1 8 (.t (.l (.l (.l (.r .z))))) (.t (.l (.l (.r (.r .z))))), none, none, [0, 1, 2, 3, 4, 5, 6]⟩,
    ⟨(some (.l (.r (.r (.r .z))))), .call 146 [(.t (.r (.l (.r (.r .z)))))], none, none, [0, 1, 2, 3, 4, 5, 6, 7]⟩,
    ⟨(some (.r (.r (.r (.r .z))))), .fieldA 0 (.t (.l .z)), none, none, []⟩,
    ⟨(some (.l (.l (.l (.l (.l .z)))))), .load false 1 (.t (.r (.r (.r (.r .z))))), none, none, [9]⟩,
    ⟨(some (.r (.l (.l (.l (.l .z)))))), .bin .gtr (.t (.l (.r (.r (.r .z))))) (.t (.l (.l (.l (.l (.l .z)))))), none, none, [0, 1, 2, 3, 4, 5, 6, 7, 8, 9, 10]⟩])
  (.cond (.t (.r (.l (.l (.l (.l .z))))))
  (.seq (.region false 0 [
     ⟨(some (.r .z)), .mv (.c .nilptr), none, none, []⟩,
     ⟨(some (.l (.l .z))), .mv (.c (.int .i64 5)), none, none, []⟩])
   .ret)
  .skip))
  (.seq (.region false 0 [
    ⟨(some (.l (.r (.l (.l (.l .z)))))), .mv (.t (.r (.l .z))), none, none, []⟩,
    ⟨(some (.r .z)), .mv (.t (.l (.r (.l (.l (.l .z)))))), none, none, []⟩,
    ⟨(some (.l (.l .z))), .mv (.c (.int .i64 0)), none, none, []⟩])
  .ret)))))⟩
def AF116 : AFunc := ⟨17, [.tmp (.r .z)],
  (.seq (.region false 0 [
    ⟨(some (.r .z)), .mv (.c (.int .u64 0)), none, none, []⟩])
  (.seq (.region true 0 [
    ⟨(some (.l (.l .z))), .mv (.t .z), none, none, []⟩,
    ⟨(some (.r (.l .z))), .nilc (.t (.l (.l .z))), none, none, [0]⟩,
    ⟨(some (.l (.r .z))), .fieldA 0 (.t (.r (.l .z))), none, none, [0, 1]⟩,
    ⟨(some (.r (.r .z))), .fieldA 0 (.t (.l (.r .z))), none, none, [0, 1, 2]⟩,
    ⟨(some (.l (.l (.l .z)))), .load false 1 (.t (.r (.r .z))), none, none, [0, 1, 2, 3]⟩,
    ⟨(some (.r (.l (.l .z)))), .mv (.t .z), none, none, []⟩,
    ⟨(some (.l (.r (.l .z)))), .nilc (.t (.r (.l (.l .z)))), none, none, [5]⟩,
    ⟨(some (.r (.r (.l .z)))), .fieldA 0 (.t (.l (.r (.l .z)))), none, none, [5, 6]⟩,
    ⟨(some (.l (.l (.r .z)))), .fieldA 1 (.t (.r (.r (.l .z)))), none, none, [5, 6, 7]⟩,
    ⟨(some (.r (.l (.r .z)))), .load false 1 (.t (.l (.l (.r .z)))), none, none, [5, 6, 7, 8]⟩,
    ⟨(some (.l (.r (.r .z)))), .bin .sub (.t (.l (.l (.l .z)))) (.t (.r (.l (.r .z)))), none, none, [0, 1, 2, 3, 4, 5, 6, 7, 8, 9]⟩,
    ⟨(some (.r (.r (.r .z)))), .mv (.t .z), none, none, []⟩,
    ⟨(some (.l (.l (.l (.l .z))))), .call 147 [(.t (.r (.r (.r .z))))], none, none, [11]⟩,
    ⟨(some (.r (.l (.l (.l .z))))), .bin .sub (.t (.l (.r (.r .z)))) (.t (.l (.l (.l (.l .z))))), none, none, [0, 1, 2, 3, 4, 5, 6, 7, 8, 9, 10, 11, 12]⟩,
    ⟨(some (.r .z)), .mv (.t (.r (.l (.l (.l .z))))), none, none, [0, 1, 2, 3, 4, 5, 6, 7, 8, 9, 10, 11, 12, 13]⟩])
  .ret))⟩
def AF118 : AFunc := ⟨87, [.tmp (.r .z), .tmp (.l (.l .z))],
  (.seq (.region false 0 [
    ⟨(some (.l .z)), .box 4 4 (.t .z), none, none, []⟩,
    ⟨(some (.r .z)), .mv (.c (.int .i64 0)), none, none, []⟩,
    ⟨(some (.l (.l .z))), .mv (.c (.int .i64 0)), none, none, []⟩])
  (.seq (.seq (.region false 0 [
    ⟨(some (.l (.r (.l .z)))), .mkfunc 148 [] [(.t (.l .z))], none, none, []⟩,
    ⟨(some (.r (.r (.l .z)))), .build [(.int .i64 0), .nilFunc] [(0, 1, (.c (.int .i64 2))), (1, 1, (.t (.l (.r (.l .z)))))], none, none, []⟩,
    ⟨(some (.l (.l (.r .z)))), .mkfunc 149 [] [(.t (.l .z))], none, none, []⟩,
    ⟨(some (.r (.l (.r .z)))), .build [(.int .i64 0), .nilFunc] [(0, 1, (.c (.int .i64 14))), (1, 1, (.t (.l (.l (.r .z)))))], none, none, []⟩,
    ⟨(some (.l (.r (.r .z)))), .mkfunc 150 [] [(.t (.l .z))], none, none, []⟩,
    ⟨(some (.r (.r (.r .z)))), .build [(.int .i64 0), .nilFunc] [(0, 1, (.c (.int .i64 5))), (1, 1, (.t (.l (.r (.r .z)))))], none, none, []⟩,
    ⟨(some (.l (.l (.l (.l .z))))), .slit 2 3 [(.int .i64 0), .nilFunc] [(0, (.t (.r (.r (.l .z))))), (1, (.t (.r (.l (.r .z))))), (2, (.t (.r (.r (.r .z)))))], none, none, []⟩,
    ⟨(some (.r (.l (.l (.l .z))))), .len .slice (.t (.l (.l (.l (.l .z))))), none, none, []⟩,
    ⟨(some (.l (.r (.l (.l .z))))), .mv (.c (.int .i64 0)), none, none, []⟩])
  (.block 0 (.loop (.seq (.region false 0 [
      ⟨(some (.r (.r (.l (.l .z))))), .bin .lss (.t (.l (.r (.l (.l .z))))) (.t (.r (.l (.l (.l .z))))), none, none, []⟩])
    (.seq (.cond (.t (.r (.r (.l (.l .z)))))
    .skip
    (.exit 0))
    (.seq (.block 1 (.seq (.region false 0 [
       ⟨(some (.l (.l (.r (.l .z))))), .idxS 2 (.t (.l (.l (.l (.l .z))))) (.t (.l (.r (.l (.l .z))))), none, none, []⟩,
       ⟨(some (.r (.l (.r (.l .z))))), .load true 2 (.t (.l (.l (.r (.l .z))))), none, none, []⟩,
       ⟨(some (.l (.r .z))), .alloc 2 [[(.int .i64 0), .nilFunc]], none, none, []⟩,
       ⟨none, .store 2 (.t (.l (.r .z))) (.t (.r (.l (.r (.l .z))))), none, none, []⟩])
     (.seq (.region false 0 [
       ⟨(some (.l (.r (.r (.l .z))))), .fieldA 1 (.t (.l (.r .z))), none, none, []⟩,
       ⟨(some (.r (.r (.r (.l .z))))), .load false 1 (.t (.l (.r (.r (.l .z))))), none, none, []⟩,
       ⟨(some (.l (.l (.l (.r .z))))), .callv (.t (.r (.r (.r (.l .z))))) [], none, none, []⟩,
       ⟨(some (.r (.l (.l (.r .z))))), .un .not (.t (.l (.l (.l (.r .z))))), none, none, []⟩])
     (.cond (.t (.r (.l (.l (.r .z)))))
     (.seq (.region false 0 [
        ⟨(some (.l (.r (.l (.r .z))))), .fieldA 0 (.t (.l (.r .z))), none, none, []⟩,
        ⟨(some (.r (.r (.l (.r .z))))), .load false 1 (.t (.l (.r (.l (.r .z))))), none, none, []⟩,
        ⟨(some (.r .z)), .mv (.t (.r (.r (.l (.r .z))))), none, none, []⟩,
        ⟨(some (.l (.l .z))), .mv (.c (.int .i64 0)), none, none, []⟩])
      .ret)
     .skip))))
    (.region false 0 [
      ⟨(some (.l (.l (.r (.r .z))))), .bin .add (.t (.l (.r (.l (.l .z))))) (.c (.int .i64 1)), none, none, []⟩,
      ⟨(some (.l (.r (.l (.l .z))))), .mv (.t (.l (.l (.r (.r .z))))), none, none, []⟩])))))))
  (.seq (.region false 0 [
    ⟨(some (.r (.r .z))), .mv (.c (.int .u64 0)), none, none, []⟩])
  (.seq (.seq (.region false 0 [
    ⟨(some (.r (.l (.r (.r .z))))), .fieldA 3 (.t (.l .z)), none, none, []⟩,
    ⟨(some (.l (.r (.r (.r .z))))), .load false 1 (.t (.r (.l (.r (.r .z))))), none, none, []⟩,
    ⟨(some (.r (.r (.r (.r .z))))), .len .slice (.t (.l (.r (.r (.r .z))))), none, none, []⟩,
    ⟨(some (.l (.l (.l (.l (.l .z)))))), .mv (.c (.int .i64 0)), none, none, []⟩])
  (.block 2 (.loop (.seq (.region false 0 [
      ⟨(some (.r (.l (.l (.l (.l .z)))))), .bin .lss (.t (.l (.l (.l (.l (.l .z)))))) (.t (.r (.r (.r (.r .z))))), none, none, []⟩])
    (.seq (.cond (.t (.r (.l (.l (.l (.l .z))))))
    .skip
    (.exit 2))
    (.seq (.block 3 (.seq (.region false 0 [
       ⟨(some (.l (.r (.l (.l (.l .z)))))), .mv (.t (.l (.l (.l (.l (.l .z)))))), none, none, []⟩,
       ⟨(some (.r (.r (.l (.l (.l .z)))))), .idxS 5 (.t (.l (.r (.r (.r .z))))) (.t (.l (.l (.l (.l (.l .z)))))), none, none, []⟩,
       ⟨(some (.l (.l (.r (.l (.l .z)))))), .load true 5 (.t (.r (.r (.l (.l (.l .z)))))), none, none, []⟩,
       ⟨(some (.r (.l (.l .z)))), .alloc 5 [[(.int .u64 0), (.int .u64 0), (.int .i64 0), (.int .u64 0), (.int .i64 0)]], none, none, []⟩,
       ⟨(some (.l (.l (.l .z)))), .mv (.t (.l (.r (.l (.l (.l .z)))))), none, none, []⟩,
       ⟨none, .store 5 (.t (.r (.l (.l .z)))) (.t (.l (.l (.r (.l (.l .z)))))), none, none, []⟩])
     (.seq (.block 4 (.seq (.region false 0 [
        ⟨(some (.l (.r (.r (.l (.l .z)))))), .fieldA 1 (.t (.r (.l (.l .z)))), none, none, []⟩,
        ⟨(some (.r (.r (.r (.l (.l .z)))))), .load false 1 (.t (.l (.r (.r (.l (.l .z)))))), none, none, []⟩,
        ⟨(some (.l (.l (.l (.r (.l .z)))))), .eql false false [.i] (.t (.r (.r (.r (.l (.l .z)))))) (.c (.int .u64 0)), none, none, []⟩,
        ⟨(some (.r (.l (.l (.r (.l .z)))))), .mv (.t (.l (.l (.l (.r (.l .z)))))), none, none, []⟩,
        ⟨(some (.l (.r (.l (.r (.l .z)))))), .fieldA 2 (.t (.r (.l (.l .z)))), (some ((.r (.l (.l (.r (.l .z))))), false)), none, []⟩,
        ⟨(some (.r (.r (.l (.r (.l .z)))))), .load true 3 (.t (.l (.r (.l (.r (.l .z)))))), (some ((.r (.l (.l (.r (.l .z))))), false)), none, []⟩,
        ⟨(some (.l (.l (.r (.r (.l .z)))))), .call 25 [(.t (.r (.r (.l (.r (.l .z))))))], (some ((.r (.l (.l (.r (.l .z))))), false)), none, []⟩,
        ⟨(some (.r (.l (.r (.r (.l .z)))))), .eql true false [.i] (.t (.l (.l (.r (.r (.l .z)))))) (.c (.int .i64 0)), (some ((.r (.l (.l (.r (.l .z))))), false)), none, []⟩,
        ⟨(some (.l (.r (.r (.r (.l .z)))))), .pick (.t (.r (.l (.l (.r (.l .z)))))) (.c (.bool true)) (.t (.r (.l (.r (.r (.l .z)))))), none, none, []⟩,
        ⟨(some (.r (.l (.r (.l (.l .z)))))), .mv (.t (.l (.r (.r (.r (.l .z)))))), none, none, []⟩])
      (.cond (.t (.r (.l (.r (.l (.l .z))))))
      (.seq (.region false 0 [
         ⟨(some (.r (.r (.r (.r (.l .z)))))), .mv (.t (.l (.l (.l .z)))), none, none, []⟩,
         ⟨(some (.r .z)), .mv (.c (.int .i64 2)), none, none, []⟩,
         ⟨(some (.l (.l .z))), .mv (.t (.r (.r (.r (.r (.l .z)))))), none, none, []⟩])
       .ret)
      (.seq (.region false 0 [
         ⟨(some (.r (.l (.l (.l (.r .z)))))), .fieldA 0 (.t (.r (.l (.l .z)))), none, none, []⟩,
         ⟨(some (.l (.r (.l (.l (.r .z)))))), .load false 1 (.t (.r (.l (.l (.l (.r .z)))))), none, none, []⟩,
         ⟨(some (.r (.r (.l (.l (.r .z)))))), .mv (.t (.r (.r .z))), none, none, []⟩,
         ⟨(some (.l (.l (.r (.l (.r .z)))))), .bin .lss (.t (.l (.r (.l (.l (.r .z)))))) (.t (.r (.r (.l (.l (.r .z)))))), none, none, []⟩,
         ⟨(some (.r (.l (.r (.l (.r .z)))))), .mv (.t (.l (.l (.r (.l (.r .z)))))), none, none, []⟩,
         ⟨(some (.l (.r (.r (.l (.r .z)))))), .fieldA 0 (.t (.r (.l (.l .z)))), (some ((.r (.l (.r (.l (.r .z))))), false)), none, []⟩,
         ⟨(some (.r (.r (.r (.l (.r .z)))))), .load false 1 (.t (.l (.r (.r (.l (.r .z)))))), (some ((.r (.l (.r (.l (.r .z))))), false)), none, []⟩,
         ⟨(some (.l (.l (.l (.r (.r .z)))))), .fieldA 1 (.t (.l .z)), (some ((.r (.l (.r (.l (.r .z))))), false)), none, []⟩,
         ⟨(some (.r (.l (.l (.r (.r .z)))))), .load false 1 (.t (.l (.l (.l (.r (.r .z)))))), (some ((.r (.l (.r (.l (.r .z))))), false)), none, []⟩,
         ⟨(some (.l (.r (.l (.r (.r .z)))))), .bin .gtr (.t (.r (.r (.r (.l (.r .z)))))) (.t (.r (.l (.l (.r (.r .z)))))), (some ((.r (.l (.r (.l (.r .z))))), false)), none, []⟩,
         ⟨(some (.r (.r (.l (.r (.r .z)))))), .pick (.t (.r (.l (.r (.l (.r .z)))))) (.c (.bool true)) (.t (.l (.r (.l (.r (.r .z)))))), none, none, []⟩,
         ⟨(some (.l (.l (.r (.r (.r .z)))))), .mv (.t (.r (.r (.l (.r (.r .z)))))), none, none, []⟩,
         ⟨(some (.r (.l (.r (.r (.r .z)))))), .fieldA 1 (.t (.r (.l (.l .z)))), (some ((.l (.l (.r (.r (.r .z))))), false)), none, []⟩,
         ⟨(some (.l (.r (.r (.r (.r .z)))))), .load false 1 (.t (.r (.l (.r (.r (.r .z)))))), (some ((.l (.l (.r (.r (.r .z))))), false)), none, []⟩,
         ⟨(some (.r (.r (.r (.r (.r .z)))))), .fieldA 1 (.t (.l .z)), (some ((.l (.l (.r (.r (.r .z))))), false)), none, []⟩,
         ⟨(some (.l (.l (.l (.l (.l (.l .z))))))), .load false 1 (.t (.r (.r (.r (.r (.r .z)))))), (some ((.l (.l (.r (.r (.r .z))))), false)), none, []⟩,
         ⟨(some (.r (.l (.l (.l (.l (.l .z))))))), .fieldA 0 (.t (.r (.l (.l .z)))), (some ((.l (.l (.r (.r (.r .z))))), false)), none, []⟩,
         ⟨(some (.l (.r (.l (.l (.l (.l .z))))))), .load false 1 (.t (.r (.l (.l (.l (.l (.l .z))))))), (some ((.l (.l (.r (.r (.r .z))))), false)), none, []⟩,
         ⟨(some (.r (.r (.l (.l (.l (.l .z))))))), .bin .sub (.t (.l (.l (.l (.l (.l (.l .z))))))) (.t (.l (.r (.l (.l (.l (.l .z))))))), (some ((.l (.l (.r (.r (.r .z))))), false)), none, []⟩,
         ⟨(some (.l (.l (.r (.l (.l (.l .z))))))), .bin .gtr (.t (.l (.r (.r (.r (.r .z)))))) (.t (.r (.r (.l (.l (.l (.l .z))))))), (some ((.l (.l (.r (.r (.r .z))))), false)), none, []⟩,
         ⟨(some (.r (.l (.r (.l (.l (.l .z))))))), .pick (.t (.l (.l (.r (.r (.r .z)))))) (.c (.bool true)) (.t (.l (.l (.r (.l (.l (.l .z))))))), none, none, []⟩,
         ⟨(some (.l (.l (.l (.l (.r .z)))))), .mv (.t (.r (.l (.r (.l (.l (.l .z))))))), none, none, []⟩])
       (.cond (.t (.l (.l (.l (.l (.r .z))))))
       (.seq (.region false 0 [
          ⟨(some (.l (.r (.r (.l (.l (.l .z))))))), .mv (.t (.l (.l (.l .z)))), none, none, []⟩,
          ⟨(some (.r .z)), .mv (.c (.int .i64 19)), none, none, []⟩,
          ⟨(some (.l (.l .z))), .mv (.t (.l (.r (.r (.l (.l (.l .z))))))), none, none, []⟩])
        .ret)
       (.seq (.region true 0 [
          ⟨(some (.l (.l (.l (.r (.l (.l .z))))))), .fieldA 3 (.t (.l .z)), none, none, []⟩,
          ⟨(some (.r (.l (.l (.r (.l (.l .z))))))), .load false 1 (.t (.l (.l (.l (.r (.l (.l .z))))))), none, none, [0]⟩,
          ⟨(some (.l (.r (.l (.r (.l (.l .z))))))), .mv (.t (.l (.l (.l .z)))), none, none, []⟩,
          ⟨(some (.r (.r (.l (.r (.l (.l .z))))))), .sliceS 5 (.t (.r (.l (.l (.r (.l (.l .z))))))) none (some (.t (.l (.r (.l (.r (.l (.l .z)))))))) none, none, none, [0, 1, 2]⟩,
          ⟨(some (.l (.l (.r (.r (.l (.l .z))))))), .build [(.int .u64 0), (.int .u64 0), (.int .u64 0), .nilslice] [(3, 1, (.t (.r (.r (.l (.r (.l (.l .z))))))))], none, none, [0, 1, 2, 3]⟩,
          ⟨(some (.r (.l (.r (.r (.l (.l .z))))))), .fieldA 2 (.t (.r (.l (.l .z)))), none, none, []⟩,
          ⟨(some (.l (.r (.r (.r (.l (.l .z))))))), .load true 3 (.t (.r (.l (.r (.r (.l (.l .z))))))), none, none, [5]⟩,
          ⟨(some (.r (.r (.r (.r (.l (.l .z))))))), .call 151 [(.t (.l (.l (.r (.r (.l (.l .z))))))), (.t (.l (.r (.r (.r (.l (.l .z)))))))], none, none, [0, 1, 2, 3, 4, 5, 6]⟩,
          ⟨(some (.l (.l (.l (.l (.r (.l .z))))))), .bin .geq (.t (.r (.r (.r (.r (.l (.l .z))))))) (.c (.int .i64 0)), none, none, [0, 1, 2, 3, 4, 5, 6, 7]⟩,
          ⟨(some (.r (.r (.r (.l (.l (.l .z))))))), .mv (.t (.l (.l (.l (.l (.r (.l .z))))))), none, none, [0, 1, 2, 3, 4, 5, 6, 7, 8]⟩])
        (.cond (.t (.r (.r (.r (.l (.l (.l .z)))))))
        (.seq (.region false 0 [
           ⟨(some (.r (.l (.l (.l (.r (.l .z))))))), .mv (.t (.l (.l (.l .z)))), none, none, []⟩,
           ⟨(some (.r .z)), .mv (.c (.int .i64 9)), none, none, []⟩,
           ⟨(some (.l (.l .z))), .mv (.t (.r (.l (.l (.l (.r (.l .z))))))), none, none, []⟩])
         .ret)
        .skip)))))))
     (.region false 0 [
       ⟨(some (.l (.r (.l (.l (.r (.l .z))))))), .fieldA 0 (.t (.r (.l (.l .z)))), none, none, []⟩,
       ⟨(some (.r (.r (.l (.l (.r (.l .z))))))), .load false 1 (.t (.l (.r (.l (.l (.r (.l .z))))))), none, none, []⟩,
       ⟨(some (.l (.l (.r (.l (.r (.l .z))))))), .fieldA 1 (.t (.r (.l (.l .z)))), none, none, []⟩,
       ⟨(some (.r (.l (.r (.l (.r (.l .z))))))), .load false 1 (.t (.l (.l (.r (.l (.r (.l .z))))))), none, none, []⟩,
       ⟨(some (.l (.r (.r (.l (.r (.l .z))))))), .bin .add (.t (.r (.r (.l (.l (.r (.l .z))))))) (.t (.r (.l (.r (.l (.r (.l .z))))))), none, none, []⟩,
       ⟨(some (.r (.r .z))), .mv (.t (.l (.r (.r (.l (.r (.l .z))))))), none, none, []⟩]))))
    (.region false 0 [
      ⟨(some (.r (.r (.r (.l (.r (.l .z))))))), .bin .add (.t (.l (.l (.l (.l (.l .z)))))) (.c (.int .i64 1)), none, none, []⟩,
      ⟨(some (.l (.l (.l (.l (.l .z)))))), .mv (.t (.r (.r (.r (.l (.r (.l .z))))))), none, none, []⟩])))))))
  (.seq (.region false 0 [
    ⟨(some (.r .z)), .mv (.c (.int .i64 0)), none, none, []⟩,
    ⟨(some (.l (.l .z))), .mv (.c (.int .i64 0)), none, none, []⟩])
  .ret)))))⟩
def AF119 : AFunc := ⟨112, [.tmp (.r .z), .tmp (.l (.l .z))],
  (.seq (.region false 0 [
    ⟨(some (.l .z)), .box 5 5 (.t .z), none, none, []⟩,
    ⟨(some (.r .z)), .mv (.c (.int .i64 0)), none, none, []⟩,
    ⟨(some (.l (.l .z))), .mv (.c (.int .i64 0)), none, none, []⟩])
  (.seq (.block 0 (.seq (.region false 0 [
     ⟨(some (.l (.r (.l .z)))), .fieldA 0 (.t (.l .z)), none, none, []⟩,
     ⟨(some (.r (.r (.l .z)))), .load false 1 (.t (.l (.r (.l .z)))), none, none, []⟩,
     ⟨(some (.l (.l (.r .z)))), .bin .gtr (.t (.r (.r (.l .z)))) (.c (.int .u64 1125899906842624)), none, none, []⟩,
     ⟨(some (.r (.l (.l .z)))), .mv (.t (.l (.l (.r .z)))), none, none, []⟩])
   (.cond (.t (.r (.l (.l .z))))
   (.seq (.region false 0 [
      ⟨(some (.r .z)), .mv (.c (.int .i64 2)), none, none, []⟩,
      ⟨(some (.l (.l .z))), .mv (.c (.int .i64 0)), none, none, []⟩])
    .ret)
   (.seq (.region true 0 [
      ⟨(some (.l (.r (.r .z)))), .fieldA 1 (.t (.l .z)), none, none, []⟩,
      ⟨(some (.r (.r (.r .z)))), .load false 1 (.t (.l (.r (.r .z)))), none, none, [0]⟩,
      ⟨(some (.l (.l (.l (.l .z))))), .fieldA 0 (.t (.l .z)), none, none, []⟩,
      ⟨(some (.r (.l (.l (.l .z))))), .load false 1 (.t (.l (.l (.l (.l .z))))), none, none, [2]⟩,
      ⟨(some (.l (.r (.l (.l .z))))), .bin .gtr (.t (.r (.r (.r .z)))) (.t (.r (.l (.l (.l .z))))), none, none, [0, 1, 2, 3]⟩,
      ⟨(some (.r (.r (.l (.l .z))))), .mv (.t (.l (.r (.l (.l .z))))), none, none, [0, 1, 2, 3, 4]⟩,
      ⟨(some (.l (.l (.r (.l .z))))), .fieldA 2 (.t (.l .z)), (some ((.r (.r (.l (.l .z)))), false)), none, [0, 1, 2, 3, 4, 5]⟩,
      ⟨(some (.r (.l (.r (.l .z))))), .load false 1 (.t (.l (.l (.r (.l .z))))), (some ((.r (.r (.l (.l .z)))), false)), none, [0, 1, 2, 3, 4, 5, 6]⟩,
      ⟨(some (.l (.r (.r (.l .z))))), .load true 5 (.t (.l .z)), (some ((.r (.r (.l (.l .z)))), false)), none, [0, 1, 2, 3, 4, 5]⟩,
      ⟨(some (.r (.r (.r (.l .z))))), .call 152 [(.t (.l (.r (.r (.l .z)))))], (some ((.r (.r (.l (.l .z)))), false)), none, [0, 1, 2, 3, 4, 5, 8]⟩,
      ⟨(some (.l (.l (.l (.r .z))))), .bin .gtr (.t (.r (.l (.r (.l .z))))) (.t (.r (.r (.r (.l .z))))), (some ((.r (.r (.l (.l .z)))), false)), none, [0, 1, 2, 3, 4, 5, 6, 7, 8, 9]⟩,
      ⟨(some (.r (.l (.l (.r .z))))), .pick (.t (.r (.r (.l (.l .z))))) (.c (.bool true)) (.t (.l (.l (.l (.r .z))))), none, none, [0, 1, 2, 3, 4, 5, 6, 7, 8, 9, 10]⟩,
      ⟨(some (.r (.l (.r .z)))), .mv (.t (.r (.l (.l (.r .z))))), none, none, [0, 1, 2, 3, 4, 5, 6, 7, 8, 9, 10, 11]⟩])
    (.cond (.t (.r (.l (.r .z))))
    (.seq (.region false 0 [
       ⟨(some (.r .z)), .mv (.c (.int .i64 14)), none, none, []⟩,
       ⟨(some (.l (.l .z))), .mv (.c (.int .i64 0)), none, none, []⟩])
     .ret)
    (.seq (.region false 0 [
       ⟨(some (.r (.r (.l (.r .z))))), .fieldA 3 (.t (.l .z)), none, none, []⟩,
       ⟨(some (.l (.l (.r (.r .z))))), .load false 1 (.t (.r (.r (.l (.r .z))))), none, none, []⟩,
       ⟨(some (.r (.l (.r (.r .z))))), .len .slice (.t (.l (.l (.r (.r .z))))), none, none, []⟩,
       ⟨(some (.l (.r (.r (.r .z))))), .bin .gtr (.t (.r (.l (.r (.r .z))))) (.c (.int .i64 1000)), none, none, []⟩,
       ⟨(some (.r (.r (.r (.r .z))))), .mv (.t (.l (.r (.r (.r .z))))), none, none, []⟩,
       ⟨(some (.l (.l (.l (.l (.l .z)))))), .fieldA 4 (.t (.l .z)), (some ((.r (.r (.r (.r .z)))), false)), none, []⟩,
       ⟨(some (.r (.l (.l (.l (.l .z)))))), .load false 1 (.t (.l (.l (.l (.l (.l .z)))))), (some ((.r (.r (.r (.r .z)))), false)), none, []⟩,
       ⟨(some (.l (.r (.l (.l (.l .z)))))), .len .slice (.t (.r (.l (.l (.l (.l .z)))))), (some ((.r (.r (.r (.r .z)))), false)), none, []⟩,
       ⟨(some (.r (.r (.l (.l (.l .z)))))), .bin .gtr (.t (.l (.r (.l (.l (.l .z)))))) (.c (.int .i64 1000)), (some ((.r (.r (.r (.r .z)))), false)), none, []⟩,
       ⟨(some (.l (.l (.r (.l (.l .z)))))), .pick (.t (.r (.r (.r (.r .z))))) (.c (.bool true)) (.t (.r (.r (.l (.l (.l .z)))))), none, none, []⟩,
       ⟨(some (.l (.r (.l (.r .z))))), .mv (.t (.l (.l (.r (.l (.l .z)))))), none, none, []⟩])
     (.cond (.t (.l (.r (.l (.r .z)))))
     (.seq (.region false 0 [
        ⟨(some (.r .z)), .mv (.c (.int .i64 5)), none, none, []⟩,
        ⟨(some (.l (.l .z))), .mv (.c (.int .i64 0)), none, none, []⟩])
      .ret)
     .skip)))))))
  (.seq (.seq (.region false 0 [
    ⟨(some (.r (.l (.r (.l (.l .z)))))), .fieldA 3 (.t (.l .z)), none, none, []⟩,
    ⟨(some (.l (.r (.r (.l (.l .z)))))), .load false 1 (.t (.r (.l (.r (.l (.l .z)))))), none, none, []⟩,
    ⟨(some (.r (.r (.r (.l (.l .z)))))), .len .slice (.t (.l (.r (.r (.l (.l .z)))))), none, none, []⟩,
    ⟨(some (.l (.l (.l (.r (.l .z)))))), .mv (.c (.int .i64 0)), none, none, []⟩])
  (.block 1 (.loop (.seq (.region false 0 [
      ⟨(some (.r (.l (.l (.r (.l .z)))))), .bin .lss (.t (.l (.l (.l (.r (.l .z)))))) (.t (.r (.r (.r (.l (.l .z)))))), none, none, []⟩])
    (.seq (.cond (.t (.r (.l (.l (.r (.l .z))))))
    .skip
    (.exit 1))
    (.seq (.block 2 (.seq (.region false 0 [
       ⟨(some (.l (.r (.l (.r (.l .z)))))), .mv (.t (.l (.l (.l (.r (.l .z)))))), none, none, []⟩,
       ⟨(some (.r (.r (.l (.r (.l .z)))))), .idxS 2 (.t (.l (.r (.r (.l (.l .z)))))) (.t (.l (.l (.l (.r (.l .z)))))), none, none, []⟩,
       ⟨(some (.l (.l (.r (.r (.l .z)))))), .load true 2 (.t (.r (.r (.l (.r (.l .z)))))), none, none, []⟩,
       ⟨(some (.l (.r .z))), .alloc 2 [[(.int .u64 0), (.int .u64 0)]], none, none, []⟩,
       ⟨(some (.r (.l .z))), .mv (.t (.l (.r (.l (.r (.l .z)))))), none, none, []⟩,
       ⟨none, .store 2 (.t (.l (.r .z))) (.t (.l (.l (.r (.r (.l .z)))))), none, none, []⟩])
     (.block 3 (.seq (.region true 0 [
        ⟨(some (.l (.r (.r (.r (.l .z)))))), .fieldA 0 (.t (.l (.r .z))), none, none, []⟩,
        ⟨(some (.r (.r (.r (.r (.l .z)))))), .load false 1 (.t (.l (.r (.r (.r (.l .z)))))), none, none, [0]⟩,
        ⟨(some (.l (.l (.l (.l (.r .z)))))), .fieldA 1 (.t (.l (.r .z))), none, none, []⟩,
        ⟨(some (.r (.l (.l (.l (.r .z)))))), .load false 1 (.t (.l (.l (.l (.l (.r .z)))))), none, none, [2]⟩,
        ⟨(some (.l (.r (.l (.l (.r .z)))))), .bin .geq (.t (.r (.r (.r (.r (.l .z)))))) (.t (.r (.l (.l (.l (.r .z)))))), none, none, [0, 1, 2, 3]⟩,
        ⟨(some (.r (.r (.l (.l (.r .z)))))), .mv (.t (.l (.r (.l (.l (.r .z)))))), none, none, [0, 1, 2, 3, 4]⟩,
        ⟨(some (.l (.l (.r (.l (.r .z)))))), .fieldA 0 (.t (.l (.r .z))), (some ((.r (.r (.l (.l (.r .z))))), false)), none, [0, 1, 2, 3, 4, 5]⟩,
        ⟨(some (.r (.l (.r (.l (.r .z)))))), .load false 1 (.t (.l (.l (.r (.l (.r .z)))))), (some ((.r (.r (.l (.l (.r .z))))), false)), none, [0, 1, 2, 3, 4, 5, 6]⟩,
        ⟨(some (.l (.r (.r (.l (.r .z)))))), .fieldA 2 (.t (.l .z)), (some ((.r (.r (.l (.l (.r .z))))), false)), none, [0, 1, 2, 3, 4, 5]⟩,
        ⟨(some (.r (.r (.r (.l (.r .z)))))), .load false 1 (.t (.l (.r (.r (.l (.r .z)))))), (some ((.r (.r (.l (.l (.r .z))))), false)), none, [0, 1, 2, 3, 4, 5, 8]⟩,
        ⟨(some (.l (.l (.l (.r (.r .z)))))), .bin .lss (.t (.r (.l (.r (.l (.r .z)))))) (.t (.r (.r (.r (.l (.r .z)))))), (some ((.r (.r (.l (.l (.r .z))))), false)), none, [0, 1, 2, 3, 4, 5, 6, 7, 8, 9]⟩,
        ⟨(some (.r (.l (.l (.r (.r .z)))))), .pick (.t (.r (.r (.l (.l (.r .z)))))) (.c (.bool true)) (.t (.l (.l (.l (.r (.r .z)))))), none, none, [0, 1, 2, 3, 4, 5, 6, 7, 8, 9, 10]⟩,
        ⟨(some (.l (.r (.l (.r (.r .z)))))), .mv (.t (.r (.l (.l (.r (.r .z)))))), none, none, [0, 1, 2, 3, 4, 5, 6, 7, 8, 9, 10, 11]⟩,
        ⟨(some (.r (.r (.l (.r (.r .z)))))), .mv (.t (.r (.l .z))), (some ((.l (.r (.l (.r (.r .z))))), false)), none, [0, 1, 2, 3, 4, 5, 6, 7, 8, 9, 10, 11, 12]⟩,
        ⟨(some (.l (.l (.r (.r (.r .z)))))), .bin .gtr (.t (.r (.r (.l (.r (.r .z)))))) (.c (.int .i64 0)), (some ((.l (.r (.l (.r (.r .z))))), false)), none, [0, 1, 2, 3, 4, 5, 6, 7, 8, 9, 10, 11, 12, 13]⟩,
        ⟨(some (.r (.l (.r (.r (.r .z)))))), .mv (.t (.l (.l (.r (.r (.r .z)))))), (some ((.l (.r (.l (.r (.r .z))))), false)), none, [0, 1, 2, 3, 4, 5, 6, 7, 8, 9, 10, 11, 12, 13, 14]⟩,
        ⟨(some (.l (.r (.r (.r (.r .z)))))), .fieldA 0 (.t (.l (.r .z))), (some ((.r (.l (.r (.r (.r .z))))), true)), none, [0, 1, 2, 3, 4, 5, 6, 7, 8, 9, 10, 11, 12, 13, 14, 15]⟩,
        ⟨(some (.r (.r (.r (.r (.r .z)))))), .load false 1 (.t (.l (.r (.r (.r (.r .z)))))), (some ((.r (.l (.r (.r (.r .z))))), true)), none, [0, 1, 2, 3, 4, 5, 6, 7, 8, 9, 10, 11, 12, 13, 14, 15, 16]⟩,
        ⟨(some (.l (.l (.l (.l (.l (.l .z))))))), .fieldA 3 (.t (.l .z)), (some ((.r (.l (.r (.r (.r .z))))), true)), none, [0, 1, 2, 3, 4, 5, 6, 7, 8, 9, 10, 11, 12, 13, 14, 15]⟩,
        ⟨(some (.r (.l (.l (.l (.l (.l .z))))))), .load false 1 (.t (.l (.l (.l (.l (.l (.l .z))))))), (some ((.r (.l (.r (.r (.r .z))))), true)), none, [0, 1, 2, 3, 4, 5, 6, 7, 8, 9, 10, 11, 12, 13, 14, 15, 18]⟩,
        ⟨(some (.l (.r (.l (.l (.l (.l .z))))))), .mv (.t (.r (.l .z))), (some ((.r (.l (.r (.r (.r .z))))), true)), none, [0, 1, 2, 3, 4, 5, 6, 7, 8, 9, 10, 11, 12, 13, 14, 15]⟩,
        ⟨(some (.r (.r (.l (.l (.l (.l .z))))))), .bin .sub (.t (.l (.r (.l (.l (.l (.l .z))))))) (.c (.int .i64 1)), (some ((.r (.l (.r (.r (.r .z))))), true)), none, [0, 1, 2, 3, 4, 5, 6, 7, 8, 9, 10, 11, 12, 13, 14, 15, 20]⟩,
        ⟨(some (.l (.l (.r (.l (.l (.l .z))))))), .idxS 2 (.t (.r (.l (.l (.l (.l (.l .z))))))) (.t (.r (.r (.l (.l (.l (.l .z))))))), (some ((.r (.l (.r (.r (.r .z))))), true)), none, [0, 1, 2, 3, 4, 5, 6, 7, 8, 9, 10, 11, 12, 13, 14, 15, 18, 19, 20, 21]⟩,
        ⟨(some (.r (.l (.r (.l (.l (.l .z))))))), .fieldA 1 (.t (.l (.l (.r (.l (.l (.l .z))))))), (some ((.r (.l (.r (.r (.r .z))))), true)), none, [0, 1, 2, 3, 4, 5, 6, 7, 8, 9, 10, 11, 12, 13, 14, 15, 18, 19, 20, 21, 22]⟩,
        ⟨(some (.l (.r (.r (.l (.l (.l .z))))))), .load false 1 (.t (.r (.l (.r (.l (.l (.l .z))))))), (some ((.r (.l (.r (.r (.r .z))))), true)), none, [0, 1, 2, 3, 4, 5, 6, 7, 8, 9, 10, 11, 12, 13, 14, 15, 18, 19, 20, 21, 22, 23]⟩,
        ⟨(some (.r (.r (.r (.l (.l (.l .z))))))), .bin .leq (.t (.r (.r (.r (.r (.r .z)))))) (.t (.l (.r (.r (.l (.l (.l .z))))))), (some ((.r (.l (.r (.r (.r .z))))), true)), none, [0, 1, 2, 3, 4, 5, 6, 7, 8, 9, 10, 11, 12, 13, 14, 15, 16, 17, 18, 19, 20, 21, 22, 23, 24]⟩,
        ⟨(some (.l (.l (.l (.r (.l (.l .z))))))), .pick (.t (.r (.l (.r (.r (.r .z)))))) (.t (.r (.r (.r (.l (.l (.l .z))))))) (.c (.bool false)), (some ((.l (.r (.l (.r (.r .z))))), false)), none, [0, 1, 2, 3, 4, 5, 6, 7, 8, 9, 10, 11, 12, 13, 14, 15, 16, 17, 18, 19, 20, 21, 22, 23, 24, 25]⟩,
        ⟨(some (.r (.l (.l (.r (.l (.l .z))))))), .pick (.t (.l (.r (.l (.r (.r .z)))))) (.c (.bool true)) (.t (.l (.l (.l (.r (.l (.l .z))))))), none, none, [0, 1, 2, 3, 4, 5, 6, 7, 8, 9, 10, 11, 12, 13, 14, 15, 16, 17, 18, 19, 20, 21, 22, 23, 24, 25, 26]⟩,
        ⟨(some (.r (.l (.r (.r (.l .z)))))), .mv (.t (.r (.l (.l (.r (.l (.l .z))))))), none, none, [0, 1, 2, 3, 4, 5, 6, 7, 8, 9, 10, 11, 12, 13, 14, 15, 16, 17, 18, 19, 20, 21, 22, 23, 24, 25, 26, 27]⟩])
      (.cond (.t (.r (.l (.r (.r (.l .z))))))
      (.seq (.region false 0 [
         ⟨(some (.l (.r (.l (.r (.l (.l .z))))))), .mv (.t (.r (.l .z))), none, none, []⟩,
         ⟨(some (.r .z)), .mv (.c (.int .i64 19)), none, none, []⟩,
         ⟨(some (.l (.l .z))), .mv (.t (.l (.r (.l (.r (.l (.l .z))))))), none, none, []⟩])
       .ret)
      (.seq (.region true 0 [
         ⟨(some (.l (.l (.r (.r (.l (.l .z))))))), .fieldA 1 (.t (.l (.r .z))), none, none, []⟩,
         ⟨(some (.r (.l (.r (.r (.l (.l .z))))))), .load false 1 (.t (.l (.l (.r (.r (.l (.l .z))))))), none, none, [0]⟩,
         ⟨(some (.l (.r (.r (.r (.l (.l .z))))))), .load true 5 (.t (.l .z)), none, none, []⟩,
         ⟨(some (.r (.r (.r (.r (.l (.l .z))))))), .call 152 [(.t (.l (.r (.r (.r (.l (.l .z)))))))], none, none, [2]⟩,
         ⟨(some (.l (.l (.l (.l (.r (.l .z))))))), .bin .gtr (.t (.r (.l (.r (.r (.l (.l .z))))))) (.t (.r (.r (.r (.r (.l (.l .z))))))), none, none, [0, 1, 2, 3]⟩,
         ⟨(some (.r (.r (.l (.r (.l (.l .z))))))), .mv (.t (.l (.l (.l (.l (.r (.l .z))))))), none, none, [0, 1, 2, 3, 4]⟩])
       (.cond (.t (.r (.r (.l (.r (.l (.l .z)))))))
       (.seq (.region false 0 [
          ⟨(some (.r (.l (.l (.l (.r (.l .z))))))), .mv (.t (.r (.l .z))), none, none, []⟩,
          ⟨(some (.r .z)), .mv (.c (.int .i64 14)), none, none, []⟩,
          ⟨(some (.l (.l .z))), .mv (.t (.r (.l (.l (.l (.r (.l .z))))))), none, none, []⟩])
        .ret)
       .skip)))))))
    (.region false 0 [
      ⟨(some (.l (.r (.l (.l (.r (.l .z))))))), .bin .add (.t (.l (.l (.l (.r (.l .z)))))) (.c (.int .i64 1)), none, none, []⟩,
      ⟨(some (.l (.l (.l (.r (.l .z)))))), .mv (.t (.l (.r (.l (.l (.r (.l .z))))))), none, none, []⟩])))))))
  (.seq (.seq (.region false 0 [
    ⟨(some (.r (.r (.l (.l (.r (.l .z))))))), .fieldA 4 (.t (.l .z)), none, none, []⟩,
    ⟨(some (.l (.l (.r (.l (.r (.l .z))))))), .load false 1 (.t (.r (.r (.l (.l (.r (.l .z))))))), none, none, []⟩,
    ⟨(some (.r (.l (.r (.l (.r (.l .z))))))), .len .slice (.t (.l (.l (.r (.l (.r (.l .z))))))), none, none, []⟩,
    ⟨(some (.l (.r (.r (.l (.r (.l .z))))))), .mv (.c (.int .i64 0)), none, none, []⟩])
  (.block 4 (.loop (.seq (.region false 0 [
      ⟨(some (.r (.r (.r (.l (.r (.l .z))))))), .bin .lss (.t (.l (.r (.r (.l (.r (.l .z))))))) (.t (.r (.l (.r (.l (.r (.l .z))))))), none, none, []⟩])
    (.seq (.cond (.t (.r (.r (.r (.l (.r (.l .z)))))))
    .skip
    (.exit 4))
    (.seq (.block 5 (.seq (.region false 0 [
       ⟨(some (.l (.l (.l (.r (.r (.l .z))))))), .mv (.t (.l (.r (.r (.l (.r (.l .z))))))), none, none, []⟩,
       ⟨(some (.r (.l (.l (.r (.r (.l .z))))))), .idxS 1 (.t (.l (.l (.r (.l (.r (.l .z))))))) (.t (.l (.r (.r (.l (.r (.l .z))))))), none, none, []⟩,
       ⟨(some (.l (.r (.l (.r (.r (.l .z))))))), .load false 1 (.t (.r (.l (.l (.r (.r (.l .z))))))), none, none, []⟩,
       ⟨(some (.r (.r .z))), .mv (.t (.l (.l (.l (.r (.r (.l .z))))))), none, none, []⟩,
       ⟨(some (.l (.l (.l .z)))), .mv (.t (.l (.r (.l (.r (.r (.l .z))))))), none, none, []⟩])
     (.block 6 (.seq (.region false 0 [
        ⟨(some (.l (.l (.r (.r (.r (.l .z))))))), .mv (.t (.r (.r .z))), none, none, []⟩,
        ⟨(some (.r (.l (.r (.r (.r (.l .z))))))), .bin .gtr (.t (.l (.l (.r (.r (.r (.l .z))))))) (.c (.int .i64 0)), none, none, []⟩,
        ⟨(some (.l (.r (.r (.r (.r (.l .z))))))), .mv (.t (.r (.l (.r (.r (.r (.l .z))))))), none, none, []⟩,
        ⟨(some (.r (.r (.r (.r (.r (.l .z))))))), .mv (.t (.l (.l (.l .z)))), (some ((.l (.r (.r (.r (.r (.l .z)))))), true)), none, []⟩,
        ⟨(some (.l (.l (.l (.l (.l (.r .z))))))), .fieldA 4 (.t (.l .z)), (some ((.l (.r (.r (.r (.r (.l .z)))))), true)), none, []⟩,
        ⟨(some (.r (.l (.l (.l (.l (.r .z))))))), .load false 1 (.t (.l (.l (.l (.l (.l (.r .z))))))), (some ((.l (.r (.r (.r (.r (.l .z)))))), true)), none, []⟩,
        ⟨(some (.l (.r (.l (.l (.l (.r .z))))))), .mv (.t (.r (.r .z))), (some ((.l (.r (.r (.r (.r (.l .z)))))), true)), none, []⟩,
        ⟨(some (.r (.r (.l (.l (.l (.r .z))))))), .bin .sub (.t (.l (.r (.l (.l (.l (.r .z))))))) (.c (.int .i64 1)), (some ((.l (.r (.r (.r (.r (.l .z)))))), true)), none, []⟩,
        ⟨(some (.l (.l (.r (.l (.l (.r .z))))))), .idxS 1 (.t (.r (.l (.l (.l (.l (.r .z))))))) (.t (.r (.r (.l (.l (.l (.r .z))))))), (some ((.l (.r (.r (.r (.r (.l .z)))))), true)), none, []⟩,
        ⟨(some (.r (.l (.r (.l (.l (.r .z))))))), .load false 1 (.t (.l (.l (.r (.l (.l (.r .z))))))), (some ((.l (.r (.r (.r (.r (.l .z)))))), true)), none, []⟩,
        ⟨(some (.l (.r (.r (.l (.l (.r .z))))))), .bin .leq (.t (.r (.r (.r (.r (.r (.l .z))))))) (.t (.r (.l (.r (.l (.l (.r .z))))))), (some ((.l (.r (.r (.r (.r (.l .z)))))), true)), none, []⟩,
        ⟨(some (.r (.r (.r (.l (.l (.r .z))))))), .pick (.t (.l (.r (.r (.r (.r (.l .z))))))) (.t (.l (.r (.r (.l (.l (.r .z))))))) (.c (.bool false)), none, none, []⟩,
        ⟨(some (.r (.r (.l (.r (.r (.l .z))))))), .mv (.t (.r (.r (.r (.l (.l (.r .z))))))), none, none, []⟩])
      (.cond (.t (.r (.r (.l (.r (.r (.l .z)))))))
      (.seq (.region false 0 [
         ⟨(some (.l (.l (.l (.r (.l (.r .z))))))), .mv (.t (.r (.r .z))), none, none, []⟩,
         ⟨(some (.r .z)), .mv (.c (.int .i64 19)), none, none, []⟩,
         ⟨(some (.l (.l .z))), .mv (.t (.l (.l (.l (.r (.l (.r .z))))))), none, none, []⟩])
       .ret)
      (.seq (.region false 0 [
         ⟨(some (.l (.r (.l (.r (.l (.r .z))))))), .fieldA 3 (.t (.l .z)), none, none, []⟩,
         ⟨(some (.r (.r (.l (.r (.l (.r .z))))))), .load false 1 (.t (.l (.r (.l (.r (.l (.r .z))))))), none, none, []⟩,
         ⟨(some (.l (.l (.r (.r (.l (.r .z))))))), .mv (.t (.l (.l (.l .z)))), none, none, []⟩,
         ⟨(some (.r (.l (.r (.r (.l (.r .z))))))), .call 153 [(.t (.r (.r (.l (.r (.l (.r .z))))))), (.t (.l (.l (.r (.r (.l (.r .z)))))))], none, none, []⟩,
         ⟨(some (.l (.r (.r (.r (.l (.r .z))))))), .un .not (.t (.r (.l (.r (.r (.l (.r .z))))))), none, none, []⟩,
         ⟨(some (.r (.l (.l (.r (.l (.r .z))))))), .mv (.t (.l (.r (.r (.r (.l (.r .z))))))), none, none, []⟩])
       (.cond (.t (.r (.l (.l (.r (.l (.r .z)))))))
       (.seq (.region false 0 [
          ⟨(some (.r (.r (.r (.r (.l (.r .z))))))), .mv (.t (.r (.r .z))), none, none, []⟩,
          ⟨(some (.r .z)), .mv (.c (.int .i64 12)), none, none, []⟩,
          ⟨(some (.l (.l .z))), .mv (.t (.r (.r (.r (.r (.l (.r .z))))))), none, none, []⟩])
        .ret)
       .skip)))))))
    (.region false 0 [
      ⟨(some (.l (.l (.l (.l (.r (.r .z))))))), .bin .add (.t (.l (.r (.r (.l (.r (.l .z))))))) (.c (.int .i64 1)), none, none, []⟩,
      ⟨(some (.l (.r (.r (.l (.r (.l .z))))))), .mv (.t (.l (.l (.l (.l (.r (.r .z))))))), none, none, []⟩])))))))
  (.seq (.region false 0 [
    ⟨(some (.r .z)), .mv (.c (.int .i64 0)), none, none, []⟩,
    ⟨(some (.l (.l .z))), .mv (.c (.int .i64 0)), none, none, []⟩])
  .ret)))))⟩
def AF120 : AFunc := ⟨65, [.tmp (.r .z)],
  (.seq (.region false 0 [
    ⟨(some (.l .z)), .box 13 13 (.t .z), none, none, []⟩,
    ⟨(some (.r .z)), .mv (.c (.bool false)), none, none, []⟩])
  (.seq (.region true 2 [
    ⟨(some (.l (.r .z))), .fieldA 4 (.t (.l .z)), none, none, []⟩,
    ⟨(some (.r (.r .z))), .load true 4 (.t (.l (.r .z))), none, none, [0]⟩,
    ⟨(some (.l (.l (.l .z)))), .fieldA 8 (.t (.l .z)), none, none, []⟩,
    ⟨(some (.r (.l (.l .z)))), .load true 5 (.t (.l (.l (.l .z)))), none, none, [2]⟩,
    ⟨(some (.l (.l .z))), .alloc 4 [[(.int .u64 0), (.int .u64 0), (.int .u64 0), .nilslice]], none, (some 0), []⟩,
    ⟨(some (.r (.l .z))), .alloc 5 [[(.int .u64 0), (.int .u64 0), (.int .u64 0), .nilslice, .nilslice]], none, (some 1), []⟩,
    ⟨none, .store 4 (.t (.l (.l .z))) (.t (.r (.r .z))), none, none, [0, 1, 4, 5]⟩,
    ⟨none, .store 5 (.t (.r (.l .z))) (.t (.r (.l (.l .z)))), none, none, [0, 1, 2, 3, 4, 5, 6]⟩])
  (.seq (.region false 0 [
    ⟨(some (.l (.r (.l .z)))), .fieldA 2 (.t (.l .z)), none, none, []⟩,
    ⟨(some (.r (.r (.l .z)))), .load false 1 (.t (.l (.r (.l .z)))), none, none, []⟩,
    ⟨(some (.l (.l (.r .z)))), .un .not (.t (.r (.r (.l .z)))), none, none, []⟩,
    ⟨(some (.r (.l (.r .z)))), .mv (.t (.l (.l (.r .z)))), none, none, []⟩,
    ⟨(some (.l (.r (.r .z)))), .fieldA 3 (.t (.l .z)), (some ((.r (.l (.r .z))), true)), none, []⟩,
    ⟨(some (.r (.r (.r .z)))), .load false 1 (.t (.l (.r (.r .z)))), (some ((.r (.l (.r .z))), true)), none, []⟩,
    ⟨(some (.l (.l (.l (.l .z))))), .eql false false [.i] (.t (.r (.r (.r .z)))) (.c (.int .u64 0)), (some ((.r (.l (.r .z))), true)), none, []⟩,
    ⟨(some (.r (.l (.l (.l .z))))), .pick (.t (.r (.l (.r .z)))) (.t (.l (.l (.l (.l .z))))) (.c (.bool false)), none, none, []⟩,
    ⟨(some (.l (.r (.l (.l .z))))), .mv (.t (.r (.l (.l (.l .z))))), none, none, []⟩,
    ⟨(some (.r (.r (.l (.l .z))))), .fieldA 0 (.t (.l (.l .z))), (some ((.l (.r (.l (.l .z)))), true)), none, []⟩,
    ⟨(some (.l (.l (.r (.l .z))))), .load false 1 (.t (.r (.r (.l (.l .z))))), (some ((.l (.r (.l (.l .z)))), true)), none, []⟩,
    ⟨(some (.r (.l (.r (.l .z))))), .eql false false [.i] (.t (.l (.l (.r (.l .z))))) (.c (.int .u64 0)), (some ((.l (.r (.l (.l .z)))), true)), none, []⟩,
    ⟨(some (.l (.r (.r (.l .z))))), .pick (.t (.l (.r (.l (.l .z))))) (.t (.r (.l (.r (.l .z))))) (.c (.bool false)), none, none, []⟩,
    ⟨(some (.r (.r (.r (.l .z))))), .mv (.t (.l (.r (.r (.l .z))))), none, none, []⟩,
    ⟨(some (.l (.l (.l (.r .z))))), .fieldA 1 (.t (.l (.l .z))), (some ((.r (.r (.r (.l .z)))), true)), none, []⟩,
    ⟨(some (.r (.l (.l (.r .z))))), .load false 1 (.t (.l (.l (.l (.r .z))))), (some ((.r (.r (.r (.l .z)))), true)), none, []⟩,
    ⟨(some (.l (.r (.l (.r .z))))), .eql false false [.i] (.t (.r (.l (.l (.r .z))))) (.c (.int .u64 0)), (some ((.r (.r (.r (.l .z)))), true)), none, []⟩,
    ⟨(some (.r (.r (.l (.r .z))))), .pick (.t (.r (.r (.r (.l .z))))) (.t (.l (.r (.l (.r .z))))) (.c (.bool false)), none, none, []⟩,
    ⟨(some (.l (.l (.r (.r .z))))), .mv (.t (.r (.r (.l (.r .z))))), none, none, []⟩,
    ⟨(some (.r (.l (.r (.r .z))))), .fieldA 2 (.t (.l (.l .z))), (some ((.l (.l (.r (.r .z)))), true)), none, []⟩,
    ⟨(some (.l (.r (.r (.r .z))))), .load false 1 (.t (.r (.l (.r (.r .z))))), (some ((.l (.l (.r (.r .z)))), true)), none, []⟩,
    ⟨(some (.r (.r (.r (.r .z))))), .eql false false [.i] (.t (.l (.r (.r (.r .z))))) (.c (.int .u64 0)), (some ((.l (.l (.r (.r .z)))), true)), none, []⟩,
    ⟨(some (.l (.l (.l (.l (.l .z)))))), .pick (.t (.l (.l (.r (.r .z))))) (.t (.r (.r (.r (.r .z))))) (.c (.bool false)), none, none, []⟩,
    ⟨(some (.r (.l (.l (.l (.l .z)))))), .mv (.t (.l (.l (.l (.l (.l .z)))))), none, none, []⟩,
    ⟨(some (.l (.r (.l (.l (.l .z)))))), .fieldA 3 (.t (.l (.l .z))), (some ((.r (.l (.l (.l (.l .z))))), true)), none, []⟩,
    ⟨(some (.r (.r (.l (.l (.l .z)))))), .load false 1 (.t (.l (.r (.l (.l (.l .z)))))), (some ((.r (.l (.l (.l (.l .z))))), true)), none, []⟩,
    ⟨(some (.l (.l (.r (.l (.l .z)))))), .len .slice (.t (.r (.r (.l (.l (.l .z)))))), (some ((.r (.l (.l (.l (.l .z))))), true)), none, []⟩,
    ⟨(some (.r (.l (.r (.l (.l .z)))))), .eql false false [.i] (.t (.l (.l (.r (.l (.l .z)))))) (.c (.int .i64 0)), (some ((.r (.l (.l (.l (.l .z))))), true)), none, []⟩,
    ⟨(some (.l (.r (.r (.l (.l .z)))))), .pick (.t (.r (.l (.l (.l (.l .z)))))) (.t (.r (.l (.r (.l (.l .z)))))) (.c (.bool false)), none, none, []⟩,
    ⟨(some (.r (.r (.r (.l (.l .z)))))), .mv (.t (.l (.r (.r (.l (.l .z)))))), none, none, []⟩,
    ⟨(some (.l (.l (.l (.r (.l .z)))))), .fieldA 0 (.t (.r (.l .z))), (some ((.r (.r (.r (.l (.l .z))))), true)), none, []⟩,
    ⟨(some (.r (.l (.l (.r (.l .z)))))), .load false 1 (.t (.l (.l (.l (.r (.l .z)))))), (some ((.r (.r (.r (.l (.l .z))))), true)), none, []⟩,
    ⟨(some (.l (.r (.l (.r (.l .z)))))), .eql false false [.i] (.t (.r (.l (.l (.r (.l .z)))))) (.c (.int .u64 0)), (some ((.r (.r (.r (.l (.l .z))))), true)), none, []⟩,
    ⟨(some (.r (.r (.l (.r (.l .z)))))), .pick (.t (.r (.r (.r (.l (.l .z)))))) (.t (.l (.r (.l (.r (.l .z)))))) (.c (.bool false)), none, none, []⟩,
    ⟨(some (.l (.l (.r (.r (.l .z)))))), .mv (.t (.r (.r (.l (.r (.l .z)))))), none, none, []⟩,
    ⟨(some (.r (.l (.r (.r (.l .z)))))), .fieldA 1 (.t (.r (.l .z))), (some ((.l (.l (.r (.r (.l .z))))), true)), none, []⟩,
    ⟨(some (.l (.r (.r (.r (.l .z)))))), .load false 1 (.t (.r (.l (.r (.r (.l .z)))))), (some ((.l (.l (.r (.r (.l .z))))), true)), none, []⟩,
    ⟨(some (.r (.r (.r (.r (.l .z)))))), .eql false false [.i] (.t (.l (.r (.r (.r (.l .z)))))) (.c (.int .u64 0)), (some ((.l (.l (.r (.r (.l .z))))), true)), none, []⟩,
    ⟨(some (.l (.l (.l (.l (.r .z)))))), .pick (.t (.l (.l (.r (.r (.l .z)))))) (.t (.r (.r (.r (.r (.l .z)))))) (.c (.bool false)), none, none, []⟩,
    ⟨(some (.r (.l (.l (.l (.r .z)))))), .mv (.t (.l (.l (.l (.l (.r .z)))))), none, none, []⟩,
    ⟨(some (.l (.r (.l (.l (.r .z)))))), .fieldA 2 (.t (.r (.l .z))), (some ((.r (.l (.l (.l (.r .z))))), true)), none, []⟩,
    ⟨(some (.r (.r (.l (.l (.r .z)))))), .load false 1 (.t (.l (.r (.l (.l (.r .z)))))), (some ((.r (.l (.l (.l (.r .z))))), true)), none, []⟩,
    ⟨(some (.l (.l (.r (.l (.r .z)))))), .eql false false [.i] (.t (.r (.r (.l (.l (.r .z)))))) (.c (.int .u64 0)), (some ((.r (.l (.l (.l (.r .z))))), true)), none, []⟩,
    ⟨(some (.r (.l (.r (.l (.r .z)))))), .pick (.t (.r (.l (.l (.l (.r .z)))))) (.t (.l (.l (.r (.l (.r .z)))))) (.c (.bool false)), none, none, []⟩,
    ⟨(some (.l (.r (.r (.l (.r .z)))))), .mv (.t (.r (.l (.r (.l (.r .z)))))), none, none, []⟩,
    ⟨(some (.r (.r (.r (.l (.r .z)))))), .fieldA 3 (.t (.r (.l .z))), (some ((.l (.r (.r (.l (.r .z))))), true)), none, []⟩,
    ⟨(some (.l (.l (.l (.r (.r .z)))))), .load false 1 (.t (.r (.r (.r (.l (.r .z)))))), (some ((.l (.r (.r (.l (.r .z))))), true)), none, []⟩,
    ⟨(some (.r (.l (.l (.r (.r .z)))))), .len .slice (.t (.l (.l (.l (.r (.r .z)))))), (some ((.l (.r (.r (.l (.r .z))))), true)), none, []⟩,
    ⟨(some (.l (.r (.l (.r (.r .z)))))), .eql false false [.i] (.t (.r (.l (.l (.r (.r .z)))))) (.c (.int .i64 0)), (some ((.l (.r (.r (.l (.r .z))))), true)), none, []⟩,
    ⟨(some (.r (.r (.l (.r (.r .z)))))), .pick (.t (.l (.r (.r (.l (.r .z)))))) (.t (.l (.r (.l (.r (.r .z)))))) (.c (.bool false)), none, none, []⟩,
    ⟨(some (.l (.l (.r (.r (.r .z)))))), .mv (.t (.r (.r (.l (.r (.r .z)))))), none, none, []⟩,
    ⟨(some (.r (.l (.r (.r (.r .z)))))), .fieldA 4 (.t (.r (.l .z))), (some ((.l (.l (.r (.r (.r .z))))), true)), none, []⟩,
    ⟨(some (.l (.r (.r (.r (.r .z)))))), .load false 1 (.t (.r (.l (.r (.r (.r .z)))))), (some ((.l (.l (.r (.r (.r .z))))), true)), none, []⟩,
    ⟨(some (.r (.r (.r (.r (.r .z)))))), .len .slice (.t (.l (.r (.r (.r (.r .z)))))), (some ((.l (.l (.r (.r (.r .z))))), true)), none, []⟩,
    ⟨(some (.l (.l (.l (.l (.l (.l .z))))))), .eql false false [.i] (.t (.r (.r (.r (.r (.r .z)))))) (.c (.int .i64 0)), (some ((.l (.l (.r (.r (.r .z))))), true)), none, []⟩,
    ⟨(some (.r (.l (.l (.l (.l (.l .z))))))), .pick (.t (.l (.l (.r (.r (.r .z)))))) (.t (.l (.l (.l (.l (.l (.l .z))))))) (.c (.bool false)), none, none, []⟩,
    ⟨(some (.r .z)), .mv (.t (.r (.l (.l (.l (.l (.l .z))))))), none, none, []⟩])
  .ret)))⟩
def AF121 : AFunc := ⟨20, [.cell (.r .z) true 4, .tmp (.l (.l .z))],
  (.seq (.region false 0 [
    ⟨(some (.l .z)), .box 4 4 (.t .z), none, none, []⟩,
    ⟨(some (.r .z)), .alloc 4 [[(.int .u64 0), (.int .u64 0), (.int .u64 0), .nilslice]], none, none, []⟩,
    ⟨(some (.l (.l .z))), .mv (.c (.int .i64 0)), none, none, []⟩])
  (.seq (.seq (.region false 0 [
    ⟨(some (.l (.l (.l .z)))), .load true 4 (.t (.l .z)), none, none, []⟩,
    ⟨(some (.r (.l (.l .z)))), .call 118 [(.t (.l (.l (.l .z))))], none, none, []⟩,
    ⟨(some (.r (.r .z))), .mv (.t (.r (.l (.l .z)))), none, none, []⟩,
    ⟨(some (.l (.r (.l .z)))), .ext (.t (.r (.r .z))) 0, none, none, []⟩,
    ⟨(some (.r (.r (.l .z)))), .ext (.t (.r (.r .z))) 1, none, none, []⟩,
    ⟨(some (.r (.l .z))), .mv (.t (.l (.r (.l .z)))), none, none, []⟩,
    ⟨(some (.l (.r .z))), .mv (.t (.r (.r (.l .z)))), none, none, []⟩])
  (.seq (.region false 0 [
    ⟨(some (.l (.l (.r .z)))), .mv (.t (.r (.l .z))), none, none, []⟩,
    ⟨(some (.r (.l (.r .z)))), .eql true false [.i] (.t (.l (.l (.r .z)))) (.c (.int .i64 0)), none, none, []⟩])
  (.cond (.t (.r (.l (.r .z))))
  (.seq (.region false 0 [
     ⟨(some (.l (.r (.r .z)))), .build [(.int .u64 0), (.int .u64 0), (.int .u64 0), .nilslice] [], none, none, []⟩,
     ⟨(some (.r (.r (.r .z)))), .mv (.t (.r (.l .z))), none, none, []⟩,
     ⟨none, .store 4 (.t (.r .z)) (.t (.l (.r (.r .z)))), none, none, []⟩,
     ⟨(some (.l (.l .z))), .mv (.t (.r (.r (.r .z)))), none, none, []⟩])
   .ret)
  .skip)))
  (.seq (.region false 0 [
    ⟨(some (.l (.l (.l (.l .z))))), .fieldA 3 (.t (.l .z)), none, none, []⟩,
    ⟨(some (.r (.l (.l (.l .z))))), .load false 1 (.t (.l (.l (.l (.l .z))))), none, none, []⟩,
    ⟨(some (.l (.r (.l (.l .z))))), .call 154 [(.t (.r (.l (.l (.l .z)))))], none, none, []⟩,
    ⟨(some (.r (.r (.l (.l .z))))), .fieldA 3 (.t (.l .z)), none, none, []⟩,
    ⟨none, .store 1 (.t (.r (.r (.l (.l .z))))) (.t (.l (.r (.l (.l .z))))), none, none, []⟩])
  (.seq (.region false 0 [
    ⟨(some (.l (.l (.r (.l .z))))), .load true 4 (.t (.l .z)), none, none, []⟩,
    ⟨none, .store 4 (.t (.r .z)) (.t (.l (.l (.r (.l .z))))), none, none, []⟩,
    ⟨(some (.l (.l .z))), .mv (.c (.int .i64 0)), none, none, []⟩])
  .ret))))⟩
def AF122 : AFunc := ⟨11, [.tmp (.r .z)],
  (.seq (.region false 0 [
    ⟨(some (.l .z)), .box 4 4 (.t .z), none, none, []⟩,
    ⟨(some (.r .z)), .mv (.c (.int .u64 0)), none, none, []⟩])
  (.seq (.region false 0 [
    ⟨(some (.l (.l .z))), .fieldA 0 (.t (.l .z)), none, none, []⟩,
    ⟨(some (.r (.l .z))), .load false 1 (.t (.l (.l .z))), none, none, []⟩,
    ⟨(some (.l (.r .z))), .fieldA 1 (.t (.l .z)), none, none, []⟩,
    ⟨(some (.r (.r .z))), .load false 1 (.t (.l (.r .z))), none, none, []⟩,
    ⟨(some (.l (.l (.l .z)))), .bin .sub (.t (.r (.l .z))) (.t (.r (.r .z))), none, none, []⟩,
    ⟨(some (.r (.l (.l .z)))), .fieldA 2 (.t (.l .z)), none, none, []⟩,
    ⟨(some (.l (.r (.l .z)))), .load false 1 (.t (.r (.l (.l .z)))), none, none, []⟩,
    ⟨(some (.r (.r (.l .z)))), .bin .sub (.t (.l (.l (.l .z)))) (.t (.l (.r (.l .z)))), none, none, []⟩,
    ⟨(some (.r .z)), .mv (.t (.r (.r (.l .z)))), none, none, []⟩])
  .ret))⟩
def AF123 : AFunc := ⟨45, [],
  (.seq (.seq (.region false 0 [
    ⟨(some (.l (.r (.l .z)))), .load false 1 (.t (.l .z)), none, none, []⟩])
  (.cond (.t (.l (.r (.l .z))))
  .ret
  .skip))
  (.seq (.region false 0 [
    ⟨(some (.r (.r (.l .z)))), .fieldA 4 (.t (.r .z)), none, none, []⟩,
    ⟨(some (.l (.l (.r .z)))), .fieldA 3 (.t (.r (.r (.l .z)))), none, none, []⟩,
    ⟨(some (.r (.l (.r .z)))), .load false 1 (.t (.l (.l (.r .z)))), none, none, []⟩,
    ⟨(some (.l (.r (.r .z)))), .len .slice (.t (.r (.l (.r .z)))), none, none, []⟩,
    ⟨(some (.r (.r (.r .z)))), .mv (.c (.int .i64 0)), none, none, []⟩])
  (.block 0 (.loop (.seq (.region false 0 [
      ⟨(some (.l (.l (.l (.l .z))))), .bin .lss (.t (.r (.r (.r .z)))) (.t (.l (.r (.r .z)))), none, none, []⟩])
    (.seq (.cond (.t (.l (.l (.l (.l .z)))))
    .skip
    (.exit 0))
    (.seq (.block 1 (.seq (.region false 0 [
       ⟨(some (.r (.l (.l (.l .z))))), .idxS 5 (.t (.r (.l (.r .z)))) (.t (.r (.r (.r .z)))), none, none, []⟩,
       ⟨(some (.l (.r (.l (.l .z))))), .load true 5 (.t (.r (.l (.l (.l .z))))), none, none, []⟩,
       ⟨(some (.r (.r .z))), .alloc 5 [[(.int .u64 0), (.int .u64 0), (.int .i64 0), (.int .u64 0), (.int .i64 0)]], none, none, []⟩,
       ⟨none, .store 5 (.t (.r (.r .z))) (.t (.l (.r (.l (.l .z))))), none, none, []⟩])
     (.seq (.region false 0 [
       ⟨(some (.l (.l (.r (.l .z))))), .fieldA 8 (.t (.l (.l .z))), none, none, []⟩,
       ⟨(some (.r (.l (.r (.l .z))))), .load true 5 (.t (.l (.l (.r (.l .z))))), none, none, []⟩,
       ⟨(some (.l (.r (.r (.l .z))))), .fieldA 0 (.t (.r (.r .z))), none, none, []⟩,
       ⟨(some (.r (.r (.r (.l .z))))), .load false 1 (.t (.l (.r (.r (.l .z))))), none, none, []⟩,
       ⟨(some (.l (.l (.l (.r .z))))), .fieldA 1 (.t (.r (.r .z))), none, none, []⟩,
       ⟨(some (.r (.l (.l (.r .z))))), .load false 1 (.t (.l (.l (.l (.r .z))))), none, none, []⟩,
       ⟨(some (.l (.r (.l (.r .z))))), .call 124 [(.t (.r (.l (.r (.l .z))))), (.t (.r (.r (.r (.l .z))))), (.t (.r (.l (.l (.r .z)))))], none, none, []⟩,
       ⟨(some (.r (.r (.l (.l .z))))), .mv (.t (.l (.r (.l (.r .z))))), none, none, []⟩,
       ⟨(some (.r (.r (.l (.r .z))))), .ext (.t (.r (.r (.l (.l .z))))) 0, none, none, []⟩,
       ⟨(some (.l (.l (.r (.r .z))))), .ext (.t (.r (.r (.l (.l .z))))) 1, none, none, []⟩,
       ⟨(some (.l (.l (.l .z)))), .mv (.t (.r (.r (.l (.r .z))))), none, none, []⟩,
       ⟨(some (.r (.l (.l .z)))), .mv (.t (.l (.l (.r (.r .z))))), none, none, []⟩])
     (.seq (.region false 0 [
       ⟨(some (.r (.l (.r (.r .z))))), .mv (.t (.r (.l (.l .z)))), none, none, []⟩,
       ⟨(some (.l (.r (.r (.r .z))))), .eql false false [.i] (.t (.r (.l (.r (.r .z))))) (.c (.int .i64 14)), none, none, []⟩,
       ⟨(some (.r (.r (.r (.r .z))))), .mv (.t (.l (.r (.r (.r .z))))), none, none, []⟩,
       ⟨(some (.l (.l (.l (.l (.l .z)))))), .mv (.t (.r (.l (.l .z)))), (some ((.r (.r (.r (.r .z)))), false)), none, []⟩,
       ⟨(some (.r (.l (.l (.l (.l .z)))))), .eql false false [.i] (.t (.l (.l (.l (.l (.l .z)))))) (.c (.int .i64 0)), (some ((.r (.r (.r (.r .z)))), false)), none, []⟩,
       ⟨(some (.l (.r (.l (.l (.l .z)))))), .mv (.t (.r (.l (.l (.l (.l .z)))))), (some ((.r (.r (.r (.r .z)))), false)), none, []⟩,
       ⟨(some (.r (.r (.l (.l (.l .z)))))), .mv (.t (.l (.l (.l .z)))), (some ((.l (.r (.l (.l (.l .z))))), true)), none, []⟩,
       ⟨(some (.l (.l (.r (.l (.l .z)))))), .eql false false [.i] (.t (.r (.r (.l (.l (.l .z)))))) (.c (.int .i64 2)), (some ((.l (.r (.l (.l (.l .z))))), true)), none, []⟩,
       ⟨(some (.r (.l (.r (.l (.l .z)))))), .pick (.t (.l (.r (.l (.l (.l .z)))))) (.t (.l (.l (.r (.l (.l .z)))))) (.c (.bool false)), (some ((.r (.r (.r (.r .z)))), false)), none, []⟩,
       ⟨(some (.l (.r (.r (.l (.l .z)))))), .pick (.t (.r (.r (.r (.r .z))))) (.c (.bool true)) (.t (.r (.l (.r (.l (.l .z)))))), none, none, []⟩,
       ⟨(some (.r (.r (.r (.l (.l .z)))))), .mv (.t (.l (.r (.r (.l (.l .z)))))), none, none, []⟩,
       ⟨(some (.l (.l (.l (.r (.l .z)))))), .mv (.t .z), (some ((.r (.r (.r (.l (.l .z))))), true)), none, []⟩,
       ⟨(some (.r (.l (.l (.r (.l .z)))))), .load true 5 (.t (.r (.r .z))), (some ((.r (.r (.r (.l (.l .z))))), true)), none, []⟩,
       ⟨(some (.l (.r (.l (.r (.l .z)))))), .callv (.t (.l (.l (.l (.r (.l .z)))))) [(.t (.r (.l (.l (.r (.l .z))))))], (some ((.r (.r (.r (.l (.l .z))))), true)), none, []⟩,
       ⟨(some (.r (.r (.l (.r (.l .z)))))), .un .not (.t (.l (.r (.l (.r (.l .z)))))), (some ((.r (.r (.r (.l (.l .z))))), true)), none, []⟩,
       ⟨(some (.l (.l (.r (.r (.l .z)))))), .pick (.t (.r (.r (.r (.l (.l .z)))))) (.t (.r (.r (.l (.r (.l .z)))))) (.c (.bool false)), none, none, []⟩])
     (.cond (.t (.l (.l (.r (.r (.l .z))))))
     .ret
     .skip)))))
    (.region false 0 [
      ⟨(some (.r (.l (.r (.r (.l .z)))))), .bin .add (.t (.r (.r (.r .z)))) (.c (.int .i64 1)), none, none, []⟩,
      ⟨(some (.r (.r (.r .z)))), .mv (.t (.r (.l (.r (.r (.l .z)))))), none, none, []⟩]))))))))⟩
def AF125 : AFunc := ⟨13, [.tmp (.r .z), .tmp (.l (.l .z))],
  (.seq (.region false 0 [
    ⟨(some (.l .z)), .box 5 5 (.t .z), none, none, []⟩,
    ⟨(some (.r .z)), .mv (.c (.int .u64 0)), none, none, []⟩,
    ⟨(some (.l (.l .z))), .mv (.c (.int .i64 0)), none, none, []⟩])
  (.seq (.region false 0 [
    ⟨(some (.r (.r .z))), .load true 5 (.t (.l .z)), none, none, []⟩,
    ⟨(some (.l (.l (.l .z)))), .call 155 [(.t (.r (.r .z)))], none, none, []⟩,
    ⟨(some (.l (.r .z))), .mv (.t (.l (.l (.l .z)))), none, none, []⟩,
    ⟨(some (.r (.l (.l .z)))), .ext (.t (.l (.r .z))) 0, none, none, []⟩,
    ⟨(some (.l (.r (.l .z)))), .ext (.t (.l (.r .z))) 1, none, none, []⟩,
    ⟨none, .store 5 (.t (.l .z)) (.t (.r (.l (.l .z)))), none, none, []⟩,
    ⟨(some (.r (.l .z))), .mv (.t (.l (.r (.l .z)))), none, none, []⟩])
  (.seq (.region false 0 [
    ⟨(some (.r (.r (.l .z)))), .load true 5 (.t (.l .z)), none, none, []⟩,
    ⟨(some (.l (.l (.r .z)))), .call 157 [(.t (.r (.r (.l .z))))], none, none, []⟩,
    ⟨(some (.r (.l (.r .z)))), .mv (.t (.r (.l .z))), none, none, []⟩,
    ⟨(some (.r .z)), .mv (.t (.l (.l (.r .z)))), none, none, []⟩,
    ⟨(some (.l (.l .z))), .mv (.t (.r (.l (.r .z)))), none, none, []⟩])
  .ret)))⟩
def AF127 : AFunc := ⟨27, [.tmp (.r (.l .z))],
  (.seq (.region false 0 [
    ⟨(some (.r (.l .z))), .mv (.c .nilslice), none, none, []⟩])
  (.seq (.seq (.region false 0 [
    ⟨(some (.l (.r .z))), .mv (.t (.l .z)), none, none, []⟩,
    ⟨(some (.r (.r .z))), .bin .lss (.t (.l (.r .z))) (.c (.int .i64 0)), none, none, []⟩])
  (.cond (.t (.r (.r .z)))
  (.region false 0 [
     ⟨(some (.l (.l (.l .z)))), .iface 9 (.c (.str [99, 97, 110, 110, 111, 116, 32, 98, 101, 32, 110, 101, 103, 97, 116, 105, 118, 101])), none, none, []⟩,
     ⟨none, .bad, none, none, []⟩])
  .skip))
  (.seq (.seq (.region false 0 [
    ⟨(some (.r (.l (.l .z)))), .mv (.t (.l .z)), none, none, []⟩,
    ⟨(some (.l (.r (.l .z)))), .mv (.t .z), none, none, []⟩,
    ⟨(some (.r (.r (.l .z)))), .capb (.t (.l (.r (.l .z)))), none, none, []⟩,
    ⟨(some (.l (.l (.r .z)))), .mv (.t .z), none, none, []⟩,
    ⟨(some (.r (.l (.r .z)))), .len .slice (.t (.l (.l (.r .z)))), none, none, []⟩,
    ⟨(some (.l (.r (.r .z)))), .bin .sub (.t (.r (.r (.l .z)))) (.t (.r (.l (.r .z)))), none, none, []⟩,
    ⟨(some (.r (.r (.r .z)))), .bin .sub (.t (.r (.l (.l .z)))) (.t (.l (.r (.r .z)))), none, none, []⟩,
    ⟨(some (.l .z)), .mv (.t (.r (.r (.r .z)))), none, none, []⟩])
  (.seq (.region false 0 [
    ⟨(some (.l (.l (.l (.l .z))))), .mv (.t (.l .z)), none, none, []⟩,
    ⟨(some (.r (.l (.l (.l .z))))), .bin .gtr (.t (.l (.l (.l (.l .z))))) (.c (.int .i64 0)), none, none, []⟩])
  (.cond (.t (.r (.l (.l (.l .z)))))
  (.region false 0 [
     ⟨(some (.l (.r (.l (.l .z))))), .mv (.t .z), none, none, []⟩,
     ⟨(some (.r (.r (.l (.l .z))))), .mv (.t .z), none, none, []⟩,
     ⟨(some (.l (.l (.r (.l .z))))), .capb (.t (.r (.r (.l (.l .z))))), none, none, []⟩,
     ⟨(some (.r (.l (.r (.l .z))))), .sliceS 6 (.t (.l (.r (.l (.l .z))))) none (some (.t (.l (.l (.r (.l .z)))))) none, none, none, []⟩,
     ⟨(some (.l (.r (.r (.l .z))))), .mv (.t (.l .z)), none, none, []⟩,
     ⟨(some (.r (.r (.r (.l .z))))), .appz 6 48 [(.int .i64 0), (.int .i64 0), (.int .i64 0), (.int .i64 0), (.int .u64 0), (.int .i64 0)] (.t (.r (.l (.r (.l .z))))) (.t (.l (.r (.r (.l .z))))), none, none, []⟩,
     ⟨(some (.l (.l (.l (.r .z))))), .mv (.t .z), none, none, []⟩,
     ⟨(some (.r (.l (.l (.r .z))))), .len .slice (.t (.l (.l (.l (.r .z))))), none, none, []⟩,
     ⟨(some (.l (.r (.l (.r .z))))), .sliceS 6 (.t (.r (.r (.r (.l .z))))) none (some (.t (.r (.l (.l (.r .z)))))) none, none, none, []⟩,
     ⟨(some .z), .mv (.t (.l (.r (.l (.r .z))))), none, none, []⟩])
  .skip)))
  (.seq (.region false 0 [
    ⟨(some (.r (.r (.l (.r .z))))), .mv (.t .z), none, none, []⟩,
    ⟨(some (.r (.l .z))), .mv (.t (.r (.r (.l (.r .z))))), none, none, []⟩])
  .ret))))⟩
def AF140 : AFunc := ⟨49, [.tmp (.r (.r .z)), .tmp (.l (.l (.l .z)))],
  (.seq (.region false 0 [
    ⟨(some (.r (.l .z))), .box 3 3 (.t (.l .z)), none, none, []⟩,
    ⟨(some (.r (.r .z))), .mv (.c (.int .i64 0)), none, none, []⟩,
    ⟨(some (.l (.l (.l .z)))), .mv (.c (.bool false)), none, none, []⟩])
  (.seq (.region false 0 [
    ⟨(some (.r (.l (.r .z)))), .mv (.t .z), none, none, []⟩,
    ⟨(some (.l (.r (.r .z)))), .len .slice (.t (.r (.l (.r .z)))), none, none, []⟩,
    ⟨(some (.r (.l (.l .z)))), .mv (.t (.l (.r (.r .z)))), none, none, []⟩])
  (.seq (.region false 0 [
    ⟨(some (.r (.r (.r .z)))), .mv (.t (.r (.l (.l .z)))), none, none, []⟩,
    ⟨(some (.l (.r (.l .z)))), .mv (.c (.int .i64 0)), none, none, []⟩,
    ⟨(some (.r (.r (.l .z)))), .mv (.t (.r (.r (.r .z)))), none, none, []⟩])
  (.seq (.block 0 (.loop (.seq (.seq (.region false 0 [
      ⟨(some (.l (.l (.l (.l .z))))), .mv (.t (.l (.r (.l .z)))), none, none, []⟩,
      ⟨(some (.r (.l (.l (.l .z))))), .mv (.t (.r (.r (.l .z)))), none, none, []⟩,
      ⟨(some (.l (.r (.l (.l .z))))), .bin .lss (.t (.l (.l (.l (.l .z))))) (.t (.r (.l (.l (.l .z))))), none, none, []⟩])
    (.cond (.t (.l (.r (.l (.l .z)))))
    .skip
    (.exit 0)))
    (.block 1 (.seq (.region false 0 [
       ⟨(some (.r (.r (.l (.l .z))))), .mv (.t (.l (.r (.l .z)))), none, none, []⟩,
       ⟨(some (.l (.l (.r (.l .z))))), .mv (.t (.r (.r (.l .z)))), none, none, []⟩,
       ⟨(some (.r (.l (.r (.l .z))))), .bin .add (.t (.r (.r (.l (.l .z))))) (.t (.l (.l (.r (.l .z))))), none, none, []⟩,
       ⟨(some (.l (.r (.r (.l .z))))), .conv (.toInt .u64) (.t (.r (.l (.r (.l .z))))), none, none, []⟩,
       ⟨(some (.r (.r (.r (.l .z))))), .bin .shr (.t (.l (.r (.r (.l .z))))) (.c (.int .u64 1)), none, none, []⟩,
       ⟨(some (.l (.l (.l (.r .z))))), .conv (.toInt .i64) (.t (.r (.r (.r (.l .z))))), none, none, []⟩,
       ⟨(some (.l (.l (.r .z)))), .mv (.t (.l (.l (.l (.r .z))))), none, none, []⟩])
     (.seq (.region true 0 [
       ⟨(some (.r (.l (.l (.r .z))))), .mv (.t (.r .z)), none, none, []⟩,
       ⟨(some (.l (.r (.l (.r .z))))), .mv (.t .z), none, none, []⟩,
       ⟨(some (.r (.r (.l (.r .z))))), .mv (.t (.l (.l (.r .z)))), none, none, []⟩,
       ⟨(some (.l (.l (.r (.r .z))))), .idxS 4 (.t (.l (.r (.l (.r .z))))) (.t (.r (.r (.l (.r .z))))), none, none, [1, 2]⟩,
       ⟨(some (.r (.l (.r (.r .z))))), .load true 4 (.t (.l (.l (.r (.r .z))))), none, none, [1, 2, 3]⟩,
       ⟨(some (.l (.r (.r (.r .z))))), .load true 3 (.t (.r (.l .z))), none, none, []⟩,
       ⟨(some (.r (.r (.r (.r .z))))), .callv (.t (.r (.l (.l (.r .z))))) [(.t (.r (.l (.r (.r .z))))), (.t (.l (.r (.r (.r .z)))))], none, none, [0, 1, 2, 3, 4, 5]⟩,
       ⟨(some (.l (.l (.l (.l (.l .z)))))), .bin .lss (.t (.r (.r (.r (.r .z))))) (.c (.int .i64 0)), none, none, [0, 1, 2, 3, 4, 5, 6]⟩])
     (.cond (.t (.l (.l (.l (.l (.l .z))))))
     (.region false 0 [
        ⟨(some (.r (.l (.l (.l (.l .z)))))), .mv (.t (.l (.l (.r .z)))), none, none, []⟩,
        ⟨(some (.l (.r (.l (.l (.l .z)))))), .bin .add (.t (.r (.l (.l (.l (.l .z)))))) (.c (.int .i64 1)), none, none, []⟩,
        ⟨(some (.l (.r (.l .z)))), .mv (.t (.l (.r (.l (.l (.l .z)))))), none, none, []⟩])
     (.region false 0 [
        ⟨(some (.r (.r (.l (.l (.l .z)))))), .mv (.t (.l (.l (.r .z)))), none, none, []⟩,
        ⟨(some (.r (.r (.l .z)))), .mv (.t (.r (.r (.l (.l (.l .z)))))), none, none, []⟩]))))))))
  (.seq (.region true 0 [
    ⟨(some (.l (.l (.r (.l (.l .z)))))), .mv (.t (.l (.r (.l .z)))), none, none, []⟩,
    ⟨(some (.r (.l (.r (.l (.l .z)))))), .mv (.t (.l (.r (.l .z)))), none, none, []⟩,
    ⟨(some (.l (.r (.r (.l (.l .z)))))), .mv (.t (.r (.l (.l .z)))), none, none, []⟩,
    ⟨(some (.r (.r (.r (.l (.l .z)))))), .bin .lss (.t (.r (.l (.r (.l (.l .z)))))) (.t (.l (.r (.r (.l (.l .z)))))), none, none, [1, 2]⟩,
    ⟨(some (.l (.l (.l (.r (.l .z)))))), .mv (.t (.r (.r (.r (.l (.l .z)))))), none, none, [1, 2, 3]⟩,
    ⟨(some (.r (.l (.l (.r (.l .z)))))), .mv (.t (.r .z)), (some ((.l (.l (.l (.r (.l .z))))), true)), none, [1, 2, 3, 4]⟩,
    ⟨(some (.l (.r (.l (.r (.l .z)))))), .mv (.t .z), (some ((.l (.l (.l (.r (.l .z))))), true)), none, [1, 2, 3, 4]⟩,
    ⟨(some (.r (.r (.l (.r (.l .z)))))), .mv (.t (.l (.r (.l .z)))), (some ((.l (.l (.l (.r (.l .z))))), true)), none, [1, 2, 3, 4]⟩,
    ⟨(some (.l (.l (.r (.r (.l .z)))))), .idxS 4 (.t (.l (.r (.l (.r (.l .z)))))) (.t (.r (.r (.l (.r (.l .z)))))), (some ((.l (.l (.l (.r (.l .z))))), true)), none, [1, 2, 3, 4, 6, 7]⟩,
    ⟨(some (.r (.l (.r (.r (.l .z)))))), .load true 4 (.t (.l (.l (.r (.r (.l .z)))))), (some ((.l (.l (.l (.r (.l .z))))), true)), none, [1, 2, 3, 4, 6, 7, 8]⟩,
    ⟨(some (.l (.r (.r (.r (.l .z)))))), .load true 3 (.t (.r (.l .z))), (some ((.l (.l (.l (.r (.l .z))))), true)), none, [1, 2, 3, 4]⟩,
    ⟨(some (.r (.r (.r (.r (.l .z)))))), .callv (.t (.r (.l (.l (.r (.l .z)))))) [(.t (.r (.l (.r (.r (.l .z)))))), (.t (.l (.r (.r (.r (.l .z))))))], (some ((.l (.l (.l (.r (.l .z))))), true)), none, [1, 2, 3, 4, 5, 6, 7, 8, 9, 10]⟩,
    ⟨(some (.l (.l (.l (.l (.r .z)))))), .eql false false [.i] (.t (.r (.r (.r (.r (.l .z)))))) (.c (.int .i64 0)), (some ((.l (.l (.l (.r (.l .z))))), true)), none, [1, 2, 3, 4, 5, 6, 7, 8, 9, 10, 11]⟩,
    ⟨(some (.r (.l (.l (.l (.r .z)))))), .pick (.t (.l (.l (.l (.r (.l .z)))))) (.t (.l (.l (.l (.l (.r .z)))))) (.c (.bool false)), none, none, [1, 2, 3, 4, 5, 6, 7, 8, 9, 10, 11, 12]⟩,
    ⟨(some (.r (.r .z))), .mv (.t (.l (.l (.r (.l (.l .z)))))), none, none, [0, 1, 2, 3, 4, 5, 6, 7, 8, 9, 10, 11]⟩,
    ⟨(some (.l (.l (.l .z)))), .mv (.t (.r (.l (.l (.l (.r .z)))))), none, none, [0, 1, 2, 3, 4, 5, 6, 7, 8, 9, 10, 11, 12, 13, 14]⟩])
  .ret)))))⟩
def AF142 : AFunc := ⟨15, [.tmp (.r .z)],
  (.seq (.region false 0 [
    ⟨(some (.l .z)), .box 9 9 (.t .z), none, none, []⟩,
    ⟨(some (.r .z)), .mv (.c (.bool false)), none, none, []⟩])
  (.seq (.region false 0 [
    ⟨(some (.l (.l .z))), .fieldA 0 (.t (.l .z)), none, none, []⟩,
    ⟨(some (.r (.l .z))), .fieldA 2 (.t (.l (.l .z))), none, none, []⟩,
    ⟨(some (.l (.r .z))), .load false 1 (.t (.r (.l .z))), none, none, []⟩,
    ⟨(some (.r (.r .z))), .eql false false [.i] (.t (.l (.r .z))) (.c (.int .i64 0)), none, none, []⟩,
    ⟨(some (.l (.l (.l .z)))), .mv (.t (.r (.r .z))), none, none, []⟩,
    ⟨(some (.r (.l (.l .z)))), .fieldA 7 (.t (.l .z)), (some ((.l (.l (.l .z))), true)), none, []⟩,
    ⟨(some (.l (.r (.l .z)))), .load false 1 (.t (.r (.l (.l .z)))), (some ((.l (.l (.l .z))), true)), none, []⟩,
    ⟨(some (.r (.r (.l .z)))), .fieldA 8 (.t (.l .z)), (some ((.l (.l (.l .z))), true)), none, []⟩,
    ⟨(some (.l (.l (.r .z)))), .load false 1 (.t (.r (.r (.l .z)))), (some ((.l (.l (.l .z))), true)), none, []⟩,
    ⟨(some (.r (.l (.r .z)))), .len .str (.t (.l (.l (.r .z)))), (some ((.l (.l (.l .z))), true)), none, []⟩,
    ⟨(some (.l (.r (.r .z)))), .eql false false [.i] (.t (.l (.r (.l .z)))) (.t (.r (.l (.r .z)))), (some ((.l (.l (.l .z))), true)), none, []⟩,
    ⟨(some (.r (.r (.r .z)))), .pick (.t (.l (.l (.l .z)))) (.t (.l (.r (.r .z)))) (.c (.bool false)), none, none, []⟩,
    ⟨(some (.r .z)), .mv (.t (.r (.r (.r .z)))), none, none, []⟩])
  .ret))⟩
def AF143 : AFunc := ⟨21, [.tmp (.r .z)],
  (.seq (.region false 0 [
    ⟨(some (.r .z)), .mv (.c (.str [])), none, none, []⟩])
  (.seq (.region false 0 [
    ⟨(some (.l (.l .z))), .mv (.c (.str [])), none, none, []⟩])
  (.seq (.seq (.region false 0 [
    ⟨(some (.r (.r .z))), .mv (.t .z), none, none, []⟩,
    ⟨(some (.l (.l (.l .z)))), .len .slice (.t (.r (.r .z))), none, none, []⟩,
    ⟨(some (.r (.l (.l .z)))), .mv (.c (.int .i64 0)), none, none, []⟩])
  (.block 0 (.loop (.seq (.region false 0 [
      ⟨(some (.l (.r (.l .z)))), .bin .lss (.t (.r (.l (.l .z)))) (.t (.l (.l (.l .z)))), none, none, []⟩])
    (.seq (.cond (.t (.l (.r (.l .z))))
    .skip
    (.exit 0))
    (.seq (.block 1 (.seq (.region false 0 [
       ⟨(some (.r (.r (.l .z)))), .idxS 1 (.t (.r (.r .z))) (.t (.r (.l (.l .z)))), none, none, []⟩,
       ⟨(some (.l (.l (.r .z)))), .load false 1 (.t (.r (.r (.l .z)))), none, none, []⟩,
       ⟨(some (.l (.r .z))), .mv (.t (.l (.l (.r .z)))), none, none, []⟩])
     (.region false 0 [
       ⟨(some (.r (.l (.r .z)))), .mv (.t (.l (.l .z))), none, none, []⟩,
       ⟨(some (.l (.r (.r .z)))), .mv (.t (.l (.r .z))), none, none, []⟩,
       ⟨(some (.r (.r (.r .z)))), .nilc (.t (.l (.r (.r .z)))), none, none, []⟩,
       ⟨(some (.l (.l (.l (.l .z))))), .load false 1 (.t (.r (.r (.r .z)))), none, none, []⟩,
       ⟨(some (.r (.l (.l (.l .z))))), .conv (.toInt .u64) (.t (.l (.l (.l (.l .z))))), none, none, []⟩,
       ⟨(some (.l (.r (.l (.l .z))))), .call 144 [(.t (.r (.l (.l (.l .z)))))], none, none, []⟩,
       ⟨(some (.r (.r (.l (.l .z))))), .bin .add (.t (.r (.l (.r .z)))) (.t (.l (.r (.l (.l .z))))), none, none, []⟩,
       ⟨(some (.l (.l .z))), .mv (.t (.r (.r (.l (.l .z))))), none, none, []⟩])))
    (.region false 0 [
      ⟨(some (.l (.l (.r (.l .z))))), .bin .add (.t (.r (.l (.l .z)))) (.c (.int .i64 1)), none, none, []⟩,
      ⟨(some (.r (.l (.l .z)))), .mv (.t (.l (.l (.r (.l .z))))), none, none, []⟩])))))))
  (.seq (.region false 0 [
    ⟨(some (.r (.l (.r (.l .z))))), .mv (.t (.l (.l .z))), none, none, []⟩,
    ⟨(some (.r .z)), .mv (.t (.r (.l (.r (.l .z))))), none, none, []⟩])
  .ret))))⟩
def AF144 : AFunc := ⟨26, [.tmp (.r .z)],
  (.seq (.region false 0 [
    ⟨(some (.r .z)), .mv (.c (.str [])), none, none, []⟩])
  (.seq (.region false 0 [
    ⟨(some (.l (.l .z))), .alloc 1 [[(.int .u8 0)], [(.int .u8 0)], [(.int .u8 0)], [(.int .u8 0)], [(.int .u8 0)], [(.int .u8 0)], [(.int .u8 0)], [(.int .u8 0)], [(.int .u8 0)], [(.int .u8 0)]], none, none, []⟩])
  (.seq (.region false 0 [
    ⟨(some (.r (.l .z))), .alloc 1 [[(.int .i64 0)]], none, none, []⟩,
    ⟨none, .store 1 (.t (.r (.l .z))) (.c (.int .i64 10)), none, none, []⟩])
  (.seq (.seq (.region false 0 [
    ⟨(some (.l (.l (.l .z)))), .mv (.t .z), none, none, []⟩,
    ⟨(some (.r (.l (.l .z)))), .call 145 [(.t (.l (.l (.l .z))))], none, none, []⟩])
  (.block 0 (.rangeFunc (.t (.r (.l (.l .z)))) [(.l (.r (.l .z))), (.r (.r (.l .z)))]
   (.seq (.region false 0 [
      ⟨(some (.l (.r .z))), .mv (.t (.l (.r (.l .z)))), none, none, []⟩])
    (.region false 0 [
      ⟨(some (.r (.r .z))), .mv (.t (.r (.r (.l .z)))), none, none, []⟩]))
   (.block 1 (.seq (.region false 0 [
       ⟨(some (.l (.l (.r .z)))), .load false 1 (.t (.r (.l .z))), none, none, []⟩,
       ⟨(some (.r (.l (.r .z)))), .bin .sub (.t (.l (.l (.r .z)))) (.c (.int .i64 1)), none, none, []⟩,
       ⟨none, .store 1 (.t (.r (.l .z))) (.t (.r (.l (.r .z)))), none, none, []⟩])
     (.seq (.region false 0 [
       ⟨(some (.l (.r (.r .z)))), .load false 1 (.t (.r (.l .z))), none, none, []⟩,
       ⟨(some (.r (.r (.r .z)))), .mv (.t (.r (.r .z))), none, none, []⟩,
       ⟨(some (.l (.l (.l (.l .z))))), .idxA 1 10 (.t (.l (.l .z))) (.t (.l (.r (.r .z)))), none, none, []⟩,
       ⟨none, .store 1 (.t (.l (.l (.l (.l .z))))) (.t (.r (.r (.r .z)))), none, none, []⟩])
     (.seq (.region false 0 [
       ⟨(some (.r (.l (.l (.l .z))))), .mv (.t (.l (.r .z))), none, none, []⟩,
       ⟨(some (.l (.r (.l (.l .z))))), .bin .gtr (.t (.r (.l (.l (.l .z))))) (.c (.int .i64 0)), none, none, []⟩])
     (.cond (.t (.l (.r (.l (.l .z)))))
     (.region false 0 [
        ⟨(some (.r (.r (.l (.l .z))))), .load false 1 (.t (.r (.l .z))), none, none, []⟩,
        ⟨(some (.l (.l (.r (.l .z))))), .idxA 1 10 (.t (.l (.l .z))) (.t (.r (.r (.l (.l .z))))), none, none, []⟩,
        ⟨(some (.r (.l (.r (.l .z))))), .load false 1 (.t (.l (.l (.r (.l .z))))), none, none, []⟩,
        ⟨(some (.l (.r (.r (.l .z))))), .bin .or (.t (.r (.l (.r (.l .z))))) (.c (.int .u8 128)), none, none, []⟩,
        ⟨(some (.r (.r (.r (.l .z))))), .idxA 1 10 (.t (.l (.l .z))) (.t (.r (.r (.l (.l .z))))), none, none, []⟩,
        ⟨none, .store 1 (.t (.r (.r (.r (.l .z))))) (.t (.l (.r (.r (.l .z))))), none, none, []⟩])
     .skip))))))))
  (.seq (.region false 0 [
    ⟨(some (.l (.l (.l (.r .z))))), .load false 1 (.t (.r (.l .z))), none, none, []⟩,
    ⟨(some (.r (.l (.l (.r .z))))), .sliceA 1 10 (.t (.l (.l .z))) (some (.t (.l (.l (.l (.r .z)))))) none none, none, none, []⟩,
    ⟨(some (.l (.r (.l (.r .z))))), .conv .b2s (.t (.r (.l (.l (.r .z))))), none, none, []⟩,
    ⟨(some (.r .z)), .mv (.t (.l (.r (.l (.r .z))))), none, none, []⟩])
  .ret)))))⟩
def AF145 : AFunc := ⟨4, [.tmp (.r .z)],
  (.seq (.region false 0 [
    ⟨(some (.l .z)), .box 1 1 (.t .z), none, none, []⟩,
    ⟨(some (.r .z)), .mv (.c .nilFunc), none, none, []⟩])
  (.seq (.region false 0 [
    ⟨(some (.l (.l .z))), .mkfunc 168 [] [(.t (.l .z))], none, none, []⟩,
    ⟨(some (.r .z)), .mv (.t (.l (.l .z))), none, none, []⟩])
  .ret))⟩
def AF146 : AFunc := ⟨21, [.tmp (.r .z)],
  (.seq (.region false 0 [
    ⟨(some (.r .z)), .mv (.c (.int .u64 0)), none, none, []⟩])
  (.seq (.region false 0 [
    ⟨(some (.l (.l .z))), .mv (.c (.int .u64 0)), none, none, []⟩])
  (.seq (.seq (.region false 0 [
    ⟨(some (.r (.r .z))), .mv (.t .z), none, none, []⟩,
    ⟨(some (.l (.l (.l .z)))), .len .slice (.t (.r (.r .z))), none, none, []⟩,
    ⟨(some (.r (.l (.l .z)))), .mv (.c (.int .i64 0)), none, none, []⟩])
  (.block 0 (.loop (.seq (.region false 0 [
      ⟨(some (.l (.r (.l .z)))), .bin .lss (.t (.r (.l (.l .z)))) (.t (.l (.l (.l .z)))), none, none, []⟩])
    (.seq (.cond (.t (.l (.r (.l .z))))
    .skip
    (.exit 0))
    (.seq (.block 1 (.seq (.region false 0 [
       ⟨(some (.r (.r (.l .z)))), .idxS 1 (.t (.r (.r .z))) (.t (.r (.l (.l .z)))), none, none, []⟩,
       ⟨(some (.l (.l (.r .z)))), .load false 1 (.t (.r (.r (.l .z)))), none, none, []⟩,
       ⟨(some (.l (.r .z))), .mv (.t (.l (.l (.r .z)))), none, none, []⟩])
     (.seq (.seq (.region false 0 [
       ⟨(some (.r (.l (.r .z)))), .mv (.t (.l (.r .z))), none, none, []⟩,
       ⟨(some (.l (.r (.r .z)))), .bin .gtr (.t (.r (.l (.r .z)))) (.c (.int .u64 2199023255552)), none, none, []⟩])
     (.cond (.t (.l (.r (.r .z))))
     (.seq (.region false 0 [
        ⟨(some (.r .z)), .mv (.c (.int .u64 2199023255552)), none, none, []⟩])
      .ret)
     .skip))
     (.seq (.region false 0 [
       ⟨(some (.r (.r (.r .z)))), .mv (.t (.l (.l .z))), none, none, []⟩,
       ⟨(some (.l (.l (.l (.l .z))))), .mv (.t (.l (.r .z))), none, none, []⟩,
       ⟨(some (.r (.l (.l (.l .z))))), .bin .add (.t (.r (.r (.r .z)))) (.t (.l (.l (.l (.l .z))))), none, none, []⟩,
       ⟨(some (.l (.l .z))), .mv (.t (.r (.l (.l (.l .z))))), none, none, []⟩])
     (.seq (.region false 0 [
       ⟨(some (.l (.r (.l (.l .z))))), .mv (.t (.l (.l .z))), none, none, []⟩,
       ⟨(some (.r (.r (.l (.l .z))))), .bin .gtr (.t (.l (.r (.l (.l .z))))) (.c (.int .u64 1099511627776)), none, none, []⟩])
     (.cond (.t (.r (.r (.l (.l .z)))))
     (.seq (.region false 0 [
        ⟨(some (.r .z)), .mv (.c (.int .u64 2199023255552)), none, none, []⟩])
      .ret)
     .skip))))))
    (.region false 0 [
      ⟨(some (.l (.l (.r (.l .z))))), .bin .add (.t (.r (.l (.l .z)))) (.c (.int .i64 1)), none, none, []⟩,
      ⟨(some (.r (.l (.l .z)))), .mv (.t (.l (.l (.r (.l .z))))), none, none, []⟩])))))))
  (.seq (.region false 0 [
    ⟨(some (.r (.l (.r (.l .z))))), .mv (.t (.l (.l .z))), none, none, []⟩,
    ⟨(some (.r .z)), .mv (.t (.r (.l (.r (.l .z))))), none, none, []⟩])
  .ret))))⟩
def AF147 : AFunc := ⟨8, [.tmp (.r .z)],
  (.seq (.region false 0 [
    ⟨(some (.r .z)), .mv (.c (.int .u64 0)), none, none, []⟩])
  (.seq (.region false 0 [
    ⟨(some (.l (.l .z))), .mv (.t .z), none, none, []⟩,
    ⟨(some (.r (.l .z))), .nilc (.t (.l (.l .z))), none, none, []⟩,
    ⟨(some (.l (.r .z))), .fieldA 3 (.t (.r (.l .z))), none, none, []⟩,
    ⟨(some (.r (.r .z))), .sliceA 1 16 (.t (.l (.r .z))) none none none, none, none, []⟩,
    ⟨(some (.l (.l (.l .z)))), .call 146 [(.t (.r (.r .z)))], none, none, []⟩,
    ⟨(some (.r .z)), .mv (.t (.l (.l (.l .z)))), none, none, []⟩])
  .ret))⟩
def AF148 : AFunc := ⟨5, [.tmp (.l .z)],
  (.seq (.region false 0 [
    ⟨(some (.l .z)), .mv (.c (.bool false)), none, none, []⟩])
  (.seq (.region false 0 [
    ⟨(some (.r .z)), .fieldA 0 (.t .z), none, none, []⟩,
    ⟨(some (.l (.l .z))), .load false 1 (.t (.r .z)), none, none, []⟩,
    ⟨(some (.r (.l .z))), .bin .leq (.t (.l (.l .z))) (.c (.int .u64 1125899906842624)), none, none, []⟩,
    ⟨(some (.l .z)), .mv (.t (.r (.l .z))), none, none, []⟩])
  .ret))⟩
def AF149 : AFunc := ⟨17, [.tmp (.l .z)],
  (.seq (.region false 0 [
    ⟨(some (.l .z)), .mv (.c (.bool false)), none, none, []⟩])
  (.seq (.region false 0 [
    ⟨(some (.r .z)), .fieldA 2 (.t .z), none, none, []⟩,
    ⟨(some (.l (.l .z))), .load false 1 (.t (.r .z)), none, none, []⟩,
    ⟨(some (.r (.l .z))), .fieldA 0 (.t .z), none, none, []⟩,
    ⟨(some (.l (.r .z))), .load false 1 (.t (.r (.l .z))), none, none, []⟩,
    ⟨(some (.r (.r .z))), .bin .leq (.t (.l (.l .z))) (.t (.l (.r .z))), none, none, []⟩,
    ⟨(some (.l (.l (.l .z)))), .mv (.t (.r (.r .z))), none, none, []⟩,
    ⟨(some (.r (.l (.l .z)))), .fieldA 1 (.t .z), (some ((.l (.l (.l .z))), true)), none, []⟩,
    ⟨(some (.l (.r (.l .z)))), .load false 1 (.t (.r (.l (.l .z)))), (some ((.l (.l (.l .z))), true)), none, []⟩,
    ⟨(some (.r (.r (.l .z)))), .fieldA 0 (.t .z), (some ((.l (.l (.l .z))), true)), none, []⟩,
    ⟨(some (.l (.l (.r .z)))), .load false 1 (.t (.r (.r (.l .z)))), (some ((.l (.l (.l .z))), true)), none, []⟩,
    ⟨(some (.r (.l (.r .z)))), .fieldA 2 (.t .z), (some ((.l (.l (.l .z))), true)), none, []⟩,
    ⟨(some (.l (.r (.r .z)))), .load false 1 (.t (.r (.l (.r .z)))), (some ((.l (.l (.l .z))), true)), none, []⟩,
    ⟨(some (.r (.r (.r .z)))), .bin .sub (.t (.l (.l (.r .z)))) (.t (.l (.r (.r .z)))), (some ((.l (.l (.l .z))), true)), none, []⟩,
    ⟨(some (.l (.l (.l (.l .z))))), .bin .leq (.t (.l (.r (.l .z)))) (.t (.r (.r (.r .z)))), (some ((.l (.l (.l .z))), true)), none, []⟩,
    ⟨(some (.r (.l (.l (.l .z))))), .pick (.t (.l (.l (.l .z)))) (.t (.l (.l (.l (.l .z))))) (.c (.bool false)), none, none, []⟩,
    ⟨(some (.l .z)), .mv (.t (.r (.l (.l (.l .z))))), none, none, []⟩])
  .ret))⟩
def AF150 : AFunc := ⟨6, [.tmp (.l .z)],
  (.seq (.region false 0 [
    ⟨(some (.l .z)), .mv (.c (.bool false)), none, none, []⟩])
  (.seq (.region false 0 [
    ⟨(some (.r .z)), .fieldA 3 (.t .z), none, none, []⟩,
    ⟨(some (.l (.l .z))), .load false 1 (.t (.r .z)), none, none, []⟩,
    ⟨(some (.r (.l .z))), .len .slice (.t (.l (.l .z))), none, none, []⟩,
    ⟨(some (.l (.r .z))), .bin .leq (.t (.r (.l .z))) (.c (.int .i64 100)), none, none, []⟩,
    ⟨(some (.l .z)), .mv (.t (.l (.r .z))), none, none, []⟩])
  .ret))⟩
def AF152 : AFunc := ⟨8, [.tmp (.r .z)],
  (.seq (.region false 0 [
    ⟨(some (.l .z)), .box 5 5 (.t .z), none, none, []⟩,
    ⟨(some (.r .z)), .mv (.c (.int .u64 0)), none, none, []⟩])
  (.seq (.region false 0 [
    ⟨(some (.l (.l .z))), .fieldA 0 (.t (.l .z)), none, none, []⟩,
    ⟨(some (.r (.l .z))), .load false 1 (.t (.l (.l .z))), none, none, []⟩,
    ⟨(some (.l (.r .z))), .fieldA 1 (.t (.l .z)), none, none, []⟩,
    ⟨(some (.r (.r .z))), .load false 1 (.t (.l (.r .z))), none, none, []⟩,
    ⟨(some (.l (.l (.l .z)))), .bin .sub (.t (.r (.l .z))) (.t (.r (.r .z))), none, none, []⟩,
    ⟨(some (.r .z)), .mv (.t (.l (.l (.l .z)))), none, none, []⟩])
  .ret))⟩
def AF154 : AFunc := ⟨8, [.tmp (.r .z)],
  (.seq (.region false 0 [
    ⟨(some (.r .z)), .mv (.c .nilslice), none, none, []⟩])
  (.seq (.seq (.region false 0 [
    ⟨(some (.l (.l .z))), .mv (.t .z), none, none, []⟩,
    ⟨(some (.r (.l .z))), .isnil false .s (.t (.l (.l .z))), none, none, []⟩])
  (.cond (.t (.r (.l .z)))
  (.seq (.region false 0 [
     ⟨(some (.r .z)), .mv (.c .nilslice), none, none, []⟩])
   .ret)
  .skip))
  (.seq (.region false 0 [
    ⟨(some (.l (.r .z))), .slit 5 0 [(.int .u64 0), (.int .u64 0), (.int .i64 0), (.int .u64 0), (.int .i64 0)] [], none, none, []⟩,
    ⟨(some (.r (.r .z))), .mv (.t .z), none, none, []⟩,
    ⟨(some (.l (.l (.l .z)))), .app 5 40 (.t (.l (.r .z))) (.t (.r (.r .z))), none, none, []⟩,
    ⟨(some (.r .z)), .mv (.t (.l (.l (.l .z)))), none, none, []⟩])
  .ret)))⟩
def AF155 : AFunc := ⟨24, [.cell (.r .z) true 5, .tmp (.l (.l .z))],
  (.seq (.region false 0 [
    ⟨(some (.l .z)), .box 5 5 (.t .z), none, none, []⟩,
    ⟨(some (.r .z)), .alloc 5 [[(.int .u64 0), (.int .u64 0), (.int .u64 0), .nilslice, .nilslice]], none, none, []⟩,
    ⟨(some (.l (.l .z))), .mv (.c (.int .i64 0)), none, none, []⟩])
  (.seq (.seq (.region false 0 [
    ⟨(some (.l (.l (.l .z)))), .load true 5 (.t (.l .z)), none, none, []⟩,
    ⟨(some (.r (.l (.l .z)))), .call 119 [(.t (.l (.l (.l .z))))], none, none, []⟩,
    ⟨(some (.r (.r .z))), .mv (.t (.r (.l (.l .z)))), none, none, []⟩,
    ⟨(some (.l (.r (.l .z)))), .ext (.t (.r (.r .z))) 0, none, none, []⟩,
    ⟨(some (.r (.r (.l .z)))), .ext (.t (.r (.r .z))) 1, none, none, []⟩,
    ⟨(some (.r (.l .z))), .mv (.t (.l (.r (.l .z)))), none, none, []⟩,
    ⟨(some (.l (.r .z))), .mv (.t (.r (.r (.l .z)))), none, none, []⟩])
  (.seq (.region false 0 [
    ⟨(some (.l (.l (.r .z)))), .mv (.t (.r (.l .z))), none, none, []⟩,
    ⟨(some (.r (.l (.r .z)))), .eql true false [.i] (.t (.l (.l (.r .z)))) (.c (.int .i64 0)), none, none, []⟩])
  (.cond (.t (.r (.l (.r .z))))
  (.seq (.region false 0 [
     ⟨(some (.l (.r (.r .z)))), .build [(.int .u64 0), (.int .u64 0), (.int .u64 0), .nilslice, .nilslice] [], none, none, []⟩,
     ⟨(some (.r (.r (.r .z)))), .mv (.t (.r (.l .z))), none, none, []⟩,
     ⟨none, .store 5 (.t (.r .z)) (.t (.l (.r (.r .z)))), none, none, []⟩,
     ⟨(some (.l (.l .z))), .mv (.t (.r (.r (.r .z)))), none, none, []⟩])
   .ret)
  .skip)))
  (.seq (.region true 0 [
    ⟨(some (.l (.l (.l (.l .z))))), .fieldA 3 (.t (.l .z)), none, none, []⟩,
    ⟨(some (.r (.l (.l (.l .z))))), .load false 1 (.t (.l (.l (.l (.l .z))))), none, none, [0]⟩,
    ⟨(some (.l (.r (.l (.l .z))))), .call 172 [(.t (.r (.l (.l (.l .z)))))], none, none, [0, 1]⟩,
    ⟨(some (.r (.r (.l (.l .z))))), .fieldA 4 (.t (.l .z)), none, none, []⟩,
    ⟨(some (.l (.l (.r (.l .z))))), .load false 1 (.t (.r (.r (.l (.l .z))))), none, none, [3]⟩,
    ⟨(some (.r (.l (.r (.l .z))))), .call 173 [(.t (.l (.l (.r (.l .z)))))], none, none, [0, 1, 2, 3, 4]⟩,
    ⟨(some (.l (.r (.r (.l .z))))), .fieldA 3 (.t (.l .z)), none, none, [0, 1, 2, 3, 4]⟩,
    ⟨none, .store 1 (.t (.l (.r (.r (.l .z))))) (.t (.l (.r (.l (.l .z))))), none, none, [0, 1, 2, 3, 4, 5, 6]⟩,
    ⟨(some (.r (.r (.r (.l .z))))), .fieldA 4 (.t (.l .z)), none, none, [0, 1, 2, 3, 4, 5, 6, 7]⟩,
    ⟨none, .store 1 (.t (.r (.r (.r (.l .z))))) (.t (.r (.l (.r (.l .z))))), none, none, [0, 1, 2, 3, 4, 5, 6, 7, 8]⟩])
  (.seq (.region false 0 [
    ⟨(some (.l (.l (.l (.r .z))))), .load true 5 (.t (.l .z)), none, none, []⟩,
    ⟨none, .store 5 (.t (.r .z)) (.t (.l (.l (.l (.r .z))))), none, none, []⟩,
    ⟨(some (.l (.l .z))), .mv (.c (.int .i64 0)), none, none, []⟩])
  .ret))))⟩
def AF157 : AFunc := ⟨18, [.tmp (.r .z)],
  (.seq (.region false 0 [
    ⟨(some (.l .z)), .box 5 5 (.t .z), none, none, []⟩,
    ⟨(some (.r .z)), .mv (.c (.int .u64 0)), none, none, []⟩])
  (.seq (.region false 0 [
    ⟨(some (.r (.r .z))), .fieldA 3 (.t (.l .z)), none, none, []⟩,
    ⟨(some (.l (.l (.l .z)))), .load false 1 (.t (.r (.r .z))), none, none, []⟩,
    ⟨(some (.r (.l (.l .z)))), .call 174 [(.t (.l (.l (.l .z))))], none, none, []⟩,
    ⟨(some (.l (.r .z))), .mv (.t (.r (.l (.l .z)))), none, none, []⟩,
    ⟨(some (.l (.r (.l .z)))), .ext (.t (.l (.r .z))) 0, none, none, []⟩,
    ⟨(some (.r (.r (.l .z)))), .ext (.t (.l (.r .z))) 1, none, none, []⟩,
    ⟨(some (.l (.l .z))), .mv (.t (.l (.r (.l .z)))), none, none, []⟩,
    ⟨(some (.r (.l .z))), .mv (.t (.r (.r (.l .z)))), none, none, []⟩])
  (.seq (.region true 0 [
    ⟨(some (.l (.l (.r .z)))), .load true 5 (.t (.l .z)), none, none, []⟩,
    ⟨(some (.r (.l (.r .z)))), .call 152 [(.t (.l (.l (.r .z))))], none, none, [0]⟩,
    ⟨(some (.l (.r (.r .z)))), .fieldA 2 (.t (.l .z)), none, none, []⟩,
    ⟨(some (.r (.r (.r .z)))), .load false 1 (.t (.l (.r (.r .z)))), none, none, [2]⟩,
    ⟨(some (.l (.l (.l (.l .z))))), .bin .sub (.t (.r (.l (.r .z)))) (.t (.r (.r (.r .z)))), none, none, [0, 1, 2, 3]⟩,
    ⟨(some (.r (.l (.l (.l .z))))), .mv (.t (.l (.l .z))), none, none, []⟩,
    ⟨(some (.l (.r (.l (.l .z))))), .bin .sub (.t (.l (.l (.l (.l .z))))) (.t (.r (.l (.l (.l .z))))), none, none, [0, 1, 2, 3, 4, 5]⟩,
    ⟨(some (.r .z)), .mv (.t (.l (.r (.l (.l .z))))), none, none, [0, 1, 2, 3, 4, 5, 6]⟩])
  .ret)))⟩
def AF168 : AFunc := ⟨18, [],
  (.seq (.region false 0 [
    ⟨(some (.l (.l .z))), .mv (.c (.int .i64 0)), none, none, []⟩])
  (.block 0 (.loop (.seq (.seq (.region false 0 [
      ⟨(some (.r (.l .z))), .mv (.t .z), none, none, []⟩,
      ⟨(some (.l (.r .z))), .mv (.t (.l (.l .z))), none, none, []⟩,
      ⟨(some (.r (.r .z))), .load false 1 (.t (.l .z)), none, none, []⟩,
      ⟨(some (.l (.l (.l .z)))), .bin .rem (.t (.r (.r .z))) (.c (.int .u64 128)), none, none, []⟩,
      ⟨(some (.r (.l (.l .z)))), .conv (.toInt .u8) (.t (.l (.l (.l .z)))), none, none, []⟩,
      ⟨(some (.l (.r (.l .z)))), .callv (.t (.r (.l .z))) [(.t (.l (.r .z))), (.t (.r (.l (.l .z))))], none, none, []⟩,
      ⟨(some (.r (.r (.l .z)))), .mv (.t (.l (.r (.l .z)))), none, none, []⟩,
      ⟨(some (.l (.l (.r .z)))), .load false 1 (.t (.l .z)), (some ((.r (.r (.l .z))), true)), none, []⟩,
      ⟨(some (.r (.l (.r .z)))), .bin .geq (.t (.l (.l (.r .z)))) (.c (.int .u64 128)), (some ((.r (.r (.l .z))), true)), none, []⟩,
      ⟨(some (.l (.r (.r .z)))), .pick (.t (.r (.r (.l .z)))) (.t (.r (.l (.r .z)))) (.c (.bool false)), none, none, []⟩])
    (.cond (.t (.l (.r (.r .z))))
    .skip
    (.exit 0)))
    (.seq (.block 1 (.region false 0 [
       ⟨(some (.r (.l (.l (.l .z))))), .load false 1 (.t (.l .z)), none, none, []⟩,
       ⟨(some (.l (.r (.l (.l .z))))), .bin .quo (.t (.r (.l (.l (.l .z))))) (.c (.int .u64 128)), none, none, []⟩,
       ⟨none, .store 1 (.t (.l .z)) (.t (.l (.r (.l (.l .z))))), none, none, []⟩]))
    (.region false 0 [
      ⟨(some (.r (.r (.r .z)))), .mv (.t (.l (.l .z))), none, none, []⟩,
      ⟨(some (.l (.l (.l (.l .z))))), .bin .add (.t (.r (.r (.r .z)))) (.c (.int .i64 1)), none, none, []⟩,
      ⟨(some (.l (.l .z))), .mv (.t (.l (.l (.l (.l .z))))), none, none, []⟩]))))))⟩
def AF172 : AFunc := ⟨8, [.tmp (.r .z)],
  (.seq (.region false 0 [
    ⟨(some (.r .z)), .mv (.c .nilslice), none, none, []⟩])
  (.seq (.seq (.region false 0 [
    ⟨(some (.l (.l .z))), .mv (.t .z), none, none, []⟩,
    ⟨(some (.r (.l .z))), .isnil false .s (.t (.l (.l .z))), none, none, []⟩])
  (.cond (.t (.r (.l .z)))
  (.seq (.region false 0 [
     ⟨(some (.r .z)), .mv (.c .nilslice), none, none, []⟩])
   .ret)
  .skip))
  (.seq (.region false 0 [
    ⟨(some (.l (.r .z))), .slit 2 0 [(.int .u64 0), (.int .u64 0)] [], none, none, []⟩,
    ⟨(some (.r (.r .z))), .mv (.t .z), none, none, []⟩,
    ⟨(some (.l (.l (.l .z)))), .app 2 16 (.t (.l (.r .z))) (.t (.r (.r .z))), none, none, []⟩,
    ⟨(some (.r .z)), .mv (.t (.l (.l (.l .z)))), none, none, []⟩])
  .ret)))⟩
def AF173 : AFunc := ⟨8, [.tmp (.r .z)],
  (.seq (.region false 0 [
    ⟨(some (.r .z)), .mv (.c .nilslice), none, none, []⟩])
  (.seq (.seq (.region false 0 [
    ⟨(some (.l (.l .z))), .mv (.t .z), none, none, []⟩,
    ⟨(some (.r (.l .z))), .isnil false .s (.t (.l (.l .z))), none, none, []⟩])
  (.cond (.t (.r (.l .z)))
  (.seq (.region false 0 [
     ⟨(some (.r .z)), .mv (.c .nilslice), none, none, []⟩])
   .ret)
  .skip))
  (.seq (.region false 0 [
    ⟨(some (.l (.r .z))), .slit 1 0 [(.int .u64 0)] [], none, none, []⟩,
    ⟨(some (.r (.r .z))), .mv (.t .z), none, none, []⟩,
    ⟨(some (.l (.l (.l .z)))), .app 1 8 (.t (.l (.r .z))) (.t (.r (.r .z))), none, none, []⟩,
    ⟨(some (.r .z)), .mv (.t (.l (.l (.l .z)))), none, none, []⟩])
  .ret)))⟩
def AF174 : AFunc := ⟨32, [.tmp (.r .z), .tmp (.l (.l .z))],
  (.seq (.region false 0 [
    ⟨(some (.r .z)), .mv (.c (.int .u64 0)), none, none, []⟩,
    ⟨(some (.l (.l .z))), .mv (.c (.int .i64 0)), none, none, []⟩])
  (.seq (.seq (.region false 0 [
    ⟨(some (.r (.r (.l .z)))), .mv (.t .z), none, none, []⟩,
    ⟨(some (.l (.l (.r .z)))), .call 183 [(.t (.r (.r (.l .z))))], none, none, []⟩,
    ⟨(some (.l (.r (.l .z)))), .mv (.t (.l (.l (.r .z)))), none, none, []⟩,
    ⟨(some (.r (.l (.r .z)))), .ext (.t (.l (.r (.l .z)))) 0, none, none, []⟩,
    ⟨(some (.l (.r (.r .z)))), .ext (.t (.l (.r (.l .z)))) 1, none, none, []⟩,
    ⟨(some (.r (.l .z))), .mv (.t (.r (.l (.r .z)))), none, none, []⟩,
    ⟨(some (.l (.r .z))), .mv (.t (.l (.r (.r .z)))), none, none, []⟩])
  (.seq (.region false 0 [
    ⟨(some (.r (.r (.r .z)))), .mv (.t (.r (.l .z))), none, none, []⟩,
    ⟨(some (.l (.l (.l (.l .z))))), .eql true false [.i] (.t (.r (.r (.r .z)))) (.c (.int .i64 0)), none, none, []⟩])
  (.cond (.t (.l (.l (.l (.l .z)))))
  (.seq (.region false 0 [
     ⟨(some (.r (.l (.l (.l .z))))), .mv (.t (.r (.l .z))), none, none, []⟩,
     ⟨(some (.r .z)), .mv (.c (.int .u64 0)), none, none, []⟩,
     ⟨(some (.l (.l .z))), .mv (.t (.r (.l (.l (.l .z))))), none, none, []⟩])
   .ret)
  .skip)))
  (.seq (.region false 0 [
    ⟨(some (.r (.r .z))), .mv (.c (.int .u64 0)), none, none, []⟩])
  (.seq (.seq (.region false 0 [
    ⟨(some (.l (.r (.l (.l .z))))), .mv (.t .z), none, none, []⟩,
    ⟨(some (.r (.r (.l (.l .z))))), .len .slice (.t (.l (.r (.l (.l .z))))), none, none, []⟩,
    ⟨(some (.l (.l (.r (.l .z))))), .mv (.c (.int .i64 0)), none, none, []⟩])
  (.block 0 (.loop (.seq (.region false 0 [
      ⟨(some (.r (.l (.r (.l .z))))), .bin .lss (.t (.l (.l (.r (.l .z))))) (.t (.r (.r (.l (.l .z))))), none, none, []⟩])
    (.seq (.cond (.t (.r (.l (.r (.l .z)))))
    .skip
    (.exit 0))
    (.seq (.block 1 (.seq (.region false 0 [
       ⟨(some (.l (.r (.r (.l .z))))), .idxS 2 (.t (.l (.r (.l (.l .z))))) (.t (.l (.l (.r (.l .z))))), none, none, []⟩,
       ⟨(some (.r (.r (.r (.l .z))))), .load true 2 (.t (.l (.r (.r (.l .z))))), none, none, []⟩,
       ⟨(some (.r (.l (.l .z)))), .alloc 2 [[(.int .u64 0), (.int .u64 0)]], none, none, []⟩,
       ⟨none, .store 2 (.t (.r (.l (.l .z)))) (.t (.r (.r (.r (.l .z))))), none, none, []⟩])
     (.region false 0 [
       ⟨(some (.l (.l (.l (.r .z))))), .mv (.t (.r (.r .z))), none, none, []⟩,
       ⟨(some (.r (.l (.l (.r .z))))), .fieldA 1 (.t (.r (.l (.l .z)))), none, none, []⟩,
       ⟨(some (.l (.r (.l (.r .z))))), .load false 1 (.t (.r (.l (.l (.r .z))))), none, none, []⟩,
       ⟨(some (.r (.r (.l (.r .z))))), .fieldA 0 (.t (.r (.l (.l .z)))), none, none, []⟩,
       ⟨(some (.l (.l (.r (.r .z))))), .load false 1 (.t (.r (.r (.l (.r .z))))), none, none, []⟩,
       ⟨(some (.r (.l (.r (.r .z))))), .bin .sub (.t (.l (.r (.l (.r .z))))) (.t (.l (.l (.r (.r .z))))), none, none, []⟩,
       ⟨(some (.l (.r (.r (.r .z))))), .bin .add (.t (.l (.l (.l (.r .z))))) (.t (.r (.l (.r (.r .z))))), none, none, []⟩,
       ⟨(some (.r (.r .z))), .mv (.t (.l (.r (.r (.r .z))))), none, none, []⟩])))
    (.region false 0 [
      ⟨(some (.r (.r (.r (.r .z))))), .bin .add (.t (.l (.l (.r (.l .z))))) (.c (.int .i64 1)), none, none, []⟩,
      ⟨(some (.l (.l (.r (.l .z))))), .mv (.t (.r (.r (.r (.r .z))))), none, none, []⟩])))))))
  (.seq (.region false 0 [
    ⟨(some (.l (.l (.l (.l (.l .z)))))), .mv (.t (.r (.r .z))), none, none, []⟩,
    ⟨(some (.r .z)), .mv (.t (.l (.l (.l (.l (.l .z)))))), none, none, []⟩,
    ⟨(some (.l (.l .z))), .mv (.c (.int .i64 0)), none, none, []⟩])
  .ret)))))⟩
def AF183 : AFunc := ⟨37, [.tmp (.r .z), .tmp (.l (.l .z))],
  (.seq (.region false 0 [
    ⟨(some (.r .z)), .mv (.c (.int .i64 0)), none, none, []⟩,
    ⟨(some (.l (.l .z))), .mv (.c (.int .i64 0)), none, none, []⟩])
  (.seq (.seq (.region false 0 [
    ⟨(some (.r (.r .z))), .mv (.t .z), none, none, []⟩,
    ⟨(some (.l (.l (.l .z)))), .len .slice (.t (.r (.r .z))), none, none, []⟩,
    ⟨(some (.r (.l (.l .z)))), .bin .gtr (.t (.l (.l (.l .z)))) (.c (.int .i64 1000)), none, none, []⟩])
  (.cond (.t (.r (.l (.l .z))))
  (.seq (.region false 0 [
     ⟨(some (.r .z)), .mv (.c (.int .i64 5)), none, none, []⟩,
     ⟨(some (.l (.l .z))), .mv (.c (.int .i64 0)), none, none, []⟩])
   .ret)
  .skip))
  (.seq (.seq (.region false 0 [
    ⟨(some (.l (.r (.l .z)))), .mv (.t .z), none, none, []⟩,
    ⟨(some (.r (.r (.l .z)))), .len .slice (.t (.l (.r (.l .z)))), none, none, []⟩,
    ⟨(some (.l (.l (.r .z)))), .mv (.c (.int .i64 0)), none, none, []⟩])
  (.block 0 (.loop (.seq (.region false 0 [
      ⟨(some (.r (.l (.r .z)))), .bin .lss (.t (.l (.l (.r .z)))) (.t (.r (.r (.l .z)))), none, none, []⟩])
    (.seq (.cond (.t (.r (.l (.r .z))))
    .skip
    (.exit 0))
    (.seq (.block 1 (.seq (.region false 0 [
       ⟨(some (.l (.r (.r .z)))), .mv (.t (.l (.l (.r .z)))), none, none, []⟩,
       ⟨(some (.r (.r (.r .z)))), .idxS 2 (.t (.l (.r (.l .z)))) (.t (.l (.l (.r .z)))), none, none, []⟩,
       ⟨(some (.l (.l (.l (.l .z))))), .load true 2 (.t (.r (.r (.r .z)))), none, none, []⟩,
       ⟨(some (.l (.r .z))), .alloc 2 [[(.int .u64 0), (.int .u64 0)]], none, none, []⟩,
       ⟨(some (.r (.l .z))), .mv (.t (.l (.r (.r .z)))), none, none, []⟩,
       ⟨none, .store 2 (.t (.l (.r .z))) (.t (.l (.l (.l (.l .z))))), none, none, []⟩])
     (.seq (.seq (.region false 0 [
       ⟨(some (.r (.l (.l (.l .z))))), .fieldA 0 (.t (.l (.r .z))), none, none, []⟩,
       ⟨(some (.l (.r (.l (.l .z))))), .load false 1 (.t (.r (.l (.l (.l .z))))), none, none, []⟩,
       ⟨(some (.r (.r (.l (.l .z))))), .fieldA 1 (.t (.l (.r .z))), none, none, []⟩,
       ⟨(some (.l (.l (.r (.l .z))))), .load false 1 (.t (.r (.r (.l (.l .z))))), none, none, []⟩,
       ⟨(some (.r (.l (.r (.l .z))))), .bin .geq (.t (.l (.r (.l (.l .z))))) (.t (.l (.l (.r (.l .z))))), none, none, []⟩])
     (.cond (.t (.r (.l (.r (.l .z)))))
     (.seq (.region false 0 [
        ⟨(some (.l (.r (.r (.l .z))))), .mv (.t (.r (.l .z))), none, none, []⟩,
        ⟨(some (.r .z)), .mv (.c (.int .i64 2)), none, none, []⟩,
        ⟨(some (.l (.l .z))), .mv (.t (.l (.r (.r (.l .z))))), none, none, []⟩])
      .ret)
     .skip))
     (.seq (.region true 0 [
       ⟨(some (.r (.r (.r (.l .z))))), .mv (.t (.r (.l .z))), none, none, []⟩,
       ⟨(some (.l (.l (.l (.r .z))))), .bin .gtr (.t (.r (.r (.r (.l .z))))) (.c (.int .i64 0)), none, none, [0]⟩,
       ⟨(some (.r (.l (.l (.r .z))))), .mv (.t (.l (.l (.l (.r .z))))), none, none, [0, 1]⟩,
       ⟨(some (.l (.r (.l (.r .z))))), .fieldA 0 (.t (.l (.r .z))), (some ((.r (.l (.l (.r .z)))), true)), none, [0, 1, 2]⟩,
       ⟨(some (.r (.r (.l (.r .z))))), .load false 1 (.t (.l (.r (.l (.r .z))))), (some ((.r (.l (.l (.r .z)))), true)), none, [0, 1, 2, 3]⟩,
       ⟨(some (.l (.l (.r (.r .z))))), .mv (.t .z), (some ((.r (.l (.l (.r .z)))), true)), none, [0, 1, 2]⟩,
       ⟨(some (.r (.l (.r (.r .z))))), .mv (.t (.r (.l .z))), (some ((.r (.l (.l (.r .z)))), true)), none, [0, 1, 2]⟩,
       ⟨(some (.l (.r (.r (.r .z))))), .bin .sub (.t (.r (.l (.r (.r .z))))) (.c (.int .i64 1)), (some ((.r (.l (.l (.r .z)))), true)), none, [0, 1, 2, 6]⟩,
       ⟨(some (.r (.r (.r (.r .z))))), .idxS 2 (.t (.l (.l (.r (.r .z))))) (.t (.l (.r (.r (.r .z))))), (some ((.r (.l (.l (.r .z)))), true)), none, [0, 1, 2, 5, 6, 7]⟩,
       ⟨(some (.l (.l (.l (.l (.l .z)))))), .fieldA 1 (.t (.r (.r (.r (.r .z))))), (some ((.r (.l (.l (.r .z)))), true)), none, [0, 1, 2, 5, 6, 7, 8]⟩,
       ⟨(some (.r (.l (.l (.l (.l .z)))))), .load false 1 (.t (.l (.l (.l (.l (.l .z)))))), (some ((.r (.l (.l (.r .z)))), true)), none, [0, 1, 2, 5, 6, 7, 8, 9]⟩,
       ⟨(some (.l (.r (.l (.l (.l .z)))))), .bin .leq (.t (.r (.r (.l (.r .z))))) (.t (.r (.l (.l (.l (.l .z)))))), (some ((.r (.l (.l (.r .z)))), true)), none, [0, 1, 2, 3, 4, 5, 6, 7, 8, 9, 10]⟩,
       ⟨(some (.r (.r (.l (.l (.l .z)))))), .pick (.t (.r (.l (.l (.r .z))))) (.t (.l (.r (.l (.l (.l .z)))))) (.c (.bool false)), none, none, [0, 1, 2, 3, 4, 5, 6, 7, 8, 9, 10, 11]⟩])
     (.cond (.t (.r (.r (.l (.l (.l .z))))))
     (.seq (.region false 0 [
        ⟨(some (.l (.l (.r (.l (.l .z)))))), .mv (.t (.r (.l .z))), none, none, []⟩,
        ⟨(some (.r .z)), .mv (.c (.int .i64 19)), none, none, []⟩,
        ⟨(some (.l (.l .z))), .mv (.t (.l (.l (.r (.l (.l .z)))))), none, none, []⟩])
      .ret)
     .skip)))))
    (.region false 0 [
      ⟨(some (.r (.l (.r (.l (.l .z)))))), .bin .add (.t (.l (.l (.r .z)))) (.c (.int .i64 1)), none, none, []⟩,
      ⟨(some (.l (.l (.r .z)))), .mv (.t (.r (.l (.r (.l (.l .z)))))), none, none, []⟩])))))))
  (.seq (.region false 0 [
    ⟨(some (.r .z)), .mv (.c (.int .i64 0)), none, none, []⟩,
    ⟨(some (.l (.l .z))), .mv (.c (.int .i64 0)), none, none, []⟩])
  .ret))))⟩
end Go.Proofs.YtfhkpeggifapmaaGreatDoor
end
