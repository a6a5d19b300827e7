/- That the tables are the program's: part 2.
   Conditions: none. -/
import Derived.Test.YtcphofamajcimaaDoorRows
import Derived.Test.YtcphofamajcimaaDoorGlob
import Derived.Test.YtcphofamajcimaaDoorTab1
import Derived.Test.YtcphofamajcimaaDoorTab2
set_option linter.unusedSimpArgs false
set_option linter.unusedVariables false
namespace Go.Proofs.YtcphofamajcimaaDoor
open Go Go.Abs
set_option maxRecDepth 100000
theorem fok50 : FnOK Tryd.prog glob 50 AF50 := ⟨by kernel_rfl, _, Tryd.func50, by kernel_rfl⟩
theorem fok51 : FnOK Tryd.prog glob 51 AF51 := ⟨by kernel_rfl, _, Tryd.func51, by kernel_rfl⟩
theorem fok52 : FnOK Tryd.prog glob 52 AF52 := ⟨by kernel_rfl, _, Tryd.func52, by kernel_rfl⟩
theorem fok53 : FnOK Tryd.prog glob 53 AF53 := ⟨by kernel_rfl, _, Tryd.func53, by kernel_rfl⟩
theorem fok54 : FnOK Tryd.prog glob 54 AF54 := ⟨by kernel_rfl, _, Tryd.func54, by kernel_rfl⟩
theorem fok55 : FnOK Tryd.prog glob 55 AF55 := ⟨by kernel_rfl, _, Tryd.func55, by kernel_rfl⟩
theorem fok56 : FnOK Tryd.prog glob 56 AF56 := ⟨by kernel_rfl, _, Tryd.func56, by kernel_rfl⟩
theorem fok57 : FnOK Tryd.prog glob 57 AF57 := ⟨by kernel_rfl, _, Tryd.func57, by kernel_rfl⟩
theorem fok58 : FnOK Tryd.prog glob 58 AF58 := ⟨by kernel_rfl, _, Tryd.func58, by kernel_rfl⟩
theorem fok59 : FnOK Tryd.prog glob 59 AF59 := ⟨by kernel_rfl, _, Tryd.func59, by kernel_rfl⟩
theorem fok60 : FnOK Tryd.prog glob 60 AF60 := ⟨by kernel_rfl, _, Tryd.func60, by kernel_rfl⟩
theorem fok61 : FnOK Tryd.prog glob 61 AF61 := ⟨by kernel_rfl, _, Tryd.func61, by kernel_rfl⟩
theorem fok62 : FnOK Tryd.prog glob 62 AF62 := ⟨by kernel_rfl, _, Tryd.func62, by kernel_rfl⟩
theorem fok63 : FnOK Tryd.prog glob 63 AF63 := ⟨by kernel_rfl, _, Tryd.func63, by kernel_rfl⟩
theorem fok64 : FnOK Tryd.prog glob 64 AF64 := ⟨by kernel_rfl, _, Tryd.func64, by kernel_rfl⟩
theorem fok65 : FnOK Tryd.prog glob 65 AF65 := ⟨by kernel_rfl, _, Tryd.func65, by kernel_rfl⟩
theorem fok66 : FnOK Tryd.prog glob 66 AF66 := ⟨by kernel_rfl, _, Tryd.func66, by kernel_rfl⟩
theorem fok67 : FnOK Tryd.prog glob 67 AF67 := ⟨by kernel_rfl, _, Tryd.func67, by kernel_rfl⟩
theorem fok68 : FnOK Tryd.prog glob 68 AF68 := ⟨by kernel_rfl, _, Tryd.func68, by kernel_rfl⟩
theorem fok69 : FnOK Tryd.prog glob 69 AF69 := ⟨by kernel_rfl, _, Tryd.func69, by kernel_rfl⟩
theorem fok70 : FnOK Tryd.prog glob 70 AF70 := ⟨by kernel_rfl, _, Tryd.func70, by kernel_rfl⟩
theorem fok71 : FnOK Tryd.prog glob 71 AF71 := ⟨by kernel_rfl, _, Tryd.func71, by kernel_rfl⟩
theorem fok72 : FnOK Tryd.prog glob 72 AF72 := ⟨by kernel_rfl, _, Tryd.func72, by kernel_rfl⟩
theorem fok73 : FnOK Tryd.prog glob 73 AF73 := ⟨by kernel_rfl, _, Tryd.func73, by kernel_rfl⟩
theorem fok74 : FnOK Tryd.prog glob 74 AF74 := ⟨by kernel_rfl, _, Tryd.func74, by kernel_rfl⟩
theorem fok75 : FnOK Tryd.prog glob 75 AF75 := ⟨by kernel_rfl, _, Tryd.func75, by kernel_rfl⟩
theorem fok76 : FnOK Tryd.prog glob 76 AF76 := ⟨by kernel_rfl, _, Tryd.func76, by kernel_rfl⟩
theorem fok77 : FnOK Tryd.prog glob 77 AF77 := ⟨by kernel_rfl, _, Tryd.func77, by kernel_rfl⟩
theorem fok78 : FnOK Tryd.prog glob 78 AF78 := ⟨by kernel_rfl, _, Tryd.func78, by kernel_rfl⟩
theorem fok79 : FnOK Tryd.prog glob 79 AF79 := ⟨by kernel_rfl, _, Tryd.func79, by kernel_rfl⟩
theorem fok80 : FnOK Tryd.prog glob 80 AF80 := ⟨by kernel_rfl, _, Tryd.func80, by kernel_rfl⟩
theorem fok81 : FnOK Tryd.prog glob 81 AF81 := ⟨by kernel_rfl, _, Tryd.func81, by kernel_rfl⟩
theorem fok82 : FnOK Tryd.prog glob 82 AF82 := ⟨by kernel_rfl, _, Tryd.func82, by kernel_rfl⟩
theorem fok83 : FnOK Tryd.prog glob 83 AF83 := ⟨by kernel_rfl, _, Tryd.func83, by kernel_rfl⟩
theorem fok84 : FnOK Tryd.prog glob 84 AF84 := ⟨by kernel_rfl, _, Tryd.func84, by kernel_rfl⟩
theorem fok85 : FnOK Tryd.prog glob 85 AF85 := ⟨by kernel_rfl, _, Tryd.func85, by kernel_rfl⟩
theorem fok86 : FnOK Tryd.prog glob 86 AF86 := ⟨by kernel_rfl, _, Tryd.func86, by kernel_rfl⟩
theorem fok87 : FnOK Tryd.prog glob 87 AF87 := ⟨by kernel_rfl, _, Tryd.func87, by kernel_rfl⟩
theorem fok88 : FnOK Tryd.prog glob 88 AF88 := ⟨by kernel_rfl, _, Tryd.func88, by kernel_rfl⟩
theorem fok89 : FnOK Tryd.prog glob 89 AF89 := ⟨by kernel_rfl, _, Tryd.func89, by kernel_rfl⟩
end Go.Proofs.YtcphofamajcimaaDoor
