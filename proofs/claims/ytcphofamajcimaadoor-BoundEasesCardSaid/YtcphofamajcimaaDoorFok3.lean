/- That the tables are the program's: part 3.
   Conditions: none. -/
import Derived.Test.YtcphofamajcimaaDoorRows
import Derived.Test.YtcphofamajcimaaDoorGlob
import Derived.Test.YtcphofamajcimaaDoorTab1
import Derived.Test.YtcphofamajcimaaDoorTab2
set_option linter.unusedSimpArgs false
set_option linter.unusedVariables false
namespace Go.Proofs.YtcphofamajcimaaDoor
open Go Go.Abs
set_option maxRecDepth 100000
theorem fok90 : FnOK Tryd.prog glob 90 AF90 := ⟨by kernel_rfl, _, Tryd.func90, by kernel_rfl⟩
theorem fok91 : FnOK Tryd.prog glob 91 AF91 := ⟨by kernel_rfl, _, Tryd.func91, by kernel_rfl⟩
theorem fok92 : FnOK Tryd.prog glob 92 AF92 := ⟨by kernel_rfl, _, Tryd.func92, by kernel_rfl⟩
theorem fok93 : FnOK Tryd.prog glob 93 AF93 := ⟨by kernel_rfl, _, Tryd.func93, by kernel_rfl⟩
theorem fok94 : FnOK Tryd.prog glob 94 AF94 := ⟨by kernel_rfl, _, Tryd.func94, by kernel_rfl⟩
theorem fok95 : FnOK Tryd.prog glob 95 AF95 := ⟨by kernel_rfl, _, Tryd.func95, by kernel_rfl⟩
theorem fok96 : FnOK Tryd.prog glob 96 AF96 := ⟨by kernel_rfl, _, Tryd.func96, by kernel_rfl⟩
theorem fok97 : FnOK Tryd.prog glob 97 AF97 := ⟨by kernel_rfl, _, Tryd.func97, by kernel_rfl⟩
theorem fok115 : FnOK Tryd.prog glob 115 AF115 := ⟨by kernel_rfl, _, Tryd.func115, by kernel_rfl⟩
theorem fok116 : FnOK Tryd.prog glob 116 AF116 := ⟨by kernel_rfl, _, Tryd.func116, by kernel_rfl⟩
theorem fok117 : FnOK Tryd.prog glob 117 AF117 := ⟨by kernel_rfl, _, Tryd.func117, by kernel_rfl⟩
theorem fok118 : FnOK Tryd.prog glob 118 AF118 := ⟨by kernel_rfl, _, Tryd.func118, by kernel_rfl⟩
end Go.Proofs.YtcphofamajcimaaDoor
