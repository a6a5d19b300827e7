/- That the tables are the program's: part 1.
   Conditions: none. -/
import Derived.Test.YtcphofamajcimaaDoorRows
import Derived.Test.YtcphofamajcimaaDoorGlob
import Derived.Test.YtcphofamajcimaaDoorTab1
import Derived.Test.YtcphofamajcimaaDoorTab2
set_option linter.unusedSimpArgs false
set_option linter.unusedVariables false
namespace Go.Proofs.YtcphofamajcimaaDoor
open Go Go.Abs
set_option maxRecDepth 100000
theorem fok3 : FnOK Tryd.prog glob 3 AF3 := ⟨by kernel_rfl, _, Tryd.func3, by kernel_rfl⟩
theorem fok5 : FnOK Tryd.prog glob 5 AF5 := ⟨by kernel_rfl, _, Tryd.func5, by kernel_rfl⟩
theorem fok6 : FnOK Tryd.prog glob 6 AF6 := ⟨by kernel_rfl, _, Tryd.func6, by kernel_rfl⟩
theorem fok7 : FnOK Tryd.prog glob 7 AF7 := ⟨by kernel_rfl, _, Tryd.func7, by kernel_rfl⟩
theorem fok8 : FnOK Tryd.prog glob 8 AF8 := ⟨by kernel_rfl, _, Tryd.func8, by kernel_rfl⟩
theorem fok9 : FnOK Tryd.prog glob 9 AF9 := ⟨by kernel_rfl, _, Tryd.func9, by kernel_rfl⟩
theorem fok12 : FnOK Tryd.prog glob 12 AF12 := ⟨by kernel_rfl, _, Tryd.func12, by kernel_rfl⟩
theorem fok13 : FnOK Tryd.prog glob 13 AF13 := ⟨by kernel_rfl, _, Tryd.func13, by kernel_rfl⟩
theorem fok14 : FnOK Tryd.prog glob 14 AF14 := ⟨by kernel_rfl, _, Tryd.func14, by kernel_rfl⟩
theorem fok15 : FnOK Tryd.prog glob 15 AF15 := ⟨by kernel_rfl, _, Tryd.func15, by kernel_rfl⟩
theorem fok16 : FnOK Tryd.prog glob 16 AF16 := ⟨by kernel_rfl, _, Tryd.func16, by kernel_rfl⟩
theorem fok17 : FnOK Tryd.prog glob 17 AF17 := ⟨by kernel_rfl, _, Tryd.func17, by kernel_rfl⟩
theorem fok18 : FnOK Tryd.prog glob 18 AF18 := ⟨by kernel_rfl, _, Tryd.func18, by kernel_rfl⟩
theorem fok23 : FnOK Tryd.prog glob 23 AF23 := ⟨by kernel_rfl, _, Tryd.func23, by kernel_rfl⟩
theorem fok24 : FnOK Tryd.prog glob 24 AF24 := ⟨by kernel_rfl, _, Tryd.func24, by kernel_rfl⟩
theorem fok25 : FnOK Tryd.prog glob 25 AF25 := ⟨by kernel_rfl, _, Tryd.func25, by kernel_rfl⟩
theorem fok26 : FnOK Tryd.prog glob 26 AF26 := ⟨by kernel_rfl, _, Tryd.func26, by kernel_rfl⟩
theorem fok27 : FnOK Tryd.prog glob 27 AF27 := ⟨by kernel_rfl, _, Tryd.func27, by kernel_rfl⟩
theorem fok28 : FnOK Tryd.prog glob 28 AF28 := ⟨by kernel_rfl, _, Tryd.func28, by kernel_rfl⟩
theorem fok29 : FnOK Tryd.prog glob 29 AF29 := ⟨by kernel_rfl, _, Tryd.func29, by kernel_rfl⟩
theorem fok30 : FnOK Tryd.prog glob 30 AF30 := ⟨by kernel_rfl, _, Tryd.func30, by kernel_rfl⟩
theorem fok31 : FnOK Tryd.prog glob 31 AF31 := ⟨by kernel_rfl, _, Tryd.func31, by kernel_rfl⟩
theorem fok32 : FnOK Tryd.prog glob 32 AF32 := ⟨by kernel_rfl, _, Tryd.func32, by kernel_rfl⟩
theorem fok33 : FnOK Tryd.prog glob 33 AF33 := ⟨by kernel_rfl, _, Tryd.func33, by kernel_rfl⟩
theorem fok34 : FnOK Tryd.prog glob 34 AF34 := ⟨by kernel_rfl, _, Tryd.func34, by kernel_rfl⟩
theorem fok35 : FnOK Tryd.prog glob 35 AF35 := ⟨by kernel_rfl, _, Tryd.func35, by kernel_rfl⟩
theorem fok36 : FnOK Tryd.prog glob 36 AF36 := ⟨by kernel_rfl, _, Tryd.func36, by kernel_rfl⟩
theorem fok37 : FnOK Tryd.prog glob 37 AF37 := ⟨by kernel_rfl, _, Tryd.func37, by kernel_rfl⟩
theorem fok38 : FnOK Tryd.prog glob 38 AF38 := ⟨by kernel_rfl, _, Tryd.func38, by kernel_rfl⟩
theorem fok39 : FnOK Tryd.prog glob 39 AF39 := ⟨by kernel_rfl, _, Tryd.func39, by kernel_rfl⟩
theorem fok40 : FnOK Tryd.prog glob 40 AF40 := ⟨by kernel_rfl, _, Tryd.func40, by kernel_rfl⟩
theorem fok41 : FnOK Tryd.prog glob 41 AF41 := ⟨by kernel_rfl, _, Tryd.func41, by kernel_rfl⟩
theorem fok42 : FnOK Tryd.prog glob 42 AF42 := ⟨by kernel_rfl, _, Tryd.func42, by kernel_rfl⟩
theorem fok43 : FnOK Tryd.prog glob 43 AF43 := ⟨by kernel_rfl, _, Tryd.func43, by kernel_rfl⟩
theorem fok44 : FnOK Tryd.prog glob 44 AF44 := ⟨by kernel_rfl, _, Tryd.func44, by kernel_rfl⟩
theorem fok45 : FnOK Tryd.prog glob 45 AF45 := ⟨by kernel_rfl, _, Tryd.func45, by kernel_rfl⟩
theorem fok46 : FnOK Tryd.prog glob 46 AF46 := ⟨by kernel_rfl, _, Tryd.func46, by kernel_rfl⟩
theorem fok47 : FnOK Tryd.prog glob 47 AF47 := ⟨by kernel_rfl, _, Tryd.func47, by kernel_rfl⟩
theorem fok48 : FnOK Tryd.prog glob 48 AF48 := ⟨by kernel_rfl, _, Tryd.func48, by kernel_rfl⟩
theorem fok49 : FnOK Tryd.prog glob 49 AF49 := ⟨by kernel_rfl, _, Tryd.func49, by kernel_rfl⟩
end Go.Proofs.YtcphofamajcimaaDoor
