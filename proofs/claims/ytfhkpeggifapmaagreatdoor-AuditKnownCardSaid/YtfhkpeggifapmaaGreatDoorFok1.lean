/- That the tables are the program's: part 1.
   Conditions: none. -/
import Derived.Test.YtfhkpeggifapmaaGreatDoorRows
import Derived.Test.YtfhkpeggifapmaaGreatDoorGlob
import Derived.Test.YtfhkpeggifapmaaGreatDoorTab1
import Derived.Test.YtfhkpeggifapmaaGreatDoorTab2
namespace Go.Proofs.YtfhkpeggifapmaaGreatDoor
open Go Go.Abs
set_option maxRecDepth 100000
theorem fok3 : FnOK Tryz.prog glob 3 AF3 := ⟨by kernel_rfl, _, Tryz.func3, by kernel_rfl⟩
theorem fok4 : FnOK Tryz.prog glob 4 AF4 := ⟨by kernel_rfl, _, Tryz.func4, by kernel_rfl⟩
theorem fok5 : FnOK Tryz.prog glob 5 AF5 := ⟨by kernel_rfl, _, Tryz.func5, by kernel_rfl⟩
theorem fok6 : FnOK Tryz.prog glob 6 AF6 := ⟨by kernel_rfl, _, Tryz.func6, by kernel_rfl⟩
theorem fok7 : FnOK Tryz.prog glob 7 AF7 := ⟨by kernel_rfl, _, Tryz.func7, by kernel_rfl⟩
theorem fok8 : FnOK Tryz.prog glob 8 AF8 := ⟨by kernel_rfl, _, Tryz.func8, by kernel_rfl⟩
theorem fok9 : FnOK Tryz.prog glob 9 AF9 := ⟨by kernel_rfl, _, Tryz.func9, by kernel_rfl⟩
theorem fok10 : FnOK Tryz.prog glob 10 AF10 := ⟨by kernel_rfl, _, Tryz.func10, by kernel_rfl⟩
theorem fok11 : FnOK Tryz.prog glob 11 AF11 := ⟨by kernel_rfl, _, Tryz.func11, by kernel_rfl⟩
theorem fok12 : FnOK Tryz.prog glob 12 AF12 := ⟨by kernel_rfl, _, Tryz.func12, by kernel_rfl⟩
theorem fok13 : FnOK Tryz.prog glob 13 AF13 := ⟨by kernel_rfl, _, Tryz.func13, by kernel_rfl⟩
theorem fok14 : FnOK Tryz.prog glob 14 AF14 := ⟨by kernel_rfl, _, Tryz.func14, by kernel_rfl⟩
theorem fok15 : FnOK Tryz.prog glob 15 AF15 := ⟨by kernel_rfl, _, Tryz.func15, by kernel_rfl⟩
theorem fok16 : FnOK Tryz.prog glob 16 AF16 := ⟨by kernel_rfl, _, Tryz.func16, by kernel_rfl⟩
theorem fok18 : FnOK Tryz.prog glob 18 AF18 := ⟨by kernel_rfl, _, Tryz.func18, by kernel_rfl⟩
theorem fok19 : FnOK Tryz.prog glob 19 AF19 := ⟨by kernel_rfl, _, Tryz.func19, by kernel_rfl⟩
theorem fok20 : FnOK Tryz.prog glob 20 AF20 := ⟨by kernel_rfl, _, Tryz.func20, by kernel_rfl⟩
theorem fok21 : FnOK Tryz.prog glob 21 AF21 := ⟨by kernel_rfl, _, Tryz.func21, by kernel_rfl⟩
theorem fok23 : FnOK Tryz.prog glob 23 AF23 := ⟨by kernel_rfl, _, Tryz.func23, by kernel_rfl⟩
theorem fok24 : FnOK Tryz.prog glob 24 AF24 := ⟨by kernel_rfl, _, Tryz.func24, by kernel_rfl⟩
theorem fok25 : FnOK Tryz.prog glob 25 AF25 := ⟨by kernel_rfl, _, Tryz.func25, by kernel_rfl⟩
theorem fok26 : FnOK Tryz.prog glob 26 AF26 := ⟨by kernel_rfl, _, Tryz.func26, by kernel_rfl⟩
theorem fok27 : FnOK Tryz.prog glob 27 AF27 := ⟨by kernel_rfl, _, Tryz.func27, by kernel_rfl⟩
theorem fok28 : FnOK Tryz.prog glob 28 AF28 := ⟨by kernel_rfl, _, Tryz.func28, by kernel_rfl⟩
theorem fok29 : FnOK Tryz.prog glob 29 AF29 := ⟨by kernel_rfl, _, Tryz.func29, by kernel_rfl⟩
theorem fok30 : FnOK Tryz.prog glob 30 AF30 := ⟨by kernel_rfl, _, Tryz.func30, by kernel_rfl⟩
theorem fok31 : FnOK Tryz.prog glob 31 AF31 := ⟨by kernel_rfl, _, Tryz.func31, by kernel_rfl⟩
theorem fok32 : FnOK Tryz.prog glob 32 AF32 := ⟨by kernel_rfl, _, Tryz.func32, by kernel_rfl⟩
theorem fok33 : FnOK Tryz.prog glob 33 AF33 := ⟨by kernel_rfl, _, Tryz.func33, by kernel_rfl⟩
theorem fok34 : FnOK Tryz.prog glob 34 AF34 := ⟨by kernel_rfl, _, Tryz.func34, by kernel_rfl⟩
theorem fok35 : FnOK Tryz.prog glob 35 AF35 := ⟨by kernel_rfl, _, Tryz.func35, by kernel_rfl⟩
theorem fok36 : FnOK Tryz.prog glob 36 AF36 := ⟨by kernel_rfl, _, Tryz.func36, by kernel_rfl⟩
theorem fok37 : FnOK Tryz.prog glob 37 AF37 := ⟨by kernel_rfl, _, Tryz.func37, by kernel_rfl⟩
theorem fok38 : FnOK Tryz.prog glob 38 AF38 := ⟨by kernel_rfl, _, Tryz.func38, by kernel_rfl⟩
theorem fok40 : FnOK Tryz.prog glob 40 AF40 := ⟨by kernel_rfl, _, Tryz.func40, by kernel_rfl⟩
theorem fok41 : FnOK Tryz.prog glob 41 AF41 := ⟨by kernel_rfl, _, Tryz.func41, by kernel_rfl⟩
theorem fok42 : FnOK Tryz.prog glob 42 AF42 := ⟨by kernel_rfl, _, Tryz.func42, by kernel_rfl⟩
theorem fok43 : FnOK Tryz.prog glob 43 AF43 := ⟨by kernel_rfl, _, Tryz.func43, by kernel_rfl⟩
theorem fok44 : FnOK Tryz.prog glob 44 AF44 := ⟨by kernel_rfl, _, Tryz.func44, by kernel_rfl⟩
theorem fok45 : FnOK Tryz.prog glob 45 AF45 := ⟨by kernel_rfl, _, Tryz.func45, by kernel_rfl⟩
end Go.Proofs.YtfhkpeggifapmaaGreatDoor
