/- That the tables are the program's: part 2.
   Conditions: none. -/
import Derived.Test.YtfhkpeggifapmaaGreatDoorRows
import Derived.Test.YtfhkpeggifapmaaGreatDoorGlob
import Derived.Test.YtfhkpeggifapmaaGreatDoorTab1
import Derived.Test.YtfhkpeggifapmaaGreatDoorTab2
namespace Go.Proofs.YtfhkpeggifapmaaGreatDoor
open Go Go.Abs
set_option maxRecDepth 100000
theorem fok46 : FnOK Tryz.prog glob 46 AF46 := ⟨by kernel_rfl, _, Tryz.func46, by kernel_rfl⟩
theorem fok47 : FnOK Tryz.prog glob 47 AF47 := ⟨by kernel_rfl, _, Tryz.func47, by kernel_rfl⟩
theorem fok48 : FnOK Tryz.prog glob 48 AF48 := ⟨by kernel_rfl, _, Tryz.func48, by kernel_rfl⟩
theorem fok49 : FnOK Tryz.prog glob 49 AF49 := ⟨by kernel_rfl, _, Tryz.func49, by kernel_rfl⟩
theorem fok50 : FnOK Tryz.prog glob 50 AF50 := ⟨by kernel_rfl, _, Tryz.func50, by kernel_rfl⟩
theorem fok55 : FnOK Tryz.prog glob 55 AF55 := ⟨by kernel_rfl, _, Tryz.func55, by kernel_rfl⟩
theorem fok56 : FnOK Tryz.prog glob 56 AF56 := ⟨by kernel_rfl, _, Tryz.func56, by kernel_rfl⟩
theorem fok57 : FnOK Tryz.prog glob 57 AF57 := ⟨by kernel_rfl, _, Tryz.func57, by kernel_rfl⟩
theorem fok58 : FnOK Tryz.prog glob 58 AF58 := ⟨by kernel_rfl, _, Tryz.func58, by kernel_rfl⟩
theorem fok67 : FnOK Tryz.prog glob 67 AF67 := ⟨by kernel_rfl, _, Tryz.func67, by kernel_rfl⟩
theorem fok69 : FnOK Tryz.prog glob 69 AF69 := ⟨by kernel_rfl, _, Tryz.func69, by kernel_rfl⟩
theorem fok70 : FnOK Tryz.prog glob 70 AF70 := ⟨by kernel_rfl, _, Tryz.func70, by kernel_rfl⟩
theorem fok71 : FnOK Tryz.prog glob 71 AF71 := ⟨by kernel_rfl, _, Tryz.func71, by kernel_rfl⟩
theorem fok72 : FnOK Tryz.prog glob 72 AF72 := ⟨by kernel_rfl, _, Tryz.func72, by kernel_rfl⟩
theorem fok73 : FnOK Tryz.prog glob 73 AF73 := ⟨by kernel_rfl, _, Tryz.func73, by kernel_rfl⟩
theorem fok74 : FnOK Tryz.prog glob 74 AF74 := ⟨by kernel_rfl, _, Tryz.func74, by kernel_rfl⟩
theorem fok75 : FnOK Tryz.prog glob 75 AF75 := ⟨by kernel_rfl, _, Tryz.func75, by kernel_rfl⟩
theorem fok76 : FnOK Tryz.prog glob 76 AF76 := ⟨by kernel_rfl, _, Tryz.func76, by kernel_rfl⟩
theorem fok77 : FnOK Tryz.prog glob 77 AF77 := ⟨by kernel_rfl, _, Tryz.func77, by kernel_rfl⟩
theorem fok80 : FnOK Tryz.prog glob 80 AF80 := ⟨by kernel_rfl, _, Tryz.func80, by kernel_rfl⟩
theorem fok81 : FnOK Tryz.prog glob 81 AF81 := ⟨by kernel_rfl, _, Tryz.func81, by kernel_rfl⟩
theorem fok82 : FnOK Tryz.prog glob 82 AF82 := ⟨by kernel_rfl, _, Tryz.func82, by kernel_rfl⟩
theorem fok83 : FnOK Tryz.prog glob 83 AF83 := ⟨by kernel_rfl, _, Tryz.func83, by kernel_rfl⟩
theorem fok84 : FnOK Tryz.prog glob 84 AF84 := ⟨by kernel_rfl, _, Tryz.func84, by kernel_rfl⟩
theorem fok85 : FnOK Tryz.prog glob 85 AF85 := ⟨by kernel_rfl, _, Tryz.func85, by kernel_rfl⟩
theorem fok86 : FnOK Tryz.prog glob 86 AF86 := ⟨by kernel_rfl, _, Tryz.func86, by kernel_rfl⟩
theorem fok92 : FnOK Tryz.prog glob 92 AF92 := ⟨by kernel_rfl, _, Tryz.func92, by kernel_rfl⟩
theorem fok106 : FnOK Tryz.prog glob 106 AF106 := ⟨by kernel_rfl, _, Tryz.func106, by kernel_rfl⟩
theorem fok107 : FnOK Tryz.prog glob 107 AF107 := ⟨by kernel_rfl, _, Tryz.func107, by kernel_rfl⟩
theorem fok108 : FnOK Tryz.prog glob 108 AF108 := ⟨by kernel_rfl, _, Tryz.func108, by kernel_rfl⟩
theorem fok109 : FnOK Tryz.prog glob 109 AF109 := ⟨by kernel_rfl, _, Tryz.func109, by kernel_rfl⟩
theorem fok112 : FnOK Tryz.prog glob 112 AF112 := ⟨by kernel_rfl, _, Tryz.func112, by kernel_rfl⟩
theorem fok113 : FnOK Tryz.prog glob 113 AF113 := ⟨by kernel_rfl, _, Tryz.func113, by kernel_rfl⟩
theorem fok114 : FnOK Tryz.prog glob 114 AF114 := ⟨by kernel_rfl, _, Tryz.func114, by kernel_rfl⟩
theorem fok115 : FnOK Tryz.prog glob 115 AF115 := ⟨by kernel_rfl, _, Tryz.func115, by kernel_rfl⟩
theorem fok116 : FnOK Tryz.prog glob 116 AF116 := ⟨by kernel_rfl, _, Tryz.func116, by kernel_rfl⟩
theorem fok118 : FnOK Tryz.prog glob 118 AF118 := ⟨by kernel_rfl, _, Tryz.func118, by kernel_rfl⟩
theorem fok119 : FnOK Tryz.prog glob 119 AF119 := ⟨by kernel_rfl, _, Tryz.func119, by kernel_rfl⟩
theorem fok120 : FnOK Tryz.prog glob 120 AF120 := ⟨by kernel_rfl, _, Tryz.func120, by kernel_rfl⟩
theorem fok121 : FnOK Tryz.prog glob 121 AF121 := ⟨by kernel_rfl, _, Tryz.func121, by kernel_rfl⟩
end Go.Proofs.YtfhkpeggifapmaaGreatDoor
