/- That the tables are the program's: part 3.
   Conditions: none. -/
import Derived.Test.YtfhkpeggifapmaaGreatDoorRows
import Derived.Test.YtfhkpeggifapmaaGreatDoorGlob
import Derived.Test.YtfhkpeggifapmaaGreatDoorTab1
import Derived.Test.YtfhkpeggifapmaaGreatDoorTab2
namespace Go.Proofs.YtfhkpeggifapmaaGreatDoor
open Go Go.Abs
set_option maxRecDepth 100000
theorem fok122 : FnOK Tryz.prog glob 122 AF122 := ⟨by kernel_rfl, _, Tryz.func122, by kernel_rfl⟩
theorem fok123 : FnOK Tryz.prog glob 123 AF123 := ⟨by kernel_rfl, _, Tryz.func123, by kernel_rfl⟩
theorem fok125 : FnOK Tryz.prog glob 125 AF125 := ⟨by kernel_rfl, _, Tryz.func125, by kernel_rfl⟩
theorem fok127 : FnOK Tryz.prog glob 127 AF127 := ⟨by kernel_rfl, _, Tryz.func127, by kernel_rfl⟩
theorem fok140 : FnOK Tryz.prog glob 140 AF140 := ⟨by kernel_rfl, _, Tryz.func140, by kernel_rfl⟩
theorem fok142 : FnOK Tryz.prog glob 142 AF142 := ⟨by kernel_rfl, _, Tryz.func142, by kernel_rfl⟩
theorem fok143 : FnOK Tryz.prog glob 143 AF143 := ⟨by kernel_rfl, _, Tryz.func143, by kernel_rfl⟩
theorem fok144 : FnOK Tryz.prog glob 144 AF144 := ⟨by kernel_rfl, _, Tryz.func144, by kernel_rfl⟩
theorem fok145 : FnOK Tryz.prog glob 145 AF145 := ⟨by kernel_rfl, _, Tryz.func145, by kernel_rfl⟩
theorem fok146 : FnOK Tryz.prog glob 146 AF146 := ⟨by kernel_rfl, _, Tryz.func146, by kernel_rfl⟩
theorem fok147 : FnOK Tryz.prog glob 147 AF147 := ⟨by kernel_rfl, _, Tryz.func147, by kernel_rfl⟩
theorem fok148 : FnOK Tryz.prog glob 148 AF148 := ⟨by kernel_rfl, _, Tryz.func148, by kernel_rfl⟩
theorem fok149 : FnOK Tryz.prog glob 149 AF149 := ⟨by kernel_rfl, _, Tryz.func149, by kernel_rfl⟩
theorem fok150 : FnOK Tryz.prog glob 150 AF150 := ⟨by kernel_rfl, _, Tryz.func150, by kernel_rfl⟩
theorem fok152 : FnOK Tryz.prog glob 152 AF152 := ⟨by kernel_rfl, _, Tryz.func152, by kernel_rfl⟩
theorem fok154 : FnOK Tryz.prog glob 154 AF154 := ⟨by kernel_rfl, _, Tryz.func154, by kernel_rfl⟩
theorem fok155 : FnOK Tryz.prog glob 155 AF155 := ⟨by kernel_rfl, _, Tryz.func155, by kernel_rfl⟩
theorem fok157 : FnOK Tryz.prog glob 157 AF157 := ⟨by kernel_rfl, _, Tryz.func157, by kernel_rfl⟩
theorem fok168 : FnOK Tryz.prog glob 168 AF168 := ⟨by kernel_rfl, _, Tryz.func168, by kernel_rfl⟩
theorem fok172 : FnOK Tryz.prog glob 172 AF172 := ⟨by kernel_rfl, _, Tryz.func172, by kernel_rfl⟩
theorem fok173 : FnOK Tryz.prog glob 173 AF173 := ⟨by kernel_rfl, _, Tryz.func173, by kernel_rfl⟩
theorem fok174 : FnOK Tryz.prog glob 174 AF174 := ⟨by kernel_rfl, _, Tryz.func174, by kernel_rfl⟩
theorem fok183 : FnOK Tryz.prog glob 183 AF183 := ⟨by kernel_rfl, _, Tryz.func183, by kernel_rfl⟩
end Go.Proofs.YtfhkpeggifapmaaGreatDoor
