/- That the tables are the program's.
   Conditions: none. -/
import Derived.Test.YtfhkpeggifapmaaGreatDoorFok1
import Derived.Test.YtfhkpeggifapmaaGreatDoorFok2
import Derived.Test.YtfhkpeggifapmaaGreatDoorFok3
noncomputable section
namespace Go.Proofs.YtfhkpeggifapmaaGreatDoor
open Go Go.Abs
set_option maxRecDepth 100000
def tbl : List (Option AFunc) := [none, none, none, some AF3, some AF4, some AF5, some AF6, some AF7, some AF8, some AF9, some AF10, some AF11, some AF12, some AF13, some AF14, some AF15, some AF16, none, some AF18, some AF19, some AF20, some AF21, none, some AF23, some AF24, some AF25, some AF26, some AF27, some AF28, some AF29, some AF30, some AF31, some AF32, some AF33, some AF34, some AF35, some AF36, some AF37, some AF38, none, some AF40, some AF41, some AF42, some AF43, some AF44, some AF45, some AF46, some AF47, some AF48, some AF49, some AF50, none, none, none, none, some AF55, some AF56, some AF57, some AF58, none, none, none, none, none, none, none, none, some AF67, none, some AF69, some AF70, some AF71, some AF72, some AF73, some AF74, some AF75, some AF76, some AF77, none, none, some AF80, some AF81, some AF82, some AF83, some AF84, some AF85, some AF86, none, none, none, none, none, some AF92, none, none, none, none, none, none, none, none, none, none, none, none, none, some AF106, some AF107, some AF108, some AF109, none, none, some AF112, some AF113, some AF114, some AF115, some AF116, none, some AF118, some AF119, some AF120, some AF121, some AF122, some AF123, none, some AF125, none, some AF127, none, none, none, none, none, none, none, none, none, none, none, none, some AF140, none, some AF142, some AF143, some AF144, some AF145, some AF146, some AF147, some AF148, some AF149, some AF150, none, some AF152, none, some AF154, some AF155, none, some AF157, none, none, none, none, none, none, none, none, none, none, some AF168, none, none, none, some AF172, some AF173, some AF174, none, none, none, none, none, none, none, none, some AF183]
def F (f : FuncId) : Option AFunc := (tbl[f]?).join
theorem tab_ok : TabOK Tryz.prog glob 0 tbl :=
  ⟨fok3, ⟨fok4, ⟨fok5, ⟨fok6, ⟨fok7, ⟨fok8, ⟨fok9, ⟨fok10, ⟨fok11, ⟨fok12, ⟨fok13, ⟨fok14, ⟨fok15, ⟨fok16, ⟨fok18, ⟨fok19, ⟨fok20, ⟨fok21, ⟨fok23, ⟨fok24, ⟨fok25, ⟨fok26, ⟨fok27, ⟨fok28, ⟨fok29, ⟨fok30, ⟨fok31, ⟨fok32, ⟨fok33, ⟨fok34, ⟨fok35, ⟨fok36, ⟨fok37, ⟨fok38, ⟨fok40, ⟨fok41, ⟨fok42, ⟨fok43, ⟨fok44, ⟨fok45, ⟨fok46, ⟨fok47, ⟨fok48, ⟨fok49, ⟨fok50, ⟨fok55, ⟨fok56, ⟨fok57, ⟨fok58, ⟨fok67, ⟨fok69, ⟨fok70, ⟨fok71, ⟨fok72, ⟨fok73, ⟨fok74, ⟨fok75, ⟨fok76, ⟨fok77, ⟨fok80, ⟨fok81, ⟨fok82, ⟨fok83, ⟨fok84, ⟨fok85, ⟨fok86, ⟨fok92, ⟨fok106, ⟨fok107, ⟨fok108, ⟨fok109, ⟨fok112, ⟨fok113, ⟨fok114, ⟨fok115, ⟨fok116, ⟨fok118, ⟨fok119, ⟨fok120, ⟨fok121, ⟨fok122, ⟨fok123, ⟨fok125, ⟨fok127, ⟨fok140, ⟨fok142, ⟨fok143, ⟨fok144, ⟨fok145, ⟨fok146, ⟨fok147, ⟨fok148, ⟨fok149, ⟨fok150, ⟨fok152, ⟨fok154, ⟨fok155, ⟨fok157, ⟨fok168, ⟨fok172, ⟨fok173, ⟨fok174, ⟨fok183, trivial⟩⟩⟩⟩⟩⟩⟩⟩⟩⟩⟩⟩⟩⟩⟩⟩⟩⟩⟩⟩⟩⟩⟩⟩⟩⟩⟩⟩⟩⟩⟩⟩⟩⟩⟩⟩⟩⟩⟩⟩⟩⟩⟩⟩⟩⟩⟩⟩⟩⟩⟩⟩⟩⟩⟩⟩⟩⟩⟩⟩⟩⟩⟩⟩⟩⟩⟩⟩⟩⟩⟩⟩⟩⟩⟩⟩⟩⟩⟩⟩⟩⟩⟩⟩⟩⟩⟩⟩⟩⟩⟩⟩⟩⟩⟩⟩⟩⟩⟩⟩⟩⟩⟩
theorem fOK : FOK Tryz.prog glob F := tab_ok.fok
end Go.Proofs.YtfhkpeggifapmaaGreatDoor
end
