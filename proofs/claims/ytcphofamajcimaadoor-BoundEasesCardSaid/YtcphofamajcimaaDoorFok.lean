/- That the tables are the program's.
   Conditions: none. -/
import Derived.Test.YtcphofamajcimaaDoorFok1
import Derived.Test.YtcphofamajcimaaDoorFok2
import Derived.Test.YtcphofamajcimaaDoorFok3
set_option linter.unusedSimpArgs false
set_option linter.unusedVariables false
noncomputable section
namespace Go.Proofs.YtcphofamajcimaaDoor
open Go Go.Abs
set_option maxRecDepth 100000
def tbl : List (Option AFunc) := [none, none, none, some AF3, none, some AF5, some AF6, some AF7, some AF8, some AF9, none, none, some AF12, some AF13, some AF14, some AF15, some AF16, some AF17, some AF18, none, none, none, none, some AF23, some AF24, some AF25, some AF26, some AF27, some AF28, some AF29, some AF30, some AF31, some AF32, some AF33, some AF34, some AF35, some AF36, some AF37, some AF38, some AF39, some AF40, some AF41, some AF42, some AF43, some AF44, some AF45, some AF46, some AF47, some AF48, some AF49, some AF50, some AF51, some AF52, some AF53, some AF54, some AF55, some AF56, some AF57, some AF58, some AF59, some AF60, some AF61, some AF62, some AF63, some AF64, some AF65, some AF66, some AF67, some AF68, some AF69, some AF70, some AF71, some AF72, some AF73, some AF74, some AF75, some AF76, some AF77, some AF78, some AF79, some AF80, some AF81, some AF82, some AF83, some AF84, some AF85, some AF86, some AF87, some AF88, some AF89, some AF90, some AF91, some AF92, some AF93, some AF94, some AF95, some AF96, some AF97, none, none, none, none, none, none, none, none, none, none, none, none, none, none, none, none, none, some AF115, some AF116, some AF117, some AF118]
def F (f : FuncId) : Option AFunc := (tbl[f]?).join
theorem tab_ok : TabOK Tryd.prog glob 0 tbl :=
  ⟨fok3, ⟨fok5, ⟨fok6, ⟨fok7, ⟨fok8, ⟨fok9, ⟨fok12, ⟨fok13, ⟨fok14, ⟨fok15, ⟨fok16, ⟨fok17, ⟨fok18, ⟨fok23, ⟨fok24, ⟨fok25, ⟨fok26, ⟨fok27, ⟨fok28, ⟨fok29, ⟨fok30, ⟨fok31, ⟨fok32, ⟨fok33, ⟨fok34, ⟨fok35, ⟨fok36, ⟨fok37, ⟨fok38, ⟨fok39, ⟨fok40, ⟨fok41, ⟨fok42, ⟨fok43, ⟨fok44, ⟨fok45, ⟨fok46, ⟨fok47, ⟨fok48, ⟨fok49, ⟨fok50, ⟨fok51, ⟨fok52, ⟨fok53, ⟨fok54, ⟨fok55, ⟨fok56, ⟨fok57, ⟨fok58, ⟨fok59, ⟨fok60, ⟨fok61, ⟨fok62, ⟨fok63, ⟨fok64, ⟨fok65, ⟨fok66, ⟨fok67, ⟨fok68, ⟨fok69, ⟨fok70, ⟨fok71, ⟨fok72, ⟨fok73, ⟨fok74, ⟨fok75, ⟨fok76, ⟨fok77, ⟨fok78, ⟨fok79, ⟨fok80, ⟨fok81, ⟨fok82, ⟨fok83, ⟨fok84, ⟨fok85, ⟨fok86, ⟨fok87, ⟨fok88, ⟨fok89, ⟨fok90, ⟨fok91, ⟨fok92, ⟨fok93, ⟨fok94, ⟨fok95, ⟨fok96, ⟨fok97, ⟨fok115, ⟨fok116, ⟨fok117, ⟨fok118, trivial⟩⟩⟩⟩⟩⟩⟩⟩⟩⟩⟩⟩⟩⟩⟩⟩⟩⟩⟩⟩⟩⟩⟩⟩⟩⟩⟩⟩⟩⟩⟩⟩⟩⟩⟩⟩⟩⟩⟩⟩⟩⟩⟩⟩⟩⟩⟩⟩⟩⟩⟩⟩⟩⟩⟩⟩⟩⟩⟩⟩⟩⟩⟩⟩⟩⟩⟩⟩⟩⟩⟩⟩⟩⟩⟩⟩⟩⟩⟩⟩⟩⟩⟩⟩⟩⟩⟩⟩⟩⟩⟩⟩
theorem fOK : FOK Tryd.prog glob F := tab_ok.fok
end Go.Proofs.YtcphofamajcimaaDoor
end
