/- Functions of the program as code of the evaluator
   Conditions: none. -/
import Derived.Test.YteeknodhjojhhaaGreatDoorTab
set_option linter.unusedSimpArgs false
set_option linter.unusedVariables false
set_option maxRecDepth 100000
set_option maxHeartbeats 16000000
noncomputable section
namespace Go.Abs
open Proofs.Tryz
def B3:KF f3:=bk
def B8:KF f8:=bk
def B13:KF f13:=bk
def B18:KF f18:=⟨_,c_f rfl (by cbv) (by cbv) (by cbv) (by repeat' first|apply c_s|apply c_c|apply c_b|apply c_l|apply c_p|refine c_r (by cbv) (by kernel_rfl)|cbv)⟩
def B23:KF f23:=bk
def B28:KF f28:=bk
def B33:KF f33:=bk
def B38:KF f38:=bk
def B43:KF f43:=bk
def B48:KF f48:=bk
def B53:KF f53:=bk
def B58:KF f58:=bk
def B63:KF f63:=bk
def B68:KF f68:=bk
def B73:KF f73:=bk
def B78:KF f78:=bk
def B83:KF f83:=bk
def B88:KF f88:=bk
def B93:KF f93:=bk
def B98:KF f98:=bk
def Abq:KF f103:=bk
def Abr:KF f108:=bk
def Abt:KF f109:=bk
def Abu:KF f114:=bk
def Abv:KF f119:=bk
def Abw:KF f124:=bk
def WW:KF f129:=bk
def WX:KF f134:=bk
def Abx:KF f139:=bk
def Aby:KF f144:=bk
def Abz:KF f149:=bk
def AbA:KF f154:=bk
def AbB:KF f167:=bk
def AbC:KF f168:=bk
def AbD:KF f173:=bk
def AbE:KF f178:=bk
def AbF:KF f183:=bk
def AbG:KF f188:=bk
def AbH:KF f193:=bk
def AbI:KF f198:=bk
def AbJ:KF f203:=bk
def AbK:KF f208:=bk
def AbL:KF f213:=bk
def AbM:KF f218:=bk
def AbN:KF f223:=bk
def AbO:KF f230:=bk
def AbP:KF f239:=bk
def AbQ:KF f244:=bk
def AbR:KF f250:=bk
def AbS:KF f255:=bk
def AbT:KF f260:=bk
def AbU:KF f265:=bk
def AbV:KF f270:=bk
def AbW:KF f275:=bk
def AbX:KF f280:=bk
def AbY:KF f289:=bk
def AbZ:KF f295:=bk
def Ab0:KF f300:=bk
def Ab1:KF f307:=bk
def Ab2:KF f312:=bk
def Ab3:KF f317:=bk
def Ab4:KF f322:=bk
def Ab5:KF f327:=bk
def WY:KF f332:=bk
def Ab6:KF f339:=bk
def Ab7:KF f345:=bk
def Ab8:KF f350:=bk
def Ab9:KF f357:=bk
def Aca:KF f362:=bk
def Acb:KF f367:=bk
def Acd:KF f391:=bk
end Go.Abs
end
