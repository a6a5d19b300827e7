/- Functions of the program as code of the evaluator
   Conditions: none. -/
import Derived.Test.YteeknodhjojhhaaGreatDoorTab
set_option linter.unusedSimpArgs false
set_option linter.unusedVariables false
set_option maxRecDepth 100000
set_option maxHeartbeats 16000000
noncomputable section
namespace Go.Abs
open Proofs.Tryz
def B5:KF f5:=bk
def JY:KF f10:=bk
def B15:KF f15:=bk
def B20:KF f20:=bk
def B25:KF f25:=bk
def B30:KF f30:=bk
def B35:KF f35:=bk
def B40:KF f40:=bk
def B45:KF f45:=bk
def B50:KF f50:=bk
def B55:KF f55:=bk
def B60:KF f60:=bk
def B65:KF f65:=bk
def B70:KF f70:=bk
def B75:KF f75:=bk
def B80:KF f80:=bk
def B85:KF f85:=bk
def B90:KF f90:=bk
def B95:KF f95:=bk
def Ac1:KF f100:=bk
def Ac2:KF f105:=bk
def W1:KF f111:=bk
def Ac3:KF f116:=bk
def Ac4:KF f121:=bk
def Ac5:KF f126:=bk
def Ac6:KF f131:=bk
def Ac7:KF f136:=bk
def Ac8:KF f141:=bk
def Ac9:KF f146:=bk
def Ada:KF f151:=bk
def Adb:KF f156:=bk
def Adc:KF f170:=bk
def Ade:KF f175:=bk
def Adf:KF f180:=bk
def Adg:KF f185:=bk
def Adh:KF f190:=bk
def Adi:KF f195:=bk
def Adj:KF f200:=bk
def Adk:KF f205:=bk
def Adl:KF f210:=bk
def Adm:KF f215:=⟨_,c_f rfl (by cbv) (by cbv) (by cbv) (by repeat' first|apply c_s|apply c_c|apply c_b|apply c_l|apply c_p|refine c_r (by cbv) (by kernel_rfl)|cbv)⟩
def Adn:KF f220:=bk
def Ado:KF f226:=bk
def Adp:KF f234:=bk
def W2:KF f241:=bk
def Adq:KF f246:=bk
def Adr:KF f252:=bk
def Ads:KF f257:=bk
def Adt:KF f262:=bk
def Adu:KF f267:=bk
def Adv:KF f272:=bk
def Adw:KF f277:=bk
def Adx:KF f284:=bk
def Ady:KF f292:=bk
def Adz:KF f297:=bk
def AdA:KF f302:=bk
def AdB:KF f309:=bk
def AdC:KF f314:=bk
def AdD:KF f319:=bk
def AdE:KF f324:=bk
def AdF:KF f329:=bk
def AdG:KF f334:=bk
def AdH:KF f342:=bk
def AdI:KF f347:=bk
def AdJ:KF f352:=bk
def AdK:KF f359:=bk
def AdL:KF f364:=bk
def AdM:KF f369:=bk
def AdN:KF f393:=bk
end Go.Abs
end
