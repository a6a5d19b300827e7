/- Functions of the program as code of the evaluator
   Conditions: none. -/
import Derived.Test.YteeknodhjojhhaaGreatDoorTab
set_option linter.unusedSimpArgs false
set_option linter.unusedVariables false
set_option maxRecDepth 100000
set_option maxHeartbeats 16000000
noncomputable section
namespace Go.Abs
open Proofs.Tryz
def B4:KF f4:=bk
def B9:KF f9:=bk
def B14:KF f14:=bk
def B19:KF f19:=bk
def B24:KF f24:=bk
def B29:KF f29:=bk
def B34:KF f34:=⟨_,c_f rfl (by cbv) (by cbv) (by cbv) (by repeat' first|apply c_s|apply c_c|apply c_b|apply c_l|apply c_p|refine c_r (by cbv) (by kernel_rfl)|cbv)⟩
def B39:KF f39:=bk
def B44:KF f44:=bk
def B49:KF f49:=bk
def B54:KF f54:=bk
def B59:KF f59:=bk
def B64:KF f64:=bk
def B69:KF f69:=bk
def B74:KF f74:=bk
def B79:KF f79:=bk
def B84:KF f84:=bk
def B89:KF f89:=bk
def B94:KF f94:=bk
def B99:KF f99:=bk
def Ace:KF f104:=bk
def Acf:KF f110:=bk
def Acg:KF f115:=bk
def Ach:KF f120:=bk
def Aci:KF f125:=bk
def Acj:KF f130:=bk
def Ack:KF f135:=bk
def Acl:KF f140:=bk
def Acm:KF f145:=bk
def Acn:KF f150:=bk
def Aco:KF f155:=bk
def Acp:KF f169:=bk
def Acq:KF f174:=bk
def Acr:KF f179:=bk
def Acs:KF f184:=bk
def Acu:KF f189:=bk
def Acv:KF f194:=bk
def Acw:KF f199:=bk
def Acx:KF f204:=bk
def Acy:KF f209:=bk
def Acz:KF f214:=bk
def AcA:KF f219:=bk
def AcB:KF f224:=bk
def AcC:KF f232:=bk
def WZ:KF f240:=bk
def AcD:KF f245:=bk
def AcE:KF f251:=bk
def AcF:KF f256:=bk
def AcG:KF f261:=bk
def AcH:KF f266:=bk
def AcI:KF f271:=bk
def AcJ:KF f276:=bk
def AcK:KF f283:=bk
def AcL:KF f291:=bk
def AcM:KF f296:=bk
def AcN:KF f301:=bk
def AcO:KF f308:=bk
def AcP:KF f313:=bk
def AcQ:KF f318:=bk
def AcR:KF f323:=bk
def AcS:KF f328:=bk
def AcT:KF f333:=bk
def AcU:KF f341:=⟨_,c_f rfl (by cbv) (by cbv) (by cbv) (by repeat' first|apply c_s|apply c_c|apply c_b|apply c_l|apply c_p|refine c_r (by cbv) (by kernel_rfl)|cbv)⟩
def AcV:KF f346:=bk
def AcW:KF f351:=bk
def AcX:KF f358:=bk
def AcY:KF f363:=bk
def AcZ:KF f368:=bk
def Ac0:KF f392:=bk
end Go.Abs
end
