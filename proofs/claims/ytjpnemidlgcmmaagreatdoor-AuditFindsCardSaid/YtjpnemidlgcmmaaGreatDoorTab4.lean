/- Functions of the program as code of the evaluator, reckoned out of the program: part 4.
   Conditions: none. -/
import Derived.Test.YtjpnemidlgcmmaaGreatDoorTab
set_option linter.unusedSimpArgs false
set_option linter.unusedVariables false
set_option maxRecDepth 100000
set_option maxHeartbeats 16000000
noncomputable section
namespace Go.Abs
noncomputable def B4:KF Proofs.Tryz.f4:=⟨_,by cbv⟩
noncomputable def B11:KF Proofs.Tryz.f11:=⟨_,by cbv⟩
noncomputable def B13:KF Proofs.Tryz.f13:=⟨_,by cbv⟩
noncomputable def B18:KF Proofs.Tryz.f18:=⟨_,by cbv⟩
noncomputable def B24:KF Proofs.Tryz.f24:=⟨_,by cbv⟩
noncomputable def B29:KF Proofs.Tryz.f29:=⟨_,by cbv⟩
noncomputable def B34:KF Proofs.Tryz.f34:=⟨_,by cbv⟩
noncomputable def B40:KF Proofs.Tryz.f40:=⟨_,by cbv⟩
noncomputable def B45:KF Proofs.Tryz.f45:=⟨_,by cbv⟩
noncomputable def B50:KF Proofs.Tryz.f50:=⟨_,by cbv⟩
noncomputable def B55:KF Proofs.Tryz.f55:=⟨_,by cbv⟩
noncomputable def B57:KF Proofs.Tryz.f57:=⟨_,by cbv⟩
noncomputable def B62:KF Proofs.Tryz.f62:=⟨_,by cbv⟩
noncomputable def B68:KF Proofs.Tryz.f68:=⟨_,by cbv⟩
noncomputable def B73:KF Proofs.Tryz.f73:=⟨_,by cbv⟩
noncomputable def B78:KF Proofs.Tryz.f78:=⟨_,by cbv⟩
noncomputable def B83:KF Proofs.Tryz.f83:=⟨_,by cbv⟩
noncomputable def B88:KF Proofs.Tryz.f88:=⟨_,by cbv⟩
noncomputable def B93:KF Proofs.Tryz.f93:=⟨_,by cbv⟩
noncomputable def B99:KF Proofs.Tryz.f99:=⟨_,by cbv⟩
noncomputable def B104:KF Proofs.Tryz.f104:=⟨_,by cbv⟩
noncomputable def B110:KF Proofs.Tryz.f110:=⟨_,by cbv⟩
noncomputable def B115:KF Proofs.Tryz.f115:=⟨_,by cbv⟩
noncomputable def B120:KF Proofs.Tryz.f120:=⟨_,by cbv⟩
noncomputable def B125:KF Proofs.Tryz.f125:=⟨_,by cbv⟩
noncomputable def B131:KF Proofs.Tryz.f131:=⟨_,by cbv⟩
noncomputable def B136:KF Proofs.Tryz.f136:=⟨_,by cbv⟩
noncomputable def B141:KF Proofs.Tryz.f141:=⟨_,by cbv⟩
noncomputable def B147:KF Proofs.Tryz.f147:=⟨_,by cbv⟩
noncomputable def B152:KF Proofs.Tryz.f152:=⟨_,by cbv⟩
noncomputable def B157:KF Proofs.Tryz.f157:=⟨_,by cbv⟩
noncomputable def B162:KF Proofs.Tryz.f162:=⟨_,by cbv⟩
noncomputable def B167:KF Proofs.Tryz.f167:=⟨_,by cbv⟩
noncomputable def B172:KF Proofs.Tryz.f172:=⟨_,by cbv⟩
noncomputable def B177:KF Proofs.Tryz.f177:=⟨_,by cbv⟩
end Go.Abs
end
