/- Functions of the program as code of the evaluator, reckoned out of the program: part 1.
   Conditions: none. -/
import Derived.Test.YtdmofemokgboeaaGreatDoorTab
set_option linter.unusedSimpArgs false
set_option linter.unusedVariables false
set_option maxRecDepth 100000
set_option maxHeartbeats 16000000
noncomputable section
namespace Go.Abs
noncomputable def B3:KF Proofs.Tryz.f3:=⟨_,by cbv⟩
noncomputable def B8:KF Proofs.Tryz.f8:=⟨_,by cbv⟩
noncomputable def B13:KF Proofs.Tryz.f13:=⟨_,by cbv⟩
noncomputable def B18:KF Proofs.Tryz.f18:=⟨_,by cbv⟩
noncomputable def B23:KF Proofs.Tryz.f23:=⟨_,by cbv⟩
noncomputable def B28:KF Proofs.Tryz.f28:=⟨_,by cbv⟩
noncomputable def B33:KF Proofs.Tryz.f33:=⟨_,by cbv⟩
noncomputable def B38:KF Proofs.Tryz.f38:=⟨_,by cbv⟩
noncomputable def B43:KF Proofs.Tryz.f43:=⟨_,by cbv⟩
noncomputable def B48:KF Proofs.Tryz.f48:=⟨_,by cbv⟩
noncomputable def B53:KF Proofs.Tryz.f53:=⟨_,by cbv⟩
noncomputable def B58:KF Proofs.Tryz.f58:=⟨_,by cbv⟩
noncomputable def B63:KF Proofs.Tryz.f63:=⟨_,by cbv⟩
noncomputable def B68:KF Proofs.Tryz.f68:=⟨_,by cbv⟩
noncomputable def B73:KF Proofs.Tryz.f73:=⟨_,by cbv⟩
noncomputable def B78:KF Proofs.Tryz.f78:=⟨_,by cbv⟩
noncomputable def B83:KF Proofs.Tryz.f83:=⟨_,by cbv⟩
noncomputable def B88:KF Proofs.Tryz.f88:=⟨_,by cbv⟩
noncomputable def B93:KF Proofs.Tryz.f93:=⟨_,by cbv⟩
noncomputable def B98:KF Proofs.Tryz.f98:=⟨_,by cbv⟩
noncomputable def B110:KF Proofs.Tryz.f110:=⟨_,by cbv⟩
noncomputable def B115:KF Proofs.Tryz.f115:=⟨_,by cbv⟩
noncomputable def B120:KF Proofs.Tryz.f120:=⟨_,by cbv⟩
noncomputable def B125:KF Proofs.Tryz.f125:=⟨_,by cbv⟩
noncomputable def B130:KF Proofs.Tryz.f130:=⟨_,by cbv⟩
noncomputable def B140:KF Proofs.Tryz.f140:=⟨_,by cbv⟩
noncomputable def B146:KF Proofs.Tryz.f146:=⟨_,by cbv⟩
noncomputable def B151:KF Proofs.Tryz.f151:=⟨_,by cbv⟩
noncomputable def B156:KF Proofs.Tryz.f156:=⟨_,by cbv⟩
noncomputable def B178:KF Proofs.Tryz.f178:=⟨_,by cbv⟩
end Go.Abs
end
