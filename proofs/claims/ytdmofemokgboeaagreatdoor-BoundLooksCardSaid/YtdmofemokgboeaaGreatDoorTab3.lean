/- Functions of the program as code of the evaluator, reckoned out of the program: part 3.
   Conditions: none. -/
import Derived.Test.YtdmofemokgboeaaGreatDoorTab
set_option linter.unusedSimpArgs false
set_option linter.unusedVariables false
set_option maxRecDepth 100000
set_option maxHeartbeats 16000000
noncomputable section
namespace Go.Abs
noncomputable def B5:KF Proofs.Tryz.f5:=⟨_,by cbv⟩
noncomputable def B10:KF Proofs.Tryz.f10:=⟨_,by cbv⟩
noncomputable def B15:KF Proofs.Tryz.f15:=⟨_,by cbv⟩
noncomputable def B20:KF Proofs.Tryz.f20:=⟨_,by cbv⟩
noncomputable def B25:KF Proofs.Tryz.f25:=⟨_,by cbv⟩
noncomputable def B30:KF Proofs.Tryz.f30:=⟨_,by cbv⟩
noncomputable def B35:KF Proofs.Tryz.f35:=⟨_,by cbv⟩
noncomputable def B40:KF Proofs.Tryz.f40:=⟨_,by cbv⟩
noncomputable def B45:KF Proofs.Tryz.f45:=⟨_,by cbv⟩
noncomputable def B50:KF Proofs.Tryz.f50:=⟨_,by cbv⟩
noncomputable def B55:KF Proofs.Tryz.f55:=⟨_,by cbv⟩
noncomputable def B60:KF Proofs.Tryz.f60:=⟨_,by cbv⟩
noncomputable def B65:KF Proofs.Tryz.f65:=⟨_,by cbv⟩
noncomputable def B70:KF Proofs.Tryz.f70:=⟨_,by cbv⟩
noncomputable def B75:KF Proofs.Tryz.f75:=⟨_,by cbv⟩
noncomputable def B80:KF Proofs.Tryz.f80:=⟨_,by cbv⟩
noncomputable def B85:KF Proofs.Tryz.f85:=⟨_,by cbv⟩
noncomputable def B90:KF Proofs.Tryz.f90:=⟨_,by cbv⟩
noncomputable def B95:KF Proofs.Tryz.f95:=⟨_,by cbv⟩
noncomputable def B107:KF Proofs.Tryz.f107:=⟨_,by cbv⟩
noncomputable def B112:KF Proofs.Tryz.f112:=⟨_,by cbv⟩
noncomputable def B117:KF Proofs.Tryz.f117:=⟨_,by cbv⟩
noncomputable def B122:KF Proofs.Tryz.f122:=⟨_,by cbv⟩
noncomputable def B127:KF Proofs.Tryz.f127:=⟨_,by cbv⟩
noncomputable def B132:KF Proofs.Tryz.f132:=⟨_,by cbv⟩
noncomputable def B142:KF Proofs.Tryz.f142:=⟨_,by cbv⟩
noncomputable def B148:KF Proofs.Tryz.f148:=⟨_,by cbv⟩
noncomputable def B153:KF Proofs.Tryz.f153:=⟨_,by cbv⟩
noncomputable def B175:KF Proofs.Tryz.f175:=⟨_,by cbv⟩
end Go.Abs
end
