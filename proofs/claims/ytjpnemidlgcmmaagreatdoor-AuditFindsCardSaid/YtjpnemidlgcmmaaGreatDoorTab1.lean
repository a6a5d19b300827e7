/- Functions of the program as code of the evaluator, reckoned out of the program: part 1.
   Conditions: none. -/
import Derived.Test.YtjpnemidlgcmmaaGreatDoorTab
set_option linter.unusedSimpArgs false
set_option linter.unusedVariables false
set_option maxRecDepth 100000
set_option maxHeartbeats 16000000
noncomputable section
namespace Go.Abs
noncomputable def B3:KF Proofs.Tryz.f3:=⟨_,by cbv⟩
noncomputable def B8:KF Proofs.Tryz.f8:=⟨_,by cbv⟩
noncomputable def B15:KF Proofs.Tryz.f15:=⟨_,by cbv⟩
noncomputable def B21:KF Proofs.Tryz.f21:=⟨_,by cbv⟩
noncomputable def B26:KF Proofs.Tryz.f26:=⟨_,by cbv⟩
noncomputable def B31:KF Proofs.Tryz.f31:=⟨_,by cbv⟩
noncomputable def B35:KF Proofs.Tryz.f35:=⟨_,by cbv⟩
noncomputable def B37:KF Proofs.Tryz.f37:=⟨_,by cbv⟩
noncomputable def B42:KF Proofs.Tryz.f42:=⟨_,by cbv⟩
noncomputable def B47:KF Proofs.Tryz.f47:=⟨_,by cbv⟩
noncomputable def B52:KF Proofs.Tryz.f52:=⟨_,by cbv⟩
noncomputable def B58:KF Proofs.Tryz.f58:=⟨_,by cbv⟩
noncomputable def B64:KF Proofs.Tryz.f64:=⟨_,by cbv⟩
noncomputable def B70:KF Proofs.Tryz.f70:=⟨_,by cbv⟩
noncomputable def B75:KF Proofs.Tryz.f75:=⟨_,by cbv⟩
noncomputable def B80:KF Proofs.Tryz.f80:=⟨_,by cbv⟩
noncomputable def B85:KF Proofs.Tryz.f85:=⟨_,by cbv⟩
noncomputable def B90:KF Proofs.Tryz.f90:=⟨_,by cbv⟩
noncomputable def B95:KF Proofs.Tryz.f95:=⟨_,by cbv⟩
noncomputable def B101:KF Proofs.Tryz.f101:=⟨_,by cbv⟩
noncomputable def B107:KF Proofs.Tryz.f107:=⟨_,by cbv⟩
noncomputable def B112:KF Proofs.Tryz.f112:=⟨_,by cbv⟩
noncomputable def B117:KF Proofs.Tryz.f117:=⟨_,by cbv⟩
noncomputable def B122:KF Proofs.Tryz.f122:=⟨_,by cbv⟩
noncomputable def B127:KF Proofs.Tryz.f127:=⟨_,by cbv⟩
noncomputable def B133:KF Proofs.Tryz.f133:=⟨_,by cbv⟩
noncomputable def B138:KF Proofs.Tryz.f138:=⟨_,by cbv⟩
noncomputable def B144:KF Proofs.Tryz.f144:=⟨_,by cbv⟩
noncomputable def B149:KF Proofs.Tryz.f149:=⟨_,by cbv⟩
noncomputable def B154:KF Proofs.Tryz.f154:=⟨_,by cbv⟩
noncomputable def B159:KF Proofs.Tryz.f159:=⟨_,by cbv⟩
noncomputable def B164:KF Proofs.Tryz.f164:=⟨_,by cbv⟩
noncomputable def B169:KF Proofs.Tryz.f169:=⟨_,by cbv⟩
noncomputable def B174:KF Proofs.Tryz.f174:=⟨_,by cbv⟩
noncomputable def B179:KF Proofs.Tryz.f179:=⟨_,by cbv⟩
end Go.Abs
end
