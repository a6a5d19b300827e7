/- Functions of the program as code of the evaluator, reckoned out of the program: part 4.
   Conditions: none. -/
import Derived.Test.YtdmofemokgboeaaGreatDoorTab
set_option linter.unusedSimpArgs false
set_option linter.unusedVariables false
set_option maxRecDepth 100000
set_option maxHeartbeats 16000000
noncomputable section
namespace Go.Abs
noncomputable def B6:KF Proofs.Tryz.f6:=⟨_,by cbv⟩
noncomputable def B11:KF Proofs.Tryz.f11:=⟨_,by cbv⟩
noncomputable def B16:KF Proofs.Tryz.f16:=⟨_,by cbv⟩
noncomputable def B21:KF Proofs.Tryz.f21:=⟨_,by cbv⟩
noncomputable def B26:KF Proofs.Tryz.f26:=⟨_,by cbv⟩
noncomputable def B31:KF Proofs.Tryz.f31:=⟨_,by cbv⟩
noncomputable def B36:KF Proofs.Tryz.f36:=⟨_,by cbv⟩
noncomputable def B41:KF Proofs.Tryz.f41:=⟨_,by cbv⟩
noncomputable def B46:KF Proofs.Tryz.f46:=⟨_,by cbv⟩
noncomputable def B51:KF Proofs.Tryz.f51:=⟨_,by cbv⟩
noncomputable def B56:KF Proofs.Tryz.f56:=⟨_,by cbv⟩
noncomputable def B61:KF Proofs.Tryz.f61:=⟨_,by cbv⟩
noncomputable def B66:KF Proofs.Tryz.f66:=⟨_,by cbv⟩
noncomputable def B71:KF Proofs.Tryz.f71:=⟨_,by cbv⟩
noncomputable def B76:KF Proofs.Tryz.f76:=⟨_,by cbv⟩
noncomputable def B81:KF Proofs.Tryz.f81:=⟨_,by cbv⟩
noncomputable def B86:KF Proofs.Tryz.f86:=⟨_,by cbv⟩
noncomputable def B91:KF Proofs.Tryz.f91:=⟨_,by cbv⟩
noncomputable def B96:KF Proofs.Tryz.f96:=⟨_,by cbv⟩
noncomputable def B108:KF Proofs.Tryz.f108:=⟨_,by cbv⟩
noncomputable def B113:KF Proofs.Tryz.f113:=⟨_,by cbv⟩
noncomputable def B118:KF Proofs.Tryz.f118:=⟨_,by cbv⟩
noncomputable def B123:KF Proofs.Tryz.f123:=⟨_,by cbv⟩
noncomputable def B128:KF Proofs.Tryz.f128:=⟨_,by cbv⟩
noncomputable def B138:KF Proofs.Tryz.f138:=⟨_,by cbv⟩
noncomputable def B143:KF Proofs.Tryz.f143:=⟨_,by cbv⟩
noncomputable def B149:KF Proofs.Tryz.f149:=⟨_,by cbv⟩
noncomputable def B154:KF Proofs.Tryz.f154:=⟨_,by cbv⟩
noncomputable def B176:KF Proofs.Tryz.f176:=⟨_,by cbv⟩
end Go.Abs
end
