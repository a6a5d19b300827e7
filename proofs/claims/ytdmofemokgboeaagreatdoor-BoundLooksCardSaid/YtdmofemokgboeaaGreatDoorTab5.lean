/- Functions of the program as code of the evaluator, reckoned out of the program: part 5.
   Conditions: none. -/
import Derived.Test.YtdmofemokgboeaaGreatDoorTab
set_option linter.unusedSimpArgs false
set_option linter.unusedVariables false
set_option maxRecDepth 100000
set_option maxHeartbeats 16000000
noncomputable section
namespace Go.Abs
noncomputable def B7:KF Proofs.Tryz.f7:=⟨_,by cbv⟩
noncomputable def B12:KF Proofs.Tryz.f12:=⟨_,by cbv⟩
noncomputable def B17:KF Proofs.Tryz.f17:=⟨_,by cbv⟩
noncomputable def B22:KF Proofs.Tryz.f22:=⟨_,by cbv⟩
noncomputable def B27:KF Proofs.Tryz.f27:=⟨_,by cbv⟩
noncomputable def B32:KF Proofs.Tryz.f32:=⟨_,by cbv⟩
noncomputable def B37:KF Proofs.Tryz.f37:=⟨_,by cbv⟩
noncomputable def B42:KF Proofs.Tryz.f42:=⟨_,by cbv⟩
noncomputable def B47:KF Proofs.Tryz.f47:=⟨_,by cbv⟩
noncomputable def B52:KF Proofs.Tryz.f52:=⟨_,by cbv⟩
noncomputable def B57:KF Proofs.Tryz.f57:=⟨_,by cbv⟩
noncomputable def B62:KF Proofs.Tryz.f62:=⟨_,by cbv⟩
noncomputable def B67:KF Proofs.Tryz.f67:=⟨_,by cbv⟩
noncomputable def B72:KF Proofs.Tryz.f72:=⟨_,by cbv⟩
noncomputable def B77:KF Proofs.Tryz.f77:=⟨_,by cbv⟩
noncomputable def B82:KF Proofs.Tryz.f82:=⟨_,by cbv⟩
noncomputable def B87:KF Proofs.Tryz.f87:=⟨_,by cbv⟩
noncomputable def B92:KF Proofs.Tryz.f92:=⟨_,by cbv⟩
noncomputable def B97:KF Proofs.Tryz.f97:=⟨_,by cbv⟩
noncomputable def B109:KF Proofs.Tryz.f109:=⟨_,by cbv⟩
noncomputable def B114:KF Proofs.Tryz.f114:=⟨_,by cbv⟩
noncomputable def B119:KF Proofs.Tryz.f119:=⟨_,by cbv⟩
noncomputable def B124:KF Proofs.Tryz.f124:=⟨_,by cbv⟩
noncomputable def B129:KF Proofs.Tryz.f129:=⟨_,by cbv⟩
noncomputable def B139:KF Proofs.Tryz.f139:=⟨_,by cbv⟩
noncomputable def B144:KF Proofs.Tryz.f144:=⟨_,by cbv⟩
noncomputable def B150:KF Proofs.Tryz.f150:=⟨_,by cbv⟩
noncomputable def B155:KF Proofs.Tryz.f155:=⟨_,by cbv⟩
noncomputable def B177:KF Proofs.Tryz.f177:=⟨_,by cbv⟩
end Go.Abs
end
