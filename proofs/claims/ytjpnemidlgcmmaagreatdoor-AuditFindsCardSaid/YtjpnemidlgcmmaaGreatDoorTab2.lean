/- Functions of the program as code of the evaluator, reckoned out of the program: part 2.
   Conditions: none. -/
import Derived.Test.YtjpnemidlgcmmaaGreatDoorTab
set_option linter.unusedSimpArgs false
set_option linter.unusedVariables false
set_option maxRecDepth 100000
set_option maxHeartbeats 16000000
noncomputable section
namespace Go.Abs
noncomputable def B7:KF Proofs.Tryz.f7:=⟨_,by cbv⟩
noncomputable def B9:KF Proofs.Tryz.f9:=⟨_,by cbv⟩
noncomputable def B16:KF Proofs.Tryz.f16:=⟨_,by cbv⟩
noncomputable def B22:KF Proofs.Tryz.f22:=⟨_,by cbv⟩
noncomputable def B27:KF Proofs.Tryz.f27:=⟨_,by cbv⟩
noncomputable def B32:KF Proofs.Tryz.f32:=⟨_,by cbv⟩
noncomputable def B38:KF Proofs.Tryz.f38:=⟨_,by cbv⟩
noncomputable def B43:KF Proofs.Tryz.f43:=⟨_,by cbv⟩
noncomputable def B48:KF Proofs.Tryz.f48:=⟨_,by cbv⟩
noncomputable def B53:KF Proofs.Tryz.f53:=⟨_,by cbv⟩
noncomputable def B59:KF Proofs.Tryz.f59:=⟨_,by cbv⟩
noncomputable def B65:KF Proofs.Tryz.f65:=⟨_,by cbv⟩
noncomputable def B66:KF Proofs.Tryz.f66:=⟨_,by cbv⟩
noncomputable def B71:KF Proofs.Tryz.f71:=⟨_,by cbv⟩
noncomputable def B76:KF Proofs.Tryz.f76:=⟨_,by cbv⟩
noncomputable def B81:KF Proofs.Tryz.f81:=⟨_,by cbv⟩
noncomputable def B86:KF Proofs.Tryz.f86:=⟨_,by cbv⟩
noncomputable def B91:KF Proofs.Tryz.f91:=⟨_,by cbv⟩
noncomputable def B96:KF Proofs.Tryz.f96:=⟨_,by cbv⟩
noncomputable def B97:KF Proofs.Tryz.f97:=⟨_,c_f rfl (by cbv) (by cbv) (by cbv) (by repeat' first |apply c_s |apply c_c |apply c_b |apply c_l |apply c_p |refine c_r (by cbv) (by kernel_rfl)|cbv)⟩
noncomputable def B102:KF Proofs.Tryz.f102:=⟨_,by cbv⟩
noncomputable def B108:KF Proofs.Tryz.f108:=⟨_,by cbv⟩
noncomputable def B113:KF Proofs.Tryz.f113:=⟨_,by cbv⟩
noncomputable def B118:KF Proofs.Tryz.f118:=⟨_,by cbv⟩
noncomputable def B123:KF Proofs.Tryz.f123:=⟨_,by cbv⟩
noncomputable def B128:KF Proofs.Tryz.f128:=⟨_,by cbv⟩
noncomputable def B134:KF Proofs.Tryz.f134:=⟨_,by cbv⟩
noncomputable def B139:KF Proofs.Tryz.f139:=⟨_,by cbv⟩
noncomputable def B145:KF Proofs.Tryz.f145:=⟨_,by cbv⟩
noncomputable def B150:KF Proofs.Tryz.f150:=⟨_,by cbv⟩
noncomputable def B155:KF Proofs.Tryz.f155:=⟨_,by cbv⟩
noncomputable def B160:KF Proofs.Tryz.f160:=⟨_,by cbv⟩
noncomputable def B165:KF Proofs.Tryz.f165:=⟨_,by cbv⟩
noncomputable def B170:KF Proofs.Tryz.f170:=⟨_,by cbv⟩
noncomputable def B175:KF Proofs.Tryz.f175:=⟨_,by cbv⟩
noncomputable def B180:KF Proofs.Tryz.f180:=⟨_,by cbv⟩
end Go.Abs
end
