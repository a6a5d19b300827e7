/- Functions of the program as code of the evaluator, reckoned out of the program: part 2.
   Conditions: none. -/
import Derived.Test.YtdmofemokgboeaaGreatDoorTab
set_option linter.unusedSimpArgs false
set_option linter.unusedVariables false
set_option maxRecDepth 100000
set_option maxHeartbeats 16000000
noncomputable section
namespace Go.Abs
noncomputable def B4:KF Proofs.Tryz.f4:=⟨_,by cbv⟩
noncomputable def B9:KF Proofs.Tryz.f9:=⟨_,by cbv⟩
noncomputable def B14:KF Proofs.Tryz.f14:=⟨_,by cbv⟩
noncomputable def B19:KF Proofs.Tryz.f19:=⟨_,by cbv⟩
noncomputable def B24:KF Proofs.Tryz.f24:=⟨_,by cbv⟩
noncomputable def B29:KF Proofs.Tryz.f29:=⟨_,by cbv⟩
noncomputable def B34:KF Proofs.Tryz.f34:=⟨_,by cbv⟩
noncomputable def B39:KF Proofs.Tryz.f39:=⟨_,c_f rfl (by cbv) (by cbv) (by cbv) (by repeat' first |apply c_s |apply c_c |apply c_b |apply c_l |apply c_p |refine c_r (by cbv) (by kernel_rfl)|cbv)⟩
noncomputable def B44:KF Proofs.Tryz.f44:=⟨_,by cbv⟩
noncomputable def B49:KF Proofs.Tryz.f49:=⟨_,by cbv⟩
noncomputable def B54:KF Proofs.Tryz.f54:=⟨_,by cbv⟩
noncomputable def B59:KF Proofs.Tryz.f59:=⟨_,by cbv⟩
noncomputable def B64:KF Proofs.Tryz.f64:=⟨_,by cbv⟩
noncomputable def B69:KF Proofs.Tryz.f69:=⟨_,by cbv⟩
noncomputable def B74:KF Proofs.Tryz.f74:=⟨_,by cbv⟩
noncomputable def B79:KF Proofs.Tryz.f79:=⟨_,by cbv⟩
noncomputable def B84:KF Proofs.Tryz.f84:=⟨_,by cbv⟩
noncomputable def B89:KF Proofs.Tryz.f89:=⟨_,by cbv⟩
noncomputable def B94:KF Proofs.Tryz.f94:=⟨_,by cbv⟩
noncomputable def B106:KF Proofs.Tryz.f106:=⟨_,by cbv⟩
noncomputable def B111:KF Proofs.Tryz.f111:=⟨_,by cbv⟩
noncomputable def B116:KF Proofs.Tryz.f116:=⟨_,by cbv⟩
noncomputable def B121:KF Proofs.Tryz.f121:=⟨_,by cbv⟩
noncomputable def B126:KF Proofs.Tryz.f126:=⟨_,by cbv⟩
noncomputable def B131:KF Proofs.Tryz.f131:=⟨_,by cbv⟩
noncomputable def B141:KF Proofs.Tryz.f141:=⟨_,by cbv⟩
noncomputable def B147:KF Proofs.Tryz.f147:=⟨_,by cbv⟩
noncomputable def B152:KF Proofs.Tryz.f152:=⟨_,by cbv⟩
noncomputable def B157:KF Proofs.Tryz.f157:=⟨_,by cbv⟩
noncomputable def B186:KF Proofs.Tryz.f186:=⟨_,by cbv⟩
end Go.Abs
end
