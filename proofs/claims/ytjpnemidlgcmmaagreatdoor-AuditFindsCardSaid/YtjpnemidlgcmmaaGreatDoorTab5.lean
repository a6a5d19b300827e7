/- Functions of the program as code of the evaluator, reckoned out of the program: part 5.
   Conditions: none. -/
import Derived.Test.YtjpnemidlgcmmaaGreatDoorTab
set_option linter.unusedSimpArgs false
set_option linter.unusedVariables false
set_option maxRecDepth 100000
set_option maxHeartbeats 16000000
noncomputable section
namespace Go.Abs
noncomputable def B12:KF Proofs.Tryz.f12:=⟨_,by cbv⟩
noncomputable def B19:KF Proofs.Tryz.f19:=⟨_,by cbv⟩
noncomputable def B20:KF Proofs.Tryz.f20:=⟨_,c_f rfl (by cbv) (by cbv) (by cbv) (by repeat' first |apply c_s |apply c_c |apply c_b |apply c_l |apply c_p |refine c_r (by cbv) (by kernel_rfl)|cbv)⟩
noncomputable def B25:KF Proofs.Tryz.f25:=⟨_,by cbv⟩
noncomputable def B30:KF Proofs.Tryz.f30:=⟨_,by cbv⟩
noncomputable def B36:KF Proofs.Tryz.f36:=⟨_,by cbv⟩
noncomputable def B41:KF Proofs.Tryz.f41:=⟨_,by cbv⟩
noncomputable def B46:KF Proofs.Tryz.f46:=⟨_,by cbv⟩
noncomputable def B51:KF Proofs.Tryz.f51:=⟨_,by cbv⟩
noncomputable def B56:KF Proofs.Tryz.f56:=⟨_,by cbv⟩
noncomputable def B61:KF Proofs.Tryz.f61:=⟨_,by cbv⟩
noncomputable def B63:KF Proofs.Tryz.f63:=⟨_,by cbv⟩
noncomputable def B69:KF Proofs.Tryz.f69:=⟨_,by cbv⟩
noncomputable def B74:KF Proofs.Tryz.f74:=⟨_,by cbv⟩
noncomputable def B79:KF Proofs.Tryz.f79:=⟨_,by cbv⟩
noncomputable def B84:KF Proofs.Tryz.f84:=⟨_,by cbv⟩
noncomputable def B89:KF Proofs.Tryz.f89:=⟨_,by cbv⟩
noncomputable def B94:KF Proofs.Tryz.f94:=⟨_,by cbv⟩
noncomputable def B100:KF Proofs.Tryz.f100:=⟨_,by cbv⟩
noncomputable def B106:KF Proofs.Tryz.f106:=⟨_,by cbv⟩
noncomputable def B111:KF Proofs.Tryz.f111:=⟨_,by cbv⟩
noncomputable def B116:KF Proofs.Tryz.f116:=⟨_,by cbv⟩
noncomputable def B121:KF Proofs.Tryz.f121:=⟨_,by cbv⟩
noncomputable def B126:KF Proofs.Tryz.f126:=⟨_,by cbv⟩
noncomputable def B132:KF Proofs.Tryz.f132:=⟨_,by cbv⟩
noncomputable def B137:KF Proofs.Tryz.f137:=⟨_,by cbv⟩
noncomputable def B142:KF Proofs.Tryz.f142:=⟨_,by cbv⟩
noncomputable def B143:KF Proofs.Tryz.f143:=⟨_,c_f rfl (by cbv) (by cbv) (by cbv) (by repeat' first |apply c_s |apply c_c |apply c_b |apply c_l |apply c_p |refine c_r (by cbv) (by kernel_rfl)|cbv)⟩
noncomputable def B148:KF Proofs.Tryz.f148:=⟨_,by cbv⟩
noncomputable def B153:KF Proofs.Tryz.f153:=⟨_,by cbv⟩
noncomputable def B158:KF Proofs.Tryz.f158:=⟨_,by cbv⟩
noncomputable def B163:KF Proofs.Tryz.f163:=⟨_,by cbv⟩
noncomputable def B168:KF Proofs.Tryz.f168:=⟨_,by cbv⟩
noncomputable def B173:KF Proofs.Tryz.f173:=⟨_,by cbv⟩
noncomputable def B178:KF Proofs.Tryz.f178:=⟨_,by cbv⟩
end Go.Abs
end
