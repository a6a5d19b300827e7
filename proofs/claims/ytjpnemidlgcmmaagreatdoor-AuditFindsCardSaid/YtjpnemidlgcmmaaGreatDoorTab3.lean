/- Functions of the program as code of the evaluator, reckoned out of the program: part 3.
   Conditions: none. -/
import Derived.Test.YtjpnemidlgcmmaaGreatDoorTab
set_option linter.unusedSimpArgs false
set_option linter.unusedVariables false
set_option maxRecDepth 100000
set_option maxHeartbeats 16000000
noncomputable section
namespace Go.Abs
noncomputable def B5:KF Proofs.Tryz.f5:=⟨_,by cbv⟩
noncomputable def B6:KF Proofs.Tryz.f6:=⟨_,by cbv⟩
noncomputable def B10:KF Proofs.Tryz.f10:=⟨_,by cbv⟩
noncomputable def B14:KF Proofs.Tryz.f14:=⟨_,c_f rfl (by cbv) (by cbv) (by cbv) (by repeat' first |apply c_s |apply c_c |apply c_b |apply c_l |apply c_p |refine c_r (by cbv) (by kernel_rfl)|cbv)⟩
noncomputable def B17:KF Proofs.Tryz.f17:=⟨_,by cbv⟩
noncomputable def B23:KF Proofs.Tryz.f23:=⟨_,by cbv⟩
noncomputable def B28:KF Proofs.Tryz.f28:=⟨_,by cbv⟩
noncomputable def B33:KF Proofs.Tryz.f33:=⟨_,by cbv⟩
noncomputable def B39:KF Proofs.Tryz.f39:=⟨_,by cbv⟩
noncomputable def B44:KF Proofs.Tryz.f44:=⟨_,by cbv⟩
noncomputable def B49:KF Proofs.Tryz.f49:=⟨_,by cbv⟩
noncomputable def B54:KF Proofs.Tryz.f54:=⟨_,by cbv⟩
noncomputable def B60:KF Proofs.Tryz.f60:=⟨_,by cbv⟩
noncomputable def B67:KF Proofs.Tryz.f67:=⟨_,by cbv⟩
noncomputable def B72:KF Proofs.Tryz.f72:=⟨_,by cbv⟩
noncomputable def B77:KF Proofs.Tryz.f77:=⟨_,by cbv⟩
noncomputable def B82:KF Proofs.Tryz.f82:=⟨_,by cbv⟩
noncomputable def B87:KF Proofs.Tryz.f87:=⟨_,by cbv⟩
noncomputable def B92:KF Proofs.Tryz.f92:=⟨_,by cbv⟩
noncomputable def B98:KF Proofs.Tryz.f98:=⟨_,by cbv⟩
noncomputable def B103:KF Proofs.Tryz.f103:=⟨_,by cbv⟩
noncomputable def B105:KF Proofs.Tryz.f105:=⟨_,c_f rfl (by cbv) (by cbv) (by cbv) (by repeat' first |apply c_s |apply c_c |apply c_b |apply c_l |apply c_p |refine c_r (by cbv) (by kernel_rfl)|cbv)⟩
noncomputable def B109:KF Proofs.Tryz.f109:=⟨_,by cbv⟩
noncomputable def B114:KF Proofs.Tryz.f114:=⟨_,by cbv⟩
noncomputable def B119:KF Proofs.Tryz.f119:=⟨_,by cbv⟩
noncomputable def B124:KF Proofs.Tryz.f124:=⟨_,by cbv⟩
noncomputable def B130:KF Proofs.Tryz.f130:=⟨_,by cbv⟩
noncomputable def B135:KF Proofs.Tryz.f135:=⟨_,by cbv⟩
noncomputable def B140:KF Proofs.Tryz.f140:=⟨_,by cbv⟩
noncomputable def B146:KF Proofs.Tryz.f146:=⟨_,by cbv⟩
noncomputable def B151:KF Proofs.Tryz.f151:=⟨_,by cbv⟩
noncomputable def B156:KF Proofs.Tryz.f156:=⟨_,by cbv⟩
noncomputable def B161:KF Proofs.Tryz.f161:=⟨_,by cbv⟩
noncomputable def B166:KF Proofs.Tryz.f166:=⟨_,by cbv⟩
noncomputable def B171:KF Proofs.Tryz.f171:=⟨_,by cbv⟩
noncomputable def B176:KF Proofs.Tryz.f176:=⟨_,by cbv⟩
noncomputable def B204:KF Proofs.Tryz.f204:=⟨_,by cbv⟩
end Go.Abs
end
