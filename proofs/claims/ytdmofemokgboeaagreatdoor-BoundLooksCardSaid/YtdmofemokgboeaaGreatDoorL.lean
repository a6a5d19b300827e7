/- What is known of the functions, in layers; the law in the evaluator.
   Conditions: none. -/
import Derived.Test.YtdmofemokgboeaaGreatDoorQg
set_option linter.unusedSimpArgs false
set_option linter.unusedVariables false
set_option maxRecDepth 100000
noncomputable section
namespace Go.Abs
section
variable {F:FuncId→Option AFunc} {meth:Meth} {sm0:Summ}
def LV:List Nat:=[0,0,0,0,1,0,13,0,8,8,6,8,6,0,0,2,0,0,7,1,3,5,8,4,7,5,1,3,10,6,9,10,7,6,12,11,0,5,7,4,2,2,3,0,3,1,2,0,0,1,1,0,2,4,6,1,4,3,1,5,6,2,2,2,4,5,6,1,0,2,1,1,1,2,3,1,5,4,1,3,3,1,2,2,1,4,0,0,5,0,1,1,1,1,3,4,4,0,0,0,0,0,0,0,0,0,0,1,1,1,1,2,1,1,2,1,0,3,0,4,0,1,1,1,1,2,2,2,1,3,3,1,5,0,0,0,0,0,0,3,1,1,1,2,4,0,2,1,2,2,1,1,3,1,1,1,1,2]
def lv (f:FuncId):Nat:=(LV[f]?).getD 0
noncomputable def smN (F:FuncId→Option AFunc) (meth:Meth) (sm0:Summ):Nat→Summ
  |0=>sm0
  |i+1=>pureSum (fun f=>lv f==i+1) F meth (smN F meth sm0 i) 30000
theorem smN_skip {f:FuncId} (i:Nat): ∀ (j:Nat),i≤j→(lv f≤i∨j<lv f)→smN F meth sm0 j f=smN F meth sm0 i f
  |0,h,_=>by rw[Nat.le_zero.1 h]
  | j +1,h,c=>by
    rcases Nat.lt_or_ge i (j+1) with q |q
    · have c':(lv f==j+1)=false:=by simp;omega
      rw[←smN_skip i j (by omega) (by omega)]
      funext vs m
      exact pureSum_skip c'
    · rw[show j+1=i by omega]
theorem smN_at {f:FuncId} {i j:Nat} (hi:lv f=i+1) (hj:i+1≤j):smN F meth sm0 j f=pureSum (fun f=>lv f==i+1) F meth (smN F meth sm0 i) 30000 f:=smN_skip (i+1) j hj (by omega)
def Z0 (sm0:Summ):Prop:= ∀ f vs m,f≠5→sm0 f vs m=none
theorem smN_none (Z:Z0 sm0) {f:FuncId} {i:Nat} (h5:f≠5) (c:lv f=0∨i<lv f): ∀ vs m,smN F meth sm0 i f vs m=none:=fun vs m=>by
  rw[smN_skip 0 i (Nat.zero_le i) (by omega)]
  exact Z f vs m h5
theorem refs_i: ∀ l:List Int,refsL (l.map iV)=[]
  | []=>rfl
  |x::l=>by rw[List.map_cons,refsL,refs_i l];rfl
structure FT (F:FuncId→Option AFunc):Prop where
  f3:F 3=some AF3
  f4:F 4=some AF4
  f6:F 6=some AF6
  f7:F 7=some AF7
  f8:F 8=some AF8
  f9:F 9=some AF9
  f10:F 10=some AF10
  f11:F 11=some AF11
  f12:F 12=some AF12
  f13:F 13=some AF13
  f14:F 14=some AF14
  f15:F 15=some AF15
  f18:F 18=some AF18
  f19:F 19=some AF19
  f20:F 20=some AF20
  f21:F 21=some AF21
  f22:F 22=some AF22
  f23:F 23=some AF23
  f24:F 24=some AF24
  f25:F 25=some AF25
  f26:F 26=some AF26
  f27:F 27=some AF27
  f28:F 28=some AF28
  f29:F 29=some AF29
  f30:F 30=some AF30
  f31:F 31=some AF31
  f32:F 32=some AF32
  f33:F 33=some AF33
  f34:F 34=some AF34
  f35:F 35=some AF35
  f36:F 36=some AF36
  f37:F 37=some AF37
  f38:F 38=some AF38
  f39:F 39=some AF39
  f40:F 40=some AF40
  f41:F 41=some AF41
  f42:F 42=some AF42
  f43:F 43=some AF43
  f44:F 44=some AF44
  f45:F 45=some AF45
  f46:F 46=some AF46
  f47:F 47=some AF47
  f48:F 48=some AF48
  f49:F 49=some AF49
  f50:F 50=some AF50
  f52:F 52=some AF52
  f53:F 53=some AF53
  f54:F 54=some AF54
  f55:F 55=some AF55
  f56:F 56=some AF56
  f57:F 57=some AF57
  f58:F 58=some AF58
  f59:F 59=some AF59
  f60:F 60=some AF60
  f61:F 61=some AF61
  f62:F 62=some AF62
  f63:F 63=some AF63
  f64:F 64=some AF64
  f65:F 65=some AF65
  f66:F 66=some AF66
  f67:F 67=some AF67
  f68:F 68=some AF68
  f69:F 69=some AF69
  f70:F 70=some AF70
  f71:F 71=some AF71
  f72:F 72=some AF72
  f73:F 73=some AF73
  f74:F 74=some AF74
  f75:F 75=some AF75
  f76:F 76=some AF76
  f77:F 77=some AF77
  f78:F 78=some AF78
  f79:F 79=some AF79
  f80:F 80=some AF80
  f81:F 81=some AF81
  f82:F 82=some AF82
  f83:F 83=some AF83
  f84:F 84=some AF84
  f85:F 85=some AF85
  f86:F 86=some AF86
  f87:F 87=some AF87
  f88:F 88=some AF88
  f89:F 89=some AF89
  f90:F 90=some AF90
  f91:F 91=some AF91
  f92:F 92=some AF92
  f93:F 93=some AF93
  f94:F 94=some AF94
  f95:F 95=some AF95
  f96:F 96=some AF96
  f97:F 97=some AF97
  f98:F 98=some AF98
  f107:F 107=some AF107
  f108:F 108=some AF108
  f109:F 109=some AF109
  f110:F 110=some AF110
  f111:F 111=some AF111
  f112:F 112=some AF112
  f113:F 113=some AF113
  f114:F 114=some AF114
  f115:F 115=some AF115
  f116:F 116=some AF116
  f117:F 117=some AF117
  f118:F 118=some AF118
  f119:F 119=some AF119
  f120:F 120=some AF120
  f121:F 121=some AF121
  f122:F 122=some AF122
  f123:F 123=some AF123
  f124:F 124=some AF124
  f125:F 125=some AF125
  f126:F 126=some AF126
  f127:F 127=some AF127
  f128:F 128=some AF128
  f129:F 129=some AF129
  f130:F 130=some AF130
  f131:F 131=some AF131
  f132:F 132=some AF132
  f138:F 138=some AF138
  f139:F 139=some AF139
  f140:F 140=some AF140
  f141:F 141=some AF141
  f142:F 142=some AF142
  f143:F 143=some AF143
  f144:F 144=some AF144
  f146:F 146=some AF146
  f147:F 147=some AF147
  f148:F 148=some AF148
  f149:F 149=some AF149
  f150:F 150=some AF150
  f151:F 151=some AF151
  f152:F 152=some AF152
  f153:F 153=some AF153
  f154:F 154=some AF154
  f155:F 155=some AF155
  f156:F 156=some AF156
  f157:F 157=some AF157
  f175:F 175=some AF175
  f176:F 176=some AF176
  f177:F 177=some AF177
  f178:F 178=some AF178
end
section
variable {F:FuncId→Option AFunc} {meth:Meth} {sm0:Summ}
theorem c4 (T:FT F) (M:Mth meth) (Z:Z0 sm0) {j:Nat} (hj:1≤j):H4 (smN F meth sm0 j):=by
  unfold H4
  rw[smN_at (f:=4) (i:=0) (by decide) hj]
  intro s m
  intros
  exact Ev.pure (e4 (s:=s) T.f4 (smN_none Z (by decide) (.inr (by decide))) 28000 _ _ _ (by assumption)) rfl (by simp[AV.refs,refsL,refs_i,outL,outB,termC,useC,out38])
theorem c19 (T:FT F) (M:Mth meth) (Z:Z0 sm0) {j:Nat} (hj:1≤j):H19 (smN F meth sm0 j):=by
  unfold H19
  rw[smN_at (f:=19) (i:=0) (by decide) hj]
  intro s m
  intros
  exact Ev.pure (e19 (s:=s) T.f19 (smN_none Z (by decide) (.inr (by decide))) 28000 _ _ _ (by assumption) (by assumption) (by assumption)) rfl (by simp[AV.refs,refsL,refs_i,outL,outB,termC,useC,out38])
theorem c26 (T:FT F) (M:Mth meth) (Z:Z0 sm0) {j:Nat} (hj:1≤j):H26 (smN F meth sm0 j):=by
  unfold H26
  rw[smN_at (f:=26) (i:=0) (by decide) hj]
  intro c x b own m
  intros
  exact Ev.pure (e26 (c:=c) (x:=x) (b:=b) (own:=own) T.f26 (smN_none Z (by decide) (.inr (by decide))) 28000 _ _ _ (by assumption)) rfl (by simp[AV.refs,refsL,refs_i,outL,outB,termC,useC,out38])
theorem c45 (T:FT F) (M:Mth meth) (Z:Z0 sm0) {j:Nat} (hj:1≤j):H45 (smN F meth sm0 j):=by
  unfold H45
  rw[smN_at (f:=45) (i:=0) (by decide) hj]
  intro l v m
  intros
  exact Ev.pure (e45 (l:=l) (v:=v) T.f45 (smN_none Z (by decide) (.inr (by decide))) 28000 _ _ _ (by assumption) (by assumption)) rfl (by simp[AV.refs,refsL,refs_i,outL,outB,termC,useC,out38])
theorem c49 (T:FT F) (M:Mth meth) (Z:Z0 sm0) {j:Nat} (hj:1≤j):H49 (smN F meth sm0 j):=by
  unfold H49
  rw[smN_at (f:=49) (i:=0) (by decide) hj]
  intro s x m
  intros
  exact Ev.pure (e49 (s:=s) (x:=x) T.f49 (smN_none Z (by decide) (.inr (by decide))) 28000 _ _ _ (by assumption) (by assumption)) rfl (by simp[AV.refs,refsL,refs_i,outL,outB,termC,useC,out38])
theorem c50 (T:FT F) (M:Mth meth) (Z:Z0 sm0) {j:Nat} (hj:1≤j):H50 (smN F meth sm0 j):=by
  unfold H50
  rw[smN_at (f:=50) (i:=0) (by decide) hj]
  intro l v w m
  intros
  exact Ev.pure (e50 (l:=l) (v:=v) (w:=w) T.f50 (smN_none Z (by decide) (.inr (by decide))) 28000 _ _ _ (by assumption) (by assumption) (by assumption)) rfl (by simp[AV.refs,refsL,refs_i,outL,outB,termC,useC,out38])
theorem c55 (T:FT F) (M:Mth meth) (Z:Z0 sm0) {j:Nat} (hj:1≤j):H55 (smN F meth sm0 j):=by
  unfold H55
  rw[smN_at (f:=55) (i:=0) (by decide) hj]
  intro n c r d m
  intros
  exact Ev.pure (e55 (c:=c) (r:=r) T.f55 (smN_none Z (by decide) (.inr (by decide))) 28000 _ _ _ (by assumption)) rfl (by simp[AV.refs,refsL,refs_i,outL,outB,termC,useC,out38])
theorem c58 (T:FT F) (M:Mth meth) (Z:Z0 sm0) {j:Nat} (hj:1≤j):H58 (smN F meth sm0 j):=by
  unfold H58 HcF
  rw[smN_at (f:=58) (i:=0) (by decide) hj]
  intro c x b own m
  intros
  exact Ev.pure (e58 (c:=c) (x:=x) (b:=b) (own:=own) T.f58 (smN_none Z (by decide) (.inr (by decide))) 28000 _ _ _ (by assumption)) rfl (by simp[AV.refs,refsL,refs_i,outL,outB,termC,useC,out38])
theorem c67 (T:FT F) (M:Mth meth) (Z:Z0 sm0) {j:Nat} (hj:1≤j):H67 (smN F meth sm0 j):=by
  unfold H67
  rw[smN_at (f:=67) (i:=0) (by decide) hj]
  intro s m
  intros
  exact Ev.pure (e67 (s:=s) T.f67 (smN_none Z (by decide) (.inr (by decide))) 28000 _ _ _ (by assumption) (by assumption) (by assumption)) rfl (by simp[AV.refs,refsL,refs_i,outL,outB,termC,useC,out38])
theorem c70 (T:FT F) (M:Mth meth) (Z:Z0 sm0) {j:Nat} (hj:1≤j):H70 (smN F meth sm0 j):=by
  unfold H70
  rw[smN_at (f:=70) (i:=0) (by decide) hj]
  intro a m
  intros
  exact Ev.pure (e70 (a:=a) T.f70 (smN_none Z (by decide) (.inr (by decide))) 28000 _ _ _) rfl (by simp[AV.refs,refsL,refs_i,outL,outB,termC,useC,out38])
theorem c71 (T:FT F) (M:Mth meth) (Z:Z0 sm0) {j:Nat} (hj:1≤j):H71 (smN F meth sm0 j):=by
  unfold H71
  rw[smN_at (f:=71) (i:=0) (by decide) hj]
  intro l v m
  intros
  exact Ev.pure (e71 (l:=l) (v:=v) T.f71 (smN_none Z (by decide) (.inr (by decide))) 28000 _ _ _ (by assumption) (by assumption)) rfl (by simp[AV.refs,refsL,refs_i,outL,outB,termC,useC,out38])
theorem c72 (T:FT F) (M:Mth meth) (Z:Z0 sm0) {j:Nat} (hj:1≤j):H72 (smN F meth sm0 j):=by
  unfold H72
  rw[smN_at (f:=72) (i:=0) (by decide) hj]
  intro l v m
  intros
  exact Ev.pure (e72 (l:=l) (v:=v) T.f72 (smN_none Z (by decide) (.inr (by decide))) 28000 _ _ _ (by assumption) (by assumption)) rfl (by simp[AV.refs,refsL,refs_i,outL,outB,termC,useC,out38])
theorem c75 (T:FT F) (M:Mth meth) (Z:Z0 sm0) {j:Nat} (hj:1≤j):H75 (smN F meth sm0 j):=by
  unfold H75
  rw[smN_at (f:=75) (i:=0) (by decide) hj]
  intro c m
  intros
  exact Ev.pure (e75 (c:=c) T.f75 (smN_none Z (by decide) (.inr (by decide))) 28000 _ _ _) rfl (by simp[AV.refs,refsL,refs_i,outL,outB,termC,useC,out38])
theorem c78 (T:FT F) (M:Mth meth) (Z:Z0 sm0) {j:Nat} (hj:1≤j):H78 (smN F meth sm0 j):=by
  unfold H78 HcF
  rw[smN_at (f:=78) (i:=0) (by decide) hj]
  intro c x b own m
  intros
  exact Ev.pure (e78 (c:=c) (x:=x) (b:=b) (own:=own) T.f78 (smN_none Z (by decide) (.inr (by decide))) 28000 _ _ _ (by assumption)) rfl (by simp[AV.refs,refsL,refs_i,outL,outB,termC,useC,out38])
theorem c81 (T:FT F) (M:Mth meth) (Z:Z0 sm0) {j:Nat} (hj:1≤j):H81 (smN F meth sm0 j):=by
  unfold H81
  rw[smN_at (f:=81) (i:=0) (by decide) hj]
  intro x m
  intros
  exact Ev.pure (e81 (x:=x) T.f81 (smN_none Z (by decide) (.inr (by decide))) 28000 _ _ _ (smN_none Z (by decide) (.inl (by decide))) T.f116 (smN_none Z (by decide) (.inl (by decide))) T.f138 (by assumption)) rfl (by simp[AV.refs,refsL,refs_i,outL,outB,termC,useC,out38])
theorem c84 (T:FT F) (M:Mth meth) (Z:Z0 sm0) {j:Nat} (hj:1≤j):H84 (smN F meth sm0 j):=by
  unfold H84
  rw[smN_at (f:=84) (i:=0) (by decide) hj]
  intro x m
  intros
  exact Ev.pure (e84 (x:=x) T.f84 (smN_none Z (by decide) (.inr (by decide))) 28000 _ _ _) rfl (by simp[AV.refs,refsL,refs_i,outL,outB,termC,useC,out38])
theorem c90 (T:FT F) (M:Mth meth) (Z:Z0 sm0) {j:Nat} (hj:1≤j):H90 (smN F meth sm0 j):=by
  unfold H90
  rw[smN_at (f:=90) (i:=0) (by decide) hj]
  intro a b c m
  intros
  exact Ev.pure (e90 (a:=a) (b:=b) (c:=c) T.f90 (smN_none Z (by decide) (.inr (by decide))) 28000 _ _ _) rfl (by simp[AV.refs,refsL,refs_i,outL,outB,termC,useC,out38])
theorem c91 (T:FT F) (M:Mth meth) (Z:Z0 sm0) {j:Nat} (hj:1≤j):H91 (smN F meth sm0 j):=by
  unfold H91
  rw[smN_at (f:=91) (i:=0) (by decide) hj]
  intro c m
  intros
  exact Ev.pure (e91 (c:=c) T.f91 (smN_none Z (by decide) (.inr (by decide))) 28000 _ _ _) rfl (by simp[AV.refs,refsL,refs_i,outL,outB,termC,useC,out38])
theorem c92 (T:FT F) (M:Mth meth) (Z:Z0 sm0) {j:Nat} (hj:1≤j):H92 (smN F meth sm0 j):=by
  unfold H92
  rw[smN_at (f:=92) (i:=0) (by decide) hj]
  intro a b m
  intros
  exact Ev.pure (e92 (a:=a) (b:=b) T.f92 (smN_none Z (by decide) (.inr (by decide))) 28000 _ _ _) rfl (by simp[AV.refs,refsL,refs_i,outL,outB,termC,useC,out38])
theorem c93 (T:FT F) (M:Mth meth) (Z:Z0 sm0) {j:Nat} (hj:1≤j):H93 (smN F meth sm0 j):=by
  unfold H93
  rw[smN_at (f:=93) (i:=0) (by decide) hj]
  intro a b m
  intros
  exact Ev.pure (e93 (a:=a) (b:=b) T.f93 (smN_none Z (by decide) (.inr (by decide))) 28000 _ _ _) rfl (by simp[AV.refs,refsL,refs_i,outL,outB,termC,useC,out38])
theorem c107 (T:FT F) (M:Mth meth) (Z:Z0 sm0) {j:Nat} (hj:1≤j):H107 (smN F meth sm0 j):=by
  unfold H107
  rw[smN_at (f:=107) (i:=0) (by decide) hj]
  intro x m
  intros
  exact Ev.pure (e107 (x:=x) T.f107 (smN_none Z (by decide) (.inr (by decide))) 28000 _ _ _ (by assumption)) rfl (by simp[AV.refs,refsL,refs_i,outL,outB,termC,useC,out38])
theorem c108 (T:FT F) (M:Mth meth) (Z:Z0 sm0) {j:Nat} (hj:1≤j):H108 (smN F meth sm0 j):=by
  unfold H108
  rw[smN_at (f:=108) (i:=0) (by decide) hj]
  intro l v m
  intros
  exact Ev.pure (e108 (l:=l) (v:=v) T.f108 (smN_none Z (by decide) (.inr (by decide))) 28000 _ _ _ (by assumption) (by assumption)) rfl (by simp[AV.refs,refsL,refs_i,outL,outB,termC,useC,out38])
theorem c109 (T:FT F) (M:Mth meth) (Z:Z0 sm0) {j:Nat} (hj:1≤j):H109 (smN F meth sm0 j):=by
  unfold H109
  rw[smN_at (f:=109) (i:=0) (by decide) hj]
  intro x m
  intros
  exact Ev.pure (e109 (x:=x) T.f109 (smN_none Z (by decide) (.inr (by decide))) 28000 _ _ _) rfl (by simp[AV.refs,refsL,refs_i,outL,outB,termC,useC,out38])
theorem c110 (T:FT F) (M:Mth meth) (Z:Z0 sm0) {j:Nat} (hj:1≤j):H110 (smN F meth sm0 j):=by
  unfold H110
  rw[smN_at (f:=110) (i:=0) (by decide) hj]
  intro x a b m
  intros
  exact Ev.pure (e110 (x:=x) (a:=a) (b:=b) T.f110 (smN_none Z (by decide) (.inr (by decide))) 28000 _ _ _) rfl (by simp[AV.refs,refsL,refs_i,outL,outB,termC,useC,out38])
theorem c112 (T:FT F) (M:Mth meth) (Z:Z0 sm0) {j:Nat} (hj:1≤j):H112 (smN F meth sm0 j):=by
  unfold H112
  rw[smN_at (f:=112) (i:=0) (by decide) hj]
  intro l v m
  intros
  exact Ev.pure (e112 (l:=l) (v:=v) T.f112 (smN_none Z (by decide) (.inr (by decide))) 28000 _ _ _ (by assumption) (by assumption)) rfl (by simp[AV.refs,refsL,refs_i,outL,outB,termC,useC,out38])
theorem c113 (T:FT F) (M:Mth meth) (Z:Z0 sm0) {j:Nat} (hj:1≤j):H113 (smN F meth sm0 j):=by
  unfold H113
  rw[smN_at (f:=113) (i:=0) (by decide) hj]
  intro b m
  intros
  exact Ev.pure (e113 (b:=b) T.f113 (smN_none Z (by decide) (.inr (by decide))) 28000 _ _ _) rfl (by simp[AV.refs,refsL,refs_i,outL,outB,termC,useC,out38])
theorem c115 (T:FT F) (M:Mth meth) (Z:Z0 sm0) {j:Nat} (hj:1≤j):H115 (smN F meth sm0 j):=by
  unfold H115
  rw[smN_at (f:=115) (i:=0) (by decide) hj]
  intro x m
  intros
  exact Ev.pure (e115 (x:=x) T.f115 (smN_none Z (by decide) (.inr (by decide))) 28000 _ _ _ (smN_none Z (by decide) (.inl (by decide))) T.f116 (smN_none Z (by decide) (.inl (by decide))) T.f138 (by assumption)) rfl (by simp[AV.refs,refsL,refs_i,outL,outB,termC,useC,out38])
theorem c121 (T:FT F) (M:Mth meth) (Z:Z0 sm0) {j:Nat} (hj:1≤j):H121 (smN F meth sm0 j):=by
  unfold H121
  rw[smN_at (f:=121) (i:=0) (by decide) hj]
  intro k m
  intros
  exact Ev.pure (e121 (k:=k) T.f121 (smN_none Z (by decide) (.inr (by decide))) 28000 _ _ _) rfl (by simp[AV.refs,refsL,refs_i,outL,outB,termC,useC,out38])
theorem c122 (T:FT F) (M:Mth meth) (Z:Z0 sm0) {j:Nat} (hj:1≤j):H122 (smN F meth sm0 j):=by
  unfold H122
  rw[smN_at (f:=122) (i:=0) (by decide) hj]
  intro u c m
  intros
  exact Ev.pure (e122 (u:=u) (c:=c) T.f122 (smN_none Z (by decide) (.inr (by decide))) 28000 _ _ _) rfl (by simp[AV.refs,refsL,refs_i,outL,outB,termC,useC,out38])
theorem c123 (T:FT F) (M:Mth meth) (Z:Z0 sm0) {j:Nat} (hj:1≤j):H123 (smN F meth sm0 j):=by
  unfold H123
  rw[smN_at (f:=123) (i:=0) (by decide) hj]
  intro s x m
  intros
  exact Ev.pure (e123 (s:=s) (x:=x) T.f123 (smN_none Z (by decide) (.inr (by decide))) 28000 _ _ _ (by assumption) (by assumption)) rfl (by simp[AV.refs,refsL,refs_i,outL,outB,termC,useC,out38])
theorem c124 (T:FT F) (M:Mth meth) (Z:Z0 sm0) {j:Nat} (hj:1≤j):H124 (smN F meth sm0 j):=by
  unfold H124
  rw[smN_at (f:=124) (i:=0) (by decide) hj]
  intro u c m
  intros
  exact Ev.pure (e124 (u:=u) (c:=c) T.f124 (smN_none Z (by decide) (.inr (by decide))) 28000 _ _ _) rfl (by simp[AV.refs,refsL,refs_i,outL,outB,termC,useC,out38])
theorem c128 (T:FT F) (M:Mth meth) (Z:Z0 sm0) {j:Nat} (hj:1≤j):H128 (smN F meth sm0 j):=by
  unfold H128
  rw[smN_at (f:=128) (i:=0) (by decide) hj]
  intro x m
  intros
  exact Ev.pure (e128 (x:=x) T.f128 (smN_none Z (by decide) (.inr (by decide))) 28000 _ _ _) rfl (by simp[AV.refs,refsL,refs_i,outL,outB,termC,useC,out38])
theorem c131 (T:FT F) (M:Mth meth) (Z:Z0 sm0) {j:Nat} (hj:1≤j):H131 (smN F meth sm0 j):=by
  unfold H131
  rw[smN_at (f:=131) (i:=0) (by decide) hj]
  intro x m
  intros
  exact Ev.pure (e131 (x:=x) T.f131 (smN_none Z (by decide) (.inr (by decide))) 28000 _ _ _) rfl (by simp[AV.refs,refsL,refs_i,outL,outB,termC,useC,out38])
theorem c140 (T:FT F) (M:Mth meth) (Z:Z0 sm0) {j:Nat} (hj:1≤j):H140 (smN F meth sm0 j):=by
  unfold H140
  rw[smN_at (f:=140) (i:=0) (by decide) hj]
  intro x m
  intros
  exact Ev.pure (e140 (x:=x) T.f140 (smN_none Z (by decide) (.inr (by decide))) 28000 _ _ _) rfl (by simp[AV.refs,refsL,refs_i,outL,outB,termC,useC,out38])
theorem c141 (T:FT F) (M:Mth meth) (Z:Z0 sm0) {j:Nat} (hj:1≤j):H141 (smN F meth sm0 j):=by
  unfold H141
  rw[smN_at (f:=141) (i:=0) (by decide) hj]
  intro b m
  intros
  exact Ev.pure (e141 (b:=b) T.f141 (smN_none Z (by decide) (.inr (by decide))) 28000 _ _ _) rfl (by simp[AV.refs,refsL,refs_i,outL,outB,termC,useC,out38])
theorem c142 (T:FT F) (M:Mth meth) (Z:Z0 sm0) {j:Nat} (hj:1≤j):H142 (smN F meth sm0 j):=by
  unfold H142
  rw[smN_at (f:=142) (i:=0) (by decide) hj]
  intro x m
  intros
  exact Ev.pure (e142 (x:=x) T.f142 (smN_none Z (by decide) (.inr (by decide))) 28000 _ _ _ (by assumption)) rfl (by simp[AV.refs,refsL,refs_i,outL,outB,termC,useC,out38])
theorem c147 (T:FT F) (M:Mth meth) (Z:Z0 sm0) {j:Nat} (hj:1≤j):H147 (smN F meth sm0 j):=by
  unfold H147
  rw[smN_at (f:=147) (i:=0) (by decide) hj]
  intro c m
  intros
  exact Ev.pure (e147 (c:=c) T.f147 (smN_none Z (by decide) (.inr (by decide))) 28000 _ _ _ (by assumption)) rfl (by simp[AV.refs,refsL,refs_i,outL,outB,termC,useC,out38])
theorem c150 (T:FT F) (M:Mth meth) (Z:Z0 sm0) {j:Nat} (hj:1≤j):H150 (smN F meth sm0 j):=by
  unfold H150
  rw[smN_at (f:=150) (i:=0) (by decide) hj]
  intro c p m
  intros
  exact Ev.pure (e150 (c:=c) (p:=p) T.f150 (smN_none Z (by decide) (.inr (by decide))) 28000 _ _ _ (by assumption) (by assumption)) rfl (by simp[AV.refs,refsL,refs_i,outL,outB,termC,useC,out38])
theorem c151 (T:FT F) (M:Mth meth) (Z:Z0 sm0) {j:Nat} (hj:1≤j):H151 (smN F meth sm0 j):=by
  unfold H151
  rw[smN_at (f:=151) (i:=0) (by decide) hj]
  intro x m
  intros
  exact Ev.pure (e151 (x:=x) T.f151 (smN_none Z (by decide) (.inr (by decide))) 28000 _ _ _) rfl (by simp[AV.refs,refsL,refs_i,outL,outB,termC,useC,out38])
theorem c153 (T:FT F) (M:Mth meth) (Z:Z0 sm0) {j:Nat} (hj:1≤j):H153 (smN F meth sm0 j):=by
  unfold H153
  rw[smN_at (f:=153) (i:=0) (by decide) hj]
  intro x a b m
  intros
  exact Ev.pure (e153 (x:=x) (a:=a) (b:=b) T.f153 (smN_none Z (by decide) (.inr (by decide))) 28000 _ _ _) rfl (by simp[AV.refs,refsL,refs_i,outL,outB,termC,useC,out38])
theorem c154 (T:FT F) (M:Mth meth) (Z:Z0 sm0) {j:Nat} (hj:1≤j):H154 (smN F meth sm0 j):=by
  unfold H154
  rw[smN_at (f:=154) (i:=0) (by decide) hj]
  intro c x m
  intros
  exact Ev.pure (e154 (c:=c) (x:=x) T.f154 (smN_none Z (by decide) (.inr (by decide))) 28000 _ _ _ (by assumption) (by assumption)) rfl (by simp[AV.refs,refsL,refs_i,outL,outB,termC,useC,out38])
theorem c155 (T:FT F) (M:Mth meth) (Z:Z0 sm0) {j:Nat} (hj:1≤j):H155 (smN F meth sm0 j):=by
  unfold H155
  rw[smN_at (f:=155) (i:=0) (by decide) hj]
  intro x m
  intros
  exact Ev.pure (e155 (x:=x) T.f155 (smN_none Z (by decide) (.inr (by decide))) 28000 _ _ _) rfl (by simp[AV.refs,refsL,refs_i,outL,outB,termC,useC,out38])
theorem c156 (T:FT F) (M:Mth meth) (Z:Z0 sm0) {j:Nat} (hj:1≤j):H156 (smN F meth sm0 j):=by
  unfold H156
  rw[smN_at (f:=156) (i:=0) (by decide) hj]
  intro c m
  intros
  exact Ev.pure (e156 (c:=c) T.f156 (smN_none Z (by decide) (.inr (by decide))) 28000 _ _ _ (by assumption)) rfl (by simp[AV.refs,refsL,refs_i,outL,outB,termC,useC,out38])
theorem c15 (T:FT F) (M:Mth meth) (Z:Z0 sm0) {j:Nat} (hj:2≤j):H15 (smN F meth sm0 j):=by
  unfold H15
  rw[smN_at (f:=15) (i:=1) (by decide) hj]
  intro s t m
  intros
  exact Ev.pure (e15 (s:=s) (t:=t) T.f15 (smN_none Z (by decide) (.inr (by decide))) 28000 _ _ _ (c50 T M Z (by decide)) (by assumption) (by assumption) (by assumption) (by assumption) (by assumption) (by assumption)) rfl (by simp[AV.refs,refsL,refs_i,outL,outB,termC,useC,out38])
theorem c40 (T:FT F) (M:Mth meth) (Z:Z0 sm0) {j:Nat} (hj:2≤j):H40 (smN F meth sm0 j):=by
  unfold H40
  rw[smN_at (f:=40) (i:=1) (by decide) hj]
  intro n c r d m
  intros
  exact Ev.pure (e40 (c:=c) (r:=r) T.f40 (smN_none Z (by decide) (.inr (by decide))) 28000 _ _ _ (c55 T M Z (by decide)) (by assumption) (by assumption) (by assumption)) rfl (by simp[AV.refs,refsL,refs_i,outL,outB,termC,useC,out38])
theorem c41 (T:FT F) (M:Mth meth) (Z:Z0 sm0) {j:Nat} (hj:2≤j):H41 (smN F meth sm0 j):=by
  unfold H41
  rw[smN_at (f:=41) (i:=1) (by decide) hj]
  intro s m
  intros
  exact Ev.pure (e41 (s:=s) T.f41 (smN_none Z (by decide) (.inr (by decide))) 28000 _ _ _ (c67 T M Z (by decide)) (by assumption) (by assumption) (by assumption)) rfl (by simp[AV.refs,refsL,refs_i,outL,outB,termC,useC,out38])
theorem c46 (T:FT F) (M:Mth meth) (Z:Z0 sm0) {j:Nat} (hj:2≤j):H46 (smN F meth sm0 j):=by
  unfold H46
  rw[smN_at (f:=46) (i:=1) (by decide) hj]
  intro a b m
  intros
  exact Ev.pure (e46 (a:=a) (b:=b) T.f46 (smN_none Z (by decide) (.inr (by decide))) 28000 _ _ _ (c70 T M Z (by decide))) rfl (by simp[AV.refs,refsL,refs_i,outL,outB,termC,useC,out38])
theorem c52 (T:FT F) (M:Mth meth) (Z:Z0 sm0) {j:Nat} (hj:2≤j):H52 (smN F meth sm0 j):=by
  unfold H52
  rw[smN_at (f:=52) (i:=1) (by decide) hj]
  intro c m
  intros
  exact Ev.pure (e52 (c:=c) T.f52 (smN_none Z (by decide) (.inr (by decide))) 28000 _ _ _ (c71 T M Z (by decide)) (c72 T M Z (by decide)) (by assumption) (by assumption)) rfl (by simp[AV.refs,refsL,refs_i,outL,outB,termC,useC,out38])
theorem c61 (T:FT F) (M:Mth meth) (Z:Z0 sm0) {j:Nat} (hj:2≤j):H61 (smN F meth sm0 j):=by
  unfold H61
  rw[smN_at (f:=61) (i:=1) (by decide) hj]
  intro l v c b own m
  intros
  exact Ev.pure (e61 (l:=l) (v:=v) (c:=c) (b:=b) (own:=own) T.f61 (smN_none Z (by decide) (.inr (by decide))) 28000 _ _ _ (c26 T M Z (by decide)) (by assumption) (by assumption) (by assumption)) rfl (by simp[AV.refs,refsL,refs_i,outL,outB,termC,useC,out38])
theorem c62 (T:FT F) (M:Mth meth) (Z:Z0 sm0) {j:Nat} (hj:2≤j):H62 (smN F meth sm0 j):=by
  unfold H62
  rw[smN_at (f:=62) (i:=1) (by decide) hj]
  intro c m
  intros
  exact Ev.pure (e62 (c:=c) T.f62 (smN_none Z (by decide) (.inr (by decide))) 28000 _ _ _ (c90 T M Z (by decide))) rfl (by simp[AV.refs,refsL,refs_i,outL,outB,termC,useC,out38])
theorem c63 (T:FT F) (M:Mth meth) (Z:Z0 sm0) {j:Nat} (hj:2≤j):H63 (smN F meth sm0 j):=by
  unfold H63
  rw[smN_at (f:=63) (i:=1) (by decide) hj]
  intro l v m
  intros
  exact Ev.pure (e63 (l:=l) (v:=v) T.f63 (smN_none Z (by decide) (.inr (by decide))) 28000 _ _ _ (c91 T M Z (by decide)) (c92 T M Z (by decide)) (c93 T M Z (by decide)) (by assumption) (by assumption)) rfl (by simp[AV.refs,refsL,refs_i,outL,outB,termC,useC,out38])
theorem c69 (T:FT F) (M:Mth meth) (Z:Z0 sm0) {j:Nat} (hj:2≤j):H69 (smN F meth sm0 j):=by
  unfold H69
  rw[smN_at (f:=69) (i:=1) (by decide) hj]
  intro x m
  intros
  exact Ev.pure (e69 (x:=x) T.f69 (smN_none Z (by decide) (.inr (by decide))) 28000 _ _ _ (c107 T M Z (by decide)) (by assumption)) rfl (by simp[AV.refs,refsL,refs_i,outL,outB,termC,useC,out38])
theorem c73 (T:FT F) (M:Mth meth) (Z:Z0 sm0) {j:Nat} (hj:2≤j):H73 (smN F meth sm0 j):=by
  unfold H73
  rw[smN_at (f:=73) (i:=1) (by decide) hj]
  intro c m
  intros
  exact Ev.pure (e73 (c:=c) T.f73 (smN_none Z (by decide) (.inr (by decide))) 28000 _ _ _ (c108 T M Z (by decide))) rfl (by simp[AV.refs,refsL,refs_i,outL,outB,termC,useC,out38])
theorem c82 (T:FT F) (M:Mth meth) (Z:Z0 sm0) {j:Nat} (hj:2≤j):H82 (smN F meth sm0 j):=by
  unfold H82
  rw[smN_at (f:=82) (i:=1) (by decide) hj]
  intro kf l v x b own m
  intro hk
  intros
  have h58:=c58 (F:=F) (meth:=meth) (sm0:=sm0) T M Z (j:=1) (by decide)
  have h78:=c78 (F:=F) (meth:=meth) (sm0:=sm0) T M Z (j:=1) (by decide)
  rcases hk with rfl |rfl
  · exact Ev.pure (e82 T.f82 (smN_none Z (by decide) (.inr (by decide))) 28000 _ _ _ h58 (by assumption) (by assumption) (by assumption)) rfl (by simp[AV.refs,refsL,refs_i,outL,outB,termC,useC,out38])
  · exact Ev.pure (e82 T.f82 (smN_none Z (by decide) (.inr (by decide))) 28000 _ _ _ h78 (by assumption) (by assumption) (by assumption)) rfl (by simp[AV.refs,refsL,refs_i,outL,outB,termC,useC,out38])
theorem c83 (T:FT F) (M:Mth meth) (Z:Z0 sm0) {j:Nat} (hj:2≤j):H83 (smN F meth sm0 j):=by
  unfold H83
  rw[smN_at (f:=83) (i:=1) (by decide) hj]
  intro x m
  intros
  exact Ev.pure (e83 (x:=x) T.f83 (smN_none Z (by decide) (.inr (by decide))) 28000 _ _ _ (c84 T M Z (by decide))) rfl (by simp[AV.refs,refsL,refs_i,outL,outB,termC,useC,out38])
theorem c111 (T:FT F) (M:Mth meth) (Z:Z0 sm0) {j:Nat} (hj:2≤j):H111 (smN F meth sm0 j):=by
  unfold H111
  rw[smN_at (f:=111) (i:=1) (by decide) hj]
  intro x m
  intros
  exact Ev.pure (e111 (x:=x) T.f111 (c112 T M Z (by decide)) (smN_none Z (by decide) (.inr (by decide))) 28000 _ _ _) rfl (by simp[AV.refs,refsL,refs_i,outL,outB,termC,useC,out38])
theorem c114 (T:FT F) (M:Mth meth) (Z:Z0 sm0) {j:Nat} (hj:2≤j):H114 (smN F meth sm0 j):=by
  unfold H114
  rw[smN_at (f:=114) (i:=1) (by decide) hj]
  intro l v m
  intros
  exact Ev.pure (e114 (l:=l) (v:=v) T.f114 (smN_none Z (by decide) (.inr (by decide))) 28000 _ _ _ (c115 T M Z (by decide)) (by assumption) (by assumption) (by assumption)) rfl (by simp[AV.refs,refsL,refs_i,outL,outB,termC,useC,out38])
theorem c125 (T:FT F) (M:Mth meth) (Z:Z0 sm0) {j:Nat} (hj:2≤j):H125 (smN F meth sm0 j):=by
  unfold H125
  rw[smN_at (f:=125) (i:=1) (by decide) hj]
  intro b m
  intros
  exact Ev.pure (e125 (b:=b) T.f125 (smN_none Z (by decide) (.inr (by decide))) 28000 _ _ _ (c140 T M Z (by decide)) (by assumption) (by assumption)) rfl (by simp[AV.refs,refsL,refs_i,outL,outB,termC,useC,out38])
theorem c126 (T:FT F) (M:Mth meth) (Z:Z0 sm0) {j:Nat} (hj:2≤j):H126 (smN F meth sm0 j):=by
  unfold H126
  rw[smN_at (f:=126) (i:=1) (by decide) hj]
  intro b m
  intros
  exact Ev.pure (e126 (b:=b) T.f126 (smN_none Z (by decide) (.inr (by decide))) 28000 _ _ _ (c141 T M Z (by decide)) (c142 T M Z (by decide)) (by assumption) (by assumption)) rfl (by simp[AV.refs,refsL,refs_i,outL,outB,termC,useC,out38])
theorem c127 (T:FT F) (M:Mth meth) (Z:Z0 sm0) {j:Nat} (hj:2≤j):H127 (smN F meth sm0 j):=by
  unfold H127
  rw[smN_at (f:=127) (i:=1) (by decide) hj]
  intro s m
  intros
  exact Ev.pure (e127 (s:=s) T.f127 (smN_none Z (by decide) (.inr (by decide))) 28000 _ _ _ (c142 T M Z (by decide)) (by assumption)) rfl (by simp[AV.refs,refsL,refs_i,outL,outB,termC,useC,out38])
theorem c143 (T:FT F) (M:Mth meth) (Z:Z0 sm0) {j:Nat} (hj:2≤j):H143 (smN F meth sm0 j):=by
  unfold H143
  rw[smN_at (f:=143) (i:=1) (by decide) hj]
  intro x y m
  intros
  exact Ev.pure (e143 (x:=x) (y:=y) T.f143 (smN_none Z (by decide) (.inr (by decide))) 28000 _ _ _ (c151 T M Z (by decide))) rfl (by simp[AV.refs,refsL,refs_i,outL,outB,termC,useC,out38])
theorem c146 (T:FT F) (M:Mth meth) (Z:Z0 sm0) {j:Nat} (hj:2≤j):H146 (smN F meth sm0 j):=by
  unfold H146
  rw[smN_at (f:=146) (i:=1) (by decide) hj]
  intro x m
  intros
  exact Ev.pure (e146 (x:=x) T.f146 (smN_none Z (by decide) (.inr (by decide))) 28000 _ _ _ (c153 T M Z (by decide))) rfl (by simp[AV.refs,refsL,refs_i,outL,outB,termC,useC,out38])
theorem c148 (T:FT F) (M:Mth meth) (Z:Z0 sm0) {j:Nat} (hj:2≤j):H148 (smN F meth sm0 j):=by
  unfold H148
  rw[smN_at (f:=148) (i:=1) (by decide) hj]
  intro x m
  intros
  exact Ev.pure (e148 (x:=x) T.f148 (smN_none Z (by decide) (.inr (by decide))) 28000 _ _ _ (c153 T M Z (by decide))) rfl (by simp[AV.refs,refsL,refs_i,outL,outB,termC,useC,out38])
theorem c149 (T:FT F) (M:Mth meth) (Z:Z0 sm0) {j:Nat} (hj:2≤j):H149 (smN F meth sm0 j):=by
  unfold H149
  rw[smN_at (f:=149) (i:=1) (by decide) hj]
  intro c x m
  intros
  exact Ev.pure (e149 (c:=c) (x:=x) T.f149 (smN_none Z (by decide) (.inr (by decide))) 28000 _ _ _ (c154 T M Z (by decide)) (by assumption) (by assumption)) rfl (by simp[AV.refs,refsL,refs_i,outL,outB,termC,useC,out38])
theorem c157 (T:FT F) (M:Mth meth) (Z:Z0 sm0) {j:Nat} (hj:2≤j):H157 (smN F meth sm0 j):=by
  unfold H157
  rw[smN_at (f:=157) (i:=1) (by decide) hj]
  intro c x m
  intros
  exact Ev.pure (e157 (c:=c) (x:=x) T.f157 (smN_none Z (by decide) (.inr (by decide))) 28000 _ _ _ (c156 T M Z (by decide)) (by assumption) (by assumption)) rfl (by simp[AV.refs,refsL,refs_i,outL,outB,termC,useC,out38])
theorem c20 (T:FT F) (M:Mth meth) (Z:Z0 sm0) {j:Nat} (hj:3≤j):H20 (smN F meth sm0 j):=by
  unfold H20
  rw[smN_at (f:=20) (i:=2) (by decide) hj]
  intro n c r d m
  intros
  exact Ev.pure (e20 (c:=c) (r:=r) T.f20 (smN_none Z (by decide) (.inr (by decide))) 28000 _ _ _ (c40 T M Z (by decide)) (c55 T M Z (by decide)) (by assumption) (by assumption) (by assumption) (by assumption)) rfl (by simp[AV.refs,refsL,refs_i,outL,outB,termC,useC,out38])
theorem c27 (T:FT F) (M:Mth meth) (Z:Z0 sm0) {j:Nat} (hj:3≤j):H27 (smN F meth sm0 j):=by
  unfold H27
  rw[smN_at (f:=27) (i:=2) (by decide) hj]
  intro l v c b own m
  intros
  exact Ev.pure (e27 (l:=l) (v:=v) (c:=c) (b:=b) (own:=own) T.f27 (smN_none Z (by decide) (.inr (by decide))) 28000 _ _ _ (c61 T M Z (by decide)) (by assumption) (by assumption) (by assumption)) rfl (by simp[AV.refs,refsL,refs_i,outL,outB,termC,useC,out38])
theorem c42 (T:FT F) (M:Mth meth) (Z:Z0 sm0) {j:Nat} (hj:3≤j):H42 (smN F meth sm0 j):=by
  unfold H42
  rw[smN_at (f:=42) (i:=2) (by decide) hj]
  intro s m
  intros
  exact Ev.pure (e42 (s:=s) T.f42 (smN_none Z (by decide) (.inr (by decide))) 28000 _ _ _ (c67 T M Z (by decide)) (c41 T M Z (by decide)) (by assumption) (by assumption) (by assumption)) rfl (by simp[AV.refs,refsL,refs_i,outL,outB,termC,useC,out38])
theorem c44 (T:FT F) (M:Mth meth) (Z:Z0 sm0) {j:Nat} (hj:3≤j):H44 (smN F meth sm0 j):=by
  unfold H44
  rw[smN_at (f:=44) (i:=2) (by decide) hj]
  intro s i j bs own m
  intros
  exact Ev.pure (e44 (s:=s) (i:=i) (j:=j) (bs:=bs) (own:=own) T.f44 (smN_none Z (by decide) (.inr (by decide))) 28000 _ _ _ (c46 T M Z (by decide)) (c45 T M Z (by decide)) (by assumption) (by assumption) (by assumption) (by assumption) (by assumption)) rfl (by simp[AV.refs,refsL,refs_i,outL,outB,termC,useC,out38])
theorem c57 (T:FT F) (M:Mth meth) (Z:Z0 sm0) {j:Nat} (hj:3≤j):H57 (smN F meth sm0 j):=by
  unfold H57
  rw[smN_at (f:=57) (i:=2) (by decide) hj]
  intro kf l v x b own m
  intros
  exact Ev.pure (e57 (kf:=kf) (l:=l) (v:=v) (x:=x) (b:=b) (own:=own) T.f57 (smN_none Z (by decide) (.inr (by decide))) 28000 _ _ _ (c82 T M Z (by decide)) (by assumption) (by assumption) (by assumption) (by assumption)) rfl (by simp[AV.refs,refsL,refs_i,outL,outB,termC,useC,out38])
theorem c74 (T:FT F) (M:Mth meth) (Z:Z0 sm0) {j:Nat} (hj:3≤j):H74 (smN F meth sm0 j):=by
  unfold H74
  rw[smN_at (f:=74) (i:=2) (by decide) hj]
  intro a b m
  intros
  exact Ev.pure (e74 (a:=a) (b:=b) T.f74 (smN_none Z (by decide) (.inr (by decide))) 28000 _ _ _ (c46 T M Z (by decide)) (c45 T M Z (by decide))) rfl (by simp[AV.refs,refsL,refs_i,outL,outB,termC,useC,out38])
theorem c79 (T:FT F) (M:Mth meth) (Z:Z0 sm0) {j:Nat} (hj:3≤j):H79 (smN F meth sm0 j):=by
  unfold H79
  rw[smN_at (f:=79) (i:=2) (by decide) hj]
  intro b m
  intros
  exact Ev.pure (e79 (b:=b) T.f79 (smN_none Z (by decide) (.inr (by decide))) 28000 _ _ _ (c111 T M Z (by decide)) (c112 T M Z (by decide)) (by assumption) (by assumption)) rfl (by simp[AV.refs,refsL,refs_i,outL,outB,termC,useC,out38])
theorem c80 (T:FT F) (M:Mth meth) (Z:Z0 sm0) {j:Nat} (hj:3≤j):H80 (smN F meth sm0 j):=by
  unfold H80
  rw[smN_at (f:=80) (i:=2) (by decide) hj]
  intro b own m
  intros
  exact Ev.pure (e80 (b:=b) (own:=own) T.f80 (smN_none Z (by decide) (.inr (by decide))) 28000 _ _ _ (c113 T M Z (by decide)) (c114 T M Z (by decide)) (c115 T M Z (by decide)) (by assumption) (by assumption) (by assumption)) rfl (by simp[AV.refs,refsL,refs_i,outL,outB,termC,useC,out38])
theorem c94 (T:FT F) (M:Mth meth) (Z:Z0 sm0) {j:Nat} (hj:3≤j):H94 (smN F meth sm0 j):=by
  unfold H94
  rw[smN_at (f:=94) (i:=2) (by decide) hj]
  intro s c m
  intros
  exact Ev.pure (e94 (s:=s) (c:=c) T.f94 (smN_none Z (by decide) (.inr (by decide))) 28000 _ _ _ (c121 T M Z (by decide)) (c122 T M Z (by decide)) (c123 T M Z (by decide)) (c124 T M Z (by decide)) (c125 T M Z (by decide)) (by assumption) (by assumption) (by assumption) (by assumption)) rfl (by simp[AV.refs,refsL,refs_i,outL,outB,termC,useC,out38])
theorem c117 (T:FT F) (M:Mth meth) (Z:Z0 sm0) {j:Nat} (hj:3≤j):H117 (smN F meth sm0 j):=by
  unfold H117
  rw[smN_at (f:=117) (i:=2) (by decide) hj]
  intro l v m
  intros
  exact Ev.pure (e117 (l:=l) (v:=v) T.f117 (smN_none Z (by decide) (.inr (by decide))) 28000 _ _ _ (c83 T M Z (by decide)) (by assumption) (by assumption) (by assumption)) rfl (by simp[AV.refs,refsL,refs_i,outL,outB,termC,useC,out38])
theorem c129 (T:FT F) (M:Mth meth) (Z:Z0 sm0) {j:Nat} (hj:3≤j):H129 (smN F meth sm0 j):=by
  unfold H129
  rw[smN_at (f:=129) (i:=2) (by decide) hj]
  intro s m
  intros
  exact Ev.pure (e129 (s:=s) T.f129 (smN_none Z (by decide) (.inr (by decide))) 28000 _ _ _ (c143 T M Z (by decide)) (by assumption)) rfl (by simp[AV.refs,refsL,refs_i,outL,outB,termC,useC,out38])
theorem c130 (T:FT F) (M:Mth meth) (Z:Z0 sm0) {j:Nat} (hj:3≤j):H130 (smN F meth sm0 j):=by
  unfold H130
  rw[smN_at (f:=130) (i:=2) (by decide) hj]
  intro l v z m
  intros
  exact Ev.pure (e130 (l:=l) (v:=v) (z:=z) T.f130 (smN_none Z (by decide) (.inr (by decide))) 28000 _ _ _ (c63 T M Z (by decide)) (by assumption) (by assumption) (by assumption) (by assumption)) rfl (by simp[AV.refs,refsL,refs_i,outL,outB,termC,useC,out38])
theorem c139 (T:FT F) (M:Mth meth) (Z:Z0 sm0) {j:Nat} (hj:3≤j):H139 (smN F meth sm0 j):=by
  unfold H139
  rw[smN_at (f:=139) (i:=2) (by decide) hj]
  intro c z x m
  intros
  exact Ev.pure (e139 (c:=c) (z:=z) (x:=x) T.f139 (smN_none Z (by decide) (.inr (by decide))) 28000 _ _ _ (c73 T M Z (by decide)) (c146 T M Z (by decide)) (c147 T M Z (by decide)) (c148 T M Z (by decide)) (c149 T M Z (by decide)) (c150 T M Z (by decide)) (by assumption) (by assumption) (by assumption)) rfl (by simp[AV.refs,refsL,refs_i,outL,outB,termC,useC,out38])
theorem c152 (T:FT F) (M:Mth meth) (Z:Z0 sm0) {j:Nat} (hj:3≤j):H152 (smN F meth sm0 j):=by
  unfold H152
  rw[smN_at (f:=152) (i:=2) (by decide) hj]
  intro c z x m
  intros
  exact Ev.pure (e152 (c:=c) (z:=z) (x:=x) T.f152 (smN_none Z (by decide) (.inr (by decide))) 28000 _ _ _ (c91 T M Z (by decide)) (c155 T M Z (by decide)) (c156 T M Z (by decide)) (c157 T M Z (by decide)) (by assumption) (by assumption) (by assumption)) rfl (by simp[AV.refs,refsL,refs_i,outL,outB,termC,useC,out38])
theorem c23 (T:FT F) (M:Mth meth) (Z:Z0 sm0) {j:Nat} (hj:4≤j):H23 (smN F meth sm0 j):=by
  unfold H23
  rw[smN_at (f:=23) (i:=3) (by decide) hj]
  intro s x m
  intros
  exact Ev.pure (e23 (s:=s) (x:=x) T.f23 (smN_none Z (by decide) (.inr (by decide))) 28000 _ _ _ (c57 T M Z (by decide)) (by assumption) (by assumption)) rfl (by simp[AV.refs,refsL,refs_i,outL,outB,termC,useC,out38])
theorem c39 (T:FT F) (M:Mth meth) (Z:Z0 sm0) {j:Nat} (hj:4≤j):H39 (smN F meth sm0 j):=by
  unfold H39
  rw[smN_at (f:=39) (i:=3) (by decide) hj]
  intro s m
  intros
  exact Ev.pure (e39 (s:=s) T.f39 (smN_none Z (by decide) (.inr (by decide))) 28000 _ _ _ (c42 T M Z (by decide)) (c49 T M Z (by decide)) (by assumption) (by assumption) (by assumption)) rfl (by simp[AV.refs,refsL,refs_i,outL,outB,termC,useC,out38])
theorem c53 (T:FT F) (M:Mth meth) (Z:Z0 sm0) {j:Nat} (hj:4≤j):H53 (smN F meth sm0 j):=by
  unfold H53
  rw[smN_at (f:=53) (i:=3) (by decide) hj]
  intro l v m
  intros
  exact Ev.pure (e53 (l:=l) (v:=v) T.f53 (smN_none Z (by decide) (.inr (by decide))) 28000 _ _ _ (c73 T M Z (by decide)) (c74 T M Z (by decide)) (c75 T M Z (by decide)) (by assumption) (by assumption)) rfl (by simp[AV.refs,refsL,refs_i,outL,outB,termC,useC,out38])
theorem c56 (T:FT F) (M:Mth meth) (Z:Z0 sm0) {j:Nat} (hj:4≤j):H56 (smN F meth sm0 j):=by
  unfold H56
  rw[smN_at (f:=56) (i:=3) (by decide) hj]
  intro b own m
  intros
  exact Ev.pure (e56 (b:=b) (own:=own) T.f56 (smN_none Z (by decide) (.inr (by decide))) 28000 _ _ _ (c79 T M Z (by decide)) (c80 T M Z (by decide)) (c81 T M Z (by decide)) (by assumption) (by assumption) (by assumption) (by assumption)) rfl (by simp[AV.refs,refsL,refs_i,outL,outB,termC,useC,out38])
theorem c64 (T:FT F) (M:Mth meth) (Z:Z0 sm0) {j:Nat} (hj:4≤j):H64 (smN F meth sm0 j):=by
  unfold H64
  rw[smN_at (f:=64) (i:=3) (by decide) hj]
  intro s c m
  intros
  exact Ev.pure (e64 (s:=s) (c:=c) T.f64 (smN_none Z (by decide) (.inr (by decide))) 28000 _ _ _ (c94 T M Z (by decide)) (by assumption) (by assumption) (by assumption) (by assumption)) rfl (by simp[AV.refs,refsL,refs_i,outL,outB,termC,useC,out38])
theorem c77 (T:FT F) (M:Mth meth) (Z:Z0 sm0) {j:Nat} (hj:4≤j):H77 (smN F meth sm0 j):=by
  unfold H77
  rw[smN_at (f:=77) (i:=3) (by decide) hj]
  intro s x b own m
  intros
  exact Ev.pure (e77 (s:=s) (x:=x) (b:=b) (own:=own) T.f77 (smN_none Z (by decide) (.inr (by decide))) 28000 _ _ _ (c57 T M Z (by decide)) (by assumption) (by assumption) (by assumption)) rfl (by simp[AV.refs,refsL,refs_i,outL,outB,termC,useC,out38])
theorem c85 (T:FT F) (M:Mth meth) (Z:Z0 sm0) {j:Nat} (hj:4≤j):H85 (smN F meth sm0 j):=by
  unfold H85
  rw[smN_at (f:=85) (i:=3) (by decide) hj]
  intro l v m
  intros
  exact Ev.pure (e85 (l:=l) (v:=v) T.f85 (smN_none Z (by decide) (.inr (by decide))) 28000 _ _ _ (c117 T M Z (by decide)) (by assumption) (by assumption) (by assumption)) rfl (by simp[AV.refs,refsL,refs_i,outL,outB,termC,useC,out38])
theorem c95 (T:FT F) (M:Mth meth) (Z:Z0 sm0) {j:Nat} (hj:4≤j):H95 (smN F meth sm0 j):=by
  unfold H95
  rw[smN_at (f:=95) (i:=3) (by decide) hj]
  intro b m
  intros
  exact Ev.pure (e95 (b:=b) T.f95 (smN_none Z (by decide) (.inr (by decide))) 28000 _ _ _ (c125 T M Z (by decide)) (c126 T M Z (by decide)) (c127 T M Z (by decide)) (c128 T M Z (by decide)) (c129 T M Z (by decide)) (by assumption) (by assumption) (by assumption)) rfl (by simp[AV.refs,refsL,refs_i,outL,outB,termC,useC,out38])
theorem c96 (T:FT F) (M:Mth meth) (Z:Z0 sm0) {j:Nat} (hj:4≤j):H96 (smN F meth sm0 j):=by
  unfold H96
  rw[smN_at (f:=96) (i:=3) (by decide) hj]
  intro l v s t z m
  intros
  exact Ev.pure (e96 (l:=l) (v:=v) (s:=s) (t:=t) (z:=z) T.f96 (smN_none Z (by decide) (.inr (by decide))) 28000 _ _ _ (c130 T M Z (by decide)) (c131 T M Z (by decide)) (by assumption) (by assumption) (by assumption) (by assumption) (by assumption) (by assumption)) rfl (by simp[AV.refs,refsL,refs_i,outL,outB,termC,useC,out38])
theorem c119 (T:FT F) (M:Mth meth) (Z:Z0 sm0) {j:Nat} (hj:4≤j):H119 (smN F meth sm0 j):=by
  unfold H119
  rw[smN_at (f:=119) (i:=3) (by decide) hj]
  intro c z x m
  intros
  exact Ev.pure (e119 (c:=c) (z:=z) (x:=x) T.f119 (smN_none Z (by decide) (.inr (by decide))) 28000 _ _ _ (c139 T M Z (by decide)) (by assumption) (by assumption) (by assumption)) rfl (by simp[AV.refs,refsL,refs_i,outL,outB,termC,useC,out38])
theorem c144 (T:FT F) (M:Mth meth) (Z:Z0 sm0) {j:Nat} (hj:4≤j):H144 (smN F meth sm0 j):=by
  unfold H144
  rw[smN_at (f:=144) (i:=3) (by decide) hj]
  intro c z x m
  intros
  exact Ev.pure (e144 (c:=c) (z:=z) (x:=x) T.f144 (smN_none Z (by decide) (.inr (by decide))) 28000 _ _ _ (c152 T M Z (by decide)) (by assumption) (by assumption) (by assumption)) rfl (by simp[AV.refs,refsL,refs_i,outL,outB,termC,useC,out38])
theorem c21 (T:FT F) (M:Mth meth) (Z:Z0 sm0) {j:Nat} (hj:5≤j):H21 (smN F meth sm0 j):=by
  unfold H21
  rw[smN_at (f:=21) (i:=4) (by decide) hj]
  intro b own m
  intros
  exact Ev.pure (e21 (b:=b) (own:=own) T.f21 (smN_none Z (by decide) (.inr (by decide))) 28000 _ _ _ (c56 T M Z (by decide)) (by assumption) (by assumption) (by assumption) (by assumption)) rfl (by simp[AV.refs,refsL,refs_i,outL,outB,termC,useC,out38])
theorem c25 (T:FT F) (M:Mth meth) (Z:Z0 sm0) {j:Nat} (hj:5≤j):H25 (smN F meth sm0 j):=by
  unfold H25
  rw[smN_at (f:=25) (i:=4) (by decide) hj]
  intro s c bs br o1 o2 m
  intros
  exact Ev.pure (e25 (s:=s) (c:=c) (bs:=bs) (br:=br) (o1:=o1) (o2:=o2) T.f25 (smN_none Z (by decide) (.inr (by decide))) 28000 _ _ _ (c23 T M Z (by decide)) (c27 T M Z (by decide)) (by assumption) (by assumption) (by assumption) (by assumption)) rfl (by simp[AV.refs,refsL,refs_i,outL,outB,termC,useC,out38])
theorem c37 (T:FT F) (M:Mth meth) (Z:Z0 sm0) {j:Nat} (hj:5≤j):H37 (smN F meth sm0 j):=by
  unfold H37
  rw[smN_at (f:=37) (i:=4) (by decide) hj]
  intro s m
  intros
  exact Ev.pure (e37 (s:=s) T.f37 (smN_none Z (by decide) (.inr (by decide))) 28000 _ _ _ (c62 T M Z (by decide)) (c63 T M Z (by decide)) (c64 T M Z (by decide)) (by assumption) (by assumption) (by assumption)) rfl (by simp[AV.refs,refsL,refs_i,outL,outB,termC,useC,out38])
theorem c59 (T:FT F) (M:Mth meth) (Z:Z0 sm0) {j:Nat} (hj:5≤j):H59 (smN F meth sm0 j):=by
  unfold H59
  rw[smN_at (f:=59) (i:=4) (by decide) hj]
  intro l v z ns w m
  intros
  exact Ev.pure (e59 (l:=l) (v:=v) (z:=z) (ns:=ns) (w:=w) T.f59 (smN_none Z (by decide) (.inr (by decide))) 28000 _ _ _ (c53 T M Z (by decide)) (c85 T M Z (by decide)) (by assumption) (by assumption) (by assumption) (by assumption) (by assumption) (by assumption) (by assumption)) rfl (by simp[AV.refs,refsL,refs_i,outL,outB,termC,useC,out38])
theorem c65 (T:FT F) (M:Mth meth) (Z:Z0 sm0) {j:Nat} (hj:5≤j):H65 (smN F meth sm0 j):=by
  unfold H65
  rw[smN_at (f:=65) (i:=4) (by decide) hj]
  intro b m
  intros
  exact Ev.pure (e65 (b:=b) T.f65 (smN_none Z (by decide) (.inr (by decide))) 28000 _ _ _ (c95 T M Z (by decide)) (by assumption) (by assumption) (by assumption)) rfl (by simp[AV.refs,refsL,refs_i,outL,outB,termC,useC,out38])
theorem c76 (T:FT F) (M:Mth meth) (Z:Z0 sm0) {j:Nat} (hj:5≤j):H76 (smN F meth sm0 j):=by
  unfold H76
  rw[smN_at (f:=76) (i:=4) (by decide) hj]
  intro s c b own own2 m
  intros
  exact Ev.pure (e76 (s:=s) (c:=c) (b:=b) (own:=own) (own2:=own2) T.f76 (smN_none Z (by decide) (.inr (by decide))) 28000 _ _ _ (c109 T M Z (by decide)) (c110 T M Z (by decide)) (c77 T M Z (by decide)) (c79 T M Z (by decide)) (by assumption) (by assumption) (by assumption) (by assumption) (by assumption) (by assumption)) rfl (by simp[AV.refs,refsL,refs_i,outL,outB,termC,useC,out38])
theorem c88 (T:FT F) (M:Mth meth) (Z:Z0 sm0) {j:Nat} (hj:5≤j):H88 (smN F meth sm0 j):=by
  unfold H88
  rw[smN_at (f:=88) (i:=4) (by decide) hj]
  intro c z x m
  intros
  exact Ev.pure (e88 (c:=c) (z:=z) (x:=x) T.f88 (smN_none Z (by decide) (.inr (by decide))) 28000 _ _ _ (c119 T M Z (by decide)) (by assumption) (by assumption) (by assumption)) rfl (by simp[AV.refs,refsL,refs_i,outL,outB,termC,useC,out38])
theorem c132 (T:FT F) (M:Mth meth) (Z:Z0 sm0) {j:Nat} (hj:5≤j):H132 (smN F meth sm0 j):=by
  unfold H132
  rw[smN_at (f:=132) (i:=4) (by decide) hj]
  intro c z x m
  intros
  exact Ev.pure (e132 (c:=c) (z:=z) (x:=x) T.f132 (smN_none Z (by decide) (.inr (by decide))) 28000 _ _ _ (c144 T M Z (by decide)) (by assumption) (by assumption) (by assumption)) rfl (by simp[AV.refs,refsL,refs_i,outL,outB,termC,useC,out38])
theorem c10 (T:FT F) (M:Mth meth) (Z:Z0 sm0) {j:Nat} (hj:6≤j):H10 (smN F meth sm0 j):=by
  unfold H10
  rw[smN_at (f:=10) (i:=5) (by decide) hj]
  intro s m
  intros
  exact Ev.pure (e10 (s:=s) T.f10 (smN_none Z (by decide) (.inr (by decide))) 28000 _ _ _ (c37 T M Z (by decide)) (c41 T M Z (by decide)) (by assumption) (by assumption)) rfl (by simp[AV.refs,refsL,refs_i,outL,outB,termC,useC,out38])
theorem c12 (T:FT F) (M:Mth meth) (Z:Z0 sm0) {j:Nat} (hj:6≤j):H12 (smN F meth sm0 j):=by
  unfold H12
  rw[smN_at (f:=12) (i:=5) (by decide) hj]
  intro s m
  intros
  exact Ev.pure (e12 (s:=s) T.f12 (smN_none Z (by decide) (.inr (by decide))) 28000 _ _ _ (c37 T M Z (by decide)) (c42 T M Z (by decide)) (by assumption) (by assumption)) rfl (by simp[AV.refs,refsL,refs_i,outL,outB,termC,useC,out38])
theorem c29 (T:FT F) (M:Mth meth) (Z:Z0 sm0) {j:Nat} (hj:6≤j):H29 (smN F meth sm0 j):=by
  unfold H29
  rw[smN_at (f:=29) (i:=5) (by decide) hj]
  intro x c b o0 o1 m
  intros
  exact Ev.pure (e29 (x:=x) (c:=c) (b:=b) (o0:=o0) (o1:=o1) T.f29 (smN_none Z (by decide) (.inr (by decide))) 28000 _ _ _ (c21 T M Z (by decide)) (by assumption) (by assumption) (by assumption) (by assumption) (by assumption)) rfl (by simp[AV.refs,refsL,refs_i,outL,outB,termC,useC,out38])
theorem c33 (T:FT F) (M:Mth meth) (Z:Z0 sm0) {j:Nat} (hj:6≤j):H33 (smN F meth sm0 j):=by
  unfold H33
  rw[smN_at (f:=33) (i:=5) (by decide) hj]
  intro s bs br o1 o2 m
  intros
  exact Ev.pure (e33a (s:=s) (bs:=bs) (br:=br) (o1:=o1) (o2:=o2) T.f33 (smN_none Z (by decide) (.inr (by decide))) 28000 _ _ _ (c25 T M Z (by decide)) (by assumption) (by assumption) (by assumption) (by assumption)) rfl (by simp[AV.refs,refsL,refs_i,outL,outB,termC,useC,out38])
theorem c54 (T:FT F) (M:Mth meth) (Z:Z0 sm0) {j:Nat} (hj:6≤j):H54 (smN F meth sm0 j):=by
  unfold H54
  rw[smN_at (f:=54) (i:=5) (by decide) hj]
  intro s c own m
  intros
  exact Ev.pure (e54 (s:=s) (c:=c) (own:=own) T.f54 (smN_none Z (by decide) (.inr (by decide))) 28000 _ _ _ (c76 T M Z (by decide)) (by assumption) (by assumption) (by assumption) (by assumption) (by assumption)) rfl (by simp[AV.refs,refsL,refs_i,outL,outB,termC,useC,out38])
theorem c60 (T:FT F) (M:Mth meth) (Z:Z0 sm0) {j:Nat} (hj:6≤j):H60 (smN F meth sm0 j):=by
  unfold H60
  rw[smN_at (f:=60) (i:=5) (by decide) hj]
  intro l v s a z m
  intros
  exact Ev.pure (e60' (l:=l) (v:=v) (s:=s) (a:=a) (z:=z) T.f60 (smN_none Z (by decide) (.inr (by decide))) 28000 _ _ _ M (smN_none Z (by decide) (.inl (by decide))) T.f86 (smN_none Z (by decide) (.inl (by decide))) T.f87 (smN_none Z (by decide) (.inl (by decide))) T.f89 (smN_none Z (by decide) (.inl (by decide))) T.f118 (smN_none Z (by decide) (.inl (by decide))) T.f120 (smN_none Z (by decide) (.inl (by decide))) T.f175 (smN_none Z (by decide) (.inl (by decide))) T.f176 (smN_none Z (by decide) (.inl (by decide))) T.f177 (smN_none Z (by decide) (.inl (by decide))) T.f178 (c88 T M Z (by decide)) (by assumption) (by assumption) (by assumption) (by assumption) (by assumption) (by assumption)) rfl (by simp[AV.refs,refsL,refs_i,outL,outB,termC,useC,out38])
theorem c66 (T:FT F) (M:Mth meth) (Z:Z0 sm0) {j:Nat} (hj:6≤j):H66 (smN F meth sm0 j):=by
  unfold H66
  rw[smN_at (f:=66) (i:=5) (by decide) hj]
  intro l v s t z m
  intros
  exact Ev.pure (e66 (l:=l) (v:=v) (s:=s) (t:=t) (z:=z) T.f66 (smN_none Z (by decide) (.inr (by decide))) 28000 _ _ _ (c96 T M Z (by decide)) (smN_none Z (by decide) (.inl (by decide))) T.f97 (c132 T M Z (by decide)) (by assumption) (by assumption) (by assumption) (by assumption) (by assumption) (by assumption) (by assumption)) rfl (by simp[AV.refs,refsL,refs_i,outL,outB,termC,useC,out38])
theorem c18 (T:FT F) (M:Mth meth) (Z:Z0 sm0) {j:Nat} (hj:7≤j):H18 (smN F meth sm0 j):=by
  unfold H18
  rw[smN_at (f:=18) (i:=6) (by decide) hj]
  intro s own m
  intros
  exact Ev.pure (e18 (s:=s) (own:=own) T.f18 (smN_none Z (by decide) (.inr (by decide))) 28000 _ _ _ (c52 T M Z (by decide)) (c53 T M Z (by decide)) (c54 T M Z (by decide)) (by assumption) (by assumption) (by assumption) (by assumption) (by assumption)) rfl (by simp[AV.refs,refsL,refs_i,outL,outB,termC,useC,out38])
theorem c24 (T:FT F) (M:Mth meth) (Z:Z0 sm0) {j:Nat} (hj:7≤j):H24 (smN F meth sm0 j):=by
  unfold H24
  rw[smN_at (f:=24) (i:=6) (by decide) hj]
  intro l v s t z m
  intros
  exact Ev.pure (e24 (l:=l) (v:=v) (s:=s) (t:=t) (z:=z) T.f24 (smN_none Z (by decide) (.inr (by decide))) 28000 _ _ _ (c59 T M Z (by decide)) (c60 T M Z (by decide)) (by assumption) (by assumption) (by assumption) (by assumption) (by assumption) (by assumption) (by assumption)) rfl (by simp[AV.refs,refsL,refs_i,outL,outB,termC,useC,out38])
theorem c32 (T:FT F) (M:Mth meth) (Z:Z0 sm0) {j:Nat} (hj:7≤j):H32 (smN F meth sm0 j):=by
  unfold H32
  rw[smN_at (f:=32) (i:=6) (by decide) hj]
  intro s bs br bf o1 o2 o3 m
  intros
  exact Ev.pure (e32 (s:=s) (bs:=bs) (br:=br) (bf:=bf) (o1:=o1) (o2:=o2) (o3:=o3) T.f32 (smN_none Z (by decide) (.inr (by decide))) 28000 _ _ _ (c33 T M Z (by decide)) (by assumption) (by assumption) (by assumption) (by assumption) (by assumption)) rfl (by simp[AV.refs,refsL,refs_i,outL,outB,termC,useC,out38])
theorem c38 (T:FT F) (M:Mth meth) (Z:Z0 sm0) {j:Nat} (hj:7≤j):H38 (smN F meth sm0 j):=by
  unfold H38
  rw[smN_at (f:=38) (i:=6) (by decide) hj]
  intro s m
  intros
  exact Ev.pure (e38 (s:=s) T.f38 (smN_none Z (by decide) (.inr (by decide))) 28000 _ _ _ (c42 T M Z (by decide)) (c49 T M Z (by decide)) (c65 T M Z (by decide)) (c66 T M Z (by decide)) (by assumption) (by assumption)) rfl (by simp[AV.refs,refsL,refs_i,outL,outB,termC,useC,out38])
theorem c8 (T:FT F) (M:Mth meth) (Z:Z0 sm0) {j:Nat} (hj:8≤j):H8 (smN F meth sm0 j):=by
  unfold H8
  rw[smN_at (f:=8) (i:=7) (by decide) hj]
  intro s m
  intros
  exact Ev.pure (e8 (s:=s) T.f8 (smN_none Z (by decide) (.inr (by decide))) 28000 _ _ _ (c37 T M Z (by decide)) (c38 T M Z (by decide)) (c39 T M Z (by decide)) (by assumption) (by assumption)) rfl (by simp[AV.refs,refsL,refs_i,outL,outB,termC,useC,out38])
theorem c9 (T:FT F) (M:Mth meth) (Z:Z0 sm0) {j:Nat} (hj:8≤j):H9 (smN F meth sm0 j):=by
  unfold H9
  rw[smN_at (f:=9) (i:=7) (by decide) hj]
  intro s own m
  intros
  exact Ev.pure (e9 (s:=s) (own:=own) T.f9 (smN_none Z (by decide) (.inr (by decide))) 28000 _ _ _ (c18 T M Z (by decide)) (c19 T M Z (by decide)) (c40 T M Z (by decide)) (by assumption) (by assumption) (by assumption)) rfl (by simp[AV.refs,refsL,refs_i,outL,outB,termC,useC,out38])
theorem c11 (T:FT F) (M:Mth meth) (Z:Z0 sm0) {j:Nat} (hj:8≤j):H11 (smN F meth sm0 j):=by
  unfold H11
  rw[smN_at (f:=11) (i:=7) (by decide) hj]
  intro s own m
  intros
  exact Ev.pure (e11 (s:=s) (own:=own) T.f11 (smN_none Z (by decide) (.inr (by decide))) 28000 _ _ _ (c18 T M Z (by decide)) (c19 T M Z (by decide)) (c20 T M Z (by decide)) (by assumption) (by assumption) (by assumption)) rfl (by simp[AV.refs,refsL,refs_i,outL,outB,termC,useC,out38])
theorem c22 (T:FT F) (M:Mth meth) (Z:Z0 sm0) {j:Nat} (hj:8≤j):H22 (smN F meth sm0 j):=by
  unfold H22
  rw[smN_at (f:=22) (i:=7) (by decide) hj]
  intro s c bs br o0 o1 o2 m
  intros
  exact Ev.pure (e22 (s:=s) (c:=c) (bs:=bs) (br:=br) (o0:=o0) (o1:=o1) (o2:=o2) T.f22 (smN_none Z (by decide) (.inr (by decide))) 28000 _ _ _ (c21 T M Z (by decide)) (c23 T M Z (by decide)) (c24 T M Z (by decide)) (by assumption) (by assumption) (by assumption) (by assumption) (by assumption) (by assumption)) rfl (by simp[AV.refs,refsL,refs_i,outL,outB,termC,useC,out38])
theorem c30a (T:FT F) (M:Mth meth) (Z:Z0 sm0) {j:Nat} (hj:9≤j):H30a (smN F meth sm0 j):=by
  unfold H30a
  rw[smN_at (f:=30) (i:=8) (by decide) hj]
  intro s bs br o0 o1 o2 m
  intros
  exact Ev.pure (e30a (s:=s) (bs:=bs) (br:=br) (o0:=o0) (o1:=o1) (o2:=o2) T.f30 (smN_none Z (by decide) (.inr (by decide))) 28000 _ _ _ (c22 T M Z (by decide)) (by assumption) (by assumption) (by assumption) (by assumption) (by assumption)) rfl (by simp[AV.refs,refsL,refs_i,outL,outB,termC,useC,out38])
theorem c30b (T:FT F) (M:Mth meth) (Z:Z0 sm0) {j:Nat} (hj:9≤j):H30b (smN F meth sm0 j):=by
  unfold H30b
  rw[smN_at (f:=30) (i:=8) (by decide) hj]
  intro l v c b o0 o1 m
  intros
  exact Ev.pure (e30b (l:=l) (v:=v) (c:=c) (b:=b) (o0:=o0) (o1:=o1) T.f30 (smN_none Z (by decide) (.inr (by decide))) 28000 _ _ _ (c29 T M Z (by decide)) (by assumption) (by assumption) (by assumption) (by assumption) (by assumption)) rfl (by simp[AV.refs,refsL,refs_i,outL,outB,termC,useC,out38])
theorem c28 (T:FT F) (M:Mth meth) (Z:Z0 sm0) {j:Nat} (hj:10≤j):H28 (smN F meth sm0 j):=by
  unfold H28
  rw[smN_at (f:=28) (i:=9) (by decide) hj]
  intro s c sum bs bt o0 o1 o2 m
  intros
  exact Ev.pure (e28 (s:=s) (c:=c) (sum:=sum) (bs:=bs) (bt:=bt) (o0:=o0) (o1:=o1) (o2:=o2) T.f28 (smN_none Z (by decide) (.inr (by decide))) 28000 _ _ _ (c30b T M Z (by decide)) (by assumption) (by assumption) (by assumption) (by assumption) (by assumption)) rfl (by simp[AV.refs,refsL,refs_i,outL,outB,termC,useC,out38])
theorem c31 (T:FT F) (M:Mth meth) (Z:Z0 sm0) {j:Nat} (hj:10≤j):H31 (smN F meth sm0 j):=by
  unfold H31
  rw[smN_at (f:=31) (i:=9) (by decide) hj]
  intro s bs br bf o0 o1 o2 o3 m
  intros
  exact Ev.pure (e31 (s:=s) (bs:=bs) (br:=br) (bf:=bf) (o0:=o0) (o1:=o1) (o2:=o2) (o3:=o3) T.f31 (smN_none Z (by decide) (.inr (by decide))) 28000 _ _ _ (c30a T M Z (by decide)) (by assumption) (by assumption) (by assumption) (by assumption) (by assumption) (by assumption)) rfl (by simp[AV.refs,refsL,refs_i,outL,outB,termC,useC,out38])
theorem c35 (T:FT F) (M:Mth meth) (Z:Z0 sm0) {j:Nat} (hj:11≤j):H35 (smN F meth sm0 j):=by
  unfold H35
  rw[smN_at (f:=35) (i:=10) (by decide) hj]
  intro s sum bs bt o0 o1 o2 m
  intros
  exact Ev.pure (e35a (s:=s) (sum:=sum) (bs:=bs) (bt:=bt) (o0:=o0) (o1:=o1) (o2:=o2) T.f35 (smN_none Z (by decide) (.inr (by decide))) 28000 _ _ _ (c28 T M Z (by decide)) (by assumption) (by assumption) (by assumption) (by assumption) (by assumption)) rfl (by simp[AV.refs,refsL,refs_i,outL,outB,termC,useC,out38])
theorem c34 (T:FT F) (M:Mth meth) (Z:Z0 sm0) {j:Nat} (hj:12≤j):H34 (smN F meth sm0 j):=by
  unfold H34
  rw[smN_at (f:=34) (i:=11) (by decide) hj]
  intro s sum bs bt bf o0 o1 o2 o3 m
  intros
  exact Ev.pure (e34 (s:=s) (sum:=sum) (bs:=bs) (bt:=bt) (bf:=bf) (o0:=o0) (o1:=o1) (o2:=o2) (o3:=o3) T.f34 (smN_none Z (by decide) (.inr (by decide))) 28000 _ _ _ (c35 T M Z (by decide)) (by assumption) (by assumption) (by assumption) (by assumption) (by assumption) (by assumption)) rfl (by simp[AV.refs,refsL,refs_i,outL,outB,termC,useC,out38])
theorem c6 (T:FT F) (M:Mth meth) (Z:Z0 sm0) {j:Nat} (hj:13≤j):H6 (smN F meth sm0 j):=by
  unfold H6
  rw[smN_at (f:=6) (i:=12) (by decide) hj]
  intro s o0 o1 m
  intros
  exact Ev.pure (e6 (s:=s) (o0:=o0) (o1:=o1) T.f6 (smN_none Z (by decide) (.inr (by decide))) 28000 _ _ _ (c18 T M Z (by decide)) (c19 T M Z (by decide)) (c20 T M Z (by decide)) (c21 T M Z (by decide)) (c31 T M Z (by decide)) (c32 T M Z (by decide)) (c34 T M Z (by decide)) (by assumption) (by assumption) (by assumption) (by assumption)) rfl (by simp[AV.refs,refsL,refs_i,outL,outB,termC,useC,out38])
end
section
variable {F:FuncId→Option AFunc} {meth:Meth} {sm0:Summ}
theorem law_all (T:FT F) (M:Mth meth) (Z:Z0 sm0) (h5:H5 sm0) (n:Nat) (h:Blks) (lg:List Nat) {s:ScX} (hg:bget h 0=some (.row false 1 headsR)) (hu:bget h 1=some (.row false 8 usesR)) (H:ScAt h s) (N:ScN s):
    ∃ m',acall F meth (smN F meth sm0 13) (n+3000) (.fn 3) [.agg (scC s)] ⟨h,lg,[]⟩=some (.bool true,m'):=by
  have j5:H5 (smN F meth sm0 13):=fun m q1 q2=>by rw[smN_skip (f:=5) 0 13 (by decide) (by decide)];exact h5 m q1 q2
  obtain ⟨m',q,k⟩:=e3 (F:=F) (meth:=meth) (sm:=smN F meth sm0 13) T.f3 (smN_none Z (by decide) (.inl (by decide))) n h lg [] (c4 T M Z (by decide)) j5 (c6 T M Z (by decide)) (c8 T M Z (by decide)) (c9 T M Z (by decide)) (c10 T M Z (by decide)) (c11 T M Z (by decide)) (c12 T M Z (by decide)) (c15 T M Z (by decide)) (smN_none Z (by decide) (.inl (by decide))) T.f7 (smN_none Z (by decide) (.inl (by decide))) T.f36 (smN_none Z (by decide) (.inl (by decide))) T.f13 (smN_none Z (by decide) (.inl (by decide))) T.f14 (c18 T M Z (by decide)) (c23 T M Z (by decide)) (c37 T M Z (by decide)) (c49 T M Z (by decide)) (c44 T M Z (by decide)) (c69 T M Z (by decide)) (smN_none Z (by decide) (.inl (by decide))) T.f43 (smN_none Z (by decide) (.inl (by decide))) T.f98 (smN_none Z (by decide) (.inl (by decide))) T.f68 (smN_none Z (by decide) (.inl (by decide))) T.f47 (smN_none Z (by decide) (.inl (by decide))) T.f48 (by assumption) (by assumption) (by assumption) (by assumption)
  exact ⟨m',q⟩
end
end Go.Abs
end
