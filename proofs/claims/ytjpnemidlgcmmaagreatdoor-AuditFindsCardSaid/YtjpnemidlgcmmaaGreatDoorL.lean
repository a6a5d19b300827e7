/- What is known of the functions, in layers; the law in the evaluator.
   Conditions: none. -/
import Derived.Test.YtjpnemidlgcmmaaGreatDoorPi
set_option linter.unusedSimpArgs false
set_option linter.unusedVariables false
set_option maxRecDepth 100000
noncomputable section
namespace Go.Abs
section
variable {F:FuncId→Option AFunc} {meth:Meth} {sm0:Summ}
def LV:List Nat:=[0,0,0,0,0,1,0,0,0,0,0,0,0,9,7,1,0,0,0,0,5,1,1,0,0,0,0,0,0,0,0,0,0,0,2,8,1,3,2,6,4,0,3,0,0,4,1,0,0,0,0,8,1,6,1,1,1,7,6,2,1,5,4,3,5,7,0,2,2,0,5,1,0,1,3,0,0,0,4,0,8,0,0,5,5,1,5,0,7,1,4,3,2,3,4,1,4,5,1,1,1,2,3,1,3,2,1,1,4,6,3,1,1,4,0,2,0,3,1,0,3,0,4,3,0,0,0,6,6,0,0,1,2,3,1,1,1,3,1,4,1,1,1,2,1,4,5,2,3,1,1,1,2,1,0,1,2,2,2,1,3,1,0,0,2,0,1,2,1,3,1,0,1,1,2,0,0,2,2,1,1]
def lv (f:FuncId):Nat:=(LV[f]?).getD 0
noncomputable def smN (F:FuncId→Option AFunc) (meth:Meth) (sm0:Summ):Nat→Summ
  |0=>sm0
  |i+1=>pureSum (fun f=>lv f==i+1) F meth (smN F meth sm0 i) 30000
theorem smN_skip {f:FuncId} (i:Nat): ∀ (j:Nat),i≤j→(lv f≤i∨j<lv f)→smN F meth sm0 j f=smN F meth sm0 i f
  |0,h,_=>by rw[Nat.le_zero.1 h]
  | j +1,h,c=>by
    rcases Nat.lt_or_ge i (j+1) with q |q
    · have c':(lv f==j+1)=false:=by simp;omega
      rw[←smN_skip i j (by omega) (by omega)]
      funext vs m
      exact pureSum_skip c'
    · rw[show j+1=i by omega]
theorem smN_at {f:FuncId} {i j:Nat} (hi:lv f=i+1) (hj:i+1≤j):smN F meth sm0 j f=pureSum (fun f=>lv f==i+1) F meth (smN F meth sm0 i) 30000 f:=smN_skip (i+1) j hj (by omega)
def Z0 (sm0:Summ):Prop:= ∀ f vs m,f≠6→sm0 f vs m=none
theorem smN_none (Z:Z0 sm0) {f:FuncId} {i:Nat} (h6:f≠6) (c:lv f=0∨i<lv f): ∀ vs m,smN F meth sm0 i f vs m=none:=fun vs m=>by
  rw[smN_skip 0 i (Nat.zero_le i) (by omega)]
  exact Z f vs m h6
theorem peerX_refs {h:Blks} {x:VX} {o:Int} (H:ViewAt h x): ∀ b∈refsL (pxC (peerX x o)),b<h.length:=fun b hb=>by
  have P:PeerAt h (peerX x o).p (peerX x o).s (peerX x o).t (peerX x o).k:=pickX_at (fun y hy=>by
    rw[peersOf] at hy
    split at hy
    · exact H.q.p y hy
    · exact H.s.p.p y hy)
  simp only[pxC,peerC,refsL,AV.refs,List.nil_append,List.append_nil,List.mem_append] at hb
  rcases hb with hb |hb |hb
  · exact P.s.s.refs b hb
  · exact P.r.t.refs b hb
  · exact P.r.k.refs b hb
structure FT (F:FuncId→Option AFunc):Prop where
  f3:F 3=some AF3
  f4:F 4=some AF4
  f5:F 5=some AF5
  f7:F 7=some AF7
  f8:F 8=some AF8
  f9:F 9=some AF9
  f10:F 10=some AF10
  f11:F 11=some AF11
  f12:F 12=some AF12
  f13:F 13=some AF13
  f14:F 14=some AF14
  f15:F 15=some AF15
  f16:F 16=some AF16
  f17:F 17=some AF17
  f18:F 18=some AF18
  f19:F 19=some AF19
  f20:F 20=some AF20
  f21:F 21=some AF21
  f22:F 22=some AF22
  f26:F 26=some AF26
  f27:F 27=some AF27
  f28:F 28=some AF28
  f29:F 29=some AF29
  f30:F 30=some AF30
  f31:F 31=some AF31
  f32:F 32=some AF32
  f33:F 33=some AF33
  f34:F 34=some AF34
  f35:F 35=some AF35
  f36:F 36=some AF36
  f37:F 37=some AF37
  f38:F 38=some AF38
  f39:F 39=some AF39
  f40:F 40=some AF40
  f41:F 41=some AF41
  f42:F 42=some AF42
  f43:F 43=some AF43
  f44:F 44=some AF44
  f45:F 45=some AF45
  f46:F 46=some AF46
  f48:F 48=some AF48
  f49:F 49=some AF49
  f50:F 50=some AF50
  f51:F 51=some AF51
  f52:F 52=some AF52
  f53:F 53=some AF53
  f54:F 54=some AF54
  f55:F 55=some AF55
  f56:F 56=some AF56
  f57:F 57=some AF57
  f58:F 58=some AF58
  f59:F 59=some AF59
  f60:F 60=some AF60
  f61:F 61=some AF61
  f62:F 62=some AF62
  f63:F 63=some AF63
  f64:F 64=some AF64
  f65:F 65=some AF65
  f66:F 66=some AF66
  f67:F 67=some AF67
  f68:F 68=some AF68
  f69:F 69=some AF69
  f70:F 70=some AF70
  f71:F 71=some AF71
  f72:F 72=some AF72
  f73:F 73=some AF73
  f74:F 74=some AF74
  f75:F 75=some AF75
  f76:F 76=some AF76
  f77:F 77=some AF77
  f78:F 78=some AF78
  f79:F 79=some AF79
  f80:F 80=some AF80
  f81:F 81=some AF81
  f82:F 82=some AF82
  f83:F 83=some AF83
  f84:F 84=some AF84
  f85:F 85=some AF85
  f86:F 86=some AF86
  f87:F 87=some AF87
  f88:F 88=some AF88
  f89:F 89=some AF89
  f90:F 90=some AF90
  f91:F 91=some AF91
  f92:F 92=some AF92
  f93:F 93=some AF93
  f94:F 94=some AF94
  f95:F 95=some AF95
  f96:F 96=some AF96
  f97:F 97=some AF97
  f98:F 98=some AF98
  f99:F 99=some AF99
  f100:F 100=some AF100
  f101:F 101=some AF101
  f102:F 102=some AF102
  f103:F 103=some AF103
  f104:F 104=some AF104
  f105:F 105=some AF105
  f106:F 106=some AF106
  f107:F 107=some AF107
  f108:F 108=some AF108
  f109:F 109=some AF109
  f110:F 110=some AF110
  f111:F 111=some AF111
  f112:F 112=some AF112
  f113:F 113=some AF113
  f114:F 114=some AF114
  f115:F 115=some AF115
  f116:F 116=some AF116
  f117:F 117=some AF117
  f118:F 118=some AF118
  f119:F 119=some AF119
  f120:F 120=some AF120
  f121:F 121=some AF121
  f122:F 122=some AF122
  f123:F 123=some AF123
  f124:F 124=some AF124
  f125:F 125=some AF125
  f126:F 126=some AF126
  f127:F 127=some AF127
  f128:F 128=some AF128
  f130:F 130=some AF130
  f131:F 131=some AF131
  f132:F 132=some AF132
  f133:F 133=some AF133
  f134:F 134=some AF134
  f135:F 135=some AF135
  f136:F 136=some AF136
  f137:F 137=some AF137
  f138:F 138=some AF138
  f139:F 139=some AF139
  f140:F 140=some AF140
  f141:F 141=some AF141
  f142:F 142=some AF142
  f143:F 143=some AF143
  f144:F 144=some AF144
  f145:F 145=some AF145
  f146:F 146=some AF146
  f147:F 147=some AF147
  f148:F 148=some AF148
  f149:F 149=some AF149
  f150:F 150=some AF150
  f151:F 151=some AF151
  f152:F 152=some AF152
  f153:F 153=some AF153
  f154:F 154=some AF154
  f155:F 155=some AF155
  f156:F 156=some AF156
  f157:F 157=some AF157
  f158:F 158=some AF158
  f159:F 159=some AF159
  f160:F 160=some AF160
  f161:F 161=some AF161
  f162:F 162=some AF162
  f163:F 163=some AF163
  f164:F 164=some AF164
  f165:F 165=some AF165
  f166:F 166=some AF166
  f167:F 167=some AF167
  f168:F 168=some AF168
  f169:F 169=some AF169
  f170:F 170=some AF170
  f171:F 171=some AF171
  f172:F 172=some AF172
  f173:F 173=some AF173
  f174:F 174=some AF174
  f175:F 175=some AF175
  f176:F 176=some AF176
  f177:F 177=some AF177
  f178:F 178=some AF178
  f179:F 179=some AF179
  f180:F 180=some AF180
end
section
variable {F:FuncId→Option AFunc} {meth:Meth} {sm0:Summ}
theorem w8 (T:FT F) (Z:Z0 sm0) {j:Nat} (hj:0≤j):W8 F meth (smN F meth sm0 j):=by
  unfold W8
  intro n h lg d l v
  intros
  exact e8 (l:=l) (v:=v) T.f8 (smN_none Z (by decide) (.inl (by decide))) n h lg d (by assumption) (by assumption)
theorem w26 (T:FT F) (Z:Z0 sm0) {j:Nat} (hj:0≤j):W26 F meth (smN F meth sm0 j):=by
  unfold W26
  intro n h lg d l v
  intros
  exact e26 (l:=l) (v:=v) T.f26 (smN_none Z (by decide) (.inl (by decide))) n h lg d (by assumption) (by assumption)
theorem w75 (T:FT F) (Z:Z0 sm0) {j:Nat} (hj:0≤j):W75 F meth (smN F meth sm0 j):=by
  unfold W75
  intro n h lg d S s
  intros
  exact e75 (S:=S) (s:=s) T.f75 (smN_none Z (by decide) (.inl (by decide))) n h lg d (by assumption) (by assumption)
theorem w76 (T:FT F) (Z:Z0 sm0) {j:Nat} (hj:0≤j):W76 F meth (smN F meth sm0 j):=by
  unfold W76
  intro n h lg d R t k
  intros
  exact e76 (R:=R) (t:=t) (k:=k) T.f76 (smN_none Z (by decide) (.inl (by decide))) n h lg d (by assumption) (by assumption) (by assumption)
theorem w48 (T:FT F) (Z:Z0 sm0) {j:Nat} (hj:0≤j):W48 F meth (smN F meth sm0 j):=by
  unfold W48
  intro n h lg d P s t k
  intros
  exact e48 (P:=P) (s:=s) (t:=t) (k:=k) T.f48 (smN_none Z (by decide) (.inl (by decide))) n h lg d (w75 T Z (Nat.le_trans (by decide) hj)) (w76 T Z (Nat.le_trans (by decide) hj)) (by assumption) (by assumption) (by assumption) (by assumption)
theorem w27 (T:FT F) (Z:Z0 sm0) {j:Nat} (hj:0≤j):W27 F meth (smN F meth sm0 j):=by
  unfold W27
  intro n h lg d l v
  intros
  exact e27 (l:=l) (v:=v) T.f27 (smN_none Z (by decide) (.inl (by decide))) n h lg d (w48 T Z (Nat.le_trans (by decide) hj)) (by assumption) (by assumption) (by assumption)
theorem w28 (T:FT F) (Z:Z0 sm0) {j:Nat} (hj:0≤j):W28 F meth (smN F meth sm0 j):=by
  unfold W28
  intro n h lg d l v
  intros
  exact e28 (l:=l) (v:=v) T.f28 (smN_none Z (by decide) (.inl (by decide))) n h lg d (by assumption) (by assumption)
theorem w7 (T:FT F) (Z:Z0 sm0) {j:Nat} (hj:0≤j):W7 F meth (smN F meth sm0 j):=by
  unfold W7
  intro n h lg d s
  intros
  exact e7 (s:=s) T.f7 (smN_none Z (by decide) (.inl (by decide))) n h lg d (w8 T Z (Nat.le_trans (by decide) hj)) (w26 T Z (Nat.le_trans (by decide) hj)) (w27 T Z (Nat.le_trans (by decide) hj)) (w28 T Z (Nat.le_trans (by decide) hj)) (by assumption) (by assumption)
theorem w72 (T:FT F) (Z:Z0 sm0) {j:Nat} (hj:0≤j):W72 F meth (smN F meth sm0 j):=by
  unfold W72
  intro n h lg d l v
  intros
  exact e72 (l:=l) (v:=v) T.f72 (smN_none Z (by decide) (.inl (by decide))) n h lg d (smN_none Z (by decide) (.inl (by decide))) T.f114 (by assumption) (by assumption) (by assumption) (by assumption)
theorem w44 (T:FT F) (Z:Z0 sm0) {j:Nat} (hj:0≤j):W44 F meth (smN F meth sm0 j):=by
  unfold W44
  intro n h lg d l v
  intros
  exact e44 (l:=l) (v:=v) T.f44 (smN_none Z (by decide) (.inl (by decide))) n h lg d (w72 T Z (Nat.le_trans (by decide) hj)) (by assumption) (by assumption) (by assumption) (by assumption)
theorem w69 (T:FT F) (Z:Z0 sm0) {j:Nat} (hj:0≤j):W69 F meth (smN F meth sm0 j):=by
  unfold W69
  intro n h lg d s x
  intros
  exact e69 (s:=s) (x:=x) T.f69 (smN_none Z (by decide) (.inl (by decide))) n h lg d (by assumption)
theorem c5 (T:FT F) (Z:Z0 sm0) {j:Nat} (hj:1≤j):H5 (smN F meth sm0 j):=by
  unfold H5
  rw[smN_at (f:=5) (i:=0) (by decide) hj]
  intro l v m
  intros
  exact Ev.pure (e5 (l:=l) (v:=v) T.f5 (smN_none Z (by decide) (.inr (by decide))) 28000 _ _ _ (by assumption) (by assumption)) rfl (by simp[AV.refs,refsL])
theorem c15 (T:FT F) (Z:Z0 sm0) {j:Nat} (hj:1≤j):H15 (smN F meth sm0 j):=by
  unfold H15
  rw[smN_at (f:=15) (i:=0) (by decide) hj]
  intro l v w m
  intros
  exact Ev.pure (e15 (l:=l) (v:=v) (w:=w) T.f15 (smN_none Z (by decide) (.inr (by decide))) 5000 _ _ _ (by assumption) (by assumption) (by assumption)) rfl (by simp[AV.refs,refsL])
theorem c21 (T:FT F) (Z:Z0 sm0) {j:Nat} (hj:1≤j):H21 (smN F meth sm0 j):=by
  unfold H21
  rw[smN_at (f:=21) (i:=0) (by decide) hj]
  intro l v w m
  intros
  exact Ev.pure (e21 (l:=l) (v:=v) (w:=w) T.f21 (smN_none Z (by decide) (.inr (by decide))) 28000 _ _ _ (by assumption) (by assumption) (by assumption)) rfl (by simp[AV.refs,refsL])
theorem c22 (T:FT F) (Z:Z0 sm0) {j:Nat} (hj:1≤j):H22 (smN F meth sm0 j):=by
  unfold H22
  rw[smN_at (f:=22) (i:=0) (by decide) hj]
  intro l v m
  intros
  exact Ev.pure (e22 (l:=l) (v:=v) T.f22 (smN_none Z (by decide) (.inr (by decide))) 28000 _ _ _ (by assumption) (by assumption)) rfl (by simp[AV.refs,refsL])
theorem c36 (T:FT F) (Z:Z0 sm0) {j:Nat} (hj:1≤j):H36 (smN F meth sm0 j):=by
  unfold H36
  rw[smN_at (f:=36) (i:=0) (by decide) hj]
  intro x m
  intros
  exact Ev.pure (e36 (x:=x) T.f36 (smN_none Z (by decide) (.inr (by decide))) 28000 _ _ _ (by assumption)) rfl (by simp[AV.refs,refsL])
theorem c46 (T:FT F) (Z:Z0 sm0) {j:Nat} (hj:1≤j):H46 (smN F meth sm0 j):=by
  unfold H46
  rw[smN_at (f:=46) (i:=0) (by decide) hj]
  intro l v w m
  intros
  exact Ev.pure (e46 (l:=l) (v:=v) (w:=w) T.f46 (smN_none Z (by decide) (.inr (by decide))) 28000 _ _ _ (by assumption) (by assumption) (by assumption)) rfl (by simp[AV.refs,refsL])
theorem c52 (T:FT F) (Z:Z0 sm0) {j:Nat} (hj:1≤j):H52 (smN F meth sm0 j):=by
  unfold H52
  rw[smN_at (f:=52) (i:=0) (by decide) hj]
  intro s b i o m
  intros
  exact Ev.pure (e52 (s:=s) (b:=b) (i:=i) (o:=o) T.f52 (smN_none Z (by decide) (.inr (by decide))) 28000 _ _ _ (by assumption) (by assumption) (by assumption) (by assumption)) rfl (fun b hb=>peerX_refs ((by assumption:SnapAt m.blks s).va _ (gt_mem (by assumption))) b (by simpa only[AV.refs] using hb))
theorem c54 (T:FT F) (Z:Z0 sm0) {j:Nat} (hj:1≤j):H54 (smN F meth sm0 j):=by
  unfold H54
  rw[smN_at (f:=54) (i:=0) (by decide) hj]
  intro x o m
  intros
  exact Ev.pure (e54 (x:=x) (o:=o) T.f54 (smN_none Z (by decide) (.inr (by decide))) 28000 _ _ _ (by assumption)) rfl (fun b hb=>peerX_refs (by assumption) b (by simpa only[AV.refs] using hb))
theorem c55 (T:FT F) (Z:Z0 sm0) {j:Nat} (hj:1≤j):H55 (smN F meth sm0 j):=by
  unfold H55
  rw[smN_at (f:=55) (i:=0) (by decide) hj]
  intro l v m
  intros
  exact Ev.pure (e55 (l:=l) (v:=v) T.f55 (smN_none Z (by decide) (.inr (by decide))) 28000 _ _ _ (by assumption) (by assumption)) rfl (by simp[AV.refs,refsL])
theorem c56 (T:FT F) (Z:Z0 sm0) {j:Nat} (hj:1≤j):H56 (smN F meth sm0 j):=by
  unfold H56
  rw[smN_at (f:=56) (i:=0) (by decide) hj]
  intro l v m
  intros
  exact Ev.pure (e56 (l:=l) (v:=v) T.f56 (smN_none Z (by decide) (.inr (by decide))) 28000 _ _ _ (by assumption) (by assumption)) rfl (by simp[AV.refs,refsL])
theorem c60 (T:FT F) (Z:Z0 sm0) {j:Nat} (hj:1≤j):H60 (smN F meth sm0 j):=by
  unfold H60
  rw[smN_at (f:=60) (i:=0) (by decide) hj]
  intro a b c m
  intros
  exact Ev.pure (e60 (a:=a) (b:=b) (c:=c) T.f60 (smN_none Z (by decide) (.inr (by decide))) 28000 _ _ _) rfl (by simp[AV.refs,refsL])
theorem c71 (T:FT F) (Z:Z0 sm0) {j:Nat} (hj:1≤j):H71 (smN F meth sm0 j):=by
  unfold H71
  rw[smN_at (f:=71) (i:=0) (by decide) hj]
  intro l v x m
  intros
  exact Ev.pure (e71 (l:=l) (v:=v) (x:=x) T.f71 (smN_none Z (by decide) (.inr (by decide))) 28000 _ _ _ (by assumption) (by assumption)) rfl (by simp[AV.refs,refsL])
theorem c73 (T:FT F) (Z:Z0 sm0) {j:Nat} (hj:1≤j):H73 (smN F meth sm0 j):=by
  unfold H73
  rw[smN_at (f:=73) (i:=0) (by decide) hj]
  intro l v w m
  intros
  exact Ev.pure (e73 (l:=l) (v:=v) (w:=w) T.f73 (smN_none Z (by decide) (.inr (by decide))) 28000 _ _ _ (by assumption) (by assumption) (by assumption)) rfl (by simp[AV.refs,refsL])
theorem c85 (T:FT F) (Z:Z0 sm0) {j:Nat} (hj:1≤j):H85 (smN F meth sm0 j):=by
  unfold H85
  rw[smN_at (f:=85) (i:=0) (by decide) hj]
  intro q s v R m
  intros
  exact Ev.pure (e85 (q:=q) (s:=s) (v:=v) (R:=R) T.f85 (smN_none Z (by decide) (.inr (by decide))) 28000 _ _ _ (by assumption) (by assumption) (by assumption) (by assumption) (by assumption)) rfl (by simp[AV.refs,refsL])
theorem c89 (T:FT F) (Z:Z0 sm0) {j:Nat} (hj:1≤j):H89 (smN F meth sm0 j):=by
  unfold H89
  rw[smN_at (f:=89) (i:=0) (by decide) hj]
  intro x m
  intros
  exact Ev.pure (e89 (x:=x) T.f89 (smN_none Z (by decide) (.inr (by decide))) 28000 _ _ _) rfl (by simp[AV.refs,refsL])
theorem c95 (T:FT F) (Z:Z0 sm0) {j:Nat} (hj:1≤j):H95 (smN F meth sm0 j):=by
  unfold H95
  rw[smN_at (f:=95) (i:=0) (by decide) hj]
  intro S s m
  intros
  exact Ev.pure (e95 (S:=S) (s:=s) T.f95 (smN_none Z (by decide) (.inr (by decide))) 28000 _ _ _ (by assumption)) rfl (by simp[AV.refs,refsL])
theorem c98 (T:FT F) (Z:Z0 sm0) {j:Nat} (hj:1≤j):H98 (smN F meth sm0 j):=by
  unfold H98
  rw[smN_at (f:=98) (i:=0) (by decide) hj]
  intro P s t k m
  intros
  exact Ev.pure (e98 (P:=P) (s:=s) (t:=t) (k:=k) T.f98 (smN_none Z (by decide) (.inr (by decide))) 28000 _ _ _ (by assumption)) rfl (by simp[AV.refs,refsL])
theorem c99 (T:FT F) (Z:Z0 sm0) {j:Nat} (hj:1≤j):H99 (smN F meth sm0 j):=by
  unfold H99
  rw[smN_at (f:=99) (i:=0) (by decide) hj]
  intro a m
  intros
  exact Ev.pure (e99 (a:=a) T.f99 (smN_none Z (by decide) (.inr (by decide))) 28000 _ _ _) rfl (by simp[AV.refs,refsL])
theorem c100 (T:FT F) (Z:Z0 sm0) {j:Nat} (hj:1≤j):H100 (smN F meth sm0 j):=by
  unfold H100
  rw[smN_at (f:=100) (i:=0) (by decide) hj]
  intro x m
  intros
  exact Ev.pure (e100 (x:=x) T.f100 (smN_none Z (by decide) (.inr (by decide))) 28000 _ _ _) rfl (by simp[AV.refs,refsL])
theorem c103 (T:FT F) (Z:Z0 sm0) {j:Nat} (hj:1≤j):H103 (smN F meth sm0 j):=by
  unfold H103
  rw[smN_at (f:=103) (i:=0) (by decide) hj]
  intro S s m
  intros
  exact Ev.pure (e103 (S:=S) (s:=s) T.f103 (smN_none Z (by decide) (.inr (by decide))) 28000 _ _ _ (by assumption)) rfl (by simp[AV.refs,refsL])
theorem c106 (T:FT F) (Z:Z0 sm0) {j:Nat} (hj:1≤j):H106 (smN F meth sm0 j):=by
  unfold H106
  rw[smN_at (f:=106) (i:=0) (by decide) hj]
  intro P s t k m
  intros
  exact Ev.pure (e106 (P:=P) (s:=s) (t:=t) (k:=k) T.f106 (smN_none Z (by decide) (.inr (by decide))) 28000 _ _ _ (by assumption)) rfl (by simp[AV.refs,refsL])
theorem c107 (T:FT F) (Z:Z0 sm0) {j:Nat} (hj:1≤j):H107 (smN F meth sm0 j):=by
  unfold H107
  rw[smN_at (f:=107) (i:=0) (by decide) hj]
  intro l v m
  intros
  exact Ev.pure (e107 (l:=l) (v:=v) T.f107 (smN_none Z (by decide) (.inr (by decide))) 28000 _ _ _ (by assumption) (by assumption)) rfl (by simp[AV.refs,refsL])
theorem c111 (T:FT F) (Z:Z0 sm0) {j:Nat} (hj:1≤j):H111 (smN F meth sm0 j):=by
  unfold H111
  rw[smN_at (f:=111) (i:=0) (by decide) hj]
  intro y x b own m
  intros
  exact Ev.pure (e111 (y:=y) (x:=x) (b:=b) (own:=own) T.f111 (smN_none Z (by decide) (.inr (by decide))) 28000 _ _ _ (by assumption)) rfl (by simp[AV.refs,refsL])
theorem c112 (T:FT F) (Z:Z0 sm0) {j:Nat} (hj:1≤j):H112 (smN F meth sm0 j):=by
  unfold H112
  rw[smN_at (f:=112) (i:=0) (by decide) hj]
  intro l v x m
  intros
  exact Ev.pure (e112 (l:=l) (v:=v) (x:=x) T.f112 (smN_none Z (by decide) (.inr (by decide))) 28000 _ _ _ (by assumption) (by assumption)) rfl (by simp[AV.refs,refsL])
theorem c118 (T:FT F) (Z:Z0 sm0) {j:Nat} (hj:1≤j):H118 (smN F meth sm0 j):=by
  unfold H118
  rw[smN_at (f:=118) (i:=0) (by decide) hj]
  intro x m
  intros
  exact Ev.pure (e118 (x:=x) T.f118 (smN_none Z (by decide) (.inr (by decide))) 28000 _ _ _ (smN_none Z (by decide) (.inl (by decide))) T.f154 (smN_none Z (by decide) (.inl (by decide))) T.f171 (by assumption)) rfl (by simp[AV.refs,refsL])
theorem c131 (T:FT F) (Z:Z0 sm0) {j:Nat} (hj:1≤j):H131 (smN F meth sm0 j):=by
  unfold H131
  rw[smN_at (f:=131) (i:=0) (by decide) hj]
  intro l v m
  intros
  exact Ev.pure (e131 (l:=l) (v:=v) T.f131 (smN_none Z (by decide) (.inr (by decide))) 28000 _ _ _ (by assumption) (by assumption)) rfl (by simp[AV.refs,refsL])
theorem c134 (T:FT F) (Z:Z0 sm0) {j:Nat} (hj:1≤j):H134 (smN F meth sm0 j):=by
  unfold H134
  rw[smN_at (f:=134) (i:=0) (by decide) hj]
  intro S s b own m
  intros
  exact Ev.pure (e134 (S:=S) (s:=s) (b:=b) (own:=own) T.f134 (smN_none Z (by decide) (.inr (by decide))) 28000 _ _ _ (by assumption)) rfl (by simp[AV.refs,refsL])
theorem c135 (T:FT F) (Z:Z0 sm0) {j:Nat} (hj:1≤j):H135 (smN F meth sm0 j):=by
  unfold H135
  rw[smN_at (f:=135) (i:=0) (by decide) hj]
  intro S s b own m
  intros
  exact Ev.pure (e135 (S:=S) (s:=s) (b:=b) (own:=own) T.f135 (smN_none Z (by decide) (.inr (by decide))) 28000 _ _ _ (by assumption) (by assumption) (by assumption)) rfl (by simp[AV.refs,refsL])
theorem c136 (T:FT F) (Z:Z0 sm0) {j:Nat} (hj:1≤j):H136 (smN F meth sm0 j):=by
  unfold H136
  rw[smN_at (f:=136) (i:=0) (by decide) hj]
  intro S s b own m
  intros
  exact Ev.pure (e136 (S:=S) (s:=s) (b:=b) (own:=own) T.f136 (smN_none Z (by decide) (.inr (by decide))) 28000 _ _ _ (by assumption) (by assumption)) rfl (by simp[AV.refs,refsL])
theorem c138 (T:FT F) (Z:Z0 sm0) {j:Nat} (hj:1≤j):H138 (smN F meth sm0 j):=by
  unfold H138
  rw[smN_at (f:=138) (i:=0) (by decide) hj]
  intro R t k m
  intros
  exact Ev.pure (e138 (R:=R) (t:=t) (k:=k) T.f138 (smN_none Z (by decide) (.inr (by decide))) 28000 _ _ _ (by assumption) (by assumption) (by assumption) (by assumption) (by assumption)) rfl (by simp[AV.refs,refsL])
theorem c140 (T:FT F) (Z:Z0 sm0) {j:Nat} (hj:1≤j):H140 (smN F meth sm0 j):=by
  unfold H140
  rw[smN_at (f:=140) (i:=0) (by decide) hj]
  intro a b m
  intros
  exact Ev.pure (e140 (a:=a) (b:=b) T.f140 (smN_none Z (by decide) (.inr (by decide))) 28000 _ _ _) rfl (by simp[AV.refs,refsL])
theorem c141 (T:FT F) (Z:Z0 sm0) {j:Nat} (hj:1≤j):H141 (smN F meth sm0 j):=by
  unfold H141
  rw[smN_at (f:=141) (i:=0) (by decide) hj]
  intro x m
  intros
  exact Ev.pure (e141 (x:=x) T.f141 (smN_none Z (by decide) (.inr (by decide))) 28000 _ _ _) rfl (by simp[AV.refs,refsL])
theorem c142 (T:FT F) (Z:Z0 sm0) {j:Nat} (hj:1≤j):H142 (smN F meth sm0 j):=by
  unfold H142
  rw[smN_at (f:=142) (i:=0) (by decide) hj]
  intro x m
  intros
  exact Ev.pure (e142 (x:=x) T.f142 (smN_none Z (by decide) (.inr (by decide))) 28000 _ _ _) rfl (by simp[AV.refs,refsL])
theorem c144 (T:FT F) (Z:Z0 sm0) {j:Nat} (hj:1≤j):H144 (smN F meth sm0 j):=by
  unfold H144
  rw[smN_at (f:=144) (i:=0) (by decide) hj]
  intro l v x m
  intros
  exact Ev.pure (e144 (l:=l) (v:=v) (x:=x) T.f144 (smN_none Z (by decide) (.inr (by decide))) 28000 _ _ _ (by assumption) (by assumption)) rfl (by simp[AV.refs,refsL])
theorem c149 (T:FT F) (Z:Z0 sm0) {j:Nat} (hj:1≤j):H149 (smN F meth sm0 j):=by
  unfold H149
  rw[smN_at (f:=149) (i:=0) (by decide) hj]
  intro S s t m
  intros
  exact Ev.pure (e149 (S:=S) (s:=s) (t:=t) T.f149 (smN_none Z (by decide) (.inr (by decide))) 28000 _ _ _ (by assumption) (by assumption) (by assumption)) rfl (by simp[AV.refs,refsL])
theorem c150 (T:FT F) (Z:Z0 sm0) {j:Nat} (hj:1≤j):H150 (smN F meth sm0 j):=by
  unfold H150
  rw[smN_at (f:=150) (i:=0) (by decide) hj]
  intro R t k t' k' m
  intros
  exact Ev.pure (e150 (R:=R) (t:=t) (k:=k) (t':=t') (k':=k') T.f150 (smN_none Z (by decide) (.inr (by decide))) 28000 _ _ _ (by assumption) (by assumption) (by assumption) (by assumption)) rfl (by simp[AV.refs,refsL])
theorem c151 (T:FT F) (Z:Z0 sm0) {j:Nat} (hj:1≤j):H151 (smN F meth sm0 j):=by
  unfold H151
  rw[smN_at (f:=151) (i:=0) (by decide) hj]
  intro b m
  intros
  exact Ev.pure (e151 (b:=b) T.f151 (smN_none Z (by decide) (.inr (by decide))) 28000 _ _ _) rfl (by simp[AV.refs,refsL])
theorem c153 (T:FT F) (Z:Z0 sm0) {j:Nat} (hj:1≤j):H153 (smN F meth sm0 j):=by
  unfold H153
  rw[smN_at (f:=153) (i:=0) (by decide) hj]
  intro x m
  intros
  exact Ev.pure (e153 (x:=x) T.f153 (smN_none Z (by decide) (.inr (by decide))) 28000 _ _ _ (smN_none Z (by decide) (.inl (by decide))) T.f154 (smN_none Z (by decide) (.inl (by decide))) T.f171 (by assumption)) rfl (by simp[AV.refs,refsL])
theorem c155 (T:FT F) (Z:Z0 sm0) {j:Nat} (hj:1≤j):H155 (smN F meth sm0 j):=by
  unfold H155
  rw[smN_at (f:=155) (i:=0) (by decide) hj]
  intro l v m
  intros
  exact Ev.pure (e155 (l:=l) (v:=v) T.f155 (smN_none Z (by decide) (.inr (by decide))) 28000 _ _ _ (by assumption) (by assumption) (by assumption) (by assumption)) rfl (by simp[AV.refs,refsL])
theorem c159 (T:FT F) (Z:Z0 sm0) {j:Nat} (hj:1≤j):H159 (smN F meth sm0 j):=by
  unfold H159
  rw[smN_at (f:=159) (i:=0) (by decide) hj]
  intro x m
  intros
  exact Ev.pure (e159 (x:=x) T.f159 (smN_none Z (by decide) (.inr (by decide))) 28000 _ _ _) rfl (by simp[AV.refs,refsL])
theorem c161 (T:FT F) (Z:Z0 sm0) {j:Nat} (hj:1≤j):H161 (smN F meth sm0 j):=by
  unfold H161
  rw[smN_at (f:=161) (i:=0) (by decide) hj]
  intro R t k m
  intros
  exact Ev.pure (e161 (R:=R) (t:=t) (k:=k) T.f161 (smN_none Z (by decide) (.inr (by decide))) 28000 _ _ _ (by assumption) (by assumption)) rfl (by simp[AV.refs,refsL])
theorem c166 (T:FT F) (Z:Z0 sm0) {j:Nat} (hj:1≤j):H166 (smN F meth sm0 j):=by
  unfold H166
  rw[smN_at (f:=166) (i:=0) (by decide) hj]
  intro a m
  intros
  exact Ev.pure (e166 (a:=a) T.f166 (smN_none Z (by decide) (.inr (by decide))) 28000 _ _ _) rfl (by simp[AV.refs,refsL])
theorem c168 (T:FT F) (Z:Z0 sm0) {j:Nat} (hj:1≤j):H168 (smN F meth sm0 j):=by
  unfold H168
  rw[smN_at (f:=168) (i:=0) (by decide) hj]
  intro x y m
  intros
  exact Ev.pure (e168 (x:=x) (y:=y) T.f168 (smN_none Z (by decide) (.inr (by decide))) 28000 _ _ _) rfl (by simp[AV.refs,refsL])
theorem c170 (T:FT F) (Z:Z0 sm0) {j:Nat} (hj:1≤j):H170 (smN F meth sm0 j):=by
  unfold H170
  rw[smN_at (f:=170) (i:=0) (by decide) hj]
  intro y x b own m
  intros
  exact Ev.pure (e170 (y:=y) (x:=x) (b:=b) (own:=own) T.f170 (smN_none Z (by decide) (.inr (by decide))) 28000 _ _ _ (by assumption)) rfl (by simp[AV.refs,refsL])
theorem c172 (T:FT F) (Z:Z0 sm0) {j:Nat} (hj:1≤j):H172 (smN F meth sm0 j):=by
  unfold H172
  rw[smN_at (f:=172) (i:=0) (by decide) hj]
  intro b m
  intros
  exact Ev.pure (e172 (b:=b) T.f172 (smN_none Z (by decide) (.inr (by decide))) 28000 _ _ _) rfl (by simp[AV.refs,refsL])
theorem c173 (T:FT F) (Z:Z0 sm0) {j:Nat} (hj:1≤j):H173 (smN F meth sm0 j):=by
  unfold H173
  rw[smN_at (f:=173) (i:=0) (by decide) hj]
  intro x m
  intros
  exact Ev.pure (e173 (x:=x) T.f173 (smN_none Z (by decide) (.inr (by decide))) 28000 _ _ _ (by assumption)) rfl (by simp[AV.refs,refsL])
theorem c179 (T:FT F) (Z:Z0 sm0) {j:Nat} (hj:1≤j):H179 (smN F meth sm0 j):=by
  unfold H179
  rw[smN_at (f:=179) (i:=0) (by decide) hj]
  intro x m
  intros
  exact Ev.pure (e179 (x:=x) T.f179 (smN_none Z (by decide) (.inr (by decide))) 28000 _ _ _) rfl (by simp[AV.refs,refsL])
theorem c180 (T:FT F) (Z:Z0 sm0) {j:Nat} (hj:1≤j):H180 (smN F meth sm0 j):=by
  unfold H180
  rw[smN_at (f:=180) (i:=0) (by decide) hj]
  intro l v m
  intros
  exact Ev.pure (e180 (l:=l) (v:=v) T.f180 (smN_none Z (by decide) (.inr (by decide))) 28000 _ _ _ (by assumption) (by assumption)) rfl (by simp[AV.refs,refsL])
theorem w4 (T:FT F) (Z:Z0 sm0) {j:Nat} (hj:1≤j):W4 F meth (smN F meth sm0 j):=by
  unfold W4
  intro n h lg d s
  intros
  exact e4 (s:=s) T.f4 (smN_none Z (by decide) (.inl (by decide))) n h lg d (c5 T Z (Nat.le_trans (by decide) hj)) (c22 T Z (Nat.le_trans (by decide) hj)) (by assumption)
theorem c34 (T:FT F) (Z:Z0 sm0) {j:Nat} (hj:2≤j):H34 (smN F meth sm0 j):=by
  unfold H34
  rw[smN_at (f:=34) (i:=1) (by decide) hj]
  intro c m
  intros
  exact Ev.pure (e34 (c:=c) T.f34 (smN_none Z (by decide) (.inr (by decide))) 28000 _ _ _ (c55 T Z (by decide)) (c56 T Z (by decide)) (by assumption) (by assumption)) rfl (by simp[AV.refs,refsL])
theorem c38 (T:FT F) (Z:Z0 sm0) {j:Nat} (hj:2≤j):H38 (smN F meth sm0 j):=by
  unfold H38
  rw[smN_at (f:=38) (i:=1) (by decide) hj]
  intro c m
  intros
  exact Ev.pure (e38 (c:=c) T.f38 (smN_none Z (by decide) (.inr (by decide))) 28000 _ _ _ (c60 T Z (by decide))) rfl (by simp[AV.refs,refsL])
theorem c59 (T:FT F) (Z:Z0 sm0) {j:Nat} (hj:2≤j):H59 (smN F meth sm0 j):=by
  unfold H59
  rw[smN_at (f:=59) (i:=1) (by decide) hj]
  intro a b m
  intros
  exact Ev.pure (e59 (a:=a) (b:=b) T.f59 (smN_none Z (by decide) (.inr (by decide))) 28000 _ _ _ (c99 T Z (by decide))) rfl (by simp[AV.refs,refsL])
theorem c67 (T:FT F) (Z:Z0 sm0) {j:Nat} (hj:2≤j):H67 (smN F meth sm0 j):=by
  unfold H67
  rw[smN_at (f:=67) (i:=1) (by decide) hj]
  intro l v x m
  intros
  exact Ev.pure (e67 (l:=l) (v:=v) (x:=x) T.f67 (smN_none Z (by decide) (.inr (by decide))) 28000 _ _ _ (c112 T Z (by decide)) (by assumption) (by assumption)) rfl (by simp[AV.refs,refsL])
theorem c68 (T:FT F) (Z:Z0 sm0) {j:Nat} (hj:2≤j):H68 (smN F meth sm0 j):=by
  unfold H68
  rw[smN_at (f:=68) (i:=1) (by decide) hj]
  intro b m
  intros
  exact Ev.pure (e68 (b:=b) T.f68 (smN_none Z (by decide) (.inr (by decide))) 28000 _ _ _ (c100 T Z (by decide)) (by assumption) (by assumption)) rfl (by simp[AV.refs,refsL])
theorem c92 (T:FT F) (Z:Z0 sm0) {j:Nat} (hj:2≤j):H92 (smN F meth sm0 j):=by
  unfold H92
  rw[smN_at (f:=92) (i:=1) (by decide) hj]
  intro x m
  intros
  exact Ev.pure (e92 (x:=x) T.f92 (c107 T Z (by decide)) (smN_none Z (by decide) (.inr (by decide))) 28000 _ _ _) rfl (by simp[AV.refs,refsL])
theorem c101 (T:FT F) (Z:Z0 sm0) {j:Nat} (hj:2≤j):H101 (smN F meth sm0 j):=by
  unfold H101
  rw[smN_at (f:=101) (i:=1) (by decide) hj]
  intro a b m
  intros
  exact Ev.pure (e101 (a:=a) (b:=b) T.f101 (smN_none Z (by decide) (.inr (by decide))) 28000 _ _ _ (c140 T Z (by decide))) rfl (by simp[AV.refs,refsL])
theorem c105 (T:FT F) (Z:Z0 sm0) {j:Nat} (hj:2≤j):H105 (smN F meth sm0 j):=by
  unfold H105
  rw[smN_at (f:=105) (i:=1) (by decide) hj]
  intro R t k m
  intros
  exact Ev.pure (e105 (R:=R) (t:=t) (k:=k) T.f105 (smN_none Z (by decide) (.inr (by decide))) 28000 _ _ _ (c144 T Z (by decide)) (by assumption)) rfl (by simp[AV.refs,refsL])
theorem c115 (T:FT F) (Z:Z0 sm0) {j:Nat} (hj:2≤j):H115 (smN F meth sm0 j):=by
  unfold H115
  rw[smN_at (f:=115) (i:=1) (by decide) hj]
  intro P s t k s' t' k' m
  intros
  exact Ev.pure (e115 (P:=P) (s:=s) (t:=t) (k:=k) (s':=s') (t':=t') (k':=k') T.f115 (smN_none Z (by decide) (.inr (by decide))) 28000 _ _ _ (c149 T Z (by decide)) (c150 T Z (by decide)) (by assumption) (by assumption) (by assumption)) rfl (by simp[AV.refs,refsL])
theorem c132 (T:FT F) (Z:Z0 sm0) {j:Nat} (hj:2≤j):H132 (smN F meth sm0 j):=by
  unfold H132
  rw[smN_at (f:=132) (i:=1) (by decide) hj]
  intro a b m
  intros
  exact Ev.pure (e132 (a:=a) (b:=b) T.f132 (smN_none Z (by decide) (.inr (by decide))) 28000 _ _ _ (c166 T Z (by decide))) rfl (by simp[AV.refs,refsL])
theorem c143 (T:FT F) (Z:Z0 sm0) {j:Nat} (hj:2≤j):H143 (smN F meth sm0 j):=by
  unfold H143
  rw[smN_at (f:=143) (i:=1) (by decide) hj]
  intro S s i m
  intros
  exact Ev.pure (e143 (S:=S) (s:=s) (i:=i) T.f143 (smN_none Z (by decide) (.inr (by decide))) 28000 _ _ _ (c100 T Z (by decide)) (by assumption) (by assumption) (by assumption) (by assumption) (by assumption)) rfl (by simp[AV.refs,refsL])
theorem c147 (T:FT F) (Z:Z0 sm0) {j:Nat} (hj:2≤j):H147 (smN F meth sm0 j):=by
  unfold H147
  rw[smN_at (f:=147) (i:=1) (by decide) hj]
  intro l v x b own m
  intros
  exact Ev.pure (e147 (l:=l) (v:=v) (x:=x) (b:=b) (own:=own) T.f147 (smN_none Z (by decide) (.inr (by decide))) 28000 _ _ _ (c111 T Z (by decide)) (by assumption) (by assumption) (by assumption)) rfl (by simp[AV.refs,refsL])
theorem c152 (T:FT F) (Z:Z0 sm0) {j:Nat} (hj:2≤j):H152 (smN F meth sm0 j):=by
  unfold H152
  rw[smN_at (f:=152) (i:=1) (by decide) hj]
  intro l v m
  intros
  exact Ev.pure (e152 (l:=l) (v:=v) T.f152 (smN_none Z (by decide) (.inr (by decide))) 28000 _ _ _ (c153 T Z (by decide)) (by assumption) (by assumption) (by assumption)) rfl (by simp[AV.refs,refsL])
theorem c156 (T:FT F) (Z:Z0 sm0) {j:Nat} (hj:2≤j):H156 (smN F meth sm0 j):=by
  unfold H156
  rw[smN_at (f:=156) (i:=1) (by decide) hj]
  intro b own q s v R m
  intros
  exact Ev.pure (e156 (b:=b) (own:=own) (q:=q) (s:=s) (v:=v) (R:=R) T.f156 (smN_none Z (by decide) (.inr (by decide))) 28000 _ _ _ (c155 T Z (by decide)) (by assumption) (by assumption) (by assumption) (by assumption)) rfl (by simp[AV.refs,refsL])
theorem c157 (T:FT F) (Z:Z0 sm0) {j:Nat} (hj:2≤j):H157 (smN F meth sm0 j):=by
  unfold H157
  rw[smN_at (f:=157) (i:=1) (by decide) hj]
  intro b m
  intros
  exact Ev.pure (e157 (b:=b) T.f157 (smN_none Z (by decide) (.inr (by decide))) 28000 _ _ _ (c172 T Z (by decide)) (c173 T Z (by decide)) (by assumption) (by assumption)) rfl (by simp[AV.refs,refsL])
theorem c158 (T:FT F) (Z:Z0 sm0) {j:Nat} (hj:2≤j):H158 (smN F meth sm0 j):=by
  unfold H158
  rw[smN_at (f:=158) (i:=1) (by decide) hj]
  intro s m
  intros
  exact Ev.pure (e158 (s:=s) T.f158 (smN_none Z (by decide) (.inr (by decide))) 28000 _ _ _ (c173 T Z (by decide)) (by assumption)) rfl (by simp[AV.refs,refsL])
theorem c164 (T:FT F) (Z:Z0 sm0) {j:Nat} (hj:2≤j):H164 (smN F meth sm0 j):=by
  unfold H164
  rw[smN_at (f:=164) (i:=1) (by decide) hj]
  intro R t k o s m
  intros
  exact Ev.pure (e164 (R:=R) (t:=t) (k:=k) (o:=o) (s:=s) T.f164 (smN_none Z (by decide) (.inr (by decide))) 28000 _ _ _ (c138 T Z (by decide)) (by assumption) (by assumption) (by assumption) (by assumption)) rfl (by simp[AV.refs,refsL])
theorem c167 (T:FT F) (Z:Z0 sm0) {j:Nat} (hj:2≤j):H167 (smN F meth sm0 j):=by
  unfold H167
  rw[smN_at (f:=167) (i:=1) (by decide) hj]
  intro l v x m
  intros
  exact Ev.pure (e167 (l:=l) (v:=v) (x:=x) T.f167 (smN_none Z (by decide) (.inr (by decide))) 28000 _ _ _ (c168 T Z (by decide)) (by assumption) (by assumption)) rfl (by simp[AV.refs,refsL])
theorem c174 (T:FT F) (Z:Z0 sm0) {j:Nat} (hj:2≤j):H174 (smN F meth sm0 j):=by
  unfold H174
  rw[smN_at (f:=174) (i:=1) (by decide) hj]
  intro x y m
  intros
  exact Ev.pure (e174 (x:=x) (y:=y) T.f174 (smN_none Z (by decide) (.inr (by decide))) 28000 _ _ _ (c179 T Z (by decide))) rfl (by simp[AV.refs,refsL])
theorem c177 (T:FT F) (Z:Z0 sm0) {j:Nat} (hj:2≤j):H177 (smN F meth sm0 j):=by
  unfold H177
  rw[smN_at (f:=177) (i:=1) (by decide) hj]
  intro l v m
  intros
  exact Ev.pure (e177 (l:=l) (v:=v) T.f177 (smN_none Z (by decide) (.inr (by decide))) 28000 _ _ _ (c180 T Z (by decide)) (by assumption) (by assumption)) rfl (by simp[AV.refs,refsL])
theorem c178 (T:FT F) (Z:Z0 sm0) {j:Nat} (hj:2≤j):H178 (smN F meth sm0 j):=by
  unfold H178
  rw[smN_at (f:=178) (i:=1) (by decide) hj]
  intro l v x b own m
  intros
  exact Ev.pure (e178 (l:=l) (v:=v) (x:=x) (b:=b) (own:=own) T.f178 (smN_none Z (by decide) (.inr (by decide))) 28000 _ _ _ (c170 T Z (by decide)) (by assumption) (by assumption) (by assumption)) rfl (by simp[AV.refs,refsL])
theorem c37 (T:FT F) (Z:Z0 sm0) {j:Nat} (hj:3≤j):H37 (smN F meth sm0 j):=by
  unfold H37
  rw[smN_at (f:=37) (i:=2) (by decide) hj]
  intro a b c d v w m
  intros
  exact Ev.pure (e37 (a:=a) (b:=b) (c:=c) (v:=v) (w:=w) T.f37 (smN_none Z (by decide) (.inr (by decide))) 28000 _ _ _ (c59 T Z (by decide)) (by assumption) (by assumption)) rfl (by simp[AV.refs,refsL])
theorem c42 (T:FT F) (Z:Z0 sm0) {j:Nat} (hj:3≤j):H42 (smN F meth sm0 j):=by
  unfold H42
  rw[smN_at (f:=42) (i:=2) (by decide) hj]
  intro l v m
  intros
  exact Ev.pure (e42 (l:=l) (v:=v) T.f42 (smN_none Z (by decide) (.inr (by decide))) 28000 _ _ _ (c68 T Z (by decide)) (by assumption) (by assumption) (by assumption)) rfl (by simp[AV.refs,refsL])
theorem c63 (T:FT F) (Z:Z0 sm0) {j:Nat} (hj:3≤j):H63 (smN F meth sm0 j):=by
  unfold H63
  rw[smN_at (f:=63) (i:=2) (by decide) hj]
  intro b m
  intros
  exact Ev.pure (e63 (b:=b) T.f63 (smN_none Z (by decide) (.inr (by decide))) 28000 _ _ _ (c92 T Z (by decide)) (c107 T Z (by decide)) (by assumption) (by assumption)) rfl (by simp[AV.refs,refsL])
theorem c74 (T:FT F) (Z:Z0 sm0) {j:Nat} (hj:3≤j):H74 (smN F meth sm0 j):=by
  unfold H74
  rw[smN_at (f:=74) (i:=2) (by decide) hj]
  intro l l' v w m
  intros
  exact Ev.pure (e74 (l:=l) (l':=l') (v:=v) (w:=w) T.f74 (smN_none Z (by decide) (.inr (by decide))) 27000 _ _ _ (c115 T Z (by decide)) (by assumption) (by assumption) (by assumption) (by assumption) (by assumption)) rfl (by simp[AV.refs,refsL])
theorem c91 (T:FT F) (Z:Z0 sm0) {j:Nat} (hj:3≤j):H91 (smN F meth sm0 j):=by
  unfold H91
  rw[smN_at (f:=91) (i:=2) (by decide) hj]
  intro R t k o s m
  intros
  exact Ev.pure (e91 (R:=R) (t:=t) (k:=k) (o:=o) (s:=s) T.f91 (smN_none Z (by decide) (.inr (by decide))) 28000 _ _ _ (c105 T Z (by decide)) (by assumption) (by assumption) (by assumption) (by assumption)) rfl (by simp[AV.refs,refsL])
theorem c93 (T:FT F) (Z:Z0 sm0) {j:Nat} (hj:3≤j):H93 (smN F meth sm0 j):=by
  unfold H93
  rw[smN_at (f:=93) (i:=2) (by decide) hj]
  intro a b m
  intros
  exact Ev.pure (e93 (a:=a) (b:=b) T.f93 (smN_none Z (by decide) (.inr (by decide))) 28000 _ _ _ (c59 T Z (by decide)) (c132 T Z (by decide)) (c131 T Z (by decide))) rfl (by simp[AV.refs,refsL])
theorem c102 (T:FT F) (Z:Z0 sm0) {j:Nat} (hj:3≤j):H102 (smN F meth sm0 j):=by
  unfold H102
  rw[smN_at (f:=102) (i:=2) (by decide) hj]
  intro l v m
  intros
  exact Ev.pure (e102 (l:=l) (v:=v) T.f102 (smN_none Z (by decide) (.inr (by decide))) 28000 _ _ _ (c101 T Z (by decide)) (c141 T Z (by decide)) (c142 T Z (by decide)) (by assumption) (by assumption)) rfl (by simp[AV.refs,refsL])
theorem c104 (T:FT F) (Z:Z0 sm0) {j:Nat} (hj:3≤j):H104 (smN F meth sm0 j):=by
  unfold H104
  rw[smN_at (f:=104) (i:=2) (by decide) hj]
  intro S s m
  intros
  exact Ev.pure (e104 (S:=S) (s:=s) T.f104 (smN_none Z (by decide) (.inr (by decide))) 28000 _ _ _ (c143 T Z (by decide)) (by assumption)) rfl (by simp[AV.refs,refsL])
theorem c110 (T:FT F) (Z:Z0 sm0) {j:Nat} (hj:3≤j):H110 (smN F meth sm0 j):=by
  unfold H110
  rw[smN_at (f:=110) (i:=2) (by decide) hj]
  intro l v x b own m
  intros
  exact Ev.pure (e110 (l:=l) (v:=v) (x:=x) (b:=b) (own:=own) T.f110 (smN_none Z (by decide) (.inr (by decide))) 28000 _ _ _ (c147 T Z (by decide)) (by assumption) (by assumption) (by assumption)) rfl (by simp[AV.refs,refsL])
theorem c117 (T:FT F) (Z:Z0 sm0) {j:Nat} (hj:3≤j):H117 (smN F meth sm0 j):=by
  unfold H117
  rw[smN_at (f:=117) (i:=2) (by decide) hj]
  intro b own m
  intros
  exact Ev.pure (e117 (b:=b) (own:=own) T.f117 (smN_none Z (by decide) (.inr (by decide))) 28000 _ _ _ (c151 T Z (by decide)) (c152 T Z (by decide)) (c153 T Z (by decide)) (by assumption) (by assumption) (by assumption)) rfl (by simp[AV.refs,refsL])
theorem c120 (T:FT F) (Z:Z0 sm0) {j:Nat} (hj:3≤j):H120 (smN F meth sm0 j):=by
  unfold H120
  rw[smN_at (f:=120) (i:=2) (by decide) hj]
  intro b own q s v R m
  intros
  exact Ev.pure (e120 (b:=b) (own:=own) (q:=q) (s:=s) (v:=v) (R:=R) T.f120 (smN_none Z (by decide) (.inr (by decide))) 28000 _ _ _ (c156 T Z (by decide)) (by assumption) (by assumption) (by assumption) (by assumption)) rfl (by simp[AV.refs,refsL])
theorem c123 (T:FT F) (Z:Z0 sm0) {j:Nat} (hj:3≤j):H123 (smN F meth sm0 j):=by
  unfold H123
  rw[smN_at (f:=123) (i:=2) (by decide) hj]
  intro R t k m
  intros
  exact Ev.pure (e123 (R:=R) (t:=t) (k:=k) T.f123 (smN_none Z (by decide) (.inr (by decide))) 28000 _ _ _ (c105 T Z (by decide)) (c161 T Z (by decide)) (by assumption) (by assumption)) rfl (by simp[AV.refs,refsL])
theorem c133 (T:FT F) (Z:Z0 sm0) {j:Nat} (hj:3≤j):H133 (smN F meth sm0 j):=by
  unfold H133
  rw[smN_at (f:=133) (i:=2) (by decide) hj]
  intro x m
  intros
  exact Ev.pure (e133 (x:=x) T.f133 (smN_none Z (by decide) (.inr (by decide))) 28000 _ _ _ (c92 T Z (by decide))) rfl (by simp[AV.refs,refsL])
theorem c137 (T:FT F) (Z:Z0 sm0) {j:Nat} (hj:3≤j):H137 (smN F meth sm0 j):=by
  unfold H137
  rw[smN_at (f:=137) (i:=2) (by decide) hj]
  intro l v a b c x m
  intros
  exact Ev.pure (e137 (l:=l) (v:=v) (a:=a) (b:=b) (c:=c) (x:=x) T.f137 (smN_none Z (by decide) (.inr (by decide))) 28000 _ _ _ (c167 T Z (by decide)) (by assumption) (by assumption)) rfl (by simp[AV.refs,refsL])
theorem c148 (T:FT F) (Z:Z0 sm0) {j:Nat} (hj:3≤j):H148 (smN F meth sm0 j):=by
  unfold H148
  rw[smN_at (f:=148) (i:=2) (by decide) hj]
  intro l v x m
  intros
  exact Ev.pure (e148 (l:=l) (v:=v) (x:=x) T.f148 (smN_none Z (by decide) (.inr (by decide))) 28000 _ _ _ (c101 T Z (by decide)) (by assumption) (by assumption) (by assumption)) rfl (by simp[AV.refs,refsL])
theorem c160 (T:FT F) (Z:Z0 sm0) {j:Nat} (hj:3≤j):H160 (smN F meth sm0 j):=by
  unfold H160
  rw[smN_at (f:=160) (i:=2) (by decide) hj]
  intro s m
  intros
  exact Ev.pure (e160 (s:=s) T.f160 (smN_none Z (by decide) (.inr (by decide))) 28000 _ _ _ (c174 T Z (by decide)) (by assumption)) rfl (by simp[AV.refs,refsL])
theorem c169 (T:FT F) (Z:Z0 sm0) {j:Nat} (hj:3≤j):H169 (smN F meth sm0 j):=by
  unfold H169
  rw[smN_at (f:=169) (i:=2) (by decide) hj]
  intro l v x b own m
  intros
  exact Ev.pure (e169 (l:=l) (v:=v) (x:=x) (b:=b) (own:=own) T.f169 (smN_none Z (by decide) (.inr (by decide))) 28000 _ _ _ (c178 T Z (by decide)) (by assumption) (by assumption) (by assumption)) rfl (by simp[AV.refs,refsL])
theorem w66 (T:FT F) (Z:Z0 sm0) {j:Nat} (hj:3≤j):W66 F meth (smN F meth sm0 j):=by
  unfold W66
  intro n h lg d s wv x
  intros
  exact e66 (s:=s) (wv:=wv) (x:=x) T.f66 (smN_none Z (by decide) (.inl (by decide))) n h lg d (c110 T Z (Nat.le_trans (by decide) hj)) (by assumption) (by assumption)
theorem c40 (T:FT F) (Z:Z0 sm0) {j:Nat} (hj:4≤j):H40 (smN F meth sm0 j):=by
  unfold H40
  rw[smN_at (f:=40) (i:=3) (by decide) hj]
  intro l v m
  intros
  exact Ev.pure (e40 (l:=l) (v:=v) T.f40 (smN_none Z (by decide) (.inr (by decide))) 28000 _ _ _ (c63 T Z (by decide)) (by assumption) (by assumption) (by assumption)) rfl (by simp[AV.refs,refsL])
theorem c45 (T:FT F) (Z:Z0 sm0) {j:Nat} (hj:4≤j):H45 (smN F meth sm0 j):=by
  unfold H45
  rw[smN_at (f:=45) (i:=3) (by decide) hj]
  intro x y m
  intros
  exact Ev.pure (e45 (x:=x) (y:=y) T.f45 (smN_none Z (by decide) (.inr (by decide))) 26000 _ _ _ (c21 T Z (by decide)) (c73 T Z (by decide)) (c74 T Z (by decide)) (by assumption)) rfl (by simp[AV.refs,refsL])
theorem c62 (T:FT F) (Z:Z0 sm0) {j:Nat} (hj:4≤j):H62 (smN F meth sm0 j):=by
  unfold H62
  rw[smN_at (f:=62) (i:=3) (by decide) hj]
  intro P s t k m
  intros
  exact Ev.pure (e62 (P:=P) (s:=s) (t:=t) (k:=k) T.f62 (smN_none Z (by decide) (.inr (by decide))) 28000 _ _ _ (c104 T Z (by decide)) (c105 T Z (by decide)) (c106 T Z (by decide)) (by assumption)) rfl (by simp[AV.refs,refsL])
theorem c78 (T:FT F) (Z:Z0 sm0) {j:Nat} (hj:4≤j):H78 (smN F meth sm0 j):=by
  unfold H78
  rw[smN_at (f:=78) (i:=3) (by decide) hj]
  intro b own m
  intros
  exact Ev.pure (e78 (b:=b) (own:=own) T.f78 (smN_none Z (by decide) (.inr (by decide))) 28000 _ _ _ (c63 T Z (by decide)) (c117 T Z (by decide)) (c118 T Z (by decide)) (by assumption) (by assumption) (by assumption) (by assumption)) rfl (by simp[AV.refs,refsL])
theorem c90 (T:FT F) (Z:Z0 sm0) {j:Nat} (hj:4≤j):H90 (smN F meth sm0 j):=by
  unfold H90
  rw[smN_at (f:=90) (i:=3) (by decide) hj]
  intro S s m
  intros
  exact Ev.pure (e90 (S:=S) (s:=s) T.f90 (smN_none Z (by decide) (.inr (by decide))) 28000 _ _ _ (c104 T Z (by decide)) (smN_none Z (by decide) (.inl (by decide))) T.f130 (by assumption) (by assumption)) rfl (by simp[AV.refs,refsL])
theorem c94 (T:FT F) (Z:Z0 sm0) {j:Nat} (hj:4≤j):H94 (smN F meth sm0 j):=by
  unfold H94
  rw[smN_at (f:=94) (i:=3) (by decide) hj]
  intro l v m
  intros
  exact Ev.pure (e94 (l:=l) (v:=v) T.f94 (smN_none Z (by decide) (.inr (by decide))) 28000 _ _ _ (c133 T Z (by decide)) (c93 T Z (by decide)) (by assumption) (by assumption)) rfl (by simp[AV.refs,refsL])
theorem c96 (T:FT F) (Z:Z0 sm0) {j:Nat} (hj:4≤j):H96 (smN F meth sm0 j):=by
  unfold H96
  rw[smN_at (f:=96) (i:=3) (by decide) hj]
  intro S s m
  intros
  exact Ev.pure (e96 (S:=S) (s:=s) T.f96 (smN_none Z (by decide) (.inr (by decide))) 28000 _ _ _ (c92 T Z (by decide)) (c134 T Z (by decide)) (c135 T Z (by decide)) (c136 T Z (by decide)) (c137 T Z (by decide)) (by assumption)) rfl (by simp[AV.refs,refsL])
theorem c108 (T:FT F) (Z:Z0 sm0) {j:Nat} (hj:4≤j):H108 (smN F meth sm0 j):=by
  unfold H108
  rw[smN_at (f:=108) (i:=3) (by decide) hj]
  intro b now m
  intros
  exact Ev.pure (e108 (b:=b) (now:=now) T.f108 (smN_none Z (by decide) (.inr (by decide))) 28000 _ _ _ (c63 T Z (by decide)) (by assumption) (by assumption)) rfl (by simp[AV.refs,refsL])
theorem c113 (T:FT F) (Z:Z0 sm0) {j:Nat} (hj:4≤j):H113 (smN F meth sm0 j):=by
  unfold H113
  rw[smN_at (f:=113) (i:=3) (by decide) hj]
  intro l v x m
  intros
  exact Ev.pure (e113 (l:=l) (v:=v) (x:=x) T.f113 (smN_none Z (by decide) (.inr (by decide))) 28000 _ _ _ (c102 T Z (by decide)) (c148 T Z (by decide)) (by assumption) (by assumption)) rfl (by simp[AV.refs,refsL])
theorem c122 (T:FT F) (Z:Z0 sm0) {j:Nat} (hj:4≤j):H122 (smN F meth sm0 j):=by
  unfold H122
  rw[smN_at (f:=122) (i:=3) (by decide) hj]
  intro b m
  intros
  exact Ev.pure (e122 (b:=b) T.f122 (smN_none Z (by decide) (.inr (by decide))) 28000 _ _ _ (c68 T Z (by decide)) (c157 T Z (by decide)) (c158 T Z (by decide)) (c159 T Z (by decide)) (c160 T Z (by decide)) (by assumption) (by assumption) (by assumption)) rfl (by simp[AV.refs,refsL])
theorem c139 (T:FT F) (Z:Z0 sm0) {j:Nat} (hj:4≤j):H139 (smN F meth sm0 j):=by
  unfold H139
  rw[smN_at (f:=139) (i:=3) (by decide) hj]
  intro l v x m
  intros
  exact Ev.pure (e139 (l:=l) (v:=v) (x:=x) T.f139 (smN_none Z (by decide) (.inr (by decide))) 28000 _ _ _ (c169 T Z (by decide)) (by assumption) (by assumption)) rfl (by simp[AV.refs,refsL])
theorem c145 (T:FT F) (Z:Z0 sm0) {j:Nat} (hj:4≤j):H145 (smN F meth sm0 j):=by
  unfold H145
  rw[smN_at (f:=145) (i:=3) (by decide) hj]
  intro y x m
  intros
  exact Ev.pure (e145 (y:=y) (x:=x) T.f145 (smN_none Z (by decide) (.inr (by decide))) 28000 _ _ _ (c93 T Z (by decide))) rfl (by simp[AV.refs,refsL])
theorem c20 (T:FT F) (Z:Z0 sm0) {j:Nat} (hj:5≤j):H20 (smN F meth sm0 j):=by
  unfold H20
  rw[smN_at (f:=20) (i:=4) (by decide) hj]
  intro x y m
  intros
  exact Ev.pure (e20 (x:=x) (y:=y) T.f20 (smN_none Z (by decide) (.inr (by decide))) 25000 _ _ _ (c45 T Z (by decide)) (c46 T Z (by decide)) (by assumption)) rfl (by simp[AV.refs,refsL])
theorem c61 (T:FT F) (Z:Z0 sm0) {j:Nat} (hj:5≤j):H61 (smN F meth sm0 j):=by
  unfold H61
  rw[smN_at (f:=61) (i:=4) (by decide) hj]
  intro S b ms v l m
  intros
  exact Ev.pure (e61 (S:=S) (b:=b) (ms:=ms) (v:=v) (l:=l) T.f61 (smN_none Z (by decide) (.inr (by decide))) 28000 _ _ _ (c100 T Z (by decide)) (c68 T Z (by decide)) (c101 T Z (by decide)) (c102 T Z (by decide)) (c62 T Z (by decide)) (c103 T Z (by decide)) (by assumption)) rfl (by simp[AV.refs,refsL])
theorem c64 (T:FT F) (Z:Z0 sm0) {j:Nat} (hj:5≤j):H64 (smN F meth sm0 j):=by
  unfold H64
  rw[smN_at (f:=64) (i:=4) (by decide) hj]
  intro b now m
  intros
  exact Ev.pure (e64 (b:=b) (now:=now) T.f64 (smN_none Z (by decide) (.inr (by decide))) 28000 _ _ _ (c108 T Z (by decide)) (by assumption) (by assumption)) rfl (by simp[AV.refs,refsL])
theorem c70 (T:FT F) (Z:Z0 sm0) {j:Nat} (hj:5≤j):H70 (smN F meth sm0 j):=by
  unfold H70
  rw[smN_at (f:=70) (i:=4) (by decide) hj]
  intro s b m
  intros
  exact Ev.pure (e70 (s:=s) (b:=b) T.f70 (smN_none Z (by decide) (.inr (by decide))) 28000 _ _ _ (c113 T Z (by decide)) (by assumption)) rfl (by simp[AV.refs,refsL])
theorem c83 (T:FT F) (Z:Z0 sm0) {j:Nat} (hj:5≤j):H83 (smN F meth sm0 j):=by
  unfold H83
  rw[smN_at (f:=83) (i:=4) (by decide) hj]
  intro b m
  intros
  exact Ev.pure (e83 (b:=b) T.f83 (smN_none Z (by decide) (.inr (by decide))) 28000 _ _ _ (c122 T Z (by decide)) (by assumption) (by assumption) (by assumption)) rfl (by simp[AV.refs,refsL])
theorem c84 (T:FT F) (Z:Z0 sm0) {j:Nat} (hj:5≤j):H84 (smN F meth sm0 j):=by
  unfold H84
  rw[smN_at (f:=84) (i:=4) (by decide) hj]
  intro P s t k m
  intros
  exact Ev.pure (e84 (P:=P) (s:=s) (t:=t) (k:=k) T.f84 (smN_none Z (by decide) (.inr (by decide))) 28000 _ _ _ (c62 T Z (by decide)) (c123 T Z (by decide)) (by assumption) (by assumption) (by assumption) (by assumption)) rfl (by simp[AV.refs,refsL])
end
section
variable {F:FuncId→Option AFunc} {meth:Meth} {sm0:Summ}
theorem c86 (T:FT F) (Z:Z0 sm0) {j:Nat} (hj:5≤j):H86 (smN F meth sm0 j):=by
  unfold H86
  rw[smN_at (f:=86) (i:=4) (by decide) hj]
  intro S s m
  intros
  exact Ev.pure (e86 (S:=S) (s:=s) T.f86 (smN_none Z (by decide) (.inr (by decide))) 28000 _ _ _ (smN_none Z (by decide) (.inl (by decide))) T.f124 (smN_none Z (by decide) (.inl (by decide))) T.f125 (c96 T Z (by decide)) (smN_none Z (by decide) (.inl (by decide))) T.f162 (by assumption) (by assumption) (by assumption)) rfl (by simp[AV.refs,refsL])
theorem c97 (T:FT F) (Z:Z0 sm0) {j:Nat} (hj:5≤j):H97 (smN F meth sm0 j):=by
  unfold H97
  rw[smN_at (f:=97) (i:=4) (by decide) hj]
  intro R t k m
  intros
  exact Ev.pure (e97 (R:=R) (t:=t) (k:=k) T.f97 (smN_none Z (by decide) (.inr (by decide))) 28000 _ _ _ (c138 T Z (by decide)) (c139 T Z (by decide)) (by assumption)) rfl (by simp[AV.refs,refsL])
theorem c146 (T:FT F) (Z:Z0 sm0) {j:Nat} (hj:5≤j):H146 (smN F meth sm0 j):=by
  unfold H146
  rw[smN_at (f:=146) (i:=4) (by decide) hj]
  intro l v x m
  intros
  exact Ev.pure (e146 (l:=l) (v:=v) (x:=x) T.f146 (smN_none Z (by decide) (.inr (by decide))) 28000 _ _ _ (c145 T Z (by decide)) (by assumption) (by assumption) (by assumption)) rfl (by simp[AV.refs,refsL])
theorem w50 (T:FT F) (Z:Z0 sm0) {j:Nat} (hj:5≤j):W50 F meth (smN F meth sm0 j):=by
  unfold W50
  intro n h lg d S b ms v l q
  intros
  exact e50 (S:=S) (b:=b) (ms:=ms) (v:=v) (l:=l) (q:=q) T.f50 (smN_none Z (by decide) (.inl (by decide))) n h lg d (c61 T Z (Nat.le_trans (by decide) hj)) (smN_none Z (by decide) (.inl (by decide))) T.f82 (c83 T Z (Nat.le_trans (by decide) hj)) (c84 T Z (Nat.le_trans (by decide) hj)) (c85 T Z (Nat.le_trans (by decide) hj)) (by assumption) (by assumption) (by assumption) (by assumption)
theorem w31 (T:FT F) (Z:Z0 sm0) {j:Nat} (hj:5≤j):W31 F meth (smN F meth sm0 j):=by
  unfold W31
  intro n h lg d s
  intros
  exact e31 (s:=s) T.f31 (smN_none Z (by decide) (.inl (by decide))) n h lg d (w50 T Z (Nat.le_trans (by decide) hj)) (by assumption) (by assumption)
theorem w43 (T:FT F) (Z:Z0 sm0) {j:Nat} (hj:5≤j):W43 F meth (smN F meth sm0 j):=by
  unfold W43
  intro n h lg d s l v
  intros
  exact e43 (s:=s) (l:=l) (v:=v) T.f43 (smN_none Z (by decide) (.inl (by decide))) n h lg d (c70 T Z (Nat.le_trans (by decide) hj)) (c71 T Z (Nat.le_trans (by decide) hj)) (w69 T Z (Nat.le_trans (by decide) hj)) (by assumption) (by assumption) (by assumption) (by assumption) (by assumption)
theorem c39 (T:FT F) (Z:Z0 sm0) {j:Nat} (hj:6≤j):H39 (smN F meth sm0 j):=by
  unfold H39
  rw[smN_at (f:=39) (i:=5) (by decide) hj]
  intro x m
  intros
  exact Ev.pure (e39 (x:=x) T.f39 (smN_none Z (by decide) (.inr (by decide))) 28000 _ _ _ (c61 T Z (by decide)) (c62 T Z (by decide)) (by assumption)) rfl (by simp[AV.refs,refsL])
theorem c53 (T:FT F) (Z:Z0 sm0) {j:Nat} (hj:6≤j):H53 (smN F meth sm0 j):=by
  unfold H53
  rw[smN_at (f:=53) (i:=5) (by decide) hj]
  intro P s t k bs Q s' t' k' br m
  intros
  exact Ev.pure (e53 (P:=P) (s:=s) (t:=t) (k:=k) (bs:=bs) (Q:=Q) (s':=s') (t':=t') (k':=k') (br:=br) T.f53 (smN_none Z (by decide) (.inr (by decide))) 28000 _ _ _ (c62 T Z (by decide)) (c89 T Z (by decide)) (c90 T Z (by decide)) (c84 T Z (by decide)) (c91 T Z (by decide)) (by assumption) (by assumption) (by assumption)) rfl (by simp[AV.refs,refsL])
theorem c58 (T:FT F) (Z:Z0 sm0) {j:Nat} (hj:6≤j):H58 (smN F meth sm0 j):=by
  unfold H58
  rw[smN_at (f:=58) (i:=5) (by decide) hj]
  intro P s t k m
  intros
  exact Ev.pure (e58 (P:=P) (s:=s) (t:=t) (k:=k) T.f58 (smN_none Z (by decide) (.inr (by decide))) 28000 _ _ _ (c96 T Z (by decide)) (c97 T Z (by decide)) (c98 T Z (by decide)) (by assumption)) rfl (by simp[AV.refs,refsL])
theorem c109 (T:FT F) (Z:Z0 sm0) {j:Nat} (hj:6≤j):H109 (smN F meth sm0 j):=by
  unfold H109
  rw[smN_at (f:=109) (i:=5) (by decide) hj]
  intro l v x m
  intros
  exact Ev.pure (e109 (l:=l) (v:=v) (x:=x) T.f109 (smN_none Z (by decide) (.inr (by decide))) 28000 _ _ _ (c146 T Z (by decide)) (by assumption) (by assumption) (by assumption)) rfl (by simp[AV.refs,refsL])
theorem c127 (T:FT F) (Z:Z0 sm0) {j:Nat} (hj:6≤j):H127 (smN F meth sm0 j):=by
  unfold H127
  rw[smN_at (f:=127) (i:=5) (by decide) hj]
  intro R t k o s m
  intros
  exact Ev.pure (e127 (R:=R) (t:=t) (k:=k) (o:=o) (s:=s) T.f127 (smN_none Z (by decide) (.inr (by decide))) 28000 _ _ _ (smN_none Z (by decide) (.inl (by decide))) T.f163 (c164 T Z (by decide)) (c97 T Z (by decide)) (smN_none Z (by decide) (.inl (by decide))) T.f175 (smN_none Z (by decide) (.inl (by decide))) T.f176 (by assumption) (by assumption) (by assumption) (by assumption) (by assumption) (by assumption)) rfl (by simp[AV.refs,refsL])
theorem c128 (T:FT F) (Z:Z0 sm0) {j:Nat} (hj:6≤j):H128 (smN F meth sm0 j):=by
  unfold H128
  rw[smN_at (f:=128) (i:=5) (by decide) hj]
  intro R t k m
  intros
  exact Ev.pure (e128 (R:=R) (t:=t) (k:=k) T.f128 (smN_none Z (by decide) (.inr (by decide))) 28000 _ _ _ (smN_none Z (by decide) (.inl (by decide))) T.f163 (smN_none Z (by decide) (.inl (by decide))) T.f165 (smN_none Z (by decide) (.inl (by decide))) T.f175 (smN_none Z (by decide) (.inl (by decide))) T.f176 (c97 T Z (by decide)) (c138 T Z (by decide)) (c177 T Z (by decide)) (by assumption) (by assumption) (by assumption) (by assumption)) rfl (by simp[AV.refs,refsL])
theorem w33 (T:FT F) (Z:Z0 sm0) {j:Nat} (hj:6≤j):W33 F meth (smN F meth sm0 j):=by
  unfold W33
  intro n h lg d s
  intros
  exact e33 (s:=s) T.f33 (smN_none Z (by decide) (.inl (by decide))) n h lg d (c54 T Z (Nat.le_trans (by decide) hj)) (c53 T Z (Nat.le_trans (by decide) hj)) (by assumption) (by assumption) (by assumption)
theorem c14 (T:FT F) (Z:Z0 sm0) {j:Nat} (hj:7≤j):H14 (smN F meth sm0 j):=by
  unfold H14
  rw[smN_at (f:=14) (i:=6) (by decide) hj]
  intro s m
  intros
  exact Ev.pure (e14 (s:=s) T.f14 (smN_none Z (by decide) (.inr (by decide))) 28000 _ _ _ (c38 T Z (by decide)) (c39 T Z (by decide)) (by assumption)) rfl (by simp[AV.refs,refsL])
theorem c57 (T:FT F) (Z:Z0 sm0) {j:Nat} (hj:7≤j):H57 (smN F meth sm0 j):=by
  unfold H57
  rw[smN_at (f:=57) (i:=6) (by decide) hj]
  intro S b ms v l m
  intros
  exact Ev.pure (e57 (S:=S) (b:=b) (ms:=ms) (v:=v) (l:=l) T.f57 (smN_none Z (by decide) (.inr (by decide))) 28000 _ _ _ (c92 T Z (by decide)) (c63 T Z (by decide)) (c93 T Z (by decide)) (c94 T Z (by decide)) (c58 T Z (by decide)) (c95 T Z (by decide)) (by assumption)) rfl (by simp[AV.refs,refsL])
theorem c65 (T:FT F) (Z:Z0 sm0) {j:Nat} (hj:7≤j):H65 (smN F meth sm0 j):=by
  unfold H65
  rw[smN_at (f:=65) (i:=6) (by decide) hj]
  intro l v x m
  intros
  exact Ev.pure (e65 (l:=l) (v:=v) (x:=x) T.f65 (smN_none Z (by decide) (.inr (by decide))) 28000 _ _ _ (c94 T Z (by decide)) (c109 T Z (by decide)) (by assumption) (by assumption)) rfl (by simp[AV.refs,refsL])
theorem c88 (T:FT F) (Z:Z0 sm0) {j:Nat} (hj:7≤j):H88 (smN F meth sm0 j):=by
  unfold H88
  rw[smN_at (f:=88) (i:=6) (by decide) hj]
  intro P s t k m
  intros
  exact Ev.pure (e88 (P:=P) (s:=s) (t:=t) (k:=k) T.f88 (smN_none Z (by decide) (.inr (by decide))) 28000 _ _ _ (c128 T Z (by decide)) (by assumption) (by assumption) (by assumption) (by assumption) (by assumption) (by assumption) (by assumption)) rfl (by simp[AV.refs,refsL])
theorem w10 (T:FT F) (Z:Z0 sm0) {j:Nat} (hj:7≤j):W10 F meth (smN F meth sm0 j):=by
  unfold W10
  intro n h lg d s
  intros
  exact e10 (s:=s) T.f10 (smN_none Z (by decide) (.inl (by decide))) n h lg d (c14 T Z (Nat.le_trans (by decide) hj)) (w31 T Z (Nat.le_trans (by decide) hj)) (by assumption) (by assumption)
theorem w12 (T:FT F) (Z:Z0 sm0) {j:Nat} (hj:7≤j):W12 F meth (smN F meth sm0 j):=by
  unfold W12
  intro n h lg d s
  intros
  exact e12 (s:=s) T.f12 (smN_none Z (by decide) (.inl (by decide))) n h lg d (c14 T Z (Nat.le_trans (by decide) hj)) (w33 T Z (Nat.le_trans (by decide) hj)) (by assumption) (by assumption)
theorem w17 (T:FT F) (Z:Z0 sm0) {j:Nat} (hj:7≤j):W17 F meth (smN F meth sm0 j):=by
  unfold W17
  intro n h lg d s l v
  intros
  exact e17 (s:=s) (l:=l) (v:=v) T.f17 (smN_none Z (by decide) (.inl (by decide))) n h lg d (c14 T Z (Nat.le_trans (by decide) hj)) (c42 T Z (Nat.le_trans (by decide) hj)) (w43 T Z (Nat.le_trans (by decide) hj)) (by assumption) (by assumption) (by assumption) (by assumption)
theorem w19 (T:FT F) (Z:Z0 sm0) {j:Nat} (hj:7≤j):W19 F meth (smN F meth sm0 j):=by
  unfold W19
  intro n h lg d s l v
  intros
  exact e19 (s:=s) (l:=l) (v:=v) T.f19 (smN_none Z (by decide) (.inl (by decide))) n h lg d (w17 T Z (Nat.le_trans (by decide) hj)) (w31 T Z (Nat.le_trans (by decide) hj)) (w33 T Z (Nat.le_trans (by decide) hj)) (by assumption) (by assumption) (by assumption) (by assumption) (by assumption)
theorem w41 (T:FT F) (Z:Z0 sm0) {j:Nat} (hj:7≤j):W41 F meth (smN F meth sm0 j):=by
  unfold W41
  intro n h lg d s b l v
  intros
  exact e41 (s:=s) (b:=b) (l:=l) (v:=v) T.f41 (smN_none Z (by decide) (.inl (by decide))) n h lg d (c64 T Z (Nat.le_trans (by decide) hj)) (c65 T Z (Nat.le_trans (by decide) hj)) (c67 T Z (Nat.le_trans (by decide) hj)) (w66 T Z (Nat.le_trans (by decide) hj)) (by assumption) (by assumption) (by assumption) (by assumption) (by assumption) (by assumption)
theorem c35 (T:FT F) (Z:Z0 sm0) {j:Nat} (hj:8≤j):H35 (smN F meth sm0 j):=by
  unfold H35
  rw[smN_at (f:=35) (i:=7) (by decide) hj]
  intro x m
  intros
  exact Ev.pure (e35 (x:=x) T.f35 (smN_none Z (by decide) (.inr (by decide))) 28000 _ _ _ (c57 T Z (by decide)) (c58 T Z (by decide)) (by assumption)) rfl (by simp[AV.refs,refsL])
theorem c51 (T:FT F) (Z:Z0 sm0) {j:Nat} (hj:8≤j):H51 (smN F meth sm0 j):=by
  unfold H51
  rw[smN_at (f:=51) (i:=7) (by decide) hj]
  intro P s t k bs Q s' t' k' br m
  intros
  exact Ev.pure (e51 (P:=P) (s:=s) (t:=t) (k:=k) (bs:=bs) (Q:=Q) (s':=s') (t':=t') (k':=k') (br:=br) T.f51 (smN_none Z (by decide) (.inr (by decide))) 28000 _ _ _ (c58 T Z (by decide)) (c86 T Z (by decide)) (c88 T Z (by decide)) (c127 T Z (by decide)) (smN_none Z (by decide) (.inl (by decide))) T.f87 (smN_none Z (by decide) (.inl (by decide))) T.f126 (by assumption) (by assumption) (by assumption) (by assumption) (by assumption) (by assumption)) rfl (by simp[AV.refs,refsL])
theorem c80 (T:FT F) (Z:Z0 sm0) {j:Nat} (hj:8≤j):H80 (smN F meth sm0 j):=by
  unfold H80
  rw[smN_at (f:=80) (i:=7) (by decide) hj]
  intro P s t k m
  intros
  exact Ev.pure (e80 (P:=P) (s:=s) (t:=t) (k:=k) T.f80 (smN_none Z (by decide) (.inr (by decide))) 28000 _ _ _ (c58 T Z (by decide)) (c88 T Z (by decide)) (by assumption) (by assumption) (by assumption) (by assumption) (by assumption) (by assumption)) rfl (by simp[AV.refs,refsL])
theorem w49 (T:FT F) (Z:Z0 sm0) {j:Nat} (hj:8≤j):W49 F meth (smN F meth sm0 j):=by
  unfold W49
  intro n h lg d own S b ms v l q
  intros
  exact e49 (own:=own) (S:=S) (b:=b) (ms:=ms) (v:=v) (l:=l) (q:=q) T.f49 (smN_none Z (by decide) (.inl (by decide))) n h lg d (c57 T Z (Nat.le_trans (by decide) hj)) (smN_none Z (by decide) (.inl (by decide))) T.f77 (smN_none Z (by decide) (.inl (by decide))) T.f116 (c78 T Z (Nat.le_trans (by decide) hj)) (smN_none Z (by decide) (.inl (by decide))) T.f79 (smN_none Z (by decide) (.inl (by decide))) T.f119 (c120 T Z (Nat.le_trans (by decide) hj)) (c155 T Z (Nat.le_trans (by decide) hj)) (by assumption) (by assumption) (by assumption) (by assumption) (by assumption) (c80 T Z (Nat.le_trans (by decide) hj)) (smN_none Z (by decide) (.inl (by decide))) T.f81 (smN_none Z (by decide) (.inl (by decide))) T.f121
theorem w30 (T:FT F) (Z:Z0 sm0) {j:Nat} (hj:8≤j):W30 F meth (smN F meth sm0 j):=by
  unfold W30
  intro n h lg d own s wv
  intros
  exact e30 (s:=s) (wv:=wv) (own:=own) T.f30 (smN_none Z (by decide) (.inl (by decide))) n h lg d (w49 T Z (Nat.le_trans (by decide) hj)) (by assumption) (by assumption) (by assumption) (by assumption) (by assumption)
theorem w32 (T:FT F) (Z:Z0 sm0) {j:Nat} (hj:8≤j):W32 F meth (smN F meth sm0 j):=by
  unfold W32
  intro n h lg d s b
  intros
  exact e32 (s:=s) (b:=b) T.f32 (smN_none Z (by decide) (.inl (by decide))) n h lg d (c52 T Z (Nat.le_trans (by decide) hj)) (c51 T Z (Nat.le_trans (by decide) hj)) (by assumption) (by assumption) (by assumption) (by assumption) (by assumption)
theorem c13 (T:FT F) (Z:Z0 sm0) {j:Nat} (hj:9≤j):H13 (smN F meth sm0 j):=by
  unfold H13
  rw[smN_at (f:=13) (i:=8) (by decide) hj]
  intro s m
  intros
  exact Ev.pure (e13 (s:=s) T.f13 (smN_none Z (by decide) (.inr (by decide))) 28000 _ _ _ (c34 T Z (by decide)) (c35 T Z (by decide)) (c36 T Z (by decide)) (c37 T Z (by decide)) (by assumption)) rfl (by simp[AV.refs,refsL])
theorem w29 (T:FT F) (Z:Z0 sm0) {j:Nat} (hj:9≤j):W29 F meth (smN F meth sm0 j):=by
  unfold W29
  intro n h lg d s
  intros
  exact e29 (s:=s) T.f29 (smN_none Z (by decide) (.inl (by decide))) n h lg d (c13 T Z (Nat.le_trans (by decide) hj)) (by assumption)
theorem w9 (T:FT F) (Z:Z0 sm0) {j:Nat} (hj:9≤j):W9 F meth (smN F meth sm0 j):=by
  unfold W9
  intro n h lg d own s
  intros
  exact e9 (s:=s) (own:=own) T.f9 (smN_none Z (by decide) (.inl (by decide))) n h lg d (w29 T Z (Nat.le_trans (by decide) hj)) (w30 T Z (Nat.le_trans (by decide) hj)) (by assumption) (by assumption) (by assumption) (by assumption)
theorem w11 (T:FT F) (Z:Z0 sm0) {j:Nat} (hj:9≤j):W11 F meth (smN F meth sm0 j):=by
  unfold W11
  intro n h lg d s
  intros
  exact e11 (s:=s) T.f11 (smN_none Z (by decide) (.inl (by decide))) n h lg d (w29 T Z (Nat.le_trans (by decide) hj)) (w32 T Z (Nat.le_trans (by decide) hj)) (by assumption) (by assumption) (by assumption)
theorem w16 (T:FT F) (Z:Z0 sm0) {j:Nat} (hj:9≤j):W16 F meth (smN F meth sm0 j):=by
  unfold W16
  intro n h lg d s l v
  intros
  exact e16 (s:=s) (l:=l) (v:=v) T.f16 (smN_none Z (by decide) (.inl (by decide))) n h lg d (w29 T Z (Nat.le_trans (by decide) hj)) (c40 T Z (Nat.le_trans (by decide) hj)) (w41 T Z (Nat.le_trans (by decide) hj)) (by assumption) (by assumption) (by assumption) (by assumption)
theorem w18 (T:FT F) (Z:Z0 sm0) {j:Nat} (hj:9≤j):W18 F meth (smN F meth sm0 j):=by
  unfold W18
  intro n h lg d own s l v
  intros
  exact e18 (own:=own) (s:=s) (l:=l) (v:=v) T.f18 (smN_none Z (by decide) (.inl (by decide))) n h lg d (w29 T Z (Nat.le_trans (by decide) hj)) (c40 T Z (Nat.le_trans (by decide) hj)) (w30 T Z (Nat.le_trans (by decide) hj)) (w32 T Z (Nat.le_trans (by decide) hj)) (w41 T Z (Nat.le_trans (by decide) hj)) (w44 T Z (Nat.le_trans (by decide) hj)) (by assumption) (by assumption) (by assumption) (by assumption) (by assumption) (by assumption) (by assumption)
end
section
variable {F:FuncId→Option AFunc} {meth:Meth} {sm0:Summ}
theorem law_all (T:FT F) (Z:Z0 sm0) (h6:H6 sm0) (n:Nat) (h:Blks) (lg:List Nat) {s:SnapX} {l:List BunD} {v:AV} (hg:bget h 0=some (.row false 1 headsR)) (R:SnapR h s) (he: ∀ x∈s.vs,ViewE x) (hn: ∀ x∈s.vs,VNum x.v) (hv:SlAt h 9 v (l.map bunC)) (hb: ∀ b∈l,I b.total):
    ∃ m',acall F meth (smN F meth sm0 9) (n+6000) (.fn 3) [.agg (snapC s),v] ⟨h,lg,[]⟩=some (.bool true,m'):=by
  have j6:H6 (smN F meth sm0 9):=fun m q=>by rw[smN_skip (f:=6) 0 9 (by decide) (by decide)];exact h6 m q
  have e:=e3 (F:=F) (meth:=meth) (sm:=smN F meth sm0 9) T.f3 (smN_none Z (by decide) (.inl (by decide))) n h lg [] (c5 T Z (by decide)) j6 (c13 T Z (by decide)) (c14 T Z (by decide)) (c15 T Z (by decide)) (c20 T Z (by decide)) (c21 T Z (by decide)) (w4 T Z (by decide)) (w7 T Z (by decide)) (w8 T Z (by decide)) (w9 T Z (by decide)) (w10 T Z (by decide)) (w11 T Z (by decide)) (w12 T Z (by decide)) (w16 T Z (by decide)) (w17 T Z (by decide)) (w18 T Z (by decide)) (w19 T Z (by decide)) hg R he hn hv hb
  obtain ⟨w,m',q,k,rfl⟩:=Wa_true _ _ _ _ _ e
  exact ⟨m',q⟩
end
end Go.Abs
end
