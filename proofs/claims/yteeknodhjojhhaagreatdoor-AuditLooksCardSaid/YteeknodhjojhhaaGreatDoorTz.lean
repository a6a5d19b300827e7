/- The table, the levels, the summaries.
   Conditions: none. -/
import Derived.Test.YteeknodhjojhhaaGreatDoorTab1
import Derived.Test.YteeknodhjojhhaaGreatDoorTab2
import Derived.Test.YteeknodhjojhhaaGreatDoorTab3
import Derived.Test.YteeknodhjojhhaaGreatDoorTab4
import Derived.Test.YteeknodhjojhhaaGreatDoorTab5
import Derived.Test.YteeknodhjojhhaaGreatDoorL
set_option linter.unusedSimpArgs false
set_option linter.unusedVariables false
set_option maxRecDepth 100000
noncomputable section
namespace Go.Abs
open List Option IntKind
abbrev Ei(n:Int):AV:=.int .i64 n
abbrev Eu(n:Int):AV:=.int .u64 n
attribute [go_sem] bk B3 B4 B5 B6 B7 B8 B9 JY Fs B12 B13 B14 B15 B16 B17 B18 B19 B20 B21 B22 B23 B24 B25 B26 B27 B28 B29 B30 B31 B32 B33 B34 B35 B36 B37 B38 B39 B40 B41 B42 B43 B44 B45 B46 B47 B48 B49 B50 B51 B52 B53 B54 B55 B56 B57 B58 B59 B60 B61 B62 B63 B64 B65 B66 B67 B68 B69 B70 B71 B72 B73 B74 B75 B76 B77 B78 B79 B80 B81 B82 B83 B84 B85 B86 B87 B88 B89 B90 B91 B92 B93 B94 B95 B96 B97 B98 B99 Ac1 AdO AeA Abq Ace Ac2 AdP AeB Abr Abt Acf W1 AdQ AeC Abu Acg Ac3 AdR AeD Abv Ach Ac4 AdS AeE Abw Aci Ac5 AdT AeF WW Acj Ac6 AdU AeG WX Ack Ac7 W4 AeH Abx Acl Ac8 AdV AeI Aby Acm Ac9 AdW AeJ Abz Acn Ada W5 AeK AbA Aco Adb AdX AeL AbB AbC Acp Adc AdY AeM AbD Acq Ade AdZ AeN AbE Acr Adf Ad0 AeO AbF Acs Adg Ad1 AeP AbG Acu Adh Ad2 AeQ AbH Acv Adi Ad3 AeR AbI Acw Adj Ad4 AeS AbJ Acx Adk Ad5 AeT AbK Acy Adl Ad6 AeU AbL Acz Adm Ad7 AeV AbM AcA Adn Ad8 AeW AbN AcB Ado Ad9 AeX AbO AcC Adp Aea AeY AbP WZ W2 Aeb W6 AbQ AcD Adq Aec AeZ AbR AcE Adr Aed Ae0 AbS AcF Ads Aee Ae1 AbT AcG Adt Aef Ae2 AbU AcH Adu Aeg Ae3 AbV AcI Adv Aeh Ae4 AbW AcJ Adw Aei Ae5 AbX AcK Adx Aej Ae6 AbY AcL Ady Aek Ae7 AbZ AcM Adz Ael Ae8 Ab0 AcN AdA Aem Ae9 Ab1 AcO AdB Aen Afa Ab2 AcP AdC Aeo Afb Ab3 AcQ AdD Aep Afc Ab4 AcR AdE Aeq Afd Ab5 AcS AdF Aer Afe WY AcT AdG Aes Aff Ab6 AcU AdH Aet Afg Ab7 AcV AdI Aeu Afh Ab8 AcW AdJ Aev Afi Ab9 AcX AdK Aew Afj Aca AcY AdL Aex Afk Acb AcZ AdM Aey Afl Acd Ac0 AdN Aez
def tb0:List (Option bD):=[none,none,none,some B3.1,some B4.1,some B5.1,some B6.1,some B7.1,some B8.1,some B9.1,some JY.1,some Fs.1,some B12.1,some B13.1,some B14.1,some B15.1,some B16.1,some B17.1,some B18.1,some B19.1,some B20.1,some B21.1,some B22.1,some B23.1,some B24.1,some B25.1,some B26.1,some B27.1,some B28.1,some B29.1,some B30.1,some B31.1,some B32.1,some B33.1]
def tb1:List (Option bD):=[some B34.1,some B35.1,some B36.1,some B37.1,some B38.1,some B39.1,some B40.1,some B41.1,some B42.1,some B43.1,some B44.1,some B45.1,some B46.1,some B47.1,some B48.1,some B49.1,some B50.1,some B51.1,some B52.1,some B53.1,some B54.1,some B55.1,some B56.1,some B57.1,some B58.1,some B59.1,some B60.1,some B61.1,some B62.1,some B63.1,some B64.1,some B65.1,some B66.1,some B67.1]
def tb2:List (Option bD):=[some B68.1,some B69.1,some B70.1,some B71.1,some B72.1,some B73.1,some B74.1,some B75.1,some B76.1,some B77.1,some B78.1,some B79.1,some B80.1,some B81.1,some B82.1,some B83.1,some B84.1,some B85.1,some B86.1,some B87.1,some B88.1,some B89.1,some B90.1,some B91.1,some B92.1,some B93.1,some B94.1,some B95.1,some B96.1,some B97.1,some B98.1,some B99.1,some Ac1.1,some AdO.1]
def tb3:List (Option bD):=[some AeA.1,some Abq.1,some Ace.1,some Ac2.1,some AdP.1,some AeB.1,some Abr.1,some Abt.1,some Acf.1,some W1.1,some AdQ.1,some AeC.1,some Abu.1,some Acg.1,some Ac3.1,some AdR.1,some AeD.1,some Abv.1,some Ach.1,some Ac4.1,some AdS.1,some AeE.1,some Abw.1,some Aci.1,some Ac5.1,some AdT.1,some AeF.1,some WW.1,some Acj.1,some Ac6.1,some AdU.1,some AeG.1,some WX.1,some Ack.1]
def tb4:List (Option bD):=[some Ac7.1,some W4.1,some AeH.1,some Abx.1,some Acl.1,some Ac8.1,some AdV.1,some AeI.1,some Aby.1,some Acm.1,some Ac9.1,some AdW.1,some AeJ.1,some Abz.1,some Acn.1,some Ada.1,some W5.1,some AeK.1,some AbA.1,some Aco.1,some Adb.1,none,none,none,none,none,none,none,none,some AdX.1,some AeL.1,some AbB.1,some AbC.1,some Acp.1]
def tb5:List (Option bD):=[some Adc.1,some AdY.1,some AeM.1,some AbD.1,some Acq.1,some Ade.1,some AdZ.1,some AeN.1,some AbE.1,some Acr.1,some Adf.1,some Ad0.1,some AeO.1,some AbF.1,some Acs.1,some Adg.1,some Ad1.1,some AeP.1,some AbG.1,some Acu.1,some Adh.1,some Ad2.1,some AeQ.1,some AbH.1,some Acv.1,some Adi.1,some Ad3.1,some AeR.1,some AbI.1,some Acw.1,some Adj.1,some Ad4.1,some AeS.1,some AbJ.1]
def tb6:List (Option bD):=[some Acx.1,some Adk.1,some Ad5.1,some AeT.1,some AbK.1,some Acy.1,some Adl.1,some Ad6.1,some AeU.1,some AbL.1,some Acz.1,some Adm.1,some Ad7.1,some AeV.1,some AbM.1,some AcA.1,some Adn.1,some Ad8.1,some AeW.1,some AbN.1,some AcB.1,none,some Ado.1,some Ad9.1,none,some AeX.1,some AbO.1,none,some AcC.1,none,some Adp.1,some Aea.1,none,none]
def tb7:List (Option bD):=[some AeY.1,some AbP.1,some WZ.1,some W2.1,some Aeb.1,some W6.1,some AbQ.1,some AcD.1,some Adq.1,none,some Aec.1,some AeZ.1,some AbR.1,some AcE.1,some Adr.1,some Aed.1,some Ae0.1,some AbS.1,some AcF.1,some Ads.1,some Aee.1,some Ae1.1,some AbT.1,some AcG.1,some Adt.1,some Aef.1,some Ae2.1,some AbU.1,some AcH.1,some Adu.1,some Aeg.1,some Ae3.1,some AbV.1,some AcI.1]
def tb8:List (Option bD):=[some Adv.1,some Aeh.1,some Ae4.1,some AbW.1,some AcJ.1,some Adw.1,some Aei.1,some Ae5.1,some AbX.1,none,none,some AcK.1,some Adx.1,some Aej.1,some Ae6.1,none,none,some AbY.1,none,some AcL.1,some Ady.1,some Aek.1,some Ae7.1,some AbZ.1,some AcM.1,some Adz.1,some Ael.1,some Ae8.1,some Ab0.1,some AcN.1,some AdA.1,some Aem.1,some Ae9.1,none]
def tb9:List (Option bD):=[none,some Ab1.1,some AcO.1,some AdB.1,some Aen.1,some Afa.1,some Ab2.1,some AcP.1,some AdC.1,some Aeo.1,some Afb.1,some Ab3.1,some AcQ.1,some AdD.1,some Aep.1,some Afc.1,some Ab4.1,some AcR.1,some AdE.1,some Aeq.1,some Afd.1,some Ab5.1,some AcS.1,some AdF.1,some Aer.1,some Afe.1,some WY.1,some AcT.1,some AdG.1,none,some Aes.1,some Aff.1,none,some Ab6.1]
def Amc:List (Option bD):=[none,some AcU.1,some AdH.1,some Aet.1,some Afg.1,some Ab7.1,some AcV.1,some AdI.1,some Aeu.1,some Afh.1,some Ab8.1,some AcW.1,some AdJ.1,some Aev.1,none,none,some Afi.1,some Ab9.1,some AcX.1,some AdK.1,some Aew.1,some Afj.1,some Aca.1,some AcY.1,some AdL.1,some Aex.1,some Afk.1,some Acb.1,some AcZ.1,some AdM.1,some Aey.1,some Afl.1,none,none]
def Amd:List (Option bD):=[none,none,none,none,none,none,none,none,none,none,none,none,none,none,none,none,none,some Acd.1,some Ac0.1,some AdN.1,some Aez.1,none,none,none,none,none,none,none]
def tbl:List (Option bD):=tb0++(tb1++(tb2++(tb3++(tb4++(tb5++(tb6++(tb7++(tb8++(tb9++(Amc++(Amd)))))))))))
def FT(f:FuncId):Option bD:=(tbl[f]?).join
def MT:bR:=fI Proofs.Tryz.prog
def LV:List Nat:=[0,0,0,0,0,0,0,0,0,0,136,160,161,0,0,0,0,335,344,345,1,2,0,0,78,0,0,0,0,0,0,0,20,0,103,87,0,0,0,166,0,268,316,0,23,22,0,0,0,15,0,342,343,0,0,0,0,0,0,18,76,77,0,0,0,19,82,80,86,102,111,112,0,0,0,0,134,139,0,0,143,0,155,158,163,164,165,262,265,266,267,270,271,0,284,276,287,315,0,0,0,0,30,14,336,337,341,21,0,0,0,167,169,0,0,16,17,75,67,0,0,81,85,101,93,110,107,114,118,131,133,138,140,145,153,156,94,157,162,68,173,178,185,240,261,89,0,0,280,281,283,275,286,0,0,0,0,0,0,0,0,0,0,0,0,29,13,340,0,0,0,256,0,0,255,168,73,0,0,71,74,59,65,66,96,99,100,91,92,108,109,106,117,0,0,0,0,129,130,137,144,0,148,151,152,0,0,177,175,174,55,183,184,0,260,88,279,273,274,285,290,0,312,0,0,0,0,0,0,0,31,0,0,0,0,0,0,0,338,339,0,0,246,0,0,0,254,0,72,0,0,70,52,53,54,58,60,64,95,97,98,90,0,128,125,0,150,0,176,57,182,181,0,188,0,236,0,0,0,278,272,0,0,292,0,309,0,0,0,0,0,243,245,0,0,0,69,56,63,61,126,127,124,149,0,0,0,189,0,0,190,0,291,0,299,0,307,0,0,0,252,62,0,207,0,0,298,302,0,251,196,206,217,218,0,0,0,0,0,0,0,0,297,300,301,304,0,193,192,195,205,0,0,0,0,0,0,294,295,296,194,204,0,0,0,198,199,200,202,203,197,201,0,0,0,0,0,0,0,0,0,0,0,0,0,0,0,0,0,0,0,0,0,0,0,0,0,0,0,0,0,0]
def sm0:ct:=JK AH 5 (.bool true)
def lv(f:FuncId):Nat:=(LV[f]?).getD 0
def SM:Nat->ct
 |0=>sm0
 |i+1=>oE (λf=>lv f==i+1) FT MT (SM i) 30000
theorem yy{f:FuncId}(i:Nat):∀(j:Nat),i<=j->(lv f<=i\/j<lv f)->SM j f=SM i f
 |0,h,_=>by rw[Nat.le_zero.1 h]
 |j+1,h,c=>by
  rcases Nat.lt_or_ge i (j+1)with q|q
  .have c':(lv f==j+1)=false:=by simp;omega
   rw[<-yy i j (by omega) (by omega)];funext vs m;exact oF c'
  .rw[show j+1=i by omega]
theorem Gw{f:FuncId}(h5:f≠5)(j:Nat)(c:lv f=0\/j<lv f)(vs:List AV)(m:Mem):SM j f vs m=none:=by
 rw[yy 0 j (Nat.zero_le j) (by omega)];exact aq λh=>h5 h.1
theorem Pu (X:Nat) {k L j:Nat} {vs:List AV} {m:Mem} {v:AV} {fn:bD} (hF:FT k=some fn) (hl:lv k=L+1/\k≠5/\X<30000) (q:L+1<=j) (hr:∀b∈v.cj,b<m.ah.length)
 (H:∀n,Nat.ble vs.length fn.ntmps=true/\Wc (dJ FT MT (SM L) (n+X)) (Wa FT MT (SM L) (n+X)) MT (n+X) fn.body (lz vs .z .e) ⟨aR m.ah [],m.hU,[]⟩ (Kr fn.results m.aV (Qe v m))):SM j k vs m=some (v,m):=by
 rw[yy (L+1) j q (.inl (by omega))];have a:=H (29999-X);rw[show 29999-X+X=29999 by omega]at a;have w:Wa FT MT (SM L) 30000 (.fn k) vs m (Qe v m):=by
  show Wa FT MT (SM L) (29999+1) (.fn k) vs m (Qe v m);rw[fZ,Gw hl.2.1 L (.inr (by omega)),Sf,hF,w_f];exact a
 obtain⟨v',m',e1,rfl,e2⟩:=tC 30000 _ _ _ _ w;exact Ev.pure (S:=λf=>lv f==L+1) ⟨m',e1,e2⟩ (by simp[hl.1]) hr
theorem wi{k:Nat}{fn:bD}(hF:FT k=some fn)(hl:lv k=0/\k≠5){j n:Nat}{vs:List AV}{m:Mem}{Q:AV->Mem->Prop}:
 Wa FT MT (SM j) (n+1) (.fn k) vs m Q=(Nat.ble vs.length fn.ntmps=true/\Wc (dJ FT MT (SM j) n) (Wa FT MT (SM j) n) MT n fn.body (lz vs .z .e) ⟨m.ah,m.hU,[]⟩ (Kr fn.results m.aV Q)):=by
 rw[fZ,Gw hl.2 j (.inl hl.1),Sf,hF,w_f]
theorem lv0{k:Nat}(h:lv k=0/\k≠5)(j:Nat)(vs:List AV)(m:Mem):SM j k vs m=none:=Gw h.2 j (.inl h.1) vs m
theorem wj{k:Nat}{fn:bD}(hF:FT k=some fn){j:Nat}(hl:j<lv k)(h5:k≠5){n:Nat}{vs:List AV}{m:Mem}{Q:AV->Mem->Prop}:
 Wa FT MT (SM j) (n+1) (.fn k) vs m Q=(Nat.ble vs.length fn.ntmps=true/\Wc (dJ FT MT (SM j) n) (Wa FT MT (SM j) n) MT n fn.body (lz vs .z .e) ⟨m.ah,m.hU,[]⟩ (Kr fn.results m.aV Q)):=by
 rw[fZ,Gw h5 j (.inr hl),Sf,hF,w_f]
theorem Pv{k L j:Nat}{vs:List AV}{m:Mem}{v:AV}(hl:lv k=L+1)(q:L+1<=j)(hr:∀b∈v.cj,b<m.ah.length)(H:∃m',dJ FT MT (SM L) 30000 (.fn k) vs m=some (v,m')/\aY m m'):SM j k vs m=some (v,m):=by
 rw[yy (L+1) j q (.inl (by omega))];exact Ev.pure (S:=λf=>lv f==L+1) H (by simp[hl]) hr
theorem F43:FT 43=some B43.1:=rfl
theorem F92:FT 92=some B92.1:=rfl
theorem Ai9:FT 111=some W1.1:=rfl
theorem Aja:FT 129=some WW.1:=rfl
theorem Ajb:FT 134=some WX.1:=rfl
theorem Ajc:FT 137=some W4.1:=rfl
theorem Ajd:FT 152=some W5.1:=rfl
theorem Afr:FT 240=some WZ.1:=rfl
theorem Xj:FT 241=some W2.1:=rfl
theorem Aje:FT 243=some W6.1:=rfl
theorem Ajf:FT 332=some WY.1:=rfl
def Fv(h:aN)(a:Nat):Option (Option bp)->aN
 |none=>h
 |some v=>aQ h a v
def t8(h:aN)(a b c:Nat)(x y z:Option (Option bp)):aN:=Fv (Fv (Fv h a x) b y) c z
structure SF(h:aN)(a b c:Nat):Prop where
 la:a<h.length
 lb:b<h.length
 lc:c<h.length
 ab:b≠a
 ac:c≠a
 bc:c≠b
section
variable{h:aN}{a b c:Nat}
theorem yz(ha:a<h.length)(x:Option (Option bp)):(Fv h a x).length=h.length:=by
 cases x with
 |none=>rfl
 |some v=>exact bJ ha
theorem E1(ha:a<h.length)(x:Option (Option bp))(e:Nat):aj (Fv h a x) e=if e=a then x.getD (aj h a)else aj h e:=by
 cases x with
 |none=>rw[Fv];split<;>simp_all
 |some v=>rw[Fv,eY ha];rfl
theorem E2(x:Option (Option bp))(v:Option bp):aQ (Fv h a x) a v=Fv h a (some v):=by
 cases x with
 |none=>rfl
 |some w=>exact rY ..
theorem Ci(hn:a≠b)(x:Option (Option bp))(v:Option bp):aQ (Fv h a x) b v=Fv (aQ h b v) a x:=by
 cases x with
 |none=>rfl
 |some w=>exact zy _ _ _ hn
theorem AZ(O:SF h a b c)(x y z:Option (Option bp)):(t8 h a b c x y z).length=h.length:=by
 have h1:=yz O.la x;have h2:(Fv (Fv h a x) b y).length=h.length:=by rw[yz (by rw[h1];exact O.lb),h1]
 rw[t8,yz (by rw[h2];exact O.lc),h2]
theorem A0(O:SF h a b c)(x y z:Option (Option bp))(e:Nat):aj (t8 h a b c x y z) e=if e=c then z.getD (aj h c)else if e=b then y.getD (aj h b)else if e=a then x.getD (aj h a)else aj h e:=by
 have h1:=yz O.la x;have h2:(Fv (Fv h a x) b y).length=h.length:=by rw[yz (by rw[h1];exact O.lb),h1]
 have g1:=λe=>E1 O.la x e
 have g2:=λe=>E1 (h:=Fv h a x) (a:=b) (by rw[h1];exact O.lb) y e
 have g3:=λe=>E1 (h:=Fv (Fv h a x) b y) (a:=c) (by rw[h2];exact O.lc) z e
 rw[t8,g3];simp only[g2,g1,aq O.bc,aq O.ac,aq O.ab]
theorem E3(O:SF h a b c)(x y z:Option (Option bp))(v:Option bp):aQ (t8 h a b c x y z) a v=t8 h a b c (some v) y z/\aQ (t8 h a b c x y z) b v=t8 h a b c x (some v) z/\aQ (t8 h a b c x y z) c v=t8 h a b c x y (some v):=by
 refine⟨?_,?_,?_⟩
 .rw[t8,Ci O.ac,Ci O.ab,E2];rfl
 .rw[t8,Ci O.bc,E2];rfl
 .rw[t8,E2];rfl
theorem SG(O:SF h a b c):
 (∀l x y z v,aQ (aR (t8 h a b c x y z) l) a v=aR (t8 h a b c (some v) y z) l)/\
 (∀l x y z v,aQ (aR (t8 h a b c x y z) l) b v=aR (t8 h a b c x (some v) z) l)/\
 (∀l x y z v,aQ (aR (t8 h a b c x y z) l) c v=aR (t8 h a b c x y (some v)) l)/\
 (∀l x y z,aj (aR (t8 h a b c x y z) l) a=x.getD (aj h a))/\
 (∀l x y z,aj (aR (t8 h a b c x y z) l) b=y.getD (aj h b))/\
 (∀l x y z,aj (aR (t8 h a b c x y z) l) c=z.getD (aj h c))/\
 (∀l x y z k,aj (aR (t8 h a b c x y z) l) (nb h k)=fj l k)/\
 (∀l x y z k v,bin l k=true->aQ (aR (t8 h a b c x y z) l) (nb h k) v=aR (t8 h a b c x y z) (wI l k v))/\
 (∀l x y z,(aR (t8 h a b c x y z) l).length=nb h (fY l)):=by
 have L:=λx y z=>AZ O x y z
 have WU:∀x y z k,nb (t8 h a b c x y z) k=nb h k:=λx y z k=>by rw[nb,nb,L]
 refine⟨λl x y z v=>?_,λl x y z v=>?_,λl x y z v=>?_,λl x y z=>?_,λl x y z=>?_,λl x y z=>?_,λl x y z k=>?_,λl x y z k v q=>?_,λl x y z=>?_⟩
 .rw[lF l _ a v (by rw[L];exact O.la),(E3 O x y z v).1]
 .rw[lF l _ b v (by rw[L];exact O.lb),(E3 O x y z v).2.1]
 .rw[lF l _ c v (by rw[L];exact O.lc),(E3 O x y z v).2.2]
 .rw[an l _ a (by rw[L];exact O.la),A0 O,aq (Ne.symm O.ac),aq (Ne.symm O.ab),aG rfl]
 .rw[an l _ b (by rw[L];exact O.lb),A0 O,aq (Ne.symm O.bc),aG rfl]
 .rw[an l _ c (by rw[L];exact O.lc),A0 O,aG rfl]
 .rw[<-WU x y z k,bj]
 .rw[<-WU x y z k,tA q]
 .rw[jR,WU]
theorem E4(O:SF h a b c){e:Nat}(he:e<h.length)(h1:e≠a)(h2:e≠b)(h3:e≠c)(l:List (Option bp))(x y z:Option (Option bp)):aj (aR (t8 h a b c x y z) l) e=aj h e:=by
 rw[an l _ e (by rw[AZ O];exact he),A0 O,aq h3,aq h2,aq h1]
theorem aY.Gx{h0:aN}{lg bq dx d d':List Nat}(k:aY ⟨h0,lg,d⟩ ⟨h,bq,d'⟩)(O:SF h a b c)(ha:h0.length<=a)(hb:h0.length<=b)(hc:h0.length<=c)(x y z:Option (Option bp))(l:List (Option bp))(hl:∃q,dx=q++bq/\∀y∈q,h0.length<=y):aY ⟨h0,lg,d⟩ ⟨aR (t8 h a b c x y z) l,dx,d'⟩where
 len:=by
  have:=k.len;simp only at this|-;rw[bV,AZ O];omega
 get:=λe he=>by
  have h1:=k.get e he;have h2:=k.len;simp only at h1 h2 he|-;rw[E4 O Z Z Z Z,h1]
 aV:=k.aV
 hU:=by
  obtain⟨q,rfl,hq⟩:=hl;obtain⟨r,h1,h2⟩:=k.hU;simp only at h1 h2|-;subst h1;exact⟨q++r,by simp,λy hy=>by rcases mem_append.1 hy with hy|hy;exact hq y hy;exact h2 y hy⟩
end
theorem Gx{h h2:aN}{lg kq dx d:List Nat}{x y z:Option bp}(q0:dm h lg kq)(c:dG (·=nb h 2) ⟨aR h [x,y,z],kq,[]⟩ ⟨h2,dx,d⟩):
 aY ⟨h,lg,[]⟩ ⟨h2,dx,[]⟩/\SF h2 (nb h 0) (nb h 1) (nb h 2)/\aj h2 (nb h 0)=x/\aj h2 (nb h 1)=y/\((∀k,Nat.beq (nb h 0) (nb h2 k)=false)/\(∀k,Nat.beq (nb h 1) (nb h2 k)=false)/\(∀k,Nat.beq (nb h 2) (nb h2 k)=false)/\(∀k,Nat.beq (nb h2 k) (nb h 0)=false)/\(∀k,Nat.beq (nb h2 k) (nb h 1)=false)/\∀k,Nat.beq (nb h2 k) (nb h 2)=false):=by
 obtain rfl:d=[]:=c.aV;have l:=c.len;simp only[bV,length_cons,length_nil]at l;have n0:nb h 0<h2.length:=by rw[nb];omega
 have n1:nb h 1<h2.length:=by rw[nb];omega
 have n2:nb h 2<h2.length:=by rw[nb];omega
 refine⟨aY.ko (aH q0) c (λx hx=>by rw[hx,nb];exact Nat.le_add_right _ _),⟨n0,n1,n2,by rw[nb,nb];omega,by rw[nb,nb];omega,by rw[nb,nb];omega⟩,?_,?_,λk=>iv n0,λk=>iv n1,λk=>iv n2,λk=>iD n0,λk=>iD n1,λk=>iD n2⟩
 .exact(c.get _ (by simp only[bV,length_cons,length_nil,nb];omega) (by rw[nb,nb];omega)).trans (by rw[bj];rfl)
 .exact(c.get _ (by simp only[bV,length_cons,length_nil,nb];omega) (by rw[nb,nb];omega)).trans (by rw[bj];rfl)
attribute [go_sem] Ait Aiu Sh Mem.om zZ filter_nil flatMap_nil filter_cons flatMap_cons map_nil map_cons mA kM j6.kL bE.rM Abd Abe Abf WN WO V9 Wb OV m9 sO Nat.beq_refl mI Bool.or_self any_nil any_cons j6.iG AiS AiT AiU AiV AiW AiX AiY AiZ OV e_n e_e e_r DL length_map isSome_some isSome_none getD_some getD_none Nat.sub_zero Nat.zero_le Int.lt_irrefl Nat.mul_one Nat.lt_irrefl Nat.le_refl Int.le_refl drop_zero Bool.cond_self take_length
theorem aW{A p q:Prop}(X:A)(k:q)(h:A->q->p:=by intro X h;simp+contextual-implicitDefEqProofs (maxSteps:=1000000) (maxDischargeDepth:=20) only[go_sem,simprocAttr,X];exact h):p:=h X k
theorem aC{A p:Prop}(X:A)(h:A->p:=by intro X;simp+contextual-implicitDefEqProofs (maxSteps:=1000000) (maxDischargeDepth:=20) only[go_sem,simprocAttr,X]):p:=h X
theorem aD{A p q:Prop}(X:A)(k:q)(h:A->q->p:=by intro X h;simp+contextual-implicitDefEqProofs (maxSteps:=1000000) (maxDischargeDepth:=20) only[go_sem,simprocAttr,↓X,X];exact h):p:=h X k
theorem aE{A p:Prop}(X:A)(h:A->p:=by intro X;simp+contextual-implicitDefEqProofs (maxSteps:=1000000) (maxDischargeDepth:=20) only[go_sem,simprocAttr,↓X,X]):p:=h X
theorem aS{p q:Prop}(k:q)(h:q->p:=by intro h;simp+contextual-implicitDefEqProofs (maxSteps:=1000000) (maxDischargeDepth:=20) only[go_sem,simprocAttr];exact h):p:=h k
theorem aK{p:Prop}(h:p:=by simp+contextual-implicitDefEqProofs (maxSteps:=1000000) (maxDischargeDepth:=20) only[go_sem,simprocAttr]):p:=h
theorem Z2{a0 a1:Prop}(x0:a0)(x1:a1):a0/\a1:=⟨x0,x1⟩
theorem Z3{a0 a1 a2:Prop}(x0:a0)(x1:a1)(x2:a2):a0/\a1/\a2:=⟨x0,x1,x2⟩
theorem Z4{a0 a1 a2 a3:Prop}(x0:a0)(x1:a1)(x2:a2)(x3:a3):a0/\a1/\a2/\a3:=⟨x0,x1,x2,x3⟩
theorem Z5{a0 a1 a2 a3 a4:Prop}(x0:a0)(x1:a1)(x2:a2)(x3:a3)(x4:a4):a0/\a1/\a2/\a3/\a4:=⟨x0,x1,x2,x3,x4⟩
theorem Z6{a0 a1 a2 a3 a4 a5:Prop}(x0:a0)(x1:a1)(x2:a2)(x3:a3)(x4:a4)(x5:a5):a0/\a1/\a2/\a3/\a4/\a5:=⟨x0,x1,x2,x3,x4,x5⟩
theorem Z7{a0 a1 a2 a3 a4 a5 a6:Prop}(x0:a0)(x1:a1)(x2:a2)(x3:a3)(x4:a4)(x5:a5)(x6:a6):a0/\a1/\a2/\a3/\a4/\a5/\a6:=⟨x0,x1,x2,x3,x4,x5,x6⟩
theorem Z8{a0 a1 a2 a3 a4 a5 a6 a7:Prop}(x0:a0)(x1:a1)(x2:a2)(x3:a3)(x4:a4)(x5:a5)(x6:a6)(x7:a7):a0/\a1/\a2/\a3/\a4/\a5/\a6/\a7:=⟨x0,x1,x2,x3,x4,x5,x6,x7⟩
theorem Z9{a0 a1 a2 a3 a4 a5 a6 a7 a8:Prop}(x0:a0)(x1:a1)(x2:a2)(x3:a3)(x4:a4)(x5:a5)(x6:a6)(x7:a7)(x8:a8):a0/\a1/\a2/\a3/\a4/\a5/\a6/\a7/\a8:=⟨x0,x1,x2,x3,x4,x5,x6,x7,x8⟩
theorem yA{a0 a1 a2 a3 a4 a5 a6 a7 a8 a9:Prop}(x0:a0)(x1:a1)(x2:a2)(x3:a3)(x4:a4)(x5:a5)(x6:a6)(x7:a7)(x8:a8)(x9:a9):a0/\a1/\a2/\a3/\a4/\a5/\a6/\a7/\a8/\a9:=⟨x0,x1,x2,x3,x4,x5,x6,x7,x8,x9⟩
theorem xq{a0 a1 a2 a3 a4 a5 a6 a7 a8 a9 Nl:Prop}(x0:a0)(x1:a1)(x2:a2)(x3:a3)(x4:a4)(x5:a5)(x6:a6)(x7:a7)(x8:a8)(x9:a9)(x10:Nl):a0/\a1/\a2/\a3/\a4/\a5/\a6/\a7/\a8/\a9/\Nl:=⟨x0,x1,x2,x3,x4,x5,x6,x7,x8,x9,x10⟩
theorem gX{a0 a1 a2 a3 a4 a5 a6 a7 a8 a9 Nl SH:Prop}(x0:a0)(x1:a1)(x2:a2)(x3:a3)(x4:a4)(x5:a5)(x6:a6)(x7:a7)(x8:a8)(x9:a9)(x10:Nl)(x11:SH):a0/\a1/\a2/\a3/\a4/\a5/\a6/\a7/\a8/\a9/\Nl/\SH:=⟨x0,x1,x2,x3,x4,x5,x6,x7,x8,x9,x10,x11⟩
theorem aL{h:aN}{lg l:List Nat}(k:dm h lg l:=by repeat first|exact dm.nil|apply dm.cons):dm h lg l:=k
theorem aX{E:cT->Tr->Mem->Prop}(k:Cl E:=by repeat first|apply SI|apply SJ|apply Gp|apply Gq|apply Gn|apply Afs):Cl E:=k
theorem aP(X:Nat){k L j:Nat}{vs:List AV}{m:Mem}{v:AV}{fn:bD}(q:L+1<=j)(H:∀n,Nat.ble vs.length fn.ntmps=true/\Wc (dJ FT MT (SM L) (n+X)) (Wa FT MT (SM L) (n+X)) MT (n+X) fn.body (lz vs .z .e) ⟨aR m.ah [],m.hU,[]⟩ (Kr fn.results m.aV (Qe v m)))(hF:FT k=some fn:=by rfl)(hl:lv k=L+1/\k≠5/\X<30000:=by decide)(hr:∀b∈v.cj,b<m.ah.length:=by simp[AV.cj,hH]):SM j k vs m=some (v,m):=Pu X hF hl q hr H
theorem aY.aA{h h':aN}{kq bq:List Nat}{l0:List (Option bp)}(k:aY ⟨aR h l0,kq,[]⟩ ⟨h',bq,[]⟩)(lg d:List Nat)(q0:dm h lg kq:=by repeat first|exact dm.nil|apply dm.cons):
 (∀l j,j<fY l0->aj (aR h' l) (nb h j)=fj l0 j)/\(∀l dx,dm h' bq dx->aY ⟨aR h l0,kq,[]⟩ ⟨aR h' l,dx,[]⟩)/\(∀l dx,dm h' bq dx->aY ⟨h,lg,d⟩ ⟨aR h' l,dx,d⟩):=k.all q0
theorem aI{k:Nat}{fn:bD}{j n:Nat}{vs:List AV}{m:Mem}{Q:AV->Mem->Prop}(H:Nat.ble vs.length fn.ntmps=true/\Wc (dJ FT MT (SM j) n) (Wa FT MT (SM j) n) MT n fn.body (lz vs .z .e) ⟨m.ah,m.hU,[]⟩ (Kr fn.results m.aV Q))(hF:FT k=some fn:=by rfl)(hl:lv k=0/\k≠5:=by decide):Wa FT MT (SM j) (n+1) (.fn k) vs m Q:=by rw[wi hF hl];exact H
theorem aJ(k:Nat){fn:bD}(hF:FT k=some fn:=by rfl)(hl:lv k=0/\k≠5:=by decide){j n:Nat}{vs:List AV}{m:Mem}{Q:AV->Mem->Prop}:
 Wa FT MT (SM j) (n+1) (.fn k) vs m Q=(Nat.ble vs.length fn.ntmps=true/\Wc (dJ FT MT (SM j) n) (Wa FT MT (SM j) n) MT n fn.body (lz vs .z .e) ⟨m.ah,m.hU,[]⟩ (Kr fn.results m.aV Q)):=wi hF hl
end Go.Abs
end
