/- That the tables are those of the program; the evaluator's run of the examples: it ends with true.
   Conditions: none. -/
import Derived.Test.YteeknodhjojhhaaGreatDoorTz
import Derived.KernelRfl
set_option linter.unusedSimpArgs false
set_option linter.unusedVariables false
set_option maxRecDepth 100000
noncomputable section
namespace Go.Abs
open List Option IntKind
open Proofs.Tryz
theorem fk{i:Nat}{fn:Func}{af:bD}(h:prog.funcs[i]?=some fn) (a:ph prog i=true:=by kernel_rfl) (b:Bk prog aM fn=some af:=by kernel_rfl):V7 prog aM i af:=⟨a,fn,h,b⟩
theorem Amb{P:Program}{aM:Nat->Option AV}:∀{l1 l2:List (Option bD)} {i:Nat},uQ P aM i l1->uQ P aM (i+l1.length) l2->uQ P aM i (l1++l2)
 |[],_,_,_,k=>k
 |none::l1,_,i,h,k=>Amb (l1:=l1) (i:=i+1) h (by rw[length_cons,Nat.add_comm l1.length,<-Nat.add_assoc]at k;exact k)
 |some _::l1,_,i,h,k=>⟨h.1,Amb (l1:=l1) (i:=i+1) h.2 (by rw[length_cons,Nat.add_comm l1.length,<-Nat.add_assoc]at k;exact k)⟩
theorem to0:uQ prog aM 0 tb0:=⟨fk func3,⟨fk func4,⟨fk func5,⟨fk func6,⟨fk func7,⟨fk func8,⟨fk func9,⟨fk func10,⟨fk func11,⟨fk func12,⟨fk func13,⟨fk func14,⟨fk func15,⟨fk func16,⟨fk func17,⟨fk func18,⟨fk func19,⟨fk func20,⟨fk func21,⟨fk func22,⟨fk func23,⟨fk func24,⟨fk func25,⟨fk func26,⟨fk func27,⟨fk func28,⟨fk func29,⟨fk func30,⟨fk func31,⟨fk func32,⟨fk func33,trivial⟩⟩⟩⟩⟩⟩⟩⟩⟩⟩⟩⟩⟩⟩⟩⟩⟩⟩⟩⟩⟩⟩⟩⟩⟩⟩⟩⟩⟩⟩⟩
theorem to1:uQ prog aM 34 tb1:=⟨fk func34,⟨fk func35,⟨fk func36,⟨fk func37,⟨fk func38,⟨fk func39,⟨fk func40,⟨fk func41,⟨fk func42,⟨fk func43,⟨fk func44,⟨fk func45,⟨fk func46,⟨fk func47,⟨fk func48,⟨fk func49,⟨fk func50,⟨fk func51,⟨fk func52,⟨fk func53,⟨fk func54,⟨fk func55,⟨fk func56,⟨fk func57,⟨fk func58,⟨fk func59,⟨fk func60,⟨fk func61,⟨fk func62,⟨fk func63,⟨fk func64,⟨fk func65,⟨fk func66,⟨fk func67,trivial⟩⟩⟩⟩⟩⟩⟩⟩⟩⟩⟩⟩⟩⟩⟩⟩⟩⟩⟩⟩⟩⟩⟩⟩⟩⟩⟩⟩⟩⟩⟩⟩⟩⟩
theorem to2:uQ prog aM 68 tb2:=⟨fk func68,⟨fk func69,⟨fk func70,⟨fk func71,⟨fk func72,⟨fk func73,⟨fk func74,⟨fk func75,⟨fk func76,⟨fk func77,⟨fk func78,⟨fk func79,⟨fk func80,⟨fk func81,⟨fk func82,⟨fk func83,⟨fk func84,⟨fk func85,⟨fk func86,⟨fk func87,⟨fk func88,⟨fk func89,⟨fk func90,⟨fk func91,⟨fk func92,⟨fk func93,⟨fk func94,⟨fk func95,⟨fk func96,⟨fk func97,⟨fk func98,⟨fk func99,⟨fk func100,⟨fk func101,trivial⟩⟩⟩⟩⟩⟩⟩⟩⟩⟩⟩⟩⟩⟩⟩⟩⟩⟩⟩⟩⟩⟩⟩⟩⟩⟩⟩⟩⟩⟩⟩⟩⟩⟩
theorem to3:uQ prog aM 102 tb3:=⟨fk func102,⟨fk func103,⟨fk func104,⟨fk func105,⟨fk func106,⟨fk func107,⟨fk func108,⟨fk func109,⟨fk func110,⟨fk func111,⟨fk func112,⟨fk func113,⟨fk func114,⟨fk func115,⟨fk func116,⟨fk func117,⟨fk func118,⟨fk func119,⟨fk func120,⟨fk func121,⟨fk func122,⟨fk func123,⟨fk func124,⟨fk func125,⟨fk func126,⟨fk func127,⟨fk func128,⟨fk func129,⟨fk func130,⟨fk func131,⟨fk func132,⟨fk func133,⟨fk func134,⟨fk func135,trivial⟩⟩⟩⟩⟩⟩⟩⟩⟩⟩⟩⟩⟩⟩⟩⟩⟩⟩⟩⟩⟩⟩⟩⟩⟩⟩⟩⟩⟩⟩⟩⟩⟩⟩
theorem to4:uQ prog aM 136 tb4:=⟨fk func136,⟨fk func137,⟨fk func138,⟨fk func139,⟨fk func140,⟨fk func141,⟨fk func142,⟨fk func143,⟨fk func144,⟨fk func145,⟨fk func146,⟨fk func147,⟨fk func148,⟨fk func149,⟨fk func150,⟨fk func151,⟨fk func152,⟨fk func153,⟨fk func154,⟨fk func155,⟨fk func156,⟨fk func165,⟨fk func166,⟨fk func167,⟨fk func168,⟨fk func169,trivial⟩⟩⟩⟩⟩⟩⟩⟩⟩⟩⟩⟩⟩⟩⟩⟩⟩⟩⟩⟩⟩⟩⟩⟩⟩⟩
theorem to5:uQ prog aM 170 tb5:=⟨fk func170,⟨fk func171,⟨fk func172,⟨fk func173,⟨fk func174,⟨fk func175,⟨fk func176,⟨fk func177,⟨fk func178,⟨fk func179,⟨fk func180,⟨fk func181,⟨fk func182,⟨fk func183,⟨fk func184,⟨fk func185,⟨fk func186,⟨fk func187,⟨fk func188,⟨fk func189,⟨fk func190,⟨fk func191,⟨fk func192,⟨fk func193,⟨fk func194,⟨fk func195,⟨fk func196,⟨fk func197,⟨fk func198,⟨fk func199,⟨fk func200,⟨fk func201,⟨fk func202,⟨fk func203,trivial⟩⟩⟩⟩⟩⟩⟩⟩⟩⟩⟩⟩⟩⟩⟩⟩⟩⟩⟩⟩⟩⟩⟩⟩⟩⟩⟩⟩⟩⟩⟩⟩⟩⟩
theorem to6:uQ prog aM 204 tb6:=⟨fk func204,⟨fk func205,⟨fk func206,⟨fk func207,⟨fk func208,⟨fk func209,⟨fk func210,⟨fk func211,⟨fk func212,⟨fk func213,⟨fk func214,⟨fk func215,⟨fk func216,⟨fk func217,⟨fk func218,⟨fk func219,⟨fk func220,⟨fk func221,⟨fk func222,⟨fk func223,⟨fk func224,⟨fk func226,⟨fk func227,⟨fk func229,⟨fk func230,⟨fk func232,⟨fk func234,⟨fk func235,trivial⟩⟩⟩⟩⟩⟩⟩⟩⟩⟩⟩⟩⟩⟩⟩⟩⟩⟩⟩⟩⟩⟩⟩⟩⟩⟩⟩⟩
theorem to7:uQ prog aM 238 tb7:=⟨fk func238,⟨fk func239,⟨fk func240,⟨fk func241,⟨fk func242,⟨fk func243,⟨fk func244,⟨fk func245,⟨fk func246,⟨fk func248,⟨fk func249,⟨fk func250,⟨fk func251,⟨fk func252,⟨fk func253,⟨fk func254,⟨fk func255,⟨fk func256,⟨fk func257,⟨fk func258,⟨fk func259,⟨fk func260,⟨fk func261,⟨fk func262,⟨fk func263,⟨fk func264,⟨fk func265,⟨fk func266,⟨fk func267,⟨fk func268,⟨fk func269,⟨fk func270,⟨fk func271,trivial⟩⟩⟩⟩⟩⟩⟩⟩⟩⟩⟩⟩⟩⟩⟩⟩⟩⟩⟩⟩⟩⟩⟩⟩⟩⟩⟩⟩⟩⟩⟩⟩⟩
theorem to8:uQ prog aM 272 tb8:=⟨fk func272,⟨fk func273,⟨fk func274,⟨fk func275,⟨fk func276,⟨fk func277,⟨fk func278,⟨fk func279,⟨fk func280,⟨fk func283,⟨fk func284,⟨fk func285,⟨fk func286,⟨fk func289,⟨fk func291,⟨fk func292,⟨fk func293,⟨fk func294,⟨fk func295,⟨fk func296,⟨fk func297,⟨fk func298,⟨fk func299,⟨fk func300,⟨fk func301,⟨fk func302,⟨fk func303,⟨fk func304,trivial⟩⟩⟩⟩⟩⟩⟩⟩⟩⟩⟩⟩⟩⟩⟩⟩⟩⟩⟩⟩⟩⟩⟩⟩⟩⟩⟩⟩
theorem to9:uQ prog aM 306 tb9:=⟨fk func307,⟨fk func308,⟨fk func309,⟨fk func310,⟨fk func311,⟨fk func312,⟨fk func313,⟨fk func314,⟨fk func315,⟨fk func316,⟨fk func317,⟨fk func318,⟨fk func319,⟨fk func320,⟨fk func321,⟨fk func322,⟨fk func323,⟨fk func324,⟨fk func325,⟨fk func326,⟨fk func327,⟨fk func328,⟨fk func329,⟨fk func330,⟨fk func331,⟨fk func332,⟨fk func333,⟨fk func334,⟨fk func336,⟨fk func337,⟨fk func339,trivial⟩⟩⟩⟩⟩⟩⟩⟩⟩⟩⟩⟩⟩⟩⟩⟩⟩⟩⟩⟩⟩⟩⟩⟩⟩⟩⟩⟩⟩⟩⟩
theorem Ame:uQ prog aM 340 Amc:=⟨fk func341,⟨fk func342,⟨fk func343,⟨fk func344,⟨fk func345,⟨fk func346,⟨fk func347,⟨fk func348,⟨fk func349,⟨fk func350,⟨fk func351,⟨fk func352,⟨fk func353,⟨fk func356,⟨fk func357,⟨fk func358,⟨fk func359,⟨fk func360,⟨fk func361,⟨fk func362,⟨fk func363,⟨fk func364,⟨fk func365,⟨fk func366,⟨fk func367,⟨fk func368,⟨fk func369,⟨fk func370,⟨fk func371,trivial⟩⟩⟩⟩⟩⟩⟩⟩⟩⟩⟩⟩⟩⟩⟩⟩⟩⟩⟩⟩⟩⟩⟩⟩⟩⟩⟩⟩⟩
theorem Amf:uQ prog aM 374 Amd:=⟨fk func391,⟨fk func392,⟨fk func393,⟨fk func394,trivial⟩⟩⟩⟩
theorem fOK:Uh prog aM FT:=uQ.fok (Amb to0 (Amb to1 (Amb to2 (Amb to3 (Amb to4 (Amb to5 (Amb to6 (Amb to7 (Amb to8 (Amb to9 (Amb Ame (Amf))))))))))):uQ prog aM 0 tbl)
def isT:Option (AV×Mem)->Bool
 |some (.bool true,_)=>true
 |_=>false
theorem QT{x:Option (AV×Mem)}(h:isT x=true):∃m,x=some (.bool true,m):=by
 unfold isT at h;split at h
 .exact⟨_,rfl⟩
 .cases h
def start:Mem:={ah:=qT AH ⟨0,.e⟩}
theorem run:isT (dJ FT (fI prog) Bf 400 (.fn 5) [] start)=true:=by kernel_rfl
end Go.Abs
end
