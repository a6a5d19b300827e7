/- The evaluator's run of the examples: it ends with true.
   Conditions: none. -/
import Derived.Test.YtdmofemokgboeaaGreatDoorFok1
import Derived.KernelRfl
noncomputable section
namespace Go.Proofs.YtdmofemokgboeaaGreatDoor
open Go Go.Abs
set_option maxRecDepth 100000
def tbl:List (Option AFunc):=[none,none,none,some AF3,some AF4,some AF5,some AF6,some AF7,some AF8,some AF9,some AF10,some AF11,some AF12,some AF13,some AF14,some AF15,some AF16,some AF17,some AF18,some AF19,some AF20,some AF21,some AF22,some AF23,some AF24,some AF25,some AF26,some AF27,some AF28,some AF29,some AF30,some AF31,some AF32,some AF33,some AF34,some AF35,some AF36,some AF37,some AF38,some AF39,some AF40,some AF41,some AF42,some AF43,some AF44,some AF45,some AF46,some AF47,some AF48,some AF49,some AF50,some AF51,some AF52,some AF53,some AF54,some AF55,some AF56,some AF57,some AF58,some AF59,some AF60,some AF61,some AF62,some AF63,some AF64,some AF65,some AF66,some AF67,some AF68,some AF69,some AF70,some AF71,some AF72,some AF73,some AF74,some AF75,some AF76,some AF77,some AF78,some AF79,some AF80,some AF81,some AF82,some AF83,some AF84,some AF85,some AF86,some AF87,some AF88,some AF89,some AF90,some AF91,some AF92,some AF93,some AF94,some AF95,some AF96,some AF97,some AF98,none,none,none,none,none,none,none,some AF106,some AF107,some AF108,some AF109,some AF110,some AF111,some AF112,some AF113,some AF114,some AF115,some AF116,some AF117,some AF118,some AF119,some AF120,some AF121,some AF122,some AF123,some AF124,some AF125,some AF126,some AF127,some AF128,some AF129,some AF130,some AF131,some AF132,none,none,none,none,none,some AF138,some AF139,some AF140,some AF141,some AF142,some AF143,some AF144,none,some AF146,some AF147,some AF148,some AF149,some AF150,some AF151,some AF152,some AF153,some AF154,some AF155,some AF156,some AF157,none,none,none,none,none,none,none,none,none,none,none,none,none,none,none,none,none,some AF175,some AF176,some AF177,some AF178,none,none,none,none,none,none,none,some AF186]
def F (f:FuncId):Option AFunc:=(tbl[f]?).join
theorem fOK:FOK Tryz.prog glob F:=TabOK.fok (⟨k3,⟨k4,⟨k5,⟨k6,⟨k7,⟨k8,⟨k9,⟨k10,⟨k11,⟨k12,⟨k13,⟨k14,⟨k15,⟨k16,⟨k17,⟨k18,⟨k19,⟨k20,⟨k21,⟨k22,⟨k23,⟨k24,⟨k25,⟨k26,⟨k27,⟨k28,⟨k29,⟨k30,⟨k31,⟨k32,⟨k33,⟨k34,⟨k35,⟨k36,⟨k37,⟨k38,⟨k39,⟨k40,⟨k41,⟨k42,⟨k43,⟨k44,⟨k45,⟨k46,⟨k47,⟨k48,⟨k49,⟨k50,⟨k51,⟨k52,⟨k53,⟨k54,⟨k55,⟨k56,⟨k57,⟨k58,⟨k59,⟨k60,⟨k61,⟨k62,⟨k63,⟨k64,⟨k65,⟨k66,⟨k67,⟨k68,⟨k69,⟨k70,⟨k71,⟨k72,⟨k73,⟨k74,⟨k75,⟨k76,⟨k77,⟨k78,⟨k79,⟨k80,⟨k81,⟨k82,⟨k83,⟨k84,⟨k85,⟨k86,⟨k87,⟨k88,⟨k89,⟨k90,⟨k91,⟨k92,⟨k93,⟨k94,⟨k95,⟨k96,⟨k97,⟨k98,⟨k106,⟨k107,⟨k108,⟨k109,⟨k110,⟨k111,⟨k112,⟨k113,⟨k114,⟨k115,⟨k116,⟨k117,⟨k118,⟨k119,⟨k120,⟨k121,⟨k122,⟨k123,⟨k124,⟨k125,⟨k126,⟨k127,⟨k128,⟨k129,⟨k130,⟨k131,⟨k132,⟨k138,⟨k139,⟨k140,⟨k141,⟨k142,⟨k143,⟨k144,⟨k146,⟨k147,⟨k148,⟨k149,⟨k150,⟨k151,⟨k152,⟨k153,⟨k154,⟨k155,⟨k156,⟨k157,⟨k175,⟨k176,⟨k177,⟨k178,⟨k186,trivial⟩⟩⟩⟩⟩⟩⟩⟩⟩⟩⟩⟩⟩⟩⟩⟩⟩⟩⟩⟩⟩⟩⟩⟩⟩⟩⟩⟩⟩⟩⟩⟩⟩⟩⟩⟩⟩⟩⟩⟩⟩⟩⟩⟩⟩⟩⟩⟩⟩⟩⟩⟩⟩⟩⟩⟩⟩⟩⟩⟩⟩⟩⟩⟩⟩⟩⟩⟩⟩⟩⟩⟩⟩⟩⟩⟩⟩⟩⟩⟩⟩⟩⟩⟩⟩⟩⟩⟩⟩⟩⟩⟩⟩⟩⟩⟩⟩⟩⟩⟩⟩⟩⟩⟩⟩⟩⟩⟩⟩⟩⟩⟩⟩⟩⟩⟩⟩⟩⟩⟩⟩⟩⟩⟩⟩⟩⟩⟩⟩⟩⟩⟩⟩⟩⟩⟩⟩⟩⟩⟩⟩⟩⟩⟩⟩⟩⟩:TabOK Tryz.prog glob 0 tbl)
def isT:Option (AV × Mem)→Bool
  |some (.bool true,_)=>true
  |_=>false
theorem isT_some {x:Option (AV × Mem)} (h:isT x=true): ∃ m,x=some (.bool true,m):=by
  unfold isT at h
  split at h
  · exact ⟨_,rfl⟩
  · cases h
def start:Mem:={blks:=blksOf tabs ⟨0,.e⟩}
theorem run:isT (acall F (cmeth Tryz.prog) noSum 4000 (.fn 5) [] start)=true:=by kernel_rfl
end Go.Proofs.YtdmofemokgboeaaGreatDoor
end
