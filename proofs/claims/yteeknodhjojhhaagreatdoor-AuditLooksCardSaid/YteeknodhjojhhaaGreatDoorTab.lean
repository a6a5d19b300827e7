/- The table of the package; short names of places in a frame.
   Conditions: none. -/
import Derived.Test.YteeknodhjojhhaaGreatDoorCf
import Derived.Test.YteeknodhjojhhaaGreatDoorRows
import Derived.KernelRfl
set_option linter.unusedSimpArgs false
set_option linter.unusedVariables false
set_option maxRecDepth 100000
noncomputable section
namespace Go.Abs
def fM:List (List AV):=[[.int .u8 176],[.int .u8 177],[.int .u8 178],[.int .u8 180],[.int .u8 181],[.int .u8 182]]
def uZ:List (List AV):=[[.int .u32 0],[.int .u32 274646895],[.int .u32 549293790],[.int .u32 820201905],[.int .u32 1098587580],[.int .u32 1361435347],[.int .u32 1640403810],[.int .u32 1905808397],[.int .u32 2197175160],[.int .u32 2460548119],[.int .u32 2722870694],[.int .u32 2987750089],[.int .u32 3280807620],[.int .u32 3553878443],[.int .u32 3811616794],[.int .u32 4084100981]]
def AH:uq:=[(0,1,fM),(1,1,uZ)]
def aM:Nat->Option AV:=jr AH 0
abbrev X0:cO:=.z
abbrev X1:cO:=.l X0
abbrev X2:cO:=.r X0
abbrev X3:cO:=.l X1
abbrev X4:cO:=.r X1
abbrev X5:cO:=.l X2
abbrev X6:cO:=.r X2
abbrev X7:cO:=.l X3
abbrev X8:cO:=.r X3
abbrev X9:cO:=.l X4
abbrev BZ:cO:=.r X4
abbrev wJ:cO:=.l X5
abbrev Il:cO:=.r X5
abbrev JX:cO:=.l X6
abbrev Uv:cO:=.r X6
abbrev Q7:cO:=.l X7
abbrev Uw:cO:=.r X7
abbrev Ux:cO:=.l X8
abbrev X18:cO:=.r X8
abbrev WV:cO:=.l X9
abbrev X20:cO:=.r X9
abbrev X21:cO:=.l BZ
abbrev X22:cO:=.r BZ
abbrev X23:cO:=.l wJ
abbrev X24:cO:=.r wJ
abbrev X25:cO:=.l Il
abbrev X26:cO:=.r Il
abbrev X28:cO:=.r JX
abbrev X29:cO:=.l Uv
abbrev X30:cO:=.r Uv
abbrev X31:cO:=.l Q7
abbrev X34:cO:=.r Uw
abbrev X35:cO:=.l Ux
abbrev X37:cO:=.l X18
abbrev X38:cO:=.r X18
abbrev X39:cO:=.l WV
abbrev X40:cO:=.r WV
abbrev X42:cO:=.r X20
abbrev X43:cO:=.l X21
abbrev X44:cO:=.r X21
abbrev X49:cO:=.l X24
abbrev X51:cO:=.l X25
abbrev X52:cO:=.r X25
abbrev X58:cO:=.r X28
abbrev X61:cO:=.l X30
abbrev X63:cO:=.l X31
abbrev X69:cO:=.l X34
abbrev X80:cO:=.r X39
abbrev X82:cO:=.r X40
abbrev X85:cO:=.l X42
abbrev X88:cO:=.r X43
abbrev Ai0:cO:=.r X49
abbrev Ai1:cO:=.r X61
abbrev Y2:bE:=.t X2
abbrev Y3:bE:=.t X3
abbrev Y4:bE:=.t X4
abbrev Y5:bE:=.t X5
abbrev Y6:bE:=.t X6
abbrev Y7:bE:=.t X7
abbrev Y8:bE:=.t X8
abbrev Y9:bE:=.t X9
abbrev YR:bE:=.t BZ
abbrev YS:bE:=.t wJ
abbrev Y12:bE:=.t Il
abbrev Y13:bE:=.t JX
abbrev Y14:bE:=.t Uv
abbrev Y15:bE:=.t Q7
abbrev Y16:bE:=.t Uw
abbrev Y17:bE:=.t Ux
abbrev Y18:bE:=.t X18
abbrev Y19:bE:=.t WV
abbrev Y20:bE:=.t X20
abbrev Y21:bE:=.t X21
abbrev Y22:bE:=.t X22
abbrev E0:AV:=.int .i64 0
abbrev cI(n:Int):bE:=.c (.int .i64 n)
abbrev Iz:bE:=.c (.int .i64 0)
abbrev oM(p:cO)(x:bE):cS:=⟨some p,.mv x,none,none,[]⟩
abbrev oP(p:cO)(x:j6):cS:=⟨some p,x,none,none,[]⟩
abbrev oN(x:j6):cS:=⟨none,x,none,none,[]⟩
abbrev oR(l:List cS):eQ:=.region false 0 l
noncomputable def fL:Func:={Proofs.Tryz.f12 with body:=some .skip,name:= ""}
noncomputable def pL:Program:={toTables:=Proofs.Tryz.progTables,funcs:=(List.replicate 247 fL++Proofs.Tryz.f247::List.replicate 154 fL).toArray}
def KF(f:Func):={a:bD//zE pL aM f=some a}
def bk{f:Func}{a:bD}(h:zE pL aM f=some a:=by cbv):KF f:=⟨a,h⟩
end Go.Abs
end
