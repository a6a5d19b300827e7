/- The table of the package; short names of places in a frame.
   Conditions: none. -/
import Derived.Test.YtjpnemidlgcmmaaGreatDoorW
import Derived.Test.YtjpnemidlgcmmaaGreatDoorRows
import Derived.KernelRfl
import Derived.Test.YtjpnemidlgcmmaaGreatDoorRows
set_option linter.unusedSimpArgs false
set_option linter.unusedVariables false
set_option maxRecDepth 100000
noncomputable section
namespace Go.Abs
def headsR:List (List AV):=[[.int .u8 176],[.int .u8 177],[.int .u8 178],[.int .u8 180],[.int .u8 181],[.int .u8 182]]
def tabs:Tabs:=[(0,1,headsR)]
noncomputable def glob:Nat→Option AV:=globOf tabs 0
abbrev X0:Pth:= .z
abbrev X1:Pth:= .l X0
abbrev X2:Pth:= .r X0
abbrev X3:Pth:= .l X1
abbrev X4:Pth:= .r X1
abbrev X5:Pth:= .l X2
abbrev X6:Pth:= .r X2
abbrev X7:Pth:= .l X3
abbrev X8:Pth:= .r X3
abbrev X9:Pth:= .l X4
abbrev X10:Pth:= .r X4
abbrev X11:Pth:= .l X5
abbrev X12:Pth:= .r X5
abbrev X13:Pth:= .l X6
abbrev X14:Pth:= .r X6
abbrev X15:Pth:= .l X7
abbrev X16:Pth:= .r X7
abbrev X17:Pth:= .l X8
abbrev X18:Pth:= .r X8
abbrev X19:Pth:= .l X9
abbrev X20:Pth:= .r X9
abbrev X21:Pth:= .l X10
abbrev X22:Pth:= .r X10
abbrev X23:Pth:= .l X11
abbrev X24:Pth:= .r X11
abbrev X26:Pth:= .r X12
abbrev X27:Pth:= .l X13
abbrev X28:Pth:= .r X13
abbrev X29:Pth:= .l X14
abbrev X30:Pth:= .r X14
abbrev X31:Pth:= .l X15
abbrev X34:Pth:= .r X16
abbrev X35:Pth:= .l X17
abbrev X38:Pth:= .r X18
abbrev X39:Pth:= .l X19
abbrev X40:Pth:= .r X19
abbrev X41:Pth:= .l X20
abbrev X42:Pth:= .r X20
abbrev X44:Pth:= .r X21
abbrev X48:Pth:= .r X23
abbrev X58:Pth:= .r X28
abbrev X69:Pth:= .l X34
abbrev X77:Pth:= .l X38
abbrev X80:Pth:= .r X39
abbrev X81:Pth:= .l X40
abbrev X82:Pth:= .r X40
abbrev X83:Pth:= .l X41
abbrev X84:Pth:= .r X41
abbrev X85:Pth:= .l X42
abbrev Y3:AOpnd:= .t X3
abbrev Y4:AOpnd:= .t X4
abbrev Y5:AOpnd:= .t X5
abbrev Y6:AOpnd:= .t X6
abbrev Y9:AOpnd:= .t X9
abbrev Y10:AOpnd:= .t X10
abbrev Y11:AOpnd:= .t X11
abbrev Y12:AOpnd:= .t X12
abbrev Y13:AOpnd:= .t X13
abbrev Y14:AOpnd:= .t X14
abbrev Y15:AOpnd:= .t X15
abbrev Y16:AOpnd:= .t X16
abbrev Y17:AOpnd:= .t X17
abbrev Y18:AOpnd:= .t X18
abbrev Y19:AOpnd:= .t X19
abbrev Y20:AOpnd:= .t X20
abbrev Y21:AOpnd:= .t X21
abbrev Y22:AOpnd:= .t X22
abbrev Y80:AOpnd:= .t X80
abbrev Y81:AOpnd:= .t X81
abbrev Y82:AOpnd:= .t X82
abbrev Y83:AOpnd:= .t X83
abbrev Y84:AOpnd:= .t X84
abbrev E0:AV:= .int .i64 0
abbrev U0:AV:= .int .u64 0
abbrev cI (n:Int):AOpnd:= .c (.int .i64 n)
abbrev I0:AOpnd:= .c (.int .i64 0)
abbrev oM (p:Pth) (x:AOpnd):AOper:=⟨some p,.mv x,none,none,[]⟩
abbrev oP (p:Pth) (x:AOp):AOper:=⟨some p,x,none,none,[]⟩
abbrev oN (x:AOp):AOper:=⟨none,x,none,none,[]⟩
abbrev oR (l:List AOper):ACode:= .region false 0 l
def KF (f:Func):={a:AFunc // cfuncA Proofs.Tryz.prog glob f=some a}
end Go.Abs
end
