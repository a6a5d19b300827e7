/- The table of the package; short names of places in a frame.
   Conditions: none. -/
import Derived.Test.YtdmofemokgboeaaGreatDoorBl
import Derived.Test.YtdmofemokgboeaaGreatDoorRows
import Derived.KernelRfl
import Derived.Test.YtdmofemokgboeaaGreatDoorRows
set_option linter.unusedSimpArgs false
set_option linter.unusedVariables false
set_option maxRecDepth 100000
noncomputable section
namespace Go.Abs
def headsR:List (List AV):=[[.int .u8 176],[.int .u8 177],[.int .u8 178],[.int .u8 180],[.int .u8 181],[.int .u8 182]]
def usesR:List (List AV):=[
  [(.str []),(.bool false),(.bool false),(.int .i64 0),(.int .i64 0),(.int .i64 0),(.int .i64 0),(.bool false)],
  [(.str [115,117,98,109,105,116]),(.bool true),(.bool false),(.int .i64 0),(.int .i64 (-1)),(.int .i64 (-1)),(.int .i64 (-1)),(.bool true)],
  [(.str [111,112,101,110]),(.bool true),(.bool true),(.int .i64 0),(.int .i64 (-1)),(.int .i64 (-1)),(.int .i64 (-1)),(.bool false)],
  [(.str [99,108,111,115,101]),(.bool true),(.bool true),(.int .i64 0),(.int .i64 (-1)),(.int .i64 (-1)),(.int .i64 (-1)),(.bool false)],
  [(.str [116,105,99,107]),(.bool false),(.bool false),(.int .i64 1),(.int .i64 1000),(.int .i64 (-1)),(.int .i64 (-1)),(.bool false)],
  [(.str [100,101,108,105,118,101,114]),(.bool true),(.bool true),(.int .i64 0),(.int .i64 63),(.int .i64 (-1)),(.int .i64 (-1)),(.bool false)],
  [(.str [108,111,115,101]),(.bool true),(.bool true),(.int .i64 0),(.int .i64 63),(.int .i64 (-1)),(.int .i64 (-1)),(.bool false)],
  [(.str [100,111,117,98,108,101]),(.bool true),(.bool true),(.int .i64 0),(.int .i64 63),(.int .i64 (-1)),(.int .i64 (-1)),(.bool false)],
  [(.str [115,119,97,112]),(.bool true),(.bool true),(.int .i64 0),(.int .i64 63),(.int .i64 63),(.int .i64 (-1)),(.bool false)],
  [(.str [115,112,111,105,108]),(.bool true),(.bool true),(.int .i64 0),(.int .i64 63),(.int .i64 1199),(.int .i64 255),(.bool false)],
  [(.str [99,117,116]),(.bool true),(.bool true),(.int .i64 0),(.int .i64 63),(.int .i64 1199),(.int .i64 (-1)),(.bool false)],
  [(.str [99,114,97,115,104]),(.bool true),(.bool false),(.int .i64 0),(.int .i64 (-1)),(.int .i64 (-1)),(.int .i64 (-1)),(.bool false)],
  [(.str [116,114,105,112]),(.bool true),(.bool false),(.int .i64 0),(.int .i64 1000),(.int .i64 262144),(.int .i64 (-1)),(.bool false)],
  [(.str [114,101,115,116,97,114,116]),(.bool true),(.bool false),(.int .i64 0),(.int .i64 (-1)),(.int .i64 (-1)),(.int .i64 (-1)),(.bool false)],
  [(.str [100,114,97,105,110]),(.bool false),(.bool false),(.int .i64 1),(.int .i64 1000),(.int .i64 (-1)),(.int .i64 (-1)),(.bool false)]]
def tabs:Tabs:=[(1,1,headsR),(0,8,usesR)]
noncomputable def glob:Nat→Option AV:=globOf tabs 0
abbrev X0:Pth:= .z
abbrev X1:Pth:= .l X0
abbrev X2:Pth:= .r X0
abbrev X3:Pth:= .l X1
abbrev X4:Pth:= .r X1
abbrev X5:Pth:= .l X2
abbrev X6:Pth:= .r X2
abbrev X7:Pth:= .l X3
abbrev X8:Pth:= .r X3
abbrev X9:Pth:= .l X4
abbrev X10:Pth:= .r X4
abbrev X11:Pth:= .l X5
abbrev X12:Pth:= .r X5
abbrev X13:Pth:= .l X6
abbrev X14:Pth:= .r X6
abbrev X15:Pth:= .l X7
abbrev X16:Pth:= .r X7
abbrev X17:Pth:= .l X8
abbrev X18:Pth:= .r X8
abbrev X19:Pth:= .l X9
abbrev X20:Pth:= .r X9
abbrev X21:Pth:= .l X10
abbrev X22:Pth:= .r X10
abbrev X23:Pth:= .l X11
abbrev X24:Pth:= .r X11
abbrev X25:Pth:= .l X12
abbrev X26:Pth:= .r X12
abbrev X27:Pth:= .l X13
abbrev X28:Pth:= .r X13
abbrev X29:Pth:= .l X14
abbrev X30:Pth:= .r X14
abbrev X31:Pth:= .l X15
abbrev X32:Pth:= .r X15
abbrev X33:Pth:= .l X16
abbrev X34:Pth:= .r X16
abbrev X35:Pth:= .l X17
abbrev X36:Pth:= .r X17
abbrev X37:Pth:= .l X18
abbrev X38:Pth:= .r X18
abbrev X39:Pth:= .l X19
abbrev X40:Pth:= .r X19
abbrev X41:Pth:= .l X20
abbrev X42:Pth:= .r X20
abbrev X43:Pth:= .l X21
abbrev X44:Pth:= .r X21
abbrev X45:Pth:= .l X22
abbrev X46:Pth:= .r X22
abbrev X47:Pth:= .l X23
abbrev X48:Pth:= .r X23
abbrev X49:Pth:= .l X24
abbrev X50:Pth:= .r X24
abbrev X51:Pth:= .l X25
abbrev X52:Pth:= .r X25
abbrev X53:Pth:= .l X26
abbrev X54:Pth:= .r X26
abbrev X55:Pth:= .l X27
abbrev X56:Pth:= .r X27
abbrev X57:Pth:= .l X28
abbrev X58:Pth:= .r X28
abbrev X59:Pth:= .l X29
abbrev X60:Pth:= .r X29
abbrev X61:Pth:= .l X30
abbrev X62:Pth:= .r X30
abbrev X63:Pth:= .l X31
abbrev X64:Pth:= .r X31
abbrev X65:Pth:= .l X32
abbrev X66:Pth:= .r X32
abbrev X67:Pth:= .l X33
abbrev X68:Pth:= .r X33
abbrev X69:Pth:= .l X34
abbrev X70:Pth:= .r X34
abbrev X71:Pth:= .l X35
abbrev X72:Pth:= .r X35
abbrev X73:Pth:= .l X36
abbrev X74:Pth:= .r X36
abbrev X75:Pth:= .l X37
abbrev X76:Pth:= .r X37
abbrev X77:Pth:= .l X38
abbrev X78:Pth:= .r X38
abbrev X79:Pth:= .l X39
abbrev X80:Pth:= .r X39
abbrev X81:Pth:= .l X40
abbrev X82:Pth:= .r X40
abbrev X83:Pth:= .l X41
abbrev X84:Pth:= .r X41
abbrev X85:Pth:= .l X42
abbrev X86:Pth:= .r X42
abbrev X87:Pth:= .l X43
abbrev X88:Pth:= .r X43
abbrev X89:Pth:= .l X44
abbrev X90:Pth:= .r X44
abbrev X91:Pth:= .l X45
abbrev X92:Pth:= .r X45
abbrev X93:Pth:= .l X46
abbrev X94:Pth:= .r X46
abbrev X95:Pth:= .l X47
abbrev X96:Pth:= .r X47
abbrev X97:Pth:= .l X48
abbrev X98:Pth:= .r X48
abbrev X99:Pth:= .l X49
abbrev X100:Pth:= .r X49
abbrev X101:Pth:= .l X50
abbrev X102:Pth:= .r X50
abbrev X103:Pth:= .l X51
abbrev X104:Pth:= .r X51
abbrev X105:Pth:= .l X52
abbrev X106:Pth:= .r X52
abbrev X107:Pth:= .l X53
abbrev X108:Pth:= .r X53
abbrev X109:Pth:= .l X54
abbrev X110:Pth:= .r X54
abbrev X111:Pth:= .l X55
abbrev X112:Pth:= .r X55
abbrev X113:Pth:= .l X56
abbrev X114:Pth:= .r X56
abbrev X115:Pth:= .l X57
abbrev X116:Pth:= .r X57
abbrev X117:Pth:= .l X58
abbrev X118:Pth:= .r X58
abbrev X119:Pth:= .l X59
abbrev X120:Pth:= .r X59
abbrev X121:Pth:= .l X60
abbrev X122:Pth:= .r X60
abbrev X123:Pth:= .l X61
abbrev X124:Pth:= .r X61
abbrev X125:Pth:= .l X62
abbrev X126:Pth:= .r X62
abbrev X127:Pth:= .l X63
abbrev X128:Pth:= .r X63
abbrev X129:Pth:= .l X64
abbrev X130:Pth:= .r X64
abbrev X131:Pth:= .l X65
abbrev X132:Pth:= .r X65
abbrev X133:Pth:= .l X66
abbrev X134:Pth:= .r X66
abbrev X135:Pth:= .l X67
abbrev X136:Pth:= .r X67
abbrev X137:Pth:= .l X68
abbrev X138:Pth:= .r X68
abbrev X139:Pth:= .l X69
abbrev X140:Pth:= .r X69
abbrev X141:Pth:= .l X70
abbrev X142:Pth:= .r X70
abbrev X143:Pth:= .l X71
abbrev X144:Pth:= .r X71
abbrev X145:Pth:= .l X72
abbrev X146:Pth:= .r X72
abbrev X147:Pth:= .l X73
abbrev X148:Pth:= .r X73
abbrev X149:Pth:= .l X74
abbrev X150:Pth:= .r X74
abbrev X151:Pth:= .l X75
abbrev X152:Pth:= .r X75
abbrev X153:Pth:= .l X76
abbrev X154:Pth:= .r X76
abbrev X155:Pth:= .l X77
abbrev X156:Pth:= .r X77
abbrev X157:Pth:= .l X78
abbrev X158:Pth:= .r X78
abbrev X159:Pth:= .l X79
abbrev X160:Pth:= .r X79
abbrev X161:Pth:= .l X80
abbrev X162:Pth:= .r X80
abbrev X163:Pth:= .l X81
abbrev X164:Pth:= .r X81
abbrev X165:Pth:= .l X82
abbrev X166:Pth:= .r X82
abbrev X167:Pth:= .l X83
abbrev X168:Pth:= .r X83
abbrev X169:Pth:= .l X84
abbrev X170:Pth:= .r X84
abbrev X171:Pth:= .l X85
abbrev X172:Pth:= .r X85
abbrev X173:Pth:= .l X86
abbrev X174:Pth:= .r X86
abbrev X175:Pth:= .l X87
abbrev X176:Pth:= .r X87
abbrev X177:Pth:= .l X88
abbrev X178:Pth:= .r X88
abbrev X179:Pth:= .l X89
abbrev X180:Pth:= .r X89
abbrev X181:Pth:= .l X90
abbrev X182:Pth:= .r X90
abbrev X183:Pth:= .l X91
abbrev X184:Pth:= .r X91
abbrev X185:Pth:= .l X92
abbrev X186:Pth:= .r X92
abbrev X187:Pth:= .l X93
abbrev X188:Pth:= .r X93
abbrev X189:Pth:= .l X94
abbrev X190:Pth:= .r X94
abbrev X191:Pth:= .l X95
abbrev X192:Pth:= .r X95
abbrev X193:Pth:= .l X96
abbrev X194:Pth:= .r X96
abbrev X195:Pth:= .l X97
abbrev X196:Pth:= .r X97
abbrev X197:Pth:= .l X98
abbrev X198:Pth:= .r X98
abbrev X199:Pth:= .l X99
abbrev Y3:AOpnd:= .t X3
abbrev Y4:AOpnd:= .t X4
abbrev Y5:AOpnd:= .t X5
abbrev Y6:AOpnd:= .t X6
abbrev Y9:AOpnd:= .t X9
abbrev Y10:AOpnd:= .t X10
abbrev Y11:AOpnd:= .t X11
abbrev Y12:AOpnd:= .t X12
abbrev Y13:AOpnd:= .t X13
abbrev Y14:AOpnd:= .t X14
abbrev Y15:AOpnd:= .t X15
abbrev Y16:AOpnd:= .t X16
abbrev Y17:AOpnd:= .t X17
abbrev Y18:AOpnd:= .t X18
abbrev Y19:AOpnd:= .t X19
abbrev Y20:AOpnd:= .t X20
abbrev Y21:AOpnd:= .t X21
abbrev Y22:AOpnd:= .t X22
abbrev cI (n:Int):AOpnd:= .c (.int .i64 n)
abbrev I0:AOpnd:= .c (.int .i64 0)
abbrev oM (p:Pth) (x:AOpnd):AOper:=⟨some p,.mv x,none,none,[]⟩
abbrev oP (p:Pth) (x:AOp):AOper:=⟨some p,x,none,none,[]⟩
abbrev oN (x:AOp):AOper:=⟨none,x,none,none,[]⟩
abbrev oR (l:List AOper):ACode:= .region false 0 l
def KF (f:Func):={a:AFunc // cfuncA Proofs.Tryz.prog glob f=some a}
end Go.Abs
end
