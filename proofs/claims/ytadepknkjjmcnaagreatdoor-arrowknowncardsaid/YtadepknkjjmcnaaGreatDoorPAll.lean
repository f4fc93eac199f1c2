import Derived.Test.YtadepknkjjmcnaaGreatDoorOk
import Derived.Test.YtadepknkjjmcnaaGreatDoorPRun0
import Derived.Test.YtadepknkjjmcnaaGreatDoorPRun1
import Derived.Test.YtadepknkjjmcnaaGreatDoorPRun2
import Derived.Test.YtadepknkjjmcnaaGreatDoorPRun3
import Derived.Test.YtadepknkjjmcnaaGreatDoorPRun4
import Derived.Test.YtadepknkjjmcnaaGreatDoorPRun5
import Derived.Test.YtadepknkjjmcnaaGreatDoorPRun6
import Derived.Test.YtadepknkjjmcnaaGreatDoorPRun7
import Derived.Test.YtadepknkjjmcnaaGreatDoorPRun8
import Derived.Test.YtadepknkjjmcnaaGreatDoorPRun9
import Derived.Test.YtadepknkjjmcnaaGreatDoorPRun10
import Derived.Test.YtadepknkjjmcnaaGreatDoorPRun11
import Derived.Test.YtadepknkjjmcnaaGreatDoorPRun12
import Derived.Test.YtadepknkjjmcnaaGreatDoorPRun13
import Derived.Test.YtadepknkjjmcnaaGreatDoorPRun14
import Derived.Test.YtadepknkjjmcnaaGreatDoorPRun15
import Derived.Test.YtadepknkjjmcnaaGreatDoorPRun16
import Derived.Test.YtadepknkjjmcnaaGreatDoorPRun17
import Derived.Test.YtadepknkjjmcnaaGreatDoorPRun18
import Derived.Test.YtadepknkjjmcnaaGreatDoorPRun19
import Derived.Test.YtadepknkjjmcnaaGreatDoorPRun20
import Derived.Test.YtadepknkjjmcnaaGreatDoorPRun21
import Derived.Test.YtadepknkjjmcnaaGreatDoorPRun22
import Derived.Test.YtadepknkjjmcnaaGreatDoorPRun23
import Derived.Test.YtadepknkjjmcnaaGreatDoorPRun24
/- Part of the proof. -/
namespace Go.Proofs
open Go Go.Eng Tryz
set_option maxRecDepth 1000000
set_option linter.defProp false
namespace TryzP
def oE41:=el nM (eK nM kB) rE41
def oE40:=el (cM oE41 nM) (eK nM kB) rE40
def oE39:=el (cM oE40 nM) (eK nM (kM kB)) rE39
def oE38:=el (cM oE39 nM) (eK nM (kM kB)) rE38
def oE37:=el (cM oE38 nM) (eK nM (kM kB)) rE37
def oE36:=el (cM oE37 nM) (eK nM (kM kB)) rE36
def oE35:=el (cM oE36 nM) (eK nM (kM kB)) rE35
def oE34:=el (cM oE35 nM) (eK nM (kM kB)) rE34
def oE33:=el (cM oE34 nM) (eK nM (kM kB)) rE33
def oE224:=el (cM oE33 nM) (eK nM (kM kB)) rE224
def oE32:=el (cM oE224 nM) (eK nM (kM kB)) rE32
def oE31:=el (cM oE32 nM) (eK nM (kM kB)) rE31
def oE30:=el (cM oE31 nM) (eK nM (kM kB)) rE30
def oE29:=el (cM oE30 nM) (eK nM (kM kB)) rE29
def oE28:=el (cM oE29 nM) (eK nM (kM kB)) rE28
def oE27:=el (cM oE28 nM) (eK nM (kM kB)) rE27
def oE230:=ec (eK nM (kM kB)) rE230
def oE26:=el (cM oE27 nM) (eK (cM oE230 nM) kB) rE26
def oE232:=ec (eK nM (kM kB)) rE232
def oE25:=el (cM oE26 nM) (eK (cM oE232 nM) (kM kB)) rE25
def oE24:=el (cM oE25 nM) (eK nM (kM kB)) rE24
def oE231:=ec (eK nM (kM kB)) rE231
def oE23:=el (cM oE24 nM) (eK (cM oE231 nM) kB) rE23
def oE22:=el (cM oE23 nM) (eK nM (kM kB)) rE22
def oE21:=el (cM oE22 nM) (eK nM (kM kB)) rE21
def oE234:=ec (eK nM (kM kB)) rE234
def oE20:=el (cM oE21 nM) (eK (cM oE234 nM) kB) rE20
def oE229:=ec (eK nM (kM kB)) rE229
def oE19:=el (cM oE20 nM) (eK (cM oE229 nM) (kM kB)) rE19
def oE18:=el (cM oE19 nM) (eK nM (kM kB)) rE18
def oE17:=el (cM oE18 nM) (eK nM (kM kB)) rE17
def oE16:=el (cM oE17 nM) (eK nM (kM kB)) rE16
def oE15:=el (cM oE16 nM) (eK nM (kM kB)) rE15
def oE228:=el (cM oE15 nM) (eK nM (kM kB)) rE228
def oE14:=el (cM oE228 nM) (eK nM (kM kB)) rE14
def oE13:=el (cM oE14 nM) (eK nM (kM kB)) rE13
def oE233:=el (cM oE13 nM) (eK nM (kM kB)) rE233
def oE12:=el (cM oE233 nM) (eK nM (kM kB)) rE12
def oE11:=el (cM oE12 nM) (eK nM (kM kB)) rE11
def oE10:=el (cM oE11 nM) (eK nM kB) rE10
def oE9:=el (cM oE10 nM) (eK nM kB) rE9
def oE8:=el (cM oE9 nM) (eK nM kB) rE8
def oE51:=el nM (eK nM kB) rE51
def oE50:=el (cM oE51 nM) (eK nM kB) rE50
def oE49:=el (cM oE50 nM) (eK nM kB) rE49
def oE48:=el (cM oE49 nM) (eK nM kB) rE48
def oE47:=el (cM oE48 nM) (eK nM kB) rE47
def oE46:=el (cM oE47 nM) (eK nM kB) rE46
def oE45:=el (cM oE46 nM) (eK nM kB) rE45
def oE44:=el (cM oE45 nM) (eK nM kB) rE44
def oE54:=ec (eK nM kB) rE54
def oE55:=ec (eK nM kB) rE55
def oE53:=ec (eK (cM oE54 (cM oE55 nM)) kB) rE53
def oE58:=ec (eK nM kB) rE58
def oE57:=ec (eK (cM oE58 nM) kB) rE57
def oE61:=ec (eK nM kB) rE61
def oE60:=ec (eK (cM oE61 nM) kB) rE60
def oE64:=ec (eK nM kB) rE64
def oE52:=el nM (eK (cM oE53 (cM oE57 (cM oE60 (cM oE64 nM)))) kB) rE52
def oE69:=el nM (eK nM kB) rE69
def oE68:=el (cM oE69 nM) (eK nM kB) rE68
def oE67:=el (cM oE68 nM) (eK nM kB) rE67
def oE66:=ec (eK nM (pL163_249 (cM oE67 nM) kB)) rE66
def oE42:=ec (eK (cM oE66 nM) (pL96_507 (cM oE52 nM) (pL161_5 (cM oE44 nM) kB))) rE42
def oE75:=ec (eK nM kB) rE75
def oE76:=ec (eK nM kB) rE76
def oE74:=ec (eK (cM oE75 (cM oE76 nM)) kB) rE74
def oE79:=ec (eK nM kB) rE79
def oE78:=ec (eK (cM oE79 nM) kB) rE78
def oE82:=ec (eK nM kB) rE82
def oE81:=ec (eK (cM oE82 nM) kB) rE81
def oE85:=ec (eK nM kB) rE85
def oE84:=ec (eK (cM oE85 nM) kB) rE84
def oE88:=ec (eK nM kB) rE88
def oE87:=ec (eK (cM oE88 nM) kB) rE87
def oE92:=ec (eK nM kB) rE92
def oE91:=ec (eK (cM oE92 nM) kB) rE91
def oE90:=ec (eK (cM oE91 nM) kB) rE90
def oE101:=el nM (eK nM kB) rE101
def oE100:=el (cM oE101 nM) (eK nM kB) rE100
def oE99:=el (cM oE100 nM) (eK nM kB) rE99
def oE98:=el (cM oE99 nM) (eK nM kB) rE98
def oE97:=el (cM oE98 nM) (eK nM kB) rE97
def oE96:=el (cM oE97 nM) (eK nM kB) rE96
def oE95:=el (cM oE96 nM) (eK nM kB) rE95
def oE94:=el (cM oE95 nM) (eK nM kB) rE94
def oE104:=el nM (eK nM kB) rE104
def oE103:=el (cM oE104 nM) (eK nM kB) rE103
def oE102:=ec (eK nM (pL163_249 (cM oE103 nM) kB)) rE102
def oE72:=ec (eK (cM oE74 (cM oE78 (cM oE81 (cM oE84 (cM oE87 (cM oE90 (cM oE102 nM))))))) (pL161_5 (cM oE94 nM) kB)) rE72
def oE149:=ec (eK nM (kM kB)) rE149
def oE148:=ec (eK (cM oE149 nM) kB) rE148
def oE165:=el nM (eK nM kB) rE165
def oE166:=ec (eK nM kB) rE166
def oE164:=ec (eK (cM oE166 nM) (pL96_507 (cM oE165 nM) kB)) rE164
def oE171:=el nM (eK nM kB) rE171
def oE172:=ec (eK nM kB) rE172
def oE170:=ec (eK (cM oE172 nM) (pL96_507 (cM oE171 nM) kB)) rE170
def oE175:=el nM (eK nM kB) rE175
def oE176:=ec (eK nM kB) rE176
def oE174:=ec (eK (cM oE176 nM) (pL96_507 (cM oE175 nM) kB)) rE174
def oE181:=el nM (eK nM kB) rE181
def oE182:=ec (eK nM kB) rE182
def oE180:=ec (eK (cM oE182 nM) (pL96_507 (cM oE181 nM) kB)) rE180
def oE185:=el nM (eK nM kB) rE185
def oE186:=ec (eK nM kB) rE186
def oE184:=ec (eK (cM oE186 nM) (pL96_507 (cM oE185 nM) kB)) rE184
def oE191:=el nM (eK nM kB) rE191
def oE192:=ec (eK nM kB) rE192
def oE190:=ec (eK (cM oE192 nM) (pL96_507 (cM oE191 nM) kB)) rE190
def oE195:=el nM (eK nM kB) rE195
def oE194:=ec (eK nM (pL96_507 (cM oE195 nM) kB)) rE194
def oE225:=el nM (eK nM kB) rE225
def oE150:=ec (eK (cM oE164 (cM oE170 (cM oE174 (cM oE180 (cM oE184 (cM oE190 (cM oE194 nM))))))) (pL96_507 (cM oE225 nM) kB)) rE150
def oE204:=el nM (eK nM (kM kB)) rE204
def oE203:=el (cM oE204 nM) (eK nM (kM kB)) rE203
def oE227:=el nM (eK nM kB) rE227
def oE198:=ec (eK nM (pL96_507 (cM oE227 nM) (pL332_25 (cM oE203 nM) kB))) rE198
def oE211:=el nM (eK nM kB) rE211
def oE210:=ec (eK nM (pL96_507 (cM oE211 nM) kB)) rE210
def oE205:=ec (eK (cM oE210 nM) kB) rE205
def oE214:=ec (eK nM (kM kB)) rE214
def oE213:=ec (eK (cM oE214 nM) kB) rE213
def oE217:=ec (eK nM (kM kB)) rE217
def oE196:=ec (eK (cM oE198 (cM oE205 (cM oE213 (cM oE217 nM)))) kB) rE196
def oE223:=ec (eK nM (kM kB)) rE223
def oE219:=ec (eK (cM oE223 nM) kB) rE219
def oE122:=el nM (eK nM kB) rE122
def oE121:=el (cM oE122 nM) (eK nM kB) rE121
def oE125:=ec (eK nM kB) rE125
def oE124:=ec (eK (cM oE125 nM) kB) rE124
def oE126:=ec (eK nM kB) rE126
def oE131:=el nM (eK nM kB) rE131
def oE130:=el (cM oE131 nM) (eK nM kB) rE130
def oE134:=ec (eK nM kB) rE134
def oE133:=ec (eK (cM oE134 nM) kB) rE133
def oE128:=ec (eK (cM oE133 nM) (pL161_5 (cM oE130 nM) kB)) rE128
def oE137:=el nM (eK nM kB) rE137
def oE138:=ec (eK nM kB) rE138
def oE136:=ec (eK (cM oE138 nM) (pL96_507 (cM oE137 nM) kB)) rE136
def oE147:=el nM (eK nM (kM kB)) rE147
def oE146:=el (cM oE147 nM) (eK nM (kM kB)) rE146
def oE145:=el (cM oE146 nM) (eK nM (kM kB)) rE145
def oE144:=el (cM oE145 nM) (eK nM (kM kB)) rE144
def oE141:=ec (eK nM (pL332_25 (cM oE144 nM) kB)) rE141
def oE139:=ec (eK (cM oE141 nM) kB) rE139
def oE226:=ec (eK (cM oE124 (cM oE126 (cM oE128 (cM oE136 (cM oE139 nM))))) (pL161_5 (cM oE121 nM) kB)) rE226
def oE1:=ec (eK (cM oE42 (cM oE72 (cM oE148 (cM oE150 (cM oE196 (cM oE219 (cM oE226 nM))))))) (pL332_25 (cM oE8 nM) kB)) rE1
theorem evOk : EvOk prog (eT [E1] pB) := (eK (cM oE1 nM) kB)
end TryzP
end Go.Proofs
