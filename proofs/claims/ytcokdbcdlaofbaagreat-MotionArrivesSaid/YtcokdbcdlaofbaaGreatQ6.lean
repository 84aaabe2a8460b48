/- Written by program: the tables of the seat's program for the abstract interpreter,and that they agree with it. -/
import Derived.Test.YtcokdbcdlaofbaaGreatQ5
import Derived.Eval
import Derived.Test.YtcokdbcdlaofbaaGreatChecked
import Derived.KernelRfl
import Derived.Test.YtcokdbcdlaofbaaGreatProg
import Derived.WalkKit
import Derived.Laws.Externs
set_option linter.unusedSimpArgs false
set_option linter.unusedVariables false
set_option linter.unusedSectionVars false
namespace Go.Ai.TabYtcokdbcdlaofbaaGreat
open Go Go.Ai Go.Proofs
set_option maxRecDepth 100000
noncomputable def tI (d t:TypeInfo) (k:Nat):TInfo:={ desc:=d.desc,size:=t.size,bytes:=t.bytes,zero:=t.zero.bind ofVal,stood:=Tryz.prog.stoodInHeld k,eqg:=Tryz.prog.eqGuardType Tryz.prog.depth k }
noncomputable def ti0:=tI Tryz.t0 Tryz.t0 0
noncomputable def ti1:=tI Tryz.t1 Tryz.t1 1
noncomputable def ti2:=tI Tryz.t2 Tryz.t2 2
noncomputable def ti3:=tI Tryz.t3 Tryz.t3 3
noncomputable def ti4:=tI Tryz.t4 Tryz.t4 4
noncomputable def ti5:=tI Tryz.t5 Tryz.t5 5
noncomputable def ti6:=tI Tryz.t5 Tryz.t6 6
noncomputable def ti7:=tI Tryz.t7 Tryz.t7 7
noncomputable def ti8:=tI Tryz.t7 Tryz.t8 8
noncomputable def ti9:=tI Tryz.t9 Tryz.t9 9
noncomputable def ti10:=tI Tryz.t9 Tryz.t10 10
noncomputable def ti11:=tI Tryz.t9 Tryz.t11 11
noncomputable def ti12:=tI Tryz.t12 Tryz.t12 12
noncomputable def ti13:=tI Tryz.t13 Tryz.t13 13
noncomputable def ti14:=tI Tryz.t13 Tryz.t14 14
noncomputable def ti15:=tI Tryz.t15 Tryz.t15 15
noncomputable def ti16:=tI Tryz.t16 Tryz.t16 16
noncomputable def ti17:=tI Tryz.t17 Tryz.t17 17
noncomputable def ti18:=tI Tryz.t18 Tryz.t18 18
noncomputable def ti19:=tI Tryz.t18 Tryz.t19 19
noncomputable def ti20:=tI Tryz.t20 Tryz.t20 20
noncomputable def ti21:=tI Tryz.t21 Tryz.t21 21
noncomputable def ti22:=tI Tryz.t22 Tryz.t22 22
noncomputable def ti23:=tI Tryz.t23 Tryz.t23 23
noncomputable def ti24:=tI Tryz.t23 Tryz.t24 24
noncomputable def ti25:=tI Tryz.t25 Tryz.t25 25
noncomputable def ti26:=tI Tryz.t25 Tryz.t26 26
noncomputable def ti27:=tI Tryz.t27 Tryz.t27 27
noncomputable def ti28:=tI Tryz.t28 Tryz.t28 28
noncomputable def ti29:=tI Tryz.t29 Tryz.t29 29
noncomputable def ti30:=tI Tryz.t30 Tryz.t30 30
noncomputable def ti31:=tI Tryz.t30 Tryz.t31 31
noncomputable def ti32:=tI Tryz.t3 Tryz.t32 32
noncomputable def ti33:=tI Tryz.t33 Tryz.t33 33
noncomputable def ti34:=tI Tryz.t34 Tryz.t34 34
noncomputable def ti35:=tI Tryz.t35 Tryz.t35 35
noncomputable def ti36:=tI Tryz.t36 Tryz.t36 36
noncomputable def ti37:=tI Tryz.t37 Tryz.t37 37
noncomputable def ti38:=tI Tryz.t38 Tryz.t38 38
noncomputable def ti39:=tI Tryz.t39 Tryz.t39 39
noncomputable def ti40:=tI Tryz.t40 Tryz.t40 40
noncomputable def ti41:=tI Tryz.t41 Tryz.t41 41
noncomputable def ti42:=tI Tryz.t42 Tryz.t42 42
noncomputable def ti43:=tI Tryz.t43 Tryz.t43 43
noncomputable def ti44:=tI Tryz.t44 Tryz.t44 44
noncomputable def ti45:=tI Tryz.t45 Tryz.t45 45
noncomputable def ti46:=tI Tryz.t46 Tryz.t46 46
noncomputable def ti47:=tI Tryz.t47 Tryz.t47 47
noncomputable def ti48:=tI Tryz.t47 Tryz.t48 48
noncomputable def ti49:=tI Tryz.t49 Tryz.t49 49
noncomputable def ti50:=tI Tryz.t50 Tryz.t50 50
noncomputable def ti51:=tI Tryz.t51 Tryz.t51 51
noncomputable def ti52:=tI Tryz.t52 Tryz.t52 52
noncomputable def ti53:=tI Tryz.t53 Tryz.t53 53
noncomputable def ti54:=tI Tryz.t54 Tryz.t54 54
noncomputable def ti55:=tI Tryz.t55 Tryz.t55 55
noncomputable def ti56:=tI Tryz.t56 Tryz.t56 56
noncomputable def ti57:=tI Tryz.t56 Tryz.t57 57
noncomputable def ti58:=tI Tryz.t58 Tryz.t58 58
noncomputable def ti59:=tI Tryz.t58 Tryz.t59 59
noncomputable def ti60:=tI Tryz.t60 Tryz.t60 60
noncomputable def ti61:=tI Tryz.t60 Tryz.t61 61
noncomputable def ti62:=tI Tryz.t62 Tryz.t62 62
noncomputable def ti63:=tI Tryz.t63 Tryz.t63 63
noncomputable def ti64:=tI Tryz.t64 Tryz.t64 64
noncomputable def ti65:=tI Tryz.t65 Tryz.t65 65
noncomputable def ti66:=tI Tryz.t66 Tryz.t66 66
noncomputable def ti67:=tI Tryz.t67 Tryz.t67 67
noncomputable def ti68:=tI Tryz.t68 Tryz.t68 68
noncomputable def ti69:=tI Tryz.t69 Tryz.t69 69
noncomputable def ti70:=tI Tryz.t70 Tryz.t70 70
noncomputable def ti71:=tI Tryz.t71 Tryz.t71 71
noncomputable def ti72:=tI Tryz.t72 Tryz.t72 72
noncomputable def ti73:=tI Tryz.t73 Tryz.t73 73
noncomputable def ti74:=tI Tryz.t74 Tryz.t74 74
noncomputable def ti75:=tI Tryz.t75 Tryz.t75 75
noncomputable def ti76:=tI Tryz.t76 Tryz.t76 76
noncomputable def ti77:=tI Tryz.t77 Tryz.t77 77
noncomputable def ti78:=tI Tryz.t78 Tryz.t78 78
noncomputable def ti79:=tI Tryz.t79 Tryz.t79 79
noncomputable def ti80:=tI Tryz.t80 Tryz.t80 80
noncomputable def ti81:=tI Tryz.t81 Tryz.t81 81
noncomputable def ti82:=tI Tryz.t82 Tryz.t82 82
noncomputable def ti83:=tI Tryz.t83 Tryz.t83 83
noncomputable def ti84:=tI Tryz.t84 Tryz.t84 84
noncomputable def ti85:=tI Tryz.t85 Tryz.t85 85
noncomputable def ti86:=tI Tryz.t86 Tryz.t86 86
noncomputable def ti87:=tI Tryz.t87 Tryz.t87 87
noncomputable def ti88:=tI Tryz.t88 Tryz.t88 88
noncomputable def ti89:=tI Tryz.t88 Tryz.t89 89
noncomputable def ti90:=tI Tryz.t90 Tryz.t90 90
noncomputable def ti91:=tI Tryz.t91 Tryz.t91 91
noncomputable def ti92:=tI Tryz.t92 Tryz.t92 92
noncomputable def ti93:=tI Tryz.t93 Tryz.t93 93
noncomputable def ti94:=tI Tryz.t94 Tryz.t94 94
noncomputable def ti95:=tI Tryz.t95 Tryz.t95 95
noncomputable def ti96:=tI Tryz.t96 Tryz.t96 96
noncomputable def ti97:=tI Tryz.t97 Tryz.t97 97
noncomputable def ti98:=tI Tryz.t98 Tryz.t98 98
noncomputable def ti99:=tI Tryz.t99 Tryz.t99 99
noncomputable def ti100:=tI Tryz.t100 Tryz.t100 100
noncomputable def ti101:=tI Tryz.t101 Tryz.t101 101
noncomputable def ti102:=tI Tryz.t102 Tryz.t102 102
noncomputable def ti103:=tI Tryz.t103 Tryz.t103 103
noncomputable def ti104:=tI Tryz.t104 Tryz.t104 104
noncomputable def ti105:=tI Tryz.t105 Tryz.t105 105
noncomputable def ti106:=tI Tryz.t106 Tryz.t106 106
noncomputable def ti107:=tI Tryz.t107 Tryz.t107 107
noncomputable def ti108:=tI Tryz.t108 Tryz.t108 108
noncomputable def ti109:=tI Tryz.t109 Tryz.t109 109
noncomputable def ti110:=tI Tryz.t110 Tryz.t110 110
noncomputable def ti111:=tI Tryz.t111 Tryz.t111 111
noncomputable def ti112:=tI Tryz.t112 Tryz.t112 112
noncomputable def ti113:=tI Tryz.t113 Tryz.t113 113
noncomputable def ti114:=tI Tryz.t113 Tryz.t114 114
noncomputable def ti115:=tI Tryz.t115 Tryz.t115 115
noncomputable def ti116:=tI Tryz.t116 Tryz.t116 116
noncomputable def ti117:=tI Tryz.t117 Tryz.t117 117
noncomputable def ti118:=tI Tryz.t3 Tryz.t118 118
noncomputable def ti119:=tI Tryz.t119 Tryz.t119 119
noncomputable def ti120:=tI Tryz.t119 Tryz.t120 120
noncomputable def ti121:=tI Tryz.t121 Tryz.t121 121
noncomputable def ti122:=tI Tryz.t122 Tryz.t122 122
noncomputable def ti123:=tI Tryz.t122 Tryz.t123 123
noncomputable def ti124:=tI Tryz.t124 Tryz.t124 124
noncomputable def ti125:=tI Tryz.t124 Tryz.t125 125
noncomputable def ti126:=tI Tryz.t126 Tryz.t126 126
noncomputable def ti127:=tI Tryz.t127 Tryz.t127 127
noncomputable def ti128:=tI Tryz.t128 Tryz.t128 128
noncomputable def ti129:=tI Tryz.t129 Tryz.t129 129
noncomputable def ti130:=tI Tryz.t130 Tryz.t130 130
noncomputable def ti131:=tI Tryz.t131 Tryz.t131 131
noncomputable def ti132:=tI Tryz.t131 Tryz.t132 132
noncomputable def ti133:=tI Tryz.t133 Tryz.t133 133
noncomputable def ti134:=tI Tryz.t133 Tryz.t134 134
noncomputable def ti135:=tI Tryz.t135 Tryz.t135 135
noncomputable def ti136:=tI Tryz.t136 Tryz.t136 136
noncomputable def ti137:=tI Tryz.t137 Tryz.t137 137
noncomputable def ti138:=tI Tryz.t138 Tryz.t138 138
noncomputable def ti139:=tI Tryz.t139 Tryz.t139 139
noncomputable def ti140:=tI Tryz.t140 Tryz.t140 140
noncomputable def ti141:=tI Tryz.t141 Tryz.t141 141
noncomputable def ti142:=tI Tryz.t142 Tryz.t142 142
noncomputable def ti143:=tI Tryz.t143 Tryz.t143 143
noncomputable def ti144:=tI Tryz.t143 Tryz.t144 144
noncomputable def ti145:=tI Tryz.t145 Tryz.t145 145
noncomputable def ti146:=tI Tryz.t146 Tryz.t146 146
noncomputable def ti147:=tI Tryz.t147 Tryz.t147 147
noncomputable def ti148:=tI Tryz.t148 Tryz.t148 148
noncomputable def ti149:=tI Tryz.t149 Tryz.t149 149
noncomputable def ti150:=tI Tryz.t150 Tryz.t150 150
noncomputable def ti151:=tI Tryz.t150 Tryz.t151 151
noncomputable def ti152:=tI Tryz.t152 Tryz.t152 152
noncomputable def ti153:=tI Tryz.t153 Tryz.t153 153
noncomputable def ti154:=tI Tryz.t154 Tryz.t154 154
noncomputable def ti155:=tI Tryz.t155 Tryz.t155 155
noncomputable def ti156:=tI Tryz.t156 Tryz.t156 156
noncomputable def ti157:=tI Tryz.t157 Tryz.t157 157
noncomputable def ti158:=tI Tryz.t158 Tryz.t158 158
noncomputable def ti159:=tI Tryz.t159 Tryz.t159 159
noncomputable def ti160:=tI Tryz.t160 Tryz.t160 160
noncomputable def ti161:=tI Tryz.t161 Tryz.t161 161
noncomputable def ti162:=tI Tryz.t162 Tryz.t162 162
noncomputable def ti163:=tI Tryz.t163 Tryz.t163 163
noncomputable def ti164:=tI Tryz.t164 Tryz.t164 164
noncomputable def ti165:=tI Tryz.t165 Tryz.t165 165
noncomputable def ti166:=tI Tryz.t166 Tryz.t166 166
noncomputable def ti167:=tI Tryz.t167 Tryz.t167 167
noncomputable def ti168:=tI Tryz.t168 Tryz.t168 168
noncomputable def ti169:=tI Tryz.t169 Tryz.t169 169
noncomputable def ti170:=tI Tryz.t170 Tryz.t170 170
noncomputable def ti171:=tI Tryz.t171 Tryz.t171 171
noncomputable def ti172:=tI Tryz.t172 Tryz.t172 172
noncomputable def ti173:=tI Tryz.t172 Tryz.t173 173
noncomputable def ti174:=tI Tryz.t174 Tryz.t174 174
noncomputable def ti175:=tI Tryz.t175 Tryz.t175 175
noncomputable def ti176:=tI Tryz.t176 Tryz.t176 176
noncomputable def ti177:=tI Tryz.t177 Tryz.t177 177
noncomputable def ti178:=tI Tryz.t178 Tryz.t178 178
noncomputable def ti179:=tI Tryz.t179 Tryz.t179 179
noncomputable def ti180:=tI Tryz.t180 Tryz.t180 180
noncomputable def ti181:=tI Tryz.t181 Tryz.t181 181
noncomputable def ti182:=tI Tryz.t182 Tryz.t182 182
noncomputable def ti183:=tI Tryz.t183 Tryz.t183 183
noncomputable def ti184:=tI Tryz.t184 Tryz.t184 184
noncomputable def ti185:=tI Tryz.t185 Tryz.t185 185
noncomputable def ti186:=tI Tryz.t186 Tryz.t186 186
noncomputable def ti187:=tI Tryz.t186 Tryz.t187 187
noncomputable def ti188:=tI Tryz.t188 Tryz.t188 188
noncomputable def ti189:=tI Tryz.t189 Tryz.t189 189
noncomputable def ti190:=tI Tryz.t190 Tryz.t190 190
noncomputable def ti191:=tI Tryz.t191 Tryz.t191 191
noncomputable def ti192:=tI Tryz.t192 Tryz.t192 192
noncomputable def ti193:=tI Tryz.t193 Tryz.t193 193
noncomputable def ti194:=tI Tryz.t194 Tryz.t194 194
noncomputable def ti195:=tI Tryz.t194 Tryz.t195 195
noncomputable def ti196:=tI Tryz.t196 Tryz.t196 196
noncomputable def ti197:=tI Tryz.t197 Tryz.t197 197
noncomputable def ti198:=tI Tryz.t198 Tryz.t198 198
noncomputable def ti199:=tI Tryz.t199 Tryz.t199 199
noncomputable def ti200:=tI Tryz.t200 Tryz.t200 200
noncomputable def ti201:=tI Tryz.t201 Tryz.t201 201
noncomputable def ti202:=tI Tryz.t3 Tryz.t202 202
noncomputable def ti203:=tI Tryz.t203 Tryz.t203 203
noncomputable def ti204:=tI Tryz.t204 Tryz.t204 204
noncomputable def ti205:=tI Tryz.t205 Tryz.t205 205
noncomputable def ti206:=tI Tryz.t206 Tryz.t206 206
noncomputable def ti207:=tI Tryz.t207 Tryz.t207 207
noncomputable def ti208:=tI Tryz.t208 Tryz.t208 208
noncomputable def ti209:=tI Tryz.t209 Tryz.t209 209
noncomputable def ti210:=tI Tryz.t210 Tryz.t210 210
noncomputable def ti211:=tI Tryz.t211 Tryz.t211 211
noncomputable def ti212:=tI Tryz.t211 Tryz.t212 212
noncomputable def ti213:=tI Tryz.t213 Tryz.t213 213
noncomputable def ti214:=tI Tryz.t214 Tryz.t214 214
noncomputable def ti215:=tI Tryz.t215 Tryz.t215 215
noncomputable def ti216:=tI Tryz.t216 Tryz.t216 216
noncomputable def ti217:=tI Tryz.t217 Tryz.t217 217
noncomputable def ti218:=tI Tryz.t218 Tryz.t218 218
noncomputable def ti219:=tI Tryz.t219 Tryz.t219 219
noncomputable def ti220:=tI Tryz.t220 Tryz.t220 220
noncomputable def ti221:=tI Tryz.t221 Tryz.t221 221
noncomputable def ti222:=tI Tryz.t221 Tryz.t222 222
noncomputable def ti223:=tI Tryz.t223 Tryz.t223 223
noncomputable def ti224:=tI Tryz.t224 Tryz.t224 224
noncomputable def ti225:=tI Tryz.t224 Tryz.t225 225
noncomputable def ti226:=tI Tryz.t5 Tryz.t226 226
noncomputable def ti227:=tI Tryz.t5 Tryz.t227 227
noncomputable def ti228:=tI Tryz.t228 Tryz.t228 228
noncomputable def ti229:=tI Tryz.t229 Tryz.t229 229
noncomputable def ti230:=tI Tryz.t21 Tryz.t230 230
noncomputable def ti231:=tI Tryz.t21 Tryz.t231 231
noncomputable def ti232:=tI Tryz.t232 Tryz.t232 232
noncomputable def ti233:=tI Tryz.t232 Tryz.t233 233
noncomputable def ti234:=tI Tryz.t234 Tryz.t234 234
noncomputable def ti235:=tI Tryz.t235 Tryz.t235 235
noncomputable def ti236:=tI Tryz.t236 Tryz.t236 236
noncomputable def ti237:=tI Tryz.t236 Tryz.t237 237
noncomputable def types:Tr TInfo:=(.node (some ti0) (.node (some ti1) (.node (some ti3) (.node (some ti7) (.node (some ti15) (.node (some ti31) (.node (some ti63) (.node (some ti127) .leaf .leaf) (.node (some ti191) .leaf .leaf)) (.node (some ti95) (.node (some ti159) .leaf .leaf) (.node (some ti223) .leaf .leaf))) (.node (some ti47) (.node (some ti79) (.node (some ti143) .leaf .leaf) (.node (some ti207) .leaf .leaf)) (.node (some ti111) (.node (some ti175) .leaf .leaf) .leaf))) (.node (some ti23) (.node (some ti39) (.node (some ti71) (.node (some ti135) .leaf .leaf) (.node (some ti199) .leaf .leaf)) (.node (some ti103) (.node (some ti167) .leaf .leaf) (.node (some ti231) .leaf .leaf))) (.node (some ti55) (.node (some ti87) (.node (some ti151) .leaf .leaf) (.node (some ti215) .leaf .leaf)) (.node (some ti119) (.node (some ti183) .leaf .leaf) .leaf)))) (.node (some ti11) (.node (some ti19) (.node (some ti35) (.node (some ti67) (.node (some ti131) .leaf .leaf) (.node (some ti195) .leaf .leaf)) (.node (some ti99) (.node (some ti163) .leaf .leaf) (.node (some ti227) .leaf .leaf))) (.node (some ti51) (.node (some ti83) (.node (some ti147) .leaf .leaf) (.node (some ti211) .leaf .leaf)) (.node (some ti115) (.node (some ti179) .leaf .leaf) .leaf))) (.node (some ti27) (.node (some ti43) (.node (some ti75) (.node (some ti139) .leaf .leaf) (.node (some ti203) .leaf .leaf)) (.node (some ti107) (.node (some ti171) .leaf .leaf) (.node (some ti235) .leaf .leaf))) (.node (some ti59) (.node (some ti91) (.node (some ti155) .leaf .leaf) (.node (some ti219) .leaf .leaf)) (.node (some ti123) (.node (some ti187) .leaf .leaf) .leaf))))) (.node (some ti5) (.node (some ti9) (.node (some ti17) (.node (some ti33) (.node (some ti65) (.node (some ti129) .leaf .leaf) (.node (some ti193) .leaf .leaf)) (.node (some ti97) (.node (some ti161) .leaf .leaf) (.node (some ti225) .leaf .leaf))) (.node (some ti49) (.node (some ti81) (.node (some ti145) .leaf .leaf) (.node (some ti209) .leaf .leaf)) (.node (some ti113) (.node (some ti177) .leaf .leaf) .leaf))) (.node (some ti25) (.node (some ti41) (.node (some ti73) (.node (some ti137) .leaf .leaf) (.node (some ti201) .leaf .leaf)) (.node (some ti105) (.node (some ti169) .leaf .leaf) (.node (some ti233) .leaf .leaf))) (.node (some ti57) (.node (some ti89) (.node (some ti153) .leaf .leaf) (.node (some ti217) .leaf .leaf)) (.node (some ti121) (.node (some ti185) .leaf .leaf) .leaf)))) (.node (some ti13) (.node (some ti21) (.node (some ti37) (.node (some ti69) (.node (some ti133) .leaf .leaf) (.node (some ti197) .leaf .leaf)) (.node (some ti101) (.node (some ti165) .leaf .leaf) (.node (some ti229) .leaf .leaf))) (.node (some ti53) (.node (some ti85) (.node (some ti149) .leaf .leaf) (.node (some ti213) .leaf .leaf)) (.node (some ti117) (.node (some ti181) .leaf .leaf) .leaf))) (.node (some ti29) (.node (some ti45) (.node (some ti77) (.node (some ti141) .leaf .leaf) (.node (some ti205) .leaf .leaf)) (.node (some ti109) (.node (some ti173) .leaf .leaf) (.node (some ti237) .leaf .leaf))) (.node (some ti61) (.node (some ti93) (.node (some ti157) .leaf .leaf) (.node (some ti221) .leaf .leaf)) (.node (some ti125) (.node (some ti189) .leaf .leaf) .leaf)))))) (.node (some ti2) (.node (some ti4) (.node (some ti8) (.node (some ti16) (.node (some ti32) (.node (some ti64) (.node (some ti128) .leaf .leaf) (.node (some ti192) .leaf .leaf)) (.node (some ti96) (.node (some ti160) .leaf .leaf) (.node (some ti224) .leaf .leaf))) (.node (some ti48) (.node (some ti80) (.node (some ti144) .leaf .leaf) (.node (some ti208) .leaf .leaf)) (.node (some ti112) (.node (some ti176) .leaf .leaf) .leaf))) (.node (some ti24) (.node (some ti40) (.node (some ti72) (.node (some ti136) .leaf .leaf) (.node (some ti200) .leaf .leaf)) (.node (some ti104) (.node (some ti168) .leaf .leaf) (.node (some ti232) .leaf .leaf))) (.node (some ti56) (.node (some ti88) (.node (some ti152) .leaf .leaf) (.node (some ti216) .leaf .leaf)) (.node (some ti120) (.node (some ti184) .leaf .leaf) .leaf)))) (.node (some ti12) (.node (some ti20) (.node (some ti36) (.node (some ti68) (.node (some ti132) .leaf .leaf) (.node (some ti196) .leaf .leaf)) (.node (some ti100) (.node (some ti164) .leaf .leaf) (.node (some ti228) .leaf .leaf))) (.node (some ti52) (.node (some ti84) (.node (some ti148) .leaf .leaf) (.node (some ti212) .leaf .leaf)) (.node (some ti116) (.node (some ti180) .leaf .leaf) .leaf))) (.node (some ti28) (.node (some ti44) (.node (some ti76) (.node (some ti140) .leaf .leaf) (.node (some ti204) .leaf .leaf)) (.node (some ti108) (.node (some ti172) .leaf .leaf) (.node (some ti236) .leaf .leaf))) (.node (some ti60) (.node (some ti92) (.node (some ti156) .leaf .leaf) (.node (some ti220) .leaf .leaf)) (.node (some ti124) (.node (some ti188) .leaf .leaf) .leaf))))) (.node (some ti6) (.node (some ti10) (.node (some ti18) (.node (some ti34) (.node (some ti66) (.node (some ti130) .leaf .leaf) (.node (some ti194) .leaf .leaf)) (.node (some ti98) (.node (some ti162) .leaf .leaf) (.node (some ti226) .leaf .leaf))) (.node (some ti50) (.node (some ti82) (.node (some ti146) .leaf .leaf) (.node (some ti210) .leaf .leaf)) (.node (some ti114) (.node (some ti178) .leaf .leaf) .leaf))) (.node (some ti26) (.node (some ti42) (.node (some ti74) (.node (some ti138) .leaf .leaf) (.node (some ti202) .leaf .leaf)) (.node (some ti106) (.node (some ti170) .leaf .leaf) (.node (some ti234) .leaf .leaf))) (.node (some ti58) (.node (some ti90) (.node (some ti154) .leaf .leaf) (.node (some ti218) .leaf .leaf)) (.node (some ti122) (.node (some ti186) .leaf .leaf) .leaf)))) (.node (some ti14) (.node (some ti22) (.node (some ti38) (.node (some ti70) (.node (some ti134) .leaf .leaf) (.node (some ti198) .leaf .leaf)) (.node (some ti102) (.node (some ti166) .leaf .leaf) (.node (some ti230) .leaf .leaf))) (.node (some ti54) (.node (some ti86) (.node (some ti150) .leaf .leaf) (.node (some ti214) .leaf .leaf)) (.node (some ti118) (.node (some ti182) .leaf .leaf) .leaf))) (.node (some ti30) (.node (some ti46) (.node (some ti78) (.node (some ti142) .leaf .leaf) (.node (some ti206) .leaf .leaf)) (.node (some ti110) (.node (some ti174) .leaf .leaf) .leaf)) (.node (some ti62) (.node (some ti94) (.node (some ti158) .leaf .leaf) (.node (some ti222) .leaf .leaf)) (.node (some ti126) (.node (some ti190) .leaf .leaf) .leaf)))))))
noncomputable def funcs:Tr Func:=(.node (some Tryz.f0) (.node (some Tryz.f1) (.node (some Tryz.f3) (.node (some Tryz.f7) (.node (some Tryz.f15) (.node (some Tryz.f31) (.node (some Tryz.f63) (.node (some Tryz.f127) .leaf .leaf) .leaf) (.node (some Tryz.f95) (.node (some Tryz.f159) .leaf .leaf) .leaf)) (.node (some Tryz.f47) (.node (some Tryz.f79) (.node (some Tryz.f143) .leaf .leaf) .leaf) (.node (some Tryz.f111) .leaf .leaf))) (.node (some Tryz.f23) (.node (some Tryz.f39) (.node (some Tryz.f71) (.node (some Tryz.f135) .leaf .leaf) .leaf) (.node (some Tryz.f103) (.node (some Tryz.f167) .leaf .leaf) .leaf)) (.node (some Tryz.f55) (.node (some Tryz.f87) (.node (some Tryz.f151) .leaf .leaf) .leaf) (.node (some Tryz.f119) .leaf .leaf)))) (.node (some Tryz.f11) (.node (some Tryz.f19) (.node (some Tryz.f35) (.node (some Tryz.f67) (.node (some Tryz.f131) .leaf .leaf) .leaf) (.node (some Tryz.f99) (.node (some Tryz.f163) .leaf .leaf) .leaf)) (.node (some Tryz.f51) (.node (some Tryz.f83) (.node (some Tryz.f147) .leaf .leaf) .leaf) (.node (some Tryz.f115) .leaf .leaf))) (.node (some Tryz.f27) (.node (some Tryz.f43) (.node (some Tryz.f75) (.node (some Tryz.f139) .leaf .leaf) .leaf) (.node (some Tryz.f107) (.node (some Tryz.f171) .leaf .leaf) .leaf)) (.node (some Tryz.f59) (.node (some Tryz.f91) (.node (some Tryz.f155) .leaf .leaf) .leaf) (.node (some Tryz.f123) .leaf .leaf))))) (.node (some Tryz.f5) (.node (some Tryz.f9) (.node (some Tryz.f17) (.node (some Tryz.f33) (.node (some Tryz.f65) (.node (some Tryz.f129) .leaf .leaf) .leaf) (.node (some Tryz.f97) (.node (some Tryz.f161) .leaf .leaf) .leaf)) (.node (some Tryz.f49) (.node (some Tryz.f81) (.node (some Tryz.f145) .leaf .leaf) .leaf) (.node (some Tryz.f113) .leaf .leaf))) (.node (some Tryz.f25) (.node (some Tryz.f41) (.node (some Tryz.f73) (.node (some Tryz.f137) .leaf .leaf) .leaf) (.node (some Tryz.f105) (.node (some Tryz.f169) .leaf .leaf) .leaf)) (.node (some Tryz.f57) (.node (some Tryz.f89) (.node (some Tryz.f153) .leaf .leaf) .leaf) (.node (some Tryz.f121) .leaf .leaf)))) (.node (some Tryz.f13) (.node (some Tryz.f21) (.node (some Tryz.f37) (.node (some Tryz.f69) (.node (some Tryz.f133) .leaf .leaf) .leaf) (.node (some Tryz.f101) (.node (some Tryz.f165) .leaf .leaf) .leaf)) (.node (some Tryz.f53) (.node (some Tryz.f85) (.node (some Tryz.f149) .leaf .leaf) .leaf) (.node (some Tryz.f117) .leaf .leaf))) (.node (some Tryz.f29) (.node (some Tryz.f45) (.node (some Tryz.f77) (.node (some Tryz.f141) .leaf .leaf) .leaf) (.node (some Tryz.f109) .leaf .leaf)) (.node (some Tryz.f61) (.node (some Tryz.f93) (.node (some Tryz.f157) .leaf .leaf) .leaf) (.node (some Tryz.f125) .leaf .leaf)))))) (.node (some Tryz.f2) (.node (some Tryz.f4) (.node (some Tryz.f8) (.node (some Tryz.f16) (.node (some Tryz.f32) (.node (some Tryz.f64) (.node (some Tryz.f128) .leaf .leaf) .leaf) (.node (some Tryz.f96) (.node (some Tryz.f160) .leaf .leaf) .leaf)) (.node (some Tryz.f48) (.node (some Tryz.f80) (.node (some Tryz.f144) .leaf .leaf) .leaf) (.node (some Tryz.f112) .leaf .leaf))) (.node (some Tryz.f24) (.node (some Tryz.f40) (.node (some Tryz.f72) (.node (some Tryz.f136) .leaf .leaf) .leaf) (.node (some Tryz.f104) (.node (some Tryz.f168) .leaf .leaf) .leaf)) (.node (some Tryz.f56) (.node (some Tryz.f88) (.node (some Tryz.f152) .leaf .leaf) .leaf) (.node (some Tryz.f120) .leaf .leaf)))) (.node (some Tryz.f12) (.node (some Tryz.f20) (.node (some Tryz.f36) (.node (some Tryz.f68) (.node (some Tryz.f132) .leaf .leaf) .leaf) (.node (some Tryz.f100) (.node (some Tryz.f164) .leaf .leaf) .leaf)) (.node (some Tryz.f52) (.node (some Tryz.f84) (.node (some Tryz.f148) .leaf .leaf) .leaf) (.node (some Tryz.f116) .leaf .leaf))) (.node (some Tryz.f28) (.node (some Tryz.f44) (.node (some Tryz.f76) (.node (some Tryz.f140) .leaf .leaf) .leaf) (.node (some Tryz.f108) (.node (some Tryz.f172) .leaf .leaf) .leaf)) (.node (some Tryz.f60) (.node (some Tryz.f92) (.node (some Tryz.f156) .leaf .leaf) .leaf) (.node (some Tryz.f124) .leaf .leaf))))) (.node (some Tryz.f6) (.node (some Tryz.f10) (.node (some Tryz.f18) (.node (some Tryz.f34) (.node (some Tryz.f66) (.node (some Tryz.f130) .leaf .leaf) .leaf) (.node (some Tryz.f98) (.node (some Tryz.f162) .leaf .leaf) .leaf)) (.node (some Tryz.f50) (.node (some Tryz.f82) (.node (some Tryz.f146) .leaf .leaf) .leaf) (.node (some Tryz.f114) .leaf .leaf))) (.node (some Tryz.f26) (.node (some Tryz.f42) (.node (some Tryz.f74) (.node (some Tryz.f138) .leaf .leaf) .leaf) (.node (some Tryz.f106) (.node (some Tryz.f170) .leaf .leaf) .leaf)) (.node (some Tryz.f58) (.node (some Tryz.f90) (.node (some Tryz.f154) .leaf .leaf) .leaf) (.node (some Tryz.f122) .leaf .leaf)))) (.node (some Tryz.f14) (.node (some Tryz.f22) (.node (some Tryz.f38) (.node (some Tryz.f70) (.node (some Tryz.f134) .leaf .leaf) .leaf) (.node (some Tryz.f102) (.node (some Tryz.f166) .leaf .leaf) .leaf)) (.node (some Tryz.f54) (.node (some Tryz.f86) (.node (some Tryz.f150) .leaf .leaf) .leaf) (.node (some Tryz.f118) .leaf .leaf))) (.node (some Tryz.f30) (.node (some Tryz.f46) (.node (some Tryz.f78) (.node (some Tryz.f142) .leaf .leaf) .leaf) (.node (some Tryz.f110) .leaf .leaf)) (.node (some Tryz.f62) (.node (some Tryz.f94) (.node (some Tryz.f158) .leaf .leaf) .leaf) (.node (some Tryz.f126) .leaf .leaf)))))))
noncomputable def tab:Tab:={ types,funcs }
theorem tok0:TypeOk Tryz.prog 0 ti0:=zd (j:=Tryz.t0) (ju:=Tryz.t0) (by kernel_rfl) (by kernel_rfl)
theorem tok1:TypeOk Tryz.prog 1 ti1:=zd (j:=Tryz.t1) (ju:=Tryz.t1) (by kernel_rfl) (by kernel_rfl)
theorem tok2:TypeOk Tryz.prog 2 ti2:=zd (j:=Tryz.t2) (ju:=Tryz.t2) (by kernel_rfl) (by kernel_rfl)
theorem tok3:TypeOk Tryz.prog 3 ti3:=zd (j:=Tryz.t3) (ju:=Tryz.t3) (by kernel_rfl) (by kernel_rfl)
theorem tok4:TypeOk Tryz.prog 4 ti4:=zd (j:=Tryz.t4) (ju:=Tryz.t4) (by kernel_rfl) (by kernel_rfl)
theorem tok5:TypeOk Tryz.prog 5 ti5:=zd (j:=Tryz.t5) (ju:=Tryz.t5) (by kernel_rfl) (by kernel_rfl)
theorem tok6:TypeOk Tryz.prog 6 ti6:=zd (j:=Tryz.t6) (ju:=Tryz.t5) (by kernel_rfl) (by kernel_rfl)
theorem tok7:TypeOk Tryz.prog 7 ti7:=zd (j:=Tryz.t7) (ju:=Tryz.t7) (by kernel_rfl) (by kernel_rfl)
theorem tok8:TypeOk Tryz.prog 8 ti8:=zd (j:=Tryz.t8) (ju:=Tryz.t7) (by kernel_rfl) (by kernel_rfl)
theorem tok9:TypeOk Tryz.prog 9 ti9:=zd (j:=Tryz.t9) (ju:=Tryz.t9) (by kernel_rfl) (by kernel_rfl)
theorem tok10:TypeOk Tryz.prog 10 ti10:=zd (j:=Tryz.t10) (ju:=Tryz.t9) (by kernel_rfl) (by kernel_rfl)
theorem tok11:TypeOk Tryz.prog 11 ti11:=zd (j:=Tryz.t11) (ju:=Tryz.t9) (by kernel_rfl) (by kernel_rfl)
theorem tok12:TypeOk Tryz.prog 12 ti12:=zd (j:=Tryz.t12) (ju:=Tryz.t12) (by kernel_rfl) (by kernel_rfl)
theorem tok13:TypeOk Tryz.prog 13 ti13:=zd (j:=Tryz.t13) (ju:=Tryz.t13) (by kernel_rfl) (by kernel_rfl)
theorem tok14:TypeOk Tryz.prog 14 ti14:=zd (j:=Tryz.t14) (ju:=Tryz.t13) (by kernel_rfl) (by kernel_rfl)
theorem tok15:TypeOk Tryz.prog 15 ti15:=zd (j:=Tryz.t15) (ju:=Tryz.t15) (by kernel_rfl) (by kernel_rfl)
theorem tok16:TypeOk Tryz.prog 16 ti16:=zd (j:=Tryz.t16) (ju:=Tryz.t16) (by kernel_rfl) (by kernel_rfl)
theorem tok17:TypeOk Tryz.prog 17 ti17:=zd (j:=Tryz.t17) (ju:=Tryz.t17) (by kernel_rfl) (by kernel_rfl)
theorem tok18:TypeOk Tryz.prog 18 ti18:=zd (j:=Tryz.t18) (ju:=Tryz.t18) (by kernel_rfl) (by kernel_rfl)
theorem tok19:TypeOk Tryz.prog 19 ti19:=zd (j:=Tryz.t19) (ju:=Tryz.t18) (by kernel_rfl) (by kernel_rfl)
theorem tok20:TypeOk Tryz.prog 20 ti20:=zd (j:=Tryz.t20) (ju:=Tryz.t20) (by kernel_rfl) (by kernel_rfl)
theorem tok21:TypeOk Tryz.prog 21 ti21:=zd (j:=Tryz.t21) (ju:=Tryz.t21) (by kernel_rfl) (by kernel_rfl)
theorem tok22:TypeOk Tryz.prog 22 ti22:=zd (j:=Tryz.t22) (ju:=Tryz.t22) (by kernel_rfl) (by kernel_rfl)
theorem tok23:TypeOk Tryz.prog 23 ti23:=zd (j:=Tryz.t23) (ju:=Tryz.t23) (by kernel_rfl) (by kernel_rfl)
theorem tok24:TypeOk Tryz.prog 24 ti24:=zd (j:=Tryz.t24) (ju:=Tryz.t23) (by kernel_rfl) (by kernel_rfl)
theorem tok25:TypeOk Tryz.prog 25 ti25:=zd (j:=Tryz.t25) (ju:=Tryz.t25) (by kernel_rfl) (by kernel_rfl)
theorem tok26:TypeOk Tryz.prog 26 ti26:=zd (j:=Tryz.t26) (ju:=Tryz.t25) (by kernel_rfl) (by kernel_rfl)
theorem tok27:TypeOk Tryz.prog 27 ti27:=zd (j:=Tryz.t27) (ju:=Tryz.t27) (by kernel_rfl) (by kernel_rfl)
theorem tok28:TypeOk Tryz.prog 28 ti28:=zd (j:=Tryz.t28) (ju:=Tryz.t28) (by kernel_rfl) (by kernel_rfl)
theorem tok29:TypeOk Tryz.prog 29 ti29:=zd (j:=Tryz.t29) (ju:=Tryz.t29) (by kernel_rfl) (by kernel_rfl)
theorem tok30:TypeOk Tryz.prog 30 ti30:=zd (j:=Tryz.t30) (ju:=Tryz.t30) (by kernel_rfl) (by kernel_rfl)
theorem tok31:TypeOk Tryz.prog 31 ti31:=zd (j:=Tryz.t31) (ju:=Tryz.t30) (by kernel_rfl) (by kernel_rfl)
theorem tok32:TypeOk Tryz.prog 32 ti32:=zd (j:=Tryz.t32) (ju:=Tryz.t3) (by kernel_rfl) (by kernel_rfl)
theorem tok33:TypeOk Tryz.prog 33 ti33:=zd (j:=Tryz.t33) (ju:=Tryz.t33) (by kernel_rfl) (by kernel_rfl)
theorem tok34:TypeOk Tryz.prog 34 ti34:=zd (j:=Tryz.t34) (ju:=Tryz.t34) (by kernel_rfl) (by kernel_rfl)
theorem tok35:TypeOk Tryz.prog 35 ti35:=zd (j:=Tryz.t35) (ju:=Tryz.t35) (by kernel_rfl) (by kernel_rfl)
theorem tok36:TypeOk Tryz.prog 36 ti36:=zd (j:=Tryz.t36) (ju:=Tryz.t36) (by kernel_rfl) (by kernel_rfl)
theorem tok37:TypeOk Tryz.prog 37 ti37:=zd (j:=Tryz.t37) (ju:=Tryz.t37) (by kernel_rfl) (by kernel_rfl)
theorem tok38:TypeOk Tryz.prog 38 ti38:=zd (j:=Tryz.t38) (ju:=Tryz.t38) (by kernel_rfl) (by kernel_rfl)
theorem tok39:TypeOk Tryz.prog 39 ti39:=zd (j:=Tryz.t39) (ju:=Tryz.t39) (by kernel_rfl) (by kernel_rfl)
theorem tok40:TypeOk Tryz.prog 40 ti40:=zd (j:=Tryz.t40) (ju:=Tryz.t40) (by kernel_rfl) (by kernel_rfl)
theorem tok41:TypeOk Tryz.prog 41 ti41:=zd (j:=Tryz.t41) (ju:=Tryz.t41) (by kernel_rfl) (by kernel_rfl)
theorem tok42:TypeOk Tryz.prog 42 ti42:=zd (j:=Tryz.t42) (ju:=Tryz.t42) (by kernel_rfl) (by kernel_rfl)
theorem tok43:TypeOk Tryz.prog 43 ti43:=zd (j:=Tryz.t43) (ju:=Tryz.t43) (by kernel_rfl) (by kernel_rfl)
theorem tok44:TypeOk Tryz.prog 44 ti44:=zd (j:=Tryz.t44) (ju:=Tryz.t44) (by kernel_rfl) (by kernel_rfl)
theorem tok45:TypeOk Tryz.prog 45 ti45:=zd (j:=Tryz.t45) (ju:=Tryz.t45) (by kernel_rfl) (by kernel_rfl)
theorem tok46:TypeOk Tryz.prog 46 ti46:=zd (j:=Tryz.t46) (ju:=Tryz.t46) (by kernel_rfl) (by kernel_rfl)
theorem tok47:TypeOk Tryz.prog 47 ti47:=zd (j:=Tryz.t47) (ju:=Tryz.t47) (by kernel_rfl) (by kernel_rfl)
theorem tok48:TypeOk Tryz.prog 48 ti48:=zd (j:=Tryz.t48) (ju:=Tryz.t47) (by kernel_rfl) (by kernel_rfl)
theorem tok49:TypeOk Tryz.prog 49 ti49:=zd (j:=Tryz.t49) (ju:=Tryz.t49) (by kernel_rfl) (by kernel_rfl)
theorem tok50:TypeOk Tryz.prog 50 ti50:=zd (j:=Tryz.t50) (ju:=Tryz.t50) (by kernel_rfl) (by kernel_rfl)
theorem tok51:TypeOk Tryz.prog 51 ti51:=zd (j:=Tryz.t51) (ju:=Tryz.t51) (by kernel_rfl) (by kernel_rfl)
theorem tok52:TypeOk Tryz.prog 52 ti52:=zd (j:=Tryz.t52) (ju:=Tryz.t52) (by kernel_rfl) (by kernel_rfl)
theorem tok53:TypeOk Tryz.prog 53 ti53:=zd (j:=Tryz.t53) (ju:=Tryz.t53) (by kernel_rfl) (by kernel_rfl)
theorem tok54:TypeOk Tryz.prog 54 ti54:=zd (j:=Tryz.t54) (ju:=Tryz.t54) (by kernel_rfl) (by kernel_rfl)
theorem tok55:TypeOk Tryz.prog 55 ti55:=zd (j:=Tryz.t55) (ju:=Tryz.t55) (by kernel_rfl) (by kernel_rfl)
theorem tok56:TypeOk Tryz.prog 56 ti56:=zd (j:=Tryz.t56) (ju:=Tryz.t56) (by kernel_rfl) (by kernel_rfl)
theorem tok57:TypeOk Tryz.prog 57 ti57:=zd (j:=Tryz.t57) (ju:=Tryz.t56) (by kernel_rfl) (by kernel_rfl)
theorem tok58:TypeOk Tryz.prog 58 ti58:=zd (j:=Tryz.t58) (ju:=Tryz.t58) (by kernel_rfl) (by kernel_rfl)
theorem tok59:TypeOk Tryz.prog 59 ti59:=zd (j:=Tryz.t59) (ju:=Tryz.t58) (by kernel_rfl) (by kernel_rfl)
theorem tok60:TypeOk Tryz.prog 60 ti60:=zd (j:=Tryz.t60) (ju:=Tryz.t60) (by kernel_rfl) (by kernel_rfl)
theorem tok61:TypeOk Tryz.prog 61 ti61:=zd (j:=Tryz.t61) (ju:=Tryz.t60) (by kernel_rfl) (by kernel_rfl)
theorem tok62:TypeOk Tryz.prog 62 ti62:=zd (j:=Tryz.t62) (ju:=Tryz.t62) (by kernel_rfl) (by kernel_rfl)
theorem tok63:TypeOk Tryz.prog 63 ti63:=zd (j:=Tryz.t63) (ju:=Tryz.t63) (by kernel_rfl) (by kernel_rfl)
theorem tok64:TypeOk Tryz.prog 64 ti64:=zd (j:=Tryz.t64) (ju:=Tryz.t64) (by kernel_rfl) (by kernel_rfl)
theorem tok65:TypeOk Tryz.prog 65 ti65:=zd (j:=Tryz.t65) (ju:=Tryz.t65) (by kernel_rfl) (by kernel_rfl)
theorem tok66:TypeOk Tryz.prog 66 ti66:=zd (j:=Tryz.t66) (ju:=Tryz.t66) (by kernel_rfl) (by kernel_rfl)
theorem tok67:TypeOk Tryz.prog 67 ti67:=zd (j:=Tryz.t67) (ju:=Tryz.t67) (by kernel_rfl) (by kernel_rfl)
theorem tok68:TypeOk Tryz.prog 68 ti68:=zd (j:=Tryz.t68) (ju:=Tryz.t68) (by kernel_rfl) (by kernel_rfl)
theorem tok69:TypeOk Tryz.prog 69 ti69:=zd (j:=Tryz.t69) (ju:=Tryz.t69) (by kernel_rfl) (by kernel_rfl)
theorem tok70:TypeOk Tryz.prog 70 ti70:=zd (j:=Tryz.t70) (ju:=Tryz.t70) (by kernel_rfl) (by kernel_rfl)
theorem tok71:TypeOk Tryz.prog 71 ti71:=zd (j:=Tryz.t71) (ju:=Tryz.t71) (by kernel_rfl) (by kernel_rfl)
theorem tok72:TypeOk Tryz.prog 72 ti72:=zd (j:=Tryz.t72) (ju:=Tryz.t72) (by kernel_rfl) (by kernel_rfl)
theorem tok73:TypeOk Tryz.prog 73 ti73:=zd (j:=Tryz.t73) (ju:=Tryz.t73) (by kernel_rfl) (by kernel_rfl)
theorem tok74:TypeOk Tryz.prog 74 ti74:=zd (j:=Tryz.t74) (ju:=Tryz.t74) (by kernel_rfl) (by kernel_rfl)
theorem tok75:TypeOk Tryz.prog 75 ti75:=zd (j:=Tryz.t75) (ju:=Tryz.t75) (by kernel_rfl) (by kernel_rfl)
theorem tok76:TypeOk Tryz.prog 76 ti76:=zd (j:=Tryz.t76) (ju:=Tryz.t76) (by kernel_rfl) (by kernel_rfl)
theorem tok77:TypeOk Tryz.prog 77 ti77:=zd (j:=Tryz.t77) (ju:=Tryz.t77) (by kernel_rfl) (by kernel_rfl)
theorem tok78:TypeOk Tryz.prog 78 ti78:=zd (j:=Tryz.t78) (ju:=Tryz.t78) (by kernel_rfl) (by kernel_rfl)
theorem tok79:TypeOk Tryz.prog 79 ti79:=zd (j:=Tryz.t79) (ju:=Tryz.t79) (by kernel_rfl) (by kernel_rfl)
theorem tok80:TypeOk Tryz.prog 80 ti80:=zd (j:=Tryz.t80) (ju:=Tryz.t80) (by kernel_rfl) (by kernel_rfl)
theorem tok81:TypeOk Tryz.prog 81 ti81:=zd (j:=Tryz.t81) (ju:=Tryz.t81) (by kernel_rfl) (by kernel_rfl)
theorem tok82:TypeOk Tryz.prog 82 ti82:=zd (j:=Tryz.t82) (ju:=Tryz.t82) (by kernel_rfl) (by kernel_rfl)
theorem tok83:TypeOk Tryz.prog 83 ti83:=zd (j:=Tryz.t83) (ju:=Tryz.t83) (by kernel_rfl) (by kernel_rfl)
theorem tok84:TypeOk Tryz.prog 84 ti84:=zd (j:=Tryz.t84) (ju:=Tryz.t84) (by kernel_rfl) (by kernel_rfl)
theorem tok85:TypeOk Tryz.prog 85 ti85:=zd (j:=Tryz.t85) (ju:=Tryz.t85) (by kernel_rfl) (by kernel_rfl)
theorem tok86:TypeOk Tryz.prog 86 ti86:=zd (j:=Tryz.t86) (ju:=Tryz.t86) (by kernel_rfl) (by kernel_rfl)
theorem tok87:TypeOk Tryz.prog 87 ti87:=zd (j:=Tryz.t87) (ju:=Tryz.t87) (by kernel_rfl) (by kernel_rfl)
theorem tok88:TypeOk Tryz.prog 88 ti88:=zd (j:=Tryz.t88) (ju:=Tryz.t88) (by kernel_rfl) (by kernel_rfl)
theorem tok89:TypeOk Tryz.prog 89 ti89:=zd (j:=Tryz.t89) (ju:=Tryz.t88) (by kernel_rfl) (by kernel_rfl)
theorem tok90:TypeOk Tryz.prog 90 ti90:=zd (j:=Tryz.t90) (ju:=Tryz.t90) (by kernel_rfl) (by kernel_rfl)
theorem tok91:TypeOk Tryz.prog 91 ti91:=zd (j:=Tryz.t91) (ju:=Tryz.t91) (by kernel_rfl) (by kernel_rfl)
theorem tok92:TypeOk Tryz.prog 92 ti92:=zd (j:=Tryz.t92) (ju:=Tryz.t92) (by kernel_rfl) (by kernel_rfl)
theorem tok93:TypeOk Tryz.prog 93 ti93:=zd (j:=Tryz.t93) (ju:=Tryz.t93) (by kernel_rfl) (by kernel_rfl)
theorem tok94:TypeOk Tryz.prog 94 ti94:=zd (j:=Tryz.t94) (ju:=Tryz.t94) (by kernel_rfl) (by kernel_rfl)
theorem tok95:TypeOk Tryz.prog 95 ti95:=zd (j:=Tryz.t95) (ju:=Tryz.t95) (by kernel_rfl) (by kernel_rfl)
theorem tok96:TypeOk Tryz.prog 96 ti96:=zd (j:=Tryz.t96) (ju:=Tryz.t96) (by kernel_rfl) (by kernel_rfl)
theorem tok97:TypeOk Tryz.prog 97 ti97:=zd (j:=Tryz.t97) (ju:=Tryz.t97) (by kernel_rfl) (by kernel_rfl)
theorem tok98:TypeOk Tryz.prog 98 ti98:=zd (j:=Tryz.t98) (ju:=Tryz.t98) (by kernel_rfl) (by kernel_rfl)
theorem tok99:TypeOk Tryz.prog 99 ti99:=zd (j:=Tryz.t99) (ju:=Tryz.t99) (by kernel_rfl) (by kernel_rfl)
theorem tok100:TypeOk Tryz.prog 100 ti100:=zd (j:=Tryz.t100) (ju:=Tryz.t100) (by kernel_rfl) (by kernel_rfl)
theorem tok101:TypeOk Tryz.prog 101 ti101:=zd (j:=Tryz.t101) (ju:=Tryz.t101) (by kernel_rfl) (by kernel_rfl)
theorem tok102:TypeOk Tryz.prog 102 ti102:=zd (j:=Tryz.t102) (ju:=Tryz.t102) (by kernel_rfl) (by kernel_rfl)
theorem tok103:TypeOk Tryz.prog 103 ti103:=zd (j:=Tryz.t103) (ju:=Tryz.t103) (by kernel_rfl) (by kernel_rfl)
theorem tok104:TypeOk Tryz.prog 104 ti104:=zd (j:=Tryz.t104) (ju:=Tryz.t104) (by kernel_rfl) (by kernel_rfl)
theorem tok105:TypeOk Tryz.prog 105 ti105:=zd (j:=Tryz.t105) (ju:=Tryz.t105) (by kernel_rfl) (by kernel_rfl)
theorem tok106:TypeOk Tryz.prog 106 ti106:=zd (j:=Tryz.t106) (ju:=Tryz.t106) (by kernel_rfl) (by kernel_rfl)
theorem tok107:TypeOk Tryz.prog 107 ti107:=zd (j:=Tryz.t107) (ju:=Tryz.t107) (by kernel_rfl) (by kernel_rfl)
theorem tok108:TypeOk Tryz.prog 108 ti108:=zd (j:=Tryz.t108) (ju:=Tryz.t108) (by kernel_rfl) (by kernel_rfl)
theorem tok109:TypeOk Tryz.prog 109 ti109:=zd (j:=Tryz.t109) (ju:=Tryz.t109) (by kernel_rfl) (by kernel_rfl)
theorem tok110:TypeOk Tryz.prog 110 ti110:=zd (j:=Tryz.t110) (ju:=Tryz.t110) (by kernel_rfl) (by kernel_rfl)
theorem tok111:TypeOk Tryz.prog 111 ti111:=zd (j:=Tryz.t111) (ju:=Tryz.t111) (by kernel_rfl) (by kernel_rfl)
theorem tok112:TypeOk Tryz.prog 112 ti112:=zd (j:=Tryz.t112) (ju:=Tryz.t112) (by kernel_rfl) (by kernel_rfl)
theorem tok113:TypeOk Tryz.prog 113 ti113:=zd (j:=Tryz.t113) (ju:=Tryz.t113) (by kernel_rfl) (by kernel_rfl)
theorem tok114:TypeOk Tryz.prog 114 ti114:=zd (j:=Tryz.t114) (ju:=Tryz.t113) (by kernel_rfl) (by kernel_rfl)
theorem tok115:TypeOk Tryz.prog 115 ti115:=zd (j:=Tryz.t115) (ju:=Tryz.t115) (by kernel_rfl) (by kernel_rfl)
theorem tok116:TypeOk Tryz.prog 116 ti116:=zd (j:=Tryz.t116) (ju:=Tryz.t116) (by kernel_rfl) (by kernel_rfl)
theorem tok117:TypeOk Tryz.prog 117 ti117:=zd (j:=Tryz.t117) (ju:=Tryz.t117) (by kernel_rfl) (by kernel_rfl)
theorem tok118:TypeOk Tryz.prog 118 ti118:=zd (j:=Tryz.t118) (ju:=Tryz.t3) (by kernel_rfl) (by kernel_rfl)
theorem tok119:TypeOk Tryz.prog 119 ti119:=zd (j:=Tryz.t119) (ju:=Tryz.t119) (by kernel_rfl) (by kernel_rfl)
theorem tok120:TypeOk Tryz.prog 120 ti120:=zd (j:=Tryz.t120) (ju:=Tryz.t119) (by kernel_rfl) (by kernel_rfl)
theorem tok121:TypeOk Tryz.prog 121 ti121:=zd (j:=Tryz.t121) (ju:=Tryz.t121) (by kernel_rfl) (by kernel_rfl)
theorem tok122:TypeOk Tryz.prog 122 ti122:=zd (j:=Tryz.t122) (ju:=Tryz.t122) (by kernel_rfl) (by kernel_rfl)
theorem tok123:TypeOk Tryz.prog 123 ti123:=zd (j:=Tryz.t123) (ju:=Tryz.t122) (by kernel_rfl) (by kernel_rfl)
theorem tok124:TypeOk Tryz.prog 124 ti124:=zd (j:=Tryz.t124) (ju:=Tryz.t124) (by kernel_rfl) (by kernel_rfl)
theorem tok125:TypeOk Tryz.prog 125 ti125:=zd (j:=Tryz.t125) (ju:=Tryz.t124) (by kernel_rfl) (by kernel_rfl)
theorem tok126:TypeOk Tryz.prog 126 ti126:=zd (j:=Tryz.t126) (ju:=Tryz.t126) (by kernel_rfl) (by kernel_rfl)
theorem tok127:TypeOk Tryz.prog 127 ti127:=zd (j:=Tryz.t127) (ju:=Tryz.t127) (by kernel_rfl) (by kernel_rfl)
theorem tok128:TypeOk Tryz.prog 128 ti128:=zd (j:=Tryz.t128) (ju:=Tryz.t128) (by kernel_rfl) (by kernel_rfl)
theorem tok129:TypeOk Tryz.prog 129 ti129:=zd (j:=Tryz.t129) (ju:=Tryz.t129) (by kernel_rfl) (by kernel_rfl)
theorem tok130:TypeOk Tryz.prog 130 ti130:=zd (j:=Tryz.t130) (ju:=Tryz.t130) (by kernel_rfl) (by kernel_rfl)
theorem tok131:TypeOk Tryz.prog 131 ti131:=zd (j:=Tryz.t131) (ju:=Tryz.t131) (by kernel_rfl) (by kernel_rfl)
theorem tok132:TypeOk Tryz.prog 132 ti132:=zd (j:=Tryz.t132) (ju:=Tryz.t131) (by kernel_rfl) (by kernel_rfl)
theorem tok133:TypeOk Tryz.prog 133 ti133:=zd (j:=Tryz.t133) (ju:=Tryz.t133) (by kernel_rfl) (by kernel_rfl)
theorem tok134:TypeOk Tryz.prog 134 ti134:=zd (j:=Tryz.t134) (ju:=Tryz.t133) (by kernel_rfl) (by kernel_rfl)
theorem tok135:TypeOk Tryz.prog 135 ti135:=zd (j:=Tryz.t135) (ju:=Tryz.t135) (by kernel_rfl) (by kernel_rfl)
theorem tok136:TypeOk Tryz.prog 136 ti136:=zd (j:=Tryz.t136) (ju:=Tryz.t136) (by kernel_rfl) (by kernel_rfl)
theorem tok137:TypeOk Tryz.prog 137 ti137:=zd (j:=Tryz.t137) (ju:=Tryz.t137) (by kernel_rfl) (by kernel_rfl)
theorem tok138:TypeOk Tryz.prog 138 ti138:=zd (j:=Tryz.t138) (ju:=Tryz.t138) (by kernel_rfl) (by kernel_rfl)
theorem tok139:TypeOk Tryz.prog 139 ti139:=zd (j:=Tryz.t139) (ju:=Tryz.t139) (by kernel_rfl) (by kernel_rfl)
theorem tok140:TypeOk Tryz.prog 140 ti140:=zd (j:=Tryz.t140) (ju:=Tryz.t140) (by kernel_rfl) (by kernel_rfl)
theorem tok141:TypeOk Tryz.prog 141 ti141:=zd (j:=Tryz.t141) (ju:=Tryz.t141) (by kernel_rfl) (by kernel_rfl)
theorem tok142:TypeOk Tryz.prog 142 ti142:=zd (j:=Tryz.t142) (ju:=Tryz.t142) (by kernel_rfl) (by kernel_rfl)
theorem tok143:TypeOk Tryz.prog 143 ti143:=zd (j:=Tryz.t143) (ju:=Tryz.t143) (by kernel_rfl) (by kernel_rfl)
theorem tok144:TypeOk Tryz.prog 144 ti144:=zd (j:=Tryz.t144) (ju:=Tryz.t143) (by kernel_rfl) (by kernel_rfl)
theorem tok145:TypeOk Tryz.prog 145 ti145:=zd (j:=Tryz.t145) (ju:=Tryz.t145) (by kernel_rfl) (by kernel_rfl)
theorem tok146:TypeOk Tryz.prog 146 ti146:=zd (j:=Tryz.t146) (ju:=Tryz.t146) (by kernel_rfl) (by kernel_rfl)
theorem tok147:TypeOk Tryz.prog 147 ti147:=zd (j:=Tryz.t147) (ju:=Tryz.t147) (by kernel_rfl) (by kernel_rfl)
theorem tok148:TypeOk Tryz.prog 148 ti148:=zd (j:=Tryz.t148) (ju:=Tryz.t148) (by kernel_rfl) (by kernel_rfl)
theorem tok149:TypeOk Tryz.prog 149 ti149:=zd (j:=Tryz.t149) (ju:=Tryz.t149) (by kernel_rfl) (by kernel_rfl)
theorem tok150:TypeOk Tryz.prog 150 ti150:=zd (j:=Tryz.t150) (ju:=Tryz.t150) (by kernel_rfl) (by kernel_rfl)
theorem tok151:TypeOk Tryz.prog 151 ti151:=zd (j:=Tryz.t151) (ju:=Tryz.t150) (by kernel_rfl) (by kernel_rfl)
theorem tok152:TypeOk Tryz.prog 152 ti152:=zd (j:=Tryz.t152) (ju:=Tryz.t152) (by kernel_rfl) (by kernel_rfl)
theorem tok153:TypeOk Tryz.prog 153 ti153:=zd (j:=Tryz.t153) (ju:=Tryz.t153) (by kernel_rfl) (by kernel_rfl)
theorem tok154:TypeOk Tryz.prog 154 ti154:=zd (j:=Tryz.t154) (ju:=Tryz.t154) (by kernel_rfl) (by kernel_rfl)
theorem tok155:TypeOk Tryz.prog 155 ti155:=zd (j:=Tryz.t155) (ju:=Tryz.t155) (by kernel_rfl) (by kernel_rfl)
theorem tok156:TypeOk Tryz.prog 156 ti156:=zd (j:=Tryz.t156) (ju:=Tryz.t156) (by kernel_rfl) (by kernel_rfl)
theorem tok157:TypeOk Tryz.prog 157 ti157:=zd (j:=Tryz.t157) (ju:=Tryz.t157) (by kernel_rfl) (by kernel_rfl)
theorem tok158:TypeOk Tryz.prog 158 ti158:=zd (j:=Tryz.t158) (ju:=Tryz.t158) (by kernel_rfl) (by kernel_rfl)
theorem tok159:TypeOk Tryz.prog 159 ti159:=zd (j:=Tryz.t159) (ju:=Tryz.t159) (by kernel_rfl) (by kernel_rfl)
theorem tok160:TypeOk Tryz.prog 160 ti160:=zd (j:=Tryz.t160) (ju:=Tryz.t160) (by kernel_rfl) (by kernel_rfl)
theorem tok161:TypeOk Tryz.prog 161 ti161:=zd (j:=Tryz.t161) (ju:=Tryz.t161) (by kernel_rfl) (by kernel_rfl)
theorem tok162:TypeOk Tryz.prog 162 ti162:=zd (j:=Tryz.t162) (ju:=Tryz.t162) (by kernel_rfl) (by kernel_rfl)
theorem tok163:TypeOk Tryz.prog 163 ti163:=zd (j:=Tryz.t163) (ju:=Tryz.t163) (by kernel_rfl) (by kernel_rfl)
theorem tok164:TypeOk Tryz.prog 164 ti164:=zd (j:=Tryz.t164) (ju:=Tryz.t164) (by kernel_rfl) (by kernel_rfl)
theorem tok165:TypeOk Tryz.prog 165 ti165:=zd (j:=Tryz.t165) (ju:=Tryz.t165) (by kernel_rfl) (by kernel_rfl)
theorem tok166:TypeOk Tryz.prog 166 ti166:=zd (j:=Tryz.t166) (ju:=Tryz.t166) (by kernel_rfl) (by kernel_rfl)
theorem tok167:TypeOk Tryz.prog 167 ti167:=zd (j:=Tryz.t167) (ju:=Tryz.t167) (by kernel_rfl) (by kernel_rfl)
theorem tok168:TypeOk Tryz.prog 168 ti168:=zd (j:=Tryz.t168) (ju:=Tryz.t168) (by kernel_rfl) (by kernel_rfl)
theorem tok169:TypeOk Tryz.prog 169 ti169:=zd (j:=Tryz.t169) (ju:=Tryz.t169) (by kernel_rfl) (by kernel_rfl)
theorem tok170:TypeOk Tryz.prog 170 ti170:=zd (j:=Tryz.t170) (ju:=Tryz.t170) (by kernel_rfl) (by kernel_rfl)
theorem tok171:TypeOk Tryz.prog 171 ti171:=zd (j:=Tryz.t171) (ju:=Tryz.t171) (by kernel_rfl) (by kernel_rfl)
theorem tok172:TypeOk Tryz.prog 172 ti172:=zd (j:=Tryz.t172) (ju:=Tryz.t172) (by kernel_rfl) (by kernel_rfl)
theorem tok173:TypeOk Tryz.prog 173 ti173:=zd (j:=Tryz.t173) (ju:=Tryz.t172) (by kernel_rfl) (by kernel_rfl)
theorem tok174:TypeOk Tryz.prog 174 ti174:=zd (j:=Tryz.t174) (ju:=Tryz.t174) (by kernel_rfl) (by kernel_rfl)
theorem tok175:TypeOk Tryz.prog 175 ti175:=zd (j:=Tryz.t175) (ju:=Tryz.t175) (by kernel_rfl) (by kernel_rfl)
theorem tok176:TypeOk Tryz.prog 176 ti176:=zd (j:=Tryz.t176) (ju:=Tryz.t176) (by kernel_rfl) (by kernel_rfl)
theorem tok177:TypeOk Tryz.prog 177 ti177:=zd (j:=Tryz.t177) (ju:=Tryz.t177) (by kernel_rfl) (by kernel_rfl)
theorem tok178:TypeOk Tryz.prog 178 ti178:=zd (j:=Tryz.t178) (ju:=Tryz.t178) (by kernel_rfl) (by kernel_rfl)
theorem tok179:TypeOk Tryz.prog 179 ti179:=zd (j:=Tryz.t179) (ju:=Tryz.t179) (by kernel_rfl) (by kernel_rfl)
theorem tok180:TypeOk Tryz.prog 180 ti180:=zd (j:=Tryz.t180) (ju:=Tryz.t180) (by kernel_rfl) (by kernel_rfl)
theorem tok181:TypeOk Tryz.prog 181 ti181:=zd (j:=Tryz.t181) (ju:=Tryz.t181) (by kernel_rfl) (by kernel_rfl)
theorem tok182:TypeOk Tryz.prog 182 ti182:=zd (j:=Tryz.t182) (ju:=Tryz.t182) (by kernel_rfl) (by kernel_rfl)
theorem tok183:TypeOk Tryz.prog 183 ti183:=zd (j:=Tryz.t183) (ju:=Tryz.t183) (by kernel_rfl) (by kernel_rfl)
theorem tok184:TypeOk Tryz.prog 184 ti184:=zd (j:=Tryz.t184) (ju:=Tryz.t184) (by kernel_rfl) (by kernel_rfl)
theorem tok185:TypeOk Tryz.prog 185 ti185:=zd (j:=Tryz.t185) (ju:=Tryz.t185) (by kernel_rfl) (by kernel_rfl)
theorem tok186:TypeOk Tryz.prog 186 ti186:=zd (j:=Tryz.t186) (ju:=Tryz.t186) (by kernel_rfl) (by kernel_rfl)
theorem tok187:TypeOk Tryz.prog 187 ti187:=zd (j:=Tryz.t187) (ju:=Tryz.t186) (by kernel_rfl) (by kernel_rfl)
theorem tok188:TypeOk Tryz.prog 188 ti188:=zd (j:=Tryz.t188) (ju:=Tryz.t188) (by kernel_rfl) (by kernel_rfl)
theorem tok189:TypeOk Tryz.prog 189 ti189:=zd (j:=Tryz.t189) (ju:=Tryz.t189) (by kernel_rfl) (by kernel_rfl)
theorem tok190:TypeOk Tryz.prog 190 ti190:=zd (j:=Tryz.t190) (ju:=Tryz.t190) (by kernel_rfl) (by kernel_rfl)
theorem tok191:TypeOk Tryz.prog 191 ti191:=zd (j:=Tryz.t191) (ju:=Tryz.t191) (by kernel_rfl) (by kernel_rfl)
theorem tok192:TypeOk Tryz.prog 192 ti192:=zd (j:=Tryz.t192) (ju:=Tryz.t192) (by kernel_rfl) (by kernel_rfl)
theorem tok193:TypeOk Tryz.prog 193 ti193:=zd (j:=Tryz.t193) (ju:=Tryz.t193) (by kernel_rfl) (by kernel_rfl)
theorem tok194:TypeOk Tryz.prog 194 ti194:=zd (j:=Tryz.t194) (ju:=Tryz.t194) (by kernel_rfl) (by kernel_rfl)
theorem tok195:TypeOk Tryz.prog 195 ti195:=zd (j:=Tryz.t195) (ju:=Tryz.t194) (by kernel_rfl) (by kernel_rfl)
theorem tok196:TypeOk Tryz.prog 196 ti196:=zd (j:=Tryz.t196) (ju:=Tryz.t196) (by kernel_rfl) (by kernel_rfl)
theorem tok197:TypeOk Tryz.prog 197 ti197:=zd (j:=Tryz.t197) (ju:=Tryz.t197) (by kernel_rfl) (by kernel_rfl)
theorem tok198:TypeOk Tryz.prog 198 ti198:=zd (j:=Tryz.t198) (ju:=Tryz.t198) (by kernel_rfl) (by kernel_rfl)
theorem tok199:TypeOk Tryz.prog 199 ti199:=zd (j:=Tryz.t199) (ju:=Tryz.t199) (by kernel_rfl) (by kernel_rfl)
theorem tok200:TypeOk Tryz.prog 200 ti200:=zd (j:=Tryz.t200) (ju:=Tryz.t200) (by kernel_rfl) (by kernel_rfl)
theorem tok201:TypeOk Tryz.prog 201 ti201:=zd (j:=Tryz.t201) (ju:=Tryz.t201) (by kernel_rfl) (by kernel_rfl)
theorem tok202:TypeOk Tryz.prog 202 ti202:=zd (j:=Tryz.t202) (ju:=Tryz.t3) (by kernel_rfl) (by kernel_rfl)
theorem tok203:TypeOk Tryz.prog 203 ti203:=zd (j:=Tryz.t203) (ju:=Tryz.t203) (by kernel_rfl) (by kernel_rfl)
theorem tok204:TypeOk Tryz.prog 204 ti204:=zd (j:=Tryz.t204) (ju:=Tryz.t204) (by kernel_rfl) (by kernel_rfl)
theorem tok205:TypeOk Tryz.prog 205 ti205:=zd (j:=Tryz.t205) (ju:=Tryz.t205) (by kernel_rfl) (by kernel_rfl)
theorem tok206:TypeOk Tryz.prog 206 ti206:=zd (j:=Tryz.t206) (ju:=Tryz.t206) (by kernel_rfl) (by kernel_rfl)
theorem tok207:TypeOk Tryz.prog 207 ti207:=zd (j:=Tryz.t207) (ju:=Tryz.t207) (by kernel_rfl) (by kernel_rfl)
theorem tok208:TypeOk Tryz.prog 208 ti208:=zd (j:=Tryz.t208) (ju:=Tryz.t208) (by kernel_rfl) (by kernel_rfl)
theorem tok209:TypeOk Tryz.prog 209 ti209:=zd (j:=Tryz.t209) (ju:=Tryz.t209) (by kernel_rfl) (by kernel_rfl)
theorem tok210:TypeOk Tryz.prog 210 ti210:=zd (j:=Tryz.t210) (ju:=Tryz.t210) (by kernel_rfl) (by kernel_rfl)
theorem tok211:TypeOk Tryz.prog 211 ti211:=zd (j:=Tryz.t211) (ju:=Tryz.t211) (by kernel_rfl) (by kernel_rfl)
theorem tok212:TypeOk Tryz.prog 212 ti212:=zd (j:=Tryz.t212) (ju:=Tryz.t211) (by kernel_rfl) (by kernel_rfl)
theorem tok213:TypeOk Tryz.prog 213 ti213:=zd (j:=Tryz.t213) (ju:=Tryz.t213) (by kernel_rfl) (by kernel_rfl)
theorem tok214:TypeOk Tryz.prog 214 ti214:=zd (j:=Tryz.t214) (ju:=Tryz.t214) (by kernel_rfl) (by kernel_rfl)
theorem tok215:TypeOk Tryz.prog 215 ti215:=zd (j:=Tryz.t215) (ju:=Tryz.t215) (by kernel_rfl) (by kernel_rfl)
theorem tok216:TypeOk Tryz.prog 216 ti216:=zd (j:=Tryz.t216) (ju:=Tryz.t216) (by kernel_rfl) (by kernel_rfl)
theorem tok217:TypeOk Tryz.prog 217 ti217:=zd (j:=Tryz.t217) (ju:=Tryz.t217) (by kernel_rfl) (by kernel_rfl)
theorem tok218:TypeOk Tryz.prog 218 ti218:=zd (j:=Tryz.t218) (ju:=Tryz.t218) (by kernel_rfl) (by kernel_rfl)
theorem tok219:TypeOk Tryz.prog 219 ti219:=zd (j:=Tryz.t219) (ju:=Tryz.t219) (by kernel_rfl) (by kernel_rfl)
theorem tok220:TypeOk Tryz.prog 220 ti220:=zd (j:=Tryz.t220) (ju:=Tryz.t220) (by kernel_rfl) (by kernel_rfl)
theorem tok221:TypeOk Tryz.prog 221 ti221:=zd (j:=Tryz.t221) (ju:=Tryz.t221) (by kernel_rfl) (by kernel_rfl)
theorem tok222:TypeOk Tryz.prog 222 ti222:=zd (j:=Tryz.t222) (ju:=Tryz.t221) (by kernel_rfl) (by kernel_rfl)
theorem tok223:TypeOk Tryz.prog 223 ti223:=zd (j:=Tryz.t223) (ju:=Tryz.t223) (by kernel_rfl) (by kernel_rfl)
theorem tok224:TypeOk Tryz.prog 224 ti224:=zd (j:=Tryz.t224) (ju:=Tryz.t224) (by kernel_rfl) (by kernel_rfl)
theorem tok225:TypeOk Tryz.prog 225 ti225:=zd (j:=Tryz.t225) (ju:=Tryz.t224) (by kernel_rfl) (by kernel_rfl)
theorem tok226:TypeOk Tryz.prog 226 ti226:=zd (j:=Tryz.t226) (ju:=Tryz.t5) (by kernel_rfl) (by kernel_rfl)
theorem tok227:TypeOk Tryz.prog 227 ti227:=zd (j:=Tryz.t227) (ju:=Tryz.t5) (by kernel_rfl) (by kernel_rfl)
theorem tok228:TypeOk Tryz.prog 228 ti228:=zd (j:=Tryz.t228) (ju:=Tryz.t228) (by kernel_rfl) (by kernel_rfl)
theorem tok229:TypeOk Tryz.prog 229 ti229:=zd (j:=Tryz.t229) (ju:=Tryz.t229) (by kernel_rfl) (by kernel_rfl)
theorem tok230:TypeOk Tryz.prog 230 ti230:=zd (j:=Tryz.t230) (ju:=Tryz.t21) (by kernel_rfl) (by kernel_rfl)
theorem tok231:TypeOk Tryz.prog 231 ti231:=zd (j:=Tryz.t231) (ju:=Tryz.t21) (by kernel_rfl) (by kernel_rfl)
theorem tok232:TypeOk Tryz.prog 232 ti232:=zd (j:=Tryz.t232) (ju:=Tryz.t232) (by kernel_rfl) (by kernel_rfl)
theorem tok233:TypeOk Tryz.prog 233 ti233:=zd (j:=Tryz.t233) (ju:=Tryz.t232) (by kernel_rfl) (by kernel_rfl)
theorem tok234:TypeOk Tryz.prog 234 ti234:=zd (j:=Tryz.t234) (ju:=Tryz.t234) (by kernel_rfl) (by kernel_rfl)
theorem tok235:TypeOk Tryz.prog 235 ti235:=zd (j:=Tryz.t235) (ju:=Tryz.t235) (by kernel_rfl) (by kernel_rfl)
theorem tok236:TypeOk Tryz.prog 236 ti236:=zd (j:=Tryz.t236) (ju:=Tryz.t236) (by kernel_rfl) (by kernel_rfl)
theorem tok237:TypeOk Tryz.prog 237 ti237:=zd (j:=Tryz.t237) (ju:=Tryz.t236) (by kernel_rfl) (by kernel_rfl)
theorem fok0:FuncOk Tryz.prog 0 Tryz.f0:=zf Tryz.func0 (by kernel_rfl) (by kernel_rfl)
theorem fok1:FuncOk Tryz.prog 1 Tryz.f1:=zf Tryz.func1 (by kernel_rfl) (by kernel_rfl)
theorem fok2:FuncOk Tryz.prog 2 Tryz.f2:=zf Tryz.func2 (by kernel_rfl) (by kernel_rfl)
theorem fok3:FuncOk Tryz.prog 3 Tryz.f3:=zf Tryz.func3 (by kernel_rfl) (by kernel_rfl)
theorem fok4:FuncOk Tryz.prog 4 Tryz.f4:=zf Tryz.func4 (by kernel_rfl) (by kernel_rfl)
theorem fok5:FuncOk Tryz.prog 5 Tryz.f5:=zf Tryz.func5 (by kernel_rfl) (by kernel_rfl)
theorem fok6:FuncOk Tryz.prog 6 Tryz.f6:=zf Tryz.func6 (by kernel_rfl) (by kernel_rfl)
theorem fok7:FuncOk Tryz.prog 7 Tryz.f7:=zf Tryz.func7 (by kernel_rfl) (by kernel_rfl)
theorem fok8:FuncOk Tryz.prog 8 Tryz.f8:=zf Tryz.func8 (by kernel_rfl) (by kernel_rfl)
theorem fok9:FuncOk Tryz.prog 9 Tryz.f9:=zf Tryz.func9 (by kernel_rfl) (by kernel_rfl)
theorem fok10:FuncOk Tryz.prog 10 Tryz.f10:=zf Tryz.func10 (by kernel_rfl) (by kernel_rfl)
theorem fok11:FuncOk Tryz.prog 11 Tryz.f11:=zf Tryz.func11 (by kernel_rfl) (by kernel_rfl)
theorem fok12:FuncOk Tryz.prog 12 Tryz.f12:=zf Tryz.func12 (by kernel_rfl) (by kernel_rfl)
theorem fok13:FuncOk Tryz.prog 13 Tryz.f13:=zf Tryz.func13 (by kernel_rfl) (by kernel_rfl)
theorem fok14:FuncOk Tryz.prog 14 Tryz.f14:=zf Tryz.func14 (by kernel_rfl) (by kernel_rfl)
theorem fok15:FuncOk Tryz.prog 15 Tryz.f15:=zf Tryz.func15 (by kernel_rfl) (by kernel_rfl)
theorem fok16:FuncOk Tryz.prog 16 Tryz.f16:=zf Tryz.func16 (by kernel_rfl) (by kernel_rfl)
theorem fok17:FuncOk Tryz.prog 17 Tryz.f17:=zf Tryz.func17 (by kernel_rfl) (by kernel_rfl)
theorem fok18:FuncOk Tryz.prog 18 Tryz.f18:=zf Tryz.func18 (by kernel_rfl) (by kernel_rfl)
theorem fok19:FuncOk Tryz.prog 19 Tryz.f19:=zf Tryz.func19 (by kernel_rfl) (by kernel_rfl)
theorem fok20:FuncOk Tryz.prog 20 Tryz.f20:=zf Tryz.func20 (by kernel_rfl) (by kernel_rfl)
theorem fok21:FuncOk Tryz.prog 21 Tryz.f21:=zf Tryz.func21 (by kernel_rfl) (by kernel_rfl)
theorem fok22:FuncOk Tryz.prog 22 Tryz.f22:=zf Tryz.func22 (by kernel_rfl) (by kernel_rfl)
theorem fok23:FuncOk Tryz.prog 23 Tryz.f23:=zf Tryz.func23 (by kernel_rfl) (by kernel_rfl)
theorem fok24:FuncOk Tryz.prog 24 Tryz.f24:=zf Tryz.func24 (by kernel_rfl) (by kernel_rfl)
theorem fok25:FuncOk Tryz.prog 25 Tryz.f25:=zf Tryz.func25 (by kernel_rfl) (by kernel_rfl)
theorem fok26:FuncOk Tryz.prog 26 Tryz.f26:=zf Tryz.func26 (by kernel_rfl) (by kernel_rfl)
theorem fok27:FuncOk Tryz.prog 27 Tryz.f27:=zf Tryz.func27 (by kernel_rfl) (by kernel_rfl)
theorem fok28:FuncOk Tryz.prog 28 Tryz.f28:=zf Tryz.func28 (by kernel_rfl) (by kernel_rfl)
theorem fok29:FuncOk Tryz.prog 29 Tryz.f29:=zf Tryz.func29 (by kernel_rfl) (by kernel_rfl)
theorem fok30:FuncOk Tryz.prog 30 Tryz.f30:=zf Tryz.func30 (by kernel_rfl) (by kernel_rfl)
theorem fok31:FuncOk Tryz.prog 31 Tryz.f31:=zf Tryz.func31 (by kernel_rfl) (by kernel_rfl)
theorem fok32:FuncOk Tryz.prog 32 Tryz.f32:=zf Tryz.func32 (by kernel_rfl) (by kernel_rfl)
theorem fok33:FuncOk Tryz.prog 33 Tryz.f33:=zf Tryz.func33 (by kernel_rfl) (by kernel_rfl)
theorem fok34:FuncOk Tryz.prog 34 Tryz.f34:=zf Tryz.func34 (by kernel_rfl) (by kernel_rfl)
theorem fok35:FuncOk Tryz.prog 35 Tryz.f35:=zf Tryz.func35 (by kernel_rfl) (by kernel_rfl)
theorem fok36:FuncOk Tryz.prog 36 Tryz.f36:=zf Tryz.func36 (by kernel_rfl) (by kernel_rfl)
theorem fok37:FuncOk Tryz.prog 37 Tryz.f37:=zf Tryz.func37 (by kernel_rfl) (by kernel_rfl)
theorem fok38:FuncOk Tryz.prog 38 Tryz.f38:=zf Tryz.func38 (by kernel_rfl) (by kernel_rfl)
theorem fok39:FuncOk Tryz.prog 39 Tryz.f39:=zf Tryz.func39 (by kernel_rfl) (by kernel_rfl)
theorem fok40:FuncOk Tryz.prog 40 Tryz.f40:=zf Tryz.func40 (by kernel_rfl) (by kernel_rfl)
theorem fok41:FuncOk Tryz.prog 41 Tryz.f41:=zf Tryz.func41 (by kernel_rfl) (by kernel_rfl)
theorem fok42:FuncOk Tryz.prog 42 Tryz.f42:=zf Tryz.func42 (by kernel_rfl) (by kernel_rfl)
theorem fok43:FuncOk Tryz.prog 43 Tryz.f43:=zf Tryz.func43 (by kernel_rfl) (by kernel_rfl)
theorem fok44:FuncOk Tryz.prog 44 Tryz.f44:=zf Tryz.func44 (by kernel_rfl) (by kernel_rfl)
theorem fok45:FuncOk Tryz.prog 45 Tryz.f45:=zf Tryz.func45 (by kernel_rfl) (by kernel_rfl)
theorem fok46:FuncOk Tryz.prog 46 Tryz.f46:=zf Tryz.func46 (by kernel_rfl) (by kernel_rfl)
theorem fok47:FuncOk Tryz.prog 47 Tryz.f47:=zf Tryz.func47 (by kernel_rfl) (by kernel_rfl)
theorem fok48:FuncOk Tryz.prog 48 Tryz.f48:=zf Tryz.func48 (by kernel_rfl) (by kernel_rfl)
theorem fok49:FuncOk Tryz.prog 49 Tryz.f49:=zf Tryz.func49 (by kernel_rfl) (by kernel_rfl)
theorem fok50:FuncOk Tryz.prog 50 Tryz.f50:=zf Tryz.func50 (by kernel_rfl) (by kernel_rfl)
theorem fok51:FuncOk Tryz.prog 51 Tryz.f51:=zf Tryz.func51 (by kernel_rfl) (by kernel_rfl)
theorem fok52:FuncOk Tryz.prog 52 Tryz.f52:=zf Tryz.func52 (by kernel_rfl) (by kernel_rfl)
theorem fok53:FuncOk Tryz.prog 53 Tryz.f53:=zf Tryz.func53 (by kernel_rfl) (by kernel_rfl)
theorem fok54:FuncOk Tryz.prog 54 Tryz.f54:=zf Tryz.func54 (by kernel_rfl) (by kernel_rfl)
theorem fok55:FuncOk Tryz.prog 55 Tryz.f55:=zf Tryz.func55 (by kernel_rfl) (by kernel_rfl)
theorem fok56:FuncOk Tryz.prog 56 Tryz.f56:=zf Tryz.func56 (by kernel_rfl) (by kernel_rfl)
theorem fok57:FuncOk Tryz.prog 57 Tryz.f57:=zf Tryz.func57 (by kernel_rfl) (by kernel_rfl)
theorem fok58:FuncOk Tryz.prog 58 Tryz.f58:=zf Tryz.func58 (by kernel_rfl) (by kernel_rfl)
theorem fok59:FuncOk Tryz.prog 59 Tryz.f59:=zf Tryz.func59 (by kernel_rfl) (by kernel_rfl)
theorem fok60:FuncOk Tryz.prog 60 Tryz.f60:=zf Tryz.func60 (by kernel_rfl) (by kernel_rfl)
theorem fok61:FuncOk Tryz.prog 61 Tryz.f61:=zf Tryz.func61 (by kernel_rfl) (by kernel_rfl)
theorem fok62:FuncOk Tryz.prog 62 Tryz.f62:=zf Tryz.func62 (by kernel_rfl) (by kernel_rfl)
theorem fok63:FuncOk Tryz.prog 63 Tryz.f63:=zf Tryz.func63 (by kernel_rfl) (by kernel_rfl)
theorem fok64:FuncOk Tryz.prog 64 Tryz.f64:=zf Tryz.func64 (by kernel_rfl) (by kernel_rfl)
theorem fok65:FuncOk Tryz.prog 65 Tryz.f65:=zf Tryz.func65 (by kernel_rfl) (by kernel_rfl)
theorem fok66:FuncOk Tryz.prog 66 Tryz.f66:=zf Tryz.func66 (by kernel_rfl) (by kernel_rfl)
theorem fok67:FuncOk Tryz.prog 67 Tryz.f67:=zf Tryz.func67 (by kernel_rfl) (by kernel_rfl)
theorem fok68:FuncOk Tryz.prog 68 Tryz.f68:=zf Tryz.func68 (by kernel_rfl) (by kernel_rfl)
theorem fok69:FuncOk Tryz.prog 69 Tryz.f69:=zf Tryz.func69 (by kernel_rfl) (by kernel_rfl)
theorem fok70:FuncOk Tryz.prog 70 Tryz.f70:=zf Tryz.func70 (by kernel_rfl) (by kernel_rfl)
theorem fok71:FuncOk Tryz.prog 71 Tryz.f71:=zf Tryz.func71 (by kernel_rfl) (by kernel_rfl)
theorem fok72:FuncOk Tryz.prog 72 Tryz.f72:=zf Tryz.func72 (by kernel_rfl) (by kernel_rfl)
theorem fok73:FuncOk Tryz.prog 73 Tryz.f73:=zf Tryz.func73 (by kernel_rfl) (by kernel_rfl)
theorem fok74:FuncOk Tryz.prog 74 Tryz.f74:=zf Tryz.func74 (by kernel_rfl) (by kernel_rfl)
theorem fok75:FuncOk Tryz.prog 75 Tryz.f75:=zf Tryz.func75 (by kernel_rfl) (by kernel_rfl)
theorem fok76:FuncOk Tryz.prog 76 Tryz.f76:=zf Tryz.func76 (by kernel_rfl) (by kernel_rfl)
theorem fok77:FuncOk Tryz.prog 77 Tryz.f77:=zf Tryz.func77 (by kernel_rfl) (by kernel_rfl)
theorem fok78:FuncOk Tryz.prog 78 Tryz.f78:=zf Tryz.func78 (by kernel_rfl) (by kernel_rfl)
theorem fok79:FuncOk Tryz.prog 79 Tryz.f79:=zf Tryz.func79 (by kernel_rfl) (by kernel_rfl)
theorem fok80:FuncOk Tryz.prog 80 Tryz.f80:=zf Tryz.func80 (by kernel_rfl) (by kernel_rfl)
theorem fok81:FuncOk Tryz.prog 81 Tryz.f81:=zf Tryz.func81 (by kernel_rfl) (by kernel_rfl)
theorem fok82:FuncOk Tryz.prog 82 Tryz.f82:=zf Tryz.func82 (by kernel_rfl) (by kernel_rfl)
theorem fok83:FuncOk Tryz.prog 83 Tryz.f83:=zf Tryz.func83 (by kernel_rfl) (by kernel_rfl)
theorem fok84:FuncOk Tryz.prog 84 Tryz.f84:=zf Tryz.func84 (by kernel_rfl) (by kernel_rfl)
theorem fok85:FuncOk Tryz.prog 85 Tryz.f85:=zf Tryz.func85 (by kernel_rfl) (by kernel_rfl)
theorem fok86:FuncOk Tryz.prog 86 Tryz.f86:=zf Tryz.func86 (by kernel_rfl) (by kernel_rfl)
theorem fok87:FuncOk Tryz.prog 87 Tryz.f87:=zf Tryz.func87 (by kernel_rfl) (by kernel_rfl)
theorem fok88:FuncOk Tryz.prog 88 Tryz.f88:=zf Tryz.func88 (by kernel_rfl) (by kernel_rfl)
theorem fok89:FuncOk Tryz.prog 89 Tryz.f89:=zf Tryz.func89 (by kernel_rfl) (by kernel_rfl)
theorem fok90:FuncOk Tryz.prog 90 Tryz.f90:=zf Tryz.func90 (by kernel_rfl) (by kernel_rfl)
theorem fok91:FuncOk Tryz.prog 91 Tryz.f91:=zf Tryz.func91 (by kernel_rfl) (by kernel_rfl)
theorem fok92:FuncOk Tryz.prog 92 Tryz.f92:=zf Tryz.func92 (by kernel_rfl) (by kernel_rfl)
theorem fok93:FuncOk Tryz.prog 93 Tryz.f93:=zf Tryz.func93 (by kernel_rfl) (by kernel_rfl)
theorem fok94:FuncOk Tryz.prog 94 Tryz.f94:=zf Tryz.func94 (by kernel_rfl) (by kernel_rfl)
theorem fok95:FuncOk Tryz.prog 95 Tryz.f95:=zf Tryz.func95 (by kernel_rfl) (by kernel_rfl)
theorem fok96:FuncOk Tryz.prog 96 Tryz.f96:=zf Tryz.func96 (by kernel_rfl) (by kernel_rfl)
theorem fok97:FuncOk Tryz.prog 97 Tryz.f97:=zf Tryz.func97 (by kernel_rfl) (by kernel_rfl)
theorem fok98:FuncOk Tryz.prog 98 Tryz.f98:=zf Tryz.func98 (by kernel_rfl) (by kernel_rfl)
theorem fok99:FuncOk Tryz.prog 99 Tryz.f99:=zf Tryz.func99 (by kernel_rfl) (by kernel_rfl)
theorem fok100:FuncOk Tryz.prog 100 Tryz.f100:=zf Tryz.func100 (by kernel_rfl) (by kernel_rfl)
theorem fok101:FuncOk Tryz.prog 101 Tryz.f101:=zf Tryz.func101 (by kernel_rfl) (by kernel_rfl)
theorem fok102:FuncOk Tryz.prog 102 Tryz.f102:=zf Tryz.func102 (by kernel_rfl) (by kernel_rfl)
theorem fok103:FuncOk Tryz.prog 103 Tryz.f103:=zf Tryz.func103 (by kernel_rfl) (by kernel_rfl)
theorem fok104:FuncOk Tryz.prog 104 Tryz.f104:=zf Tryz.func104 (by kernel_rfl) (by kernel_rfl)
theorem fok105:FuncOk Tryz.prog 105 Tryz.f105:=zf Tryz.func105 (by kernel_rfl) (by kernel_rfl)
theorem fok106:FuncOk Tryz.prog 106 Tryz.f106:=zf Tryz.func106 (by kernel_rfl) (by kernel_rfl)
theorem fok107:FuncOk Tryz.prog 107 Tryz.f107:=zf Tryz.func107 (by kernel_rfl) (by kernel_rfl)
theorem fok108:FuncOk Tryz.prog 108 Tryz.f108:=zf Tryz.func108 (by kernel_rfl) (by kernel_rfl)
theorem fok109:FuncOk Tryz.prog 109 Tryz.f109:=zf Tryz.func109 (by kernel_rfl) (by kernel_rfl)
theorem fok110:FuncOk Tryz.prog 110 Tryz.f110:=zf Tryz.func110 (by kernel_rfl) (by kernel_rfl)
theorem fok111:FuncOk Tryz.prog 111 Tryz.f111:=zf Tryz.func111 (by kernel_rfl) (by kernel_rfl)
theorem fok112:FuncOk Tryz.prog 112 Tryz.f112:=zf Tryz.func112 (by kernel_rfl) (by kernel_rfl)
theorem fok113:FuncOk Tryz.prog 113 Tryz.f113:=zf Tryz.func113 (by kernel_rfl) (by kernel_rfl)
theorem fok114:FuncOk Tryz.prog 114 Tryz.f114:=zf Tryz.func114 (by kernel_rfl) (by kernel_rfl)
theorem fok115:FuncOk Tryz.prog 115 Tryz.f115:=zf Tryz.func115 (by kernel_rfl) (by kernel_rfl)
theorem fok116:FuncOk Tryz.prog 116 Tryz.f116:=zf Tryz.func116 (by kernel_rfl) (by kernel_rfl)
theorem fok117:FuncOk Tryz.prog 117 Tryz.f117:=zf Tryz.func117 (by kernel_rfl) (by kernel_rfl)
theorem fok118:FuncOk Tryz.prog 118 Tryz.f118:=zf Tryz.func118 (by kernel_rfl) (by kernel_rfl)
theorem fok119:FuncOk Tryz.prog 119 Tryz.f119:=zf Tryz.func119 (by kernel_rfl) (by kernel_rfl)
theorem fok120:FuncOk Tryz.prog 120 Tryz.f120:=zf Tryz.func120 (by kernel_rfl) (by kernel_rfl)
theorem fok121:FuncOk Tryz.prog 121 Tryz.f121:=zf Tryz.func121 (by kernel_rfl) (by kernel_rfl)
theorem fok122:FuncOk Tryz.prog 122 Tryz.f122:=zf Tryz.func122 (by kernel_rfl) (by kernel_rfl)
theorem fok123:FuncOk Tryz.prog 123 Tryz.f123:=zf Tryz.func123 (by kernel_rfl) (by kernel_rfl)
theorem fok124:FuncOk Tryz.prog 124 Tryz.f124:=zf Tryz.func124 (by kernel_rfl) (by kernel_rfl)
theorem fok125:FuncOk Tryz.prog 125 Tryz.f125:=zf Tryz.func125 (by kernel_rfl) (by kernel_rfl)
theorem fok126:FuncOk Tryz.prog 126 Tryz.f126:=zf Tryz.func126 (by kernel_rfl) (by kernel_rfl)
theorem fok127:FuncOk Tryz.prog 127 Tryz.f127:=zf Tryz.func127 (by kernel_rfl) (by kernel_rfl)
theorem fok128:FuncOk Tryz.prog 128 Tryz.f128:=zf Tryz.func128 (by kernel_rfl) (by kernel_rfl)
theorem fok129:FuncOk Tryz.prog 129 Tryz.f129:=zf Tryz.func129 (by kernel_rfl) (by kernel_rfl)
theorem fok130:FuncOk Tryz.prog 130 Tryz.f130:=zf Tryz.func130 (by kernel_rfl) (by kernel_rfl)
theorem fok131:FuncOk Tryz.prog 131 Tryz.f131:=zf Tryz.func131 (by kernel_rfl) (by kernel_rfl)
theorem fok132:FuncOk Tryz.prog 132 Tryz.f132:=zf Tryz.func132 (by kernel_rfl) (by kernel_rfl)
theorem fok133:FuncOk Tryz.prog 133 Tryz.f133:=zf Tryz.func133 (by kernel_rfl) (by kernel_rfl)
theorem fok134:FuncOk Tryz.prog 134 Tryz.f134:=zf Tryz.func134 (by kernel_rfl) (by kernel_rfl)
theorem fok135:FuncOk Tryz.prog 135 Tryz.f135:=zf Tryz.func135 (by kernel_rfl) (by kernel_rfl)
theorem fok136:FuncOk Tryz.prog 136 Tryz.f136:=zf Tryz.func136 (by kernel_rfl) (by kernel_rfl)
theorem fok137:FuncOk Tryz.prog 137 Tryz.f137:=zf Tryz.func137 (by kernel_rfl) (by kernel_rfl)
theorem fok138:FuncOk Tryz.prog 138 Tryz.f138:=zf Tryz.func138 (by kernel_rfl) (by kernel_rfl)
theorem fok139:FuncOk Tryz.prog 139 Tryz.f139:=zf Tryz.func139 (by kernel_rfl) (by kernel_rfl)
theorem fok140:FuncOk Tryz.prog 140 Tryz.f140:=zf Tryz.func140 (by kernel_rfl) (by kernel_rfl)
theorem fok141:FuncOk Tryz.prog 141 Tryz.f141:=zf Tryz.func141 (by kernel_rfl) (by kernel_rfl)
theorem fok142:FuncOk Tryz.prog 142 Tryz.f142:=zf Tryz.func142 (by kernel_rfl) (by kernel_rfl)
theorem fok143:FuncOk Tryz.prog 143 Tryz.f143:=zf Tryz.func143 (by kernel_rfl) (by kernel_rfl)
theorem fok144:FuncOk Tryz.prog 144 Tryz.f144:=zf Tryz.func144 (by kernel_rfl) (by kernel_rfl)
theorem fok145:FuncOk Tryz.prog 145 Tryz.f145:=zf Tryz.func145 (by kernel_rfl) (by kernel_rfl)
theorem fok146:FuncOk Tryz.prog 146 Tryz.f146:=zf Tryz.func146 (by kernel_rfl) (by kernel_rfl)
theorem fok147:FuncOk Tryz.prog 147 Tryz.f147:=zf Tryz.func147 (by kernel_rfl) (by kernel_rfl)
theorem fok148:FuncOk Tryz.prog 148 Tryz.f148:=zf Tryz.func148 (by kernel_rfl) (by kernel_rfl)
theorem fok149:FuncOk Tryz.prog 149 Tryz.f149:=zf Tryz.func149 (by kernel_rfl) (by kernel_rfl)
theorem fok150:FuncOk Tryz.prog 150 Tryz.f150:=zf Tryz.func150 (by kernel_rfl) (by kernel_rfl)
theorem fok151:FuncOk Tryz.prog 151 Tryz.f151:=zf Tryz.func151 (by kernel_rfl) (by kernel_rfl)
theorem fok152:FuncOk Tryz.prog 152 Tryz.f152:=zf Tryz.func152 (by kernel_rfl) (by kernel_rfl)
theorem fok153:FuncOk Tryz.prog 153 Tryz.f153:=zf Tryz.func153 (by kernel_rfl) (by kernel_rfl)
theorem fok154:FuncOk Tryz.prog 154 Tryz.f154:=zf Tryz.func154 (by kernel_rfl) (by kernel_rfl)
theorem fok155:FuncOk Tryz.prog 155 Tryz.f155:=zf Tryz.func155 (by kernel_rfl) (by kernel_rfl)
theorem fok156:FuncOk Tryz.prog 156 Tryz.f156:=zf Tryz.func156 (by kernel_rfl) (by kernel_rfl)
theorem fok157:FuncOk Tryz.prog 157 Tryz.f157:=zf Tryz.func157 (by kernel_rfl) (by kernel_rfl)
theorem fok158:FuncOk Tryz.prog 158 Tryz.f158:=zf Tryz.func158 (by kernel_rfl) (by kernel_rfl)
theorem fok159:FuncOk Tryz.prog 159 Tryz.f159:=zf Tryz.func159 (by kernel_rfl) (by kernel_rfl)
theorem fok160:FuncOk Tryz.prog 160 Tryz.f160:=zf Tryz.func160 (by kernel_rfl) (by kernel_rfl)
theorem fok161:FuncOk Tryz.prog 161 Tryz.f161:=zf Tryz.func161 (by kernel_rfl) (by kernel_rfl)
theorem fok162:FuncOk Tryz.prog 162 Tryz.f162:=zf Tryz.func162 (by kernel_rfl) (by kernel_rfl)
theorem fok163:FuncOk Tryz.prog 163 Tryz.f163:=zf Tryz.func163 (by kernel_rfl) (by kernel_rfl)
theorem fok164:FuncOk Tryz.prog 164 Tryz.f164:=zf Tryz.func164 (by kernel_rfl) (by kernel_rfl)
theorem fok165:FuncOk Tryz.prog 165 Tryz.f165:=zf Tryz.func165 (by kernel_rfl) (by kernel_rfl)
theorem fok166:FuncOk Tryz.prog 166 Tryz.f166:=zf Tryz.func166 (by kernel_rfl) (by kernel_rfl)
theorem fok167:FuncOk Tryz.prog 167 Tryz.f167:=zf Tryz.func167 (by kernel_rfl) (by kernel_rfl)
theorem fok168:FuncOk Tryz.prog 168 Tryz.f168:=zf Tryz.func168 (by kernel_rfl) (by kernel_rfl)
theorem fok169:FuncOk Tryz.prog 169 Tryz.f169:=zf Tryz.func169 (by kernel_rfl) (by kernel_rfl)
theorem fok170:FuncOk Tryz.prog 170 Tryz.f170:=zf Tryz.func170 (by kernel_rfl) (by kernel_rfl)
theorem fok171:FuncOk Tryz.prog 171 Tryz.f171:=zf Tryz.func171 (by kernel_rfl) (by kernel_rfl)
theorem fok172:FuncOk Tryz.prog 172 Tryz.f172:=zf Tryz.func172 (by kernel_rfl) (by kernel_rfl)
theorem zp41:tab.Ok Tryz.prog:=zz33
 (show AllP (TypeOk Tryz.prog) types.toList from ⟨tok0,tok1,tok3,tok7,tok15,tok31,tok63,tok127,tok191,tok95,tok159,tok223,tok47,tok79,tok143,tok207,tok111,tok175,tok23,tok39,tok71,tok135,tok199,tok103,tok167,tok231,tok55,tok87,tok151,tok215,tok119,tok183,tok11,tok19,tok35,tok67,tok131,tok195,tok99,tok163,tok227,tok51,tok83,tok147,tok211,tok115,tok179,tok27,tok43,tok75,tok139,tok203,tok107,tok171,tok235,tok59,tok91,tok155,tok219,tok123,tok187,tok5,tok9,tok17,tok33,tok65,tok129,tok193,tok97,tok161,tok225,tok49,tok81,tok145,tok209,tok113,tok177,tok25,tok41,tok73,tok137,tok201,tok105,tok169,tok233,tok57,tok89,tok153,tok217,tok121,tok185,tok13,tok21,tok37,tok69,tok133,tok197,tok101,tok165,tok229,tok53,tok85,tok149,tok213,tok117,tok181,tok29,tok45,tok77,tok141,tok205,tok109,tok173,tok237,tok61,tok93,tok157,tok221,tok125,tok189,tok2,tok4,tok8,tok16,tok32,tok64,tok128,tok192,tok96,tok160,tok224,tok48,tok80,tok144,tok208,tok112,tok176,tok24,tok40,tok72,tok136,tok200,tok104,tok168,tok232,tok56,tok88,tok152,tok216,tok120,tok184,tok12,tok20,tok36,tok68,tok132,tok196,tok100,tok164,tok228,tok52,tok84,tok148,tok212,tok116,tok180,tok28,tok44,tok76,tok140,tok204,tok108,tok172,tok236,tok60,tok92,tok156,tok220,tok124,tok188,tok6,tok10,tok18,tok34,tok66,tok130,tok194,tok98,tok162,tok226,tok50,tok82,tok146,tok210,tok114,tok178,tok26,tok42,tok74,tok138,tok202,tok106,tok170,tok234,tok58,tok90,tok154,tok218,tok122,tok186,tok14,tok22,tok38,tok70,tok134,tok198,tok102,tok166,tok230,tok54,tok86,tok150,tok214,tok118,tok182,tok30,tok46,tok78,tok142,tok206,tok110,tok174,tok62,tok94,tok158,tok222,tok126,tok190,trivial⟩)
 (show AllP (FuncOk Tryz.prog) funcs.toList from ⟨fok0,fok1,fok3,fok7,fok15,fok31,fok63,fok127,fok95,fok159,fok47,fok79,fok143,fok111,fok23,fok39,fok71,fok135,fok103,fok167,fok55,fok87,fok151,fok119,fok11,fok19,fok35,fok67,fok131,fok99,fok163,fok51,fok83,fok147,fok115,fok27,fok43,fok75,fok139,fok107,fok171,fok59,fok91,fok155,fok123,fok5,fok9,fok17,fok33,fok65,fok129,fok97,fok161,fok49,fok81,fok145,fok113,fok25,fok41,fok73,fok137,fok105,fok169,fok57,fok89,fok153,fok121,fok13,fok21,fok37,fok69,fok133,fok101,fok165,fok53,fok85,fok149,fok117,fok29,fok45,fok77,fok141,fok109,fok61,fok93,fok157,fok125,fok2,fok4,fok8,fok16,fok32,fok64,fok128,fok96,fok160,fok48,fok80,fok144,fok112,fok24,fok40,fok72,fok136,fok104,fok168,fok56,fok88,fok152,fok120,fok12,fok20,fok36,fok68,fok132,fok100,fok164,fok52,fok84,fok148,fok116,fok28,fok44,fok76,fok140,fok108,fok172,fok60,fok92,fok156,fok124,fok6,fok10,fok18,fok34,fok66,fok130,fok98,fok162,fok50,fok82,fok146,fok114,fok26,fok42,fok74,fok138,fok106,fok170,fok58,fok90,fok154,fok122,fok14,fok22,fok38,fok70,fok134,fok102,fok166,fok54,fok86,fok150,fok118,fok30,fok46,fok78,fok142,fok110,fok62,fok94,fok158,fok126,trivial⟩)
 Tryz.checked.mixed rfl
end Go.Ai.TabYtcokdbcdlaofbaaGreat

/- math.Sqrt answers as the model's entry does. -/
namespace Go.Ai.TabYtcokdbcdlaofbaaGreat
open Go Go.Proofs Go.RowKit
theorem za34 {x r:Nat} (hr:FloatKind.f64.format.sqrt x = some r) (w:World) :
    (callFunc 130 #[.float .f64 x]).run Tryz.prog w = .ok (.value (.float .f64 r)) w:=by
  rw [run_callFunc_extern (fn:=Tryz.f130) (e:=Extern.MathSqrt.sqrt) (by kernel_rfl) (by kernel_rfl) (by kernel_rfl) (by kernel_rfl) (by kernel_rfl)]
  have:Extern.MathSqrt.sqrt #[.float .f64 x] = pure (Value.float .f64 r):=by
    show (match FloatKind.f64.format.sqrt x with
      | some r=>pure (Value.float .f64 r)
      | none=>do pure (Value.float .f64 (← choose (.nanBits .f64 x x)))) = _
    rw [hr]
  rw [this]
  rfl
set_option maxRecDepth 100000 in
theorem zp26 {x r:Nat} (hr:FloatKind.f64.format.sqrt x = some r) (w:World) :
    Calls Tryz.prog 119 #[.float .f64 x] w fun e w'=>e = .returned (.float .f64 r) ∧ w' = w:=by
  go_enter Tryz.func119,Tryz.ntmps119
  go_wp2_with fail
  rw [za34 hr]
  go_wp2_with fail
  go_ret
  exact ⟨rfl,rfl⟩
end Go.Ai.TabYtcokdbcdlaofbaaGreat
