/- Written by program: the tables of the seat's program for the abstract interpreter, and that they agree with it. -/
import Derived.Test.YtmnbnppfidghoaaM5
import Derived.Eval
import Derived.Test.YtmnbnppfidghoaaChecked
import Derived.KernelRfl
import Derived.Test.YtmnbnppfidghoaaProg
import Derived.WalkKit
import Derived.Laws.Externs
set_option linter.unusedSimpArgs false
set_option linter.unusedVariables false
set_option linter.unusedSectionVars false
namespace Go.Ai.TabYtmnbnppfidghoaa
open Go Go.Ai Go.Proofs
set_option maxRecDepth 100000
noncomputable def tI (d t : TypeInfo) (k : Nat) : TInfo := { desc := d.desc, size := t.size, bytes := t.bytes, zero := t.zero.bind ofVal, stood := Try.prog.stoodInHeld k, eqg := Try.prog.eqGuardType Try.prog.depth k }
noncomputable def ti0 := tI Try.t0 Try.t0 0
noncomputable def ti1 := tI Try.t1 Try.t1 1
noncomputable def ti2 := tI Try.t2 Try.t2 2
noncomputable def ti3 := tI Try.t3 Try.t3 3
noncomputable def ti4 := tI Try.t4 Try.t4 4
noncomputable def ti5 := tI Try.t5 Try.t5 5
noncomputable def ti6 := tI Try.t5 Try.t6 6
noncomputable def ti7 := tI Try.t7 Try.t7 7
noncomputable def ti8 := tI Try.t7 Try.t8 8
noncomputable def ti9 := tI Try.t9 Try.t9 9
noncomputable def ti10 := tI Try.t9 Try.t10 10
noncomputable def ti11 := tI Try.t9 Try.t11 11
noncomputable def ti12 := tI Try.t12 Try.t12 12
noncomputable def ti13 := tI Try.t13 Try.t13 13
noncomputable def ti14 := tI Try.t13 Try.t14 14
noncomputable def ti15 := tI Try.t15 Try.t15 15
noncomputable def ti16 := tI Try.t16 Try.t16 16
noncomputable def ti17 := tI Try.t17 Try.t17 17
noncomputable def ti18 := tI Try.t18 Try.t18 18
noncomputable def ti19 := tI Try.t18 Try.t19 19
noncomputable def ti20 := tI Try.t20 Try.t20 20
noncomputable def ti21 := tI Try.t21 Try.t21 21
noncomputable def ti22 := tI Try.t22 Try.t22 22
noncomputable def ti23 := tI Try.t23 Try.t23 23
noncomputable def ti24 := tI Try.t24 Try.t24 24
noncomputable def ti25 := tI Try.t24 Try.t25 25
noncomputable def ti26 := tI Try.t26 Try.t26 26
noncomputable def ti27 := tI Try.t27 Try.t27 27
noncomputable def ti28 := tI Try.t28 Try.t28 28
noncomputable def ti29 := tI Try.t29 Try.t29 29
noncomputable def ti30 := tI Try.t3 Try.t30 30
noncomputable def ti31 := tI Try.t31 Try.t31 31
noncomputable def ti32 := tI Try.t32 Try.t32 32
noncomputable def ti33 := tI Try.t33 Try.t33 33
noncomputable def ti34 := tI Try.t34 Try.t34 34
noncomputable def ti35 := tI Try.t35 Try.t35 35
noncomputable def ti36 := tI Try.t35 Try.t36 36
noncomputable def ti37 := tI Try.t37 Try.t37 37
noncomputable def ti38 := tI Try.t37 Try.t38 38
noncomputable def ti39 := tI Try.t3 Try.t39 39
noncomputable def ti40 := tI Try.t40 Try.t40 40
noncomputable def ti41 := tI Try.t41 Try.t41 41
noncomputable def ti42 := tI Try.t41 Try.t42 42
noncomputable def ti43 := tI Try.t43 Try.t43 43
noncomputable def ti44 := tI Try.t44 Try.t44 44
noncomputable def ti45 := tI Try.t45 Try.t45 45
noncomputable def ti46 := tI Try.t45 Try.t46 46
noncomputable def ti47 := tI Try.t47 Try.t47 47
noncomputable def ti48 := tI Try.t48 Try.t48 48
noncomputable def ti49 := tI Try.t48 Try.t49 49
noncomputable def ti50 := tI Try.t50 Try.t50 50
noncomputable def ti51 := tI Try.t51 Try.t51 51
noncomputable def ti52 := tI Try.t51 Try.t52 52
noncomputable def ti53 := tI Try.t53 Try.t53 53
noncomputable def ti54 := tI Try.t54 Try.t54 54
noncomputable def ti55 := tI Try.t55 Try.t55 55
noncomputable def ti56 := tI Try.t56 Try.t56 56
noncomputable def ti57 := tI Try.t57 Try.t57 57
noncomputable def ti58 := tI Try.t58 Try.t58 58
noncomputable def ti59 := tI Try.t59 Try.t59 59
noncomputable def ti60 := tI Try.t60 Try.t60 60
noncomputable def ti61 := tI Try.t60 Try.t61 61
noncomputable def ti62 := tI Try.t62 Try.t62 62
noncomputable def ti63 := tI Try.t63 Try.t63 63
noncomputable def ti64 := tI Try.t3 Try.t64 64
noncomputable def ti65 := tI Try.t65 Try.t65 65
noncomputable def ti66 := tI Try.t65 Try.t66 66
noncomputable def ti67 := tI Try.t67 Try.t67 67
noncomputable def ti68 := tI Try.t68 Try.t68 68
noncomputable def ti69 := tI Try.t69 Try.t69 69
noncomputable def ti70 := tI Try.t70 Try.t70 70
noncomputable def ti71 := tI Try.t71 Try.t71 71
noncomputable def ti72 := tI Try.t72 Try.t72 72
noncomputable def ti73 := tI Try.t73 Try.t73 73
noncomputable def ti74 := tI Try.t74 Try.t74 74
noncomputable def ti75 := tI Try.t74 Try.t75 75
noncomputable def ti76 := tI Try.t76 Try.t76 76
noncomputable def ti77 := tI Try.t77 Try.t77 77
noncomputable def ti78 := tI Try.t78 Try.t78 78
noncomputable def ti79 := tI Try.t79 Try.t79 79
noncomputable def ti80 := tI Try.t80 Try.t80 80
noncomputable def ti81 := tI Try.t80 Try.t81 81
noncomputable def ti82 := tI Try.t82 Try.t82 82
noncomputable def ti83 := tI Try.t83 Try.t83 83
noncomputable def ti84 := tI Try.t84 Try.t84 84
noncomputable def ti85 := tI Try.t85 Try.t85 85
noncomputable def ti86 := tI Try.t26 Try.t86 86
noncomputable def ti87 := tI Try.t87 Try.t87 87
noncomputable def ti88 := tI Try.t88 Try.t88 88
noncomputable def ti89 := tI Try.t89 Try.t89 89
noncomputable def ti90 := tI Try.t90 Try.t90 90
noncomputable def ti91 := tI Try.t91 Try.t91 91
noncomputable def ti92 := tI Try.t91 Try.t92 92
noncomputable def ti93 := tI Try.t93 Try.t93 93
noncomputable def ti94 := tI Try.t94 Try.t94 94
noncomputable def ti95 := tI Try.t94 Try.t95 95
noncomputable def ti96 := tI Try.t96 Try.t96 96
noncomputable def ti97 := tI Try.t97 Try.t97 97
noncomputable def ti98 := tI Try.t98 Try.t98 98
noncomputable def ti99 := tI Try.t99 Try.t99 99
noncomputable def ti100 := tI Try.t100 Try.t100 100
noncomputable def ti101 := tI Try.t101 Try.t101 101
noncomputable def ti102 := tI Try.t102 Try.t102 102
noncomputable def ti103 := tI Try.t103 Try.t103 103
noncomputable def ti104 := tI Try.t103 Try.t104 104
noncomputable def ti105 := tI Try.t105 Try.t105 105
noncomputable def ti106 := tI Try.t106 Try.t106 106
noncomputable def ti107 := tI Try.t107 Try.t107 107
noncomputable def ti108 := tI Try.t108 Try.t108 108
noncomputable def ti109 := tI Try.t109 Try.t109 109
noncomputable def ti110 := tI Try.t109 Try.t110 110
noncomputable def ti111 := tI Try.t111 Try.t111 111
noncomputable def ti112 := tI Try.t112 Try.t112 112
noncomputable def ti113 := tI Try.t113 Try.t113 113
noncomputable def ti114 := tI Try.t114 Try.t114 114
noncomputable def ti115 := tI Try.t115 Try.t115 115
noncomputable def ti116 := tI Try.t116 Try.t116 116
noncomputable def ti117 := tI Try.t117 Try.t117 117
noncomputable def ti118 := tI Try.t118 Try.t118 118
noncomputable def ti119 := tI Try.t119 Try.t119 119
noncomputable def ti120 := tI Try.t120 Try.t120 120
noncomputable def ti121 := tI Try.t121 Try.t121 121
noncomputable def ti122 := tI Try.t122 Try.t122 122
noncomputable def ti123 := tI Try.t123 Try.t123 123
noncomputable def ti124 := tI Try.t124 Try.t124 124
noncomputable def ti125 := tI Try.t124 Try.t125 125
noncomputable def ti126 := tI Try.t126 Try.t126 126
noncomputable def ti127 := tI Try.t127 Try.t127 127
noncomputable def ti128 := tI Try.t127 Try.t128 128
noncomputable def ti129 := tI Try.t129 Try.t129 129
noncomputable def ti130 := tI Try.t130 Try.t130 130
noncomputable def ti131 := tI Try.t131 Try.t131 131
noncomputable def ti132 := tI Try.t132 Try.t132 132
noncomputable def ti133 := tI Try.t133 Try.t133 133
noncomputable def ti134 := tI Try.t134 Try.t134 134
noncomputable def ti135 := tI Try.t135 Try.t135 135
noncomputable def ti136 := tI Try.t136 Try.t136 136
noncomputable def ti137 := tI Try.t137 Try.t137 137
noncomputable def ti138 := tI Try.t138 Try.t138 138
noncomputable def ti139 := tI Try.t139 Try.t139 139
noncomputable def ti140 := tI Try.t140 Try.t140 140
noncomputable def ti141 := tI Try.t141 Try.t141 141
noncomputable def ti142 := tI Try.t142 Try.t142 142
noncomputable def ti143 := tI Try.t143 Try.t143 143
noncomputable def ti144 := tI Try.t144 Try.t144 144
noncomputable def ti145 := tI Try.t145 Try.t145 145
noncomputable def ti146 := tI Try.t146 Try.t146 146
noncomputable def ti147 := tI Try.t147 Try.t147 147
noncomputable def ti148 := tI Try.t148 Try.t148 148
noncomputable def ti149 := tI Try.t149 Try.t149 149
noncomputable def ti150 := tI Try.t150 Try.t150 150
noncomputable def ti151 := tI Try.t151 Try.t151 151
noncomputable def ti152 := tI Try.t152 Try.t152 152
noncomputable def ti153 := tI Try.t153 Try.t153 153
noncomputable def ti154 := tI Try.t154 Try.t154 154
noncomputable def ti155 := tI Try.t154 Try.t155 155
noncomputable def ti156 := tI Try.t156 Try.t156 156
noncomputable def ti157 := tI Try.t157 Try.t157 157
noncomputable def ti158 := tI Try.t157 Try.t158 158
noncomputable def ti159 := tI Try.t159 Try.t159 159
noncomputable def ti160 := tI Try.t160 Try.t160 160
noncomputable def ti161 := tI Try.t5 Try.t161 161
noncomputable def ti162 := tI Try.t5 Try.t162 162
noncomputable def ti163 := tI Try.t163 Try.t163 163
noncomputable def ti164 := tI Try.t164 Try.t164 164
noncomputable def ti165 := tI Try.t21 Try.t165 165
noncomputable def ti166 := tI Try.t21 Try.t166 166
noncomputable def ti167 := tI Try.t167 Try.t167 167
noncomputable def ti168 := tI Try.t167 Try.t168 168
noncomputable def ti169 := tI Try.t169 Try.t169 169
noncomputable def ti170 := tI Try.t170 Try.t170 170
noncomputable def ti171 := tI Try.t171 Try.t171 171
noncomputable def ti172 := tI Try.t171 Try.t172 172
noncomputable def types : Tr TInfo := (.node (some ti0) (.node (some ti1) (.node (some ti3) (.node (some ti7) (.node (some ti15) (.node (some ti31) (.node (some ti63) (.node (some ti127) .leaf .leaf) .leaf) (.node (some ti95) (.node (some ti159) .leaf .leaf) .leaf)) (.node (some ti47) (.node (some ti79) (.node (some ti143) .leaf .leaf) .leaf) (.node (some ti111) .leaf .leaf))) (.node (some ti23) (.node (some ti39) (.node (some ti71) (.node (some ti135) .leaf .leaf) .leaf) (.node (some ti103) (.node (some ti167) .leaf .leaf) .leaf)) (.node (some ti55) (.node (some ti87) (.node (some ti151) .leaf .leaf) .leaf) (.node (some ti119) .leaf .leaf)))) (.node (some ti11) (.node (some ti19) (.node (some ti35) (.node (some ti67) (.node (some ti131) .leaf .leaf) .leaf) (.node (some ti99) (.node (some ti163) .leaf .leaf) .leaf)) (.node (some ti51) (.node (some ti83) (.node (some ti147) .leaf .leaf) .leaf) (.node (some ti115) .leaf .leaf))) (.node (some ti27) (.node (some ti43) (.node (some ti75) (.node (some ti139) .leaf .leaf) .leaf) (.node (some ti107) (.node (some ti171) .leaf .leaf) .leaf)) (.node (some ti59) (.node (some ti91) (.node (some ti155) .leaf .leaf) .leaf) (.node (some ti123) .leaf .leaf))))) (.node (some ti5) (.node (some ti9) (.node (some ti17) (.node (some ti33) (.node (some ti65) (.node (some ti129) .leaf .leaf) .leaf) (.node (some ti97) (.node (some ti161) .leaf .leaf) .leaf)) (.node (some ti49) (.node (some ti81) (.node (some ti145) .leaf .leaf) .leaf) (.node (some ti113) .leaf .leaf))) (.node (some ti25) (.node (some ti41) (.node (some ti73) (.node (some ti137) .leaf .leaf) .leaf) (.node (some ti105) (.node (some ti169) .leaf .leaf) .leaf)) (.node (some ti57) (.node (some ti89) (.node (some ti153) .leaf .leaf) .leaf) (.node (some ti121) .leaf .leaf)))) (.node (some ti13) (.node (some ti21) (.node (some ti37) (.node (some ti69) (.node (some ti133) .leaf .leaf) .leaf) (.node (some ti101) (.node (some ti165) .leaf .leaf) .leaf)) (.node (some ti53) (.node (some ti85) (.node (some ti149) .leaf .leaf) .leaf) (.node (some ti117) .leaf .leaf))) (.node (some ti29) (.node (some ti45) (.node (some ti77) (.node (some ti141) .leaf .leaf) .leaf) (.node (some ti109) .leaf .leaf)) (.node (some ti61) (.node (some ti93) (.node (some ti157) .leaf .leaf) .leaf) (.node (some ti125) .leaf .leaf)))))) (.node (some ti2) (.node (some ti4) (.node (some ti8) (.node (some ti16) (.node (some ti32) (.node (some ti64) (.node (some ti128) .leaf .leaf) .leaf) (.node (some ti96) (.node (some ti160) .leaf .leaf) .leaf)) (.node (some ti48) (.node (some ti80) (.node (some ti144) .leaf .leaf) .leaf) (.node (some ti112) .leaf .leaf))) (.node (some ti24) (.node (some ti40) (.node (some ti72) (.node (some ti136) .leaf .leaf) .leaf) (.node (some ti104) (.node (some ti168) .leaf .leaf) .leaf)) (.node (some ti56) (.node (some ti88) (.node (some ti152) .leaf .leaf) .leaf) (.node (some ti120) .leaf .leaf)))) (.node (some ti12) (.node (some ti20) (.node (some ti36) (.node (some ti68) (.node (some ti132) .leaf .leaf) .leaf) (.node (some ti100) (.node (some ti164) .leaf .leaf) .leaf)) (.node (some ti52) (.node (some ti84) (.node (some ti148) .leaf .leaf) .leaf) (.node (some ti116) .leaf .leaf))) (.node (some ti28) (.node (some ti44) (.node (some ti76) (.node (some ti140) .leaf .leaf) .leaf) (.node (some ti108) (.node (some ti172) .leaf .leaf) .leaf)) (.node (some ti60) (.node (some ti92) (.node (some ti156) .leaf .leaf) .leaf) (.node (some ti124) .leaf .leaf))))) (.node (some ti6) (.node (some ti10) (.node (some ti18) (.node (some ti34) (.node (some ti66) (.node (some ti130) .leaf .leaf) .leaf) (.node (some ti98) (.node (some ti162) .leaf .leaf) .leaf)) (.node (some ti50) (.node (some ti82) (.node (some ti146) .leaf .leaf) .leaf) (.node (some ti114) .leaf .leaf))) (.node (some ti26) (.node (some ti42) (.node (some ti74) (.node (some ti138) .leaf .leaf) .leaf) (.node (some ti106) (.node (some ti170) .leaf .leaf) .leaf)) (.node (some ti58) (.node (some ti90) (.node (some ti154) .leaf .leaf) .leaf) (.node (some ti122) .leaf .leaf)))) (.node (some ti14) (.node (some ti22) (.node (some ti38) (.node (some ti70) (.node (some ti134) .leaf .leaf) .leaf) (.node (some ti102) (.node (some ti166) .leaf .leaf) .leaf)) (.node (some ti54) (.node (some ti86) (.node (some ti150) .leaf .leaf) .leaf) (.node (some ti118) .leaf .leaf))) (.node (some ti30) (.node (some ti46) (.node (some ti78) (.node (some ti142) .leaf .leaf) .leaf) (.node (some ti110) .leaf .leaf)) (.node (some ti62) (.node (some ti94) (.node (some ti158) .leaf .leaf) .leaf) (.node (some ti126) .leaf .leaf)))))))
noncomputable def funcs : Tr Func := (.node (some Try.f0) (.node (some Try.f1) (.node (some Try.f3) (.node (some Try.f7) (.node (some Try.f15) (.node (some Try.f31) (.node (some Try.f63) .leaf .leaf) (.node (some Try.f95) .leaf .leaf)) (.node (some Try.f47) (.node (some Try.f79) .leaf .leaf) .leaf)) (.node (some Try.f23) (.node (some Try.f39) (.node (some Try.f71) .leaf .leaf) (.node (some Try.f103) .leaf .leaf)) (.node (some Try.f55) (.node (some Try.f87) .leaf .leaf) .leaf))) (.node (some Try.f11) (.node (some Try.f19) (.node (some Try.f35) (.node (some Try.f67) .leaf .leaf) (.node (some Try.f99) .leaf .leaf)) (.node (some Try.f51) (.node (some Try.f83) .leaf .leaf) .leaf)) (.node (some Try.f27) (.node (some Try.f43) (.node (some Try.f75) .leaf .leaf) .leaf) (.node (some Try.f59) (.node (some Try.f91) .leaf .leaf) .leaf)))) (.node (some Try.f5) (.node (some Try.f9) (.node (some Try.f17) (.node (some Try.f33) (.node (some Try.f65) .leaf .leaf) (.node (some Try.f97) .leaf .leaf)) (.node (some Try.f49) (.node (some Try.f81) .leaf .leaf) .leaf)) (.node (some Try.f25) (.node (some Try.f41) (.node (some Try.f73) .leaf .leaf) (.node (some Try.f105) .leaf .leaf)) (.node (some Try.f57) (.node (some Try.f89) .leaf .leaf) .leaf))) (.node (some Try.f13) (.node (some Try.f21) (.node (some Try.f37) (.node (some Try.f69) .leaf .leaf) (.node (some Try.f101) .leaf .leaf)) (.node (some Try.f53) (.node (some Try.f85) .leaf .leaf) .leaf)) (.node (some Try.f29) (.node (some Try.f45) (.node (some Try.f77) .leaf .leaf) .leaf) (.node (some Try.f61) (.node (some Try.f93) .leaf .leaf) .leaf))))) (.node (some Try.f2) (.node (some Try.f4) (.node (some Try.f8) (.node (some Try.f16) (.node (some Try.f32) (.node (some Try.f64) .leaf .leaf) (.node (some Try.f96) .leaf .leaf)) (.node (some Try.f48) (.node (some Try.f80) .leaf .leaf) .leaf)) (.node (some Try.f24) (.node (some Try.f40) (.node (some Try.f72) .leaf .leaf) (.node (some Try.f104) .leaf .leaf)) (.node (some Try.f56) (.node (some Try.f88) .leaf .leaf) .leaf))) (.node (some Try.f12) (.node (some Try.f20) (.node (some Try.f36) (.node (some Try.f68) .leaf .leaf) (.node (some Try.f100) .leaf .leaf)) (.node (some Try.f52) (.node (some Try.f84) .leaf .leaf) .leaf)) (.node (some Try.f28) (.node (some Try.f44) (.node (some Try.f76) .leaf .leaf) .leaf) (.node (some Try.f60) (.node (some Try.f92) .leaf .leaf) .leaf)))) (.node (some Try.f6) (.node (some Try.f10) (.node (some Try.f18) (.node (some Try.f34) (.node (some Try.f66) .leaf .leaf) (.node (some Try.f98) .leaf .leaf)) (.node (some Try.f50) (.node (some Try.f82) .leaf .leaf) .leaf)) (.node (some Try.f26) (.node (some Try.f42) (.node (some Try.f74) .leaf .leaf) .leaf) (.node (some Try.f58) (.node (some Try.f90) .leaf .leaf) .leaf))) (.node (some Try.f14) (.node (some Try.f22) (.node (some Try.f38) (.node (some Try.f70) .leaf .leaf) (.node (some Try.f102) .leaf .leaf)) (.node (some Try.f54) (.node (some Try.f86) .leaf .leaf) .leaf)) (.node (some Try.f30) (.node (some Try.f46) (.node (some Try.f78) .leaf .leaf) .leaf) (.node (some Try.f62) (.node (some Try.f94) .leaf .leaf) .leaf))))))
noncomputable def tab : Tab := { types, funcs }
theorem tok0 : TypeOk Try.prog 0 ti0 := typeOk_of (j := Try.t0) (ju := Try.t0) (by kernel_rfl) (by kernel_rfl)
theorem tok1 : TypeOk Try.prog 1 ti1 := typeOk_of (j := Try.t1) (ju := Try.t1) (by kernel_rfl) (by kernel_rfl)
theorem tok2 : TypeOk Try.prog 2 ti2 := typeOk_of (j := Try.t2) (ju := Try.t2) (by kernel_rfl) (by kernel_rfl)
theorem tok3 : TypeOk Try.prog 3 ti3 := typeOk_of (j := Try.t3) (ju := Try.t3) (by kernel_rfl) (by kernel_rfl)
theorem tok4 : TypeOk Try.prog 4 ti4 := typeOk_of (j := Try.t4) (ju := Try.t4) (by kernel_rfl) (by kernel_rfl)
theorem tok5 : TypeOk Try.prog 5 ti5 := typeOk_of (j := Try.t5) (ju := Try.t5) (by kernel_rfl) (by kernel_rfl)
theorem tok6 : TypeOk Try.prog 6 ti6 := typeOk_of (j := Try.t6) (ju := Try.t5) (by kernel_rfl) (by kernel_rfl)
theorem tok7 : TypeOk Try.prog 7 ti7 := typeOk_of (j := Try.t7) (ju := Try.t7) (by kernel_rfl) (by kernel_rfl)
theorem tok8 : TypeOk Try.prog 8 ti8 := typeOk_of (j := Try.t8) (ju := Try.t7) (by kernel_rfl) (by kernel_rfl)
theorem tok9 : TypeOk Try.prog 9 ti9 := typeOk_of (j := Try.t9) (ju := Try.t9) (by kernel_rfl) (by kernel_rfl)
theorem tok10 : TypeOk Try.prog 10 ti10 := typeOk_of (j := Try.t10) (ju := Try.t9) (by kernel_rfl) (by kernel_rfl)
theorem tok11 : TypeOk Try.prog 11 ti11 := typeOk_of (j := Try.t11) (ju := Try.t9) (by kernel_rfl) (by kernel_rfl)
theorem tok12 : TypeOk Try.prog 12 ti12 := typeOk_of (j := Try.t12) (ju := Try.t12) (by kernel_rfl) (by kernel_rfl)
theorem tok13 : TypeOk Try.prog 13 ti13 := typeOk_of (j := Try.t13) (ju := Try.t13) (by kernel_rfl) (by kernel_rfl)
theorem tok14 : TypeOk Try.prog 14 ti14 := typeOk_of (j := Try.t14) (ju := Try.t13) (by kernel_rfl) (by kernel_rfl)
theorem tok15 : TypeOk Try.prog 15 ti15 := typeOk_of (j := Try.t15) (ju := Try.t15) (by kernel_rfl) (by kernel_rfl)
theorem tok16 : TypeOk Try.prog 16 ti16 := typeOk_of (j := Try.t16) (ju := Try.t16) (by kernel_rfl) (by kernel_rfl)
theorem tok17 : TypeOk Try.prog 17 ti17 := typeOk_of (j := Try.t17) (ju := Try.t17) (by kernel_rfl) (by kernel_rfl)
theorem tok18 : TypeOk Try.prog 18 ti18 := typeOk_of (j := Try.t18) (ju := Try.t18) (by kernel_rfl) (by kernel_rfl)
theorem tok19 : TypeOk Try.prog 19 ti19 := typeOk_of (j := Try.t19) (ju := Try.t18) (by kernel_rfl) (by kernel_rfl)
theorem tok20 : TypeOk Try.prog 20 ti20 := typeOk_of (j := Try.t20) (ju := Try.t20) (by kernel_rfl) (by kernel_rfl)
theorem tok21 : TypeOk Try.prog 21 ti21 := typeOk_of (j := Try.t21) (ju := Try.t21) (by kernel_rfl) (by kernel_rfl)
theorem tok22 : TypeOk Try.prog 22 ti22 := typeOk_of (j := Try.t22) (ju := Try.t22) (by kernel_rfl) (by kernel_rfl)
theorem tok23 : TypeOk Try.prog 23 ti23 := typeOk_of (j := Try.t23) (ju := Try.t23) (by kernel_rfl) (by kernel_rfl)
theorem tok24 : TypeOk Try.prog 24 ti24 := typeOk_of (j := Try.t24) (ju := Try.t24) (by kernel_rfl) (by kernel_rfl)
theorem tok25 : TypeOk Try.prog 25 ti25 := typeOk_of (j := Try.t25) (ju := Try.t24) (by kernel_rfl) (by kernel_rfl)
theorem tok26 : TypeOk Try.prog 26 ti26 := typeOk_of (j := Try.t26) (ju := Try.t26) (by kernel_rfl) (by kernel_rfl)
theorem tok27 : TypeOk Try.prog 27 ti27 := typeOk_of (j := Try.t27) (ju := Try.t27) (by kernel_rfl) (by kernel_rfl)
theorem tok28 : TypeOk Try.prog 28 ti28 := typeOk_of (j := Try.t28) (ju := Try.t28) (by kernel_rfl) (by kernel_rfl)
theorem tok29 : TypeOk Try.prog 29 ti29 := typeOk_of (j := Try.t29) (ju := Try.t29) (by kernel_rfl) (by kernel_rfl)
theorem tok30 : TypeOk Try.prog 30 ti30 := typeOk_of (j := Try.t30) (ju := Try.t3) (by kernel_rfl) (by kernel_rfl)
theorem tok31 : TypeOk Try.prog 31 ti31 := typeOk_of (j := Try.t31) (ju := Try.t31) (by kernel_rfl) (by kernel_rfl)
theorem tok32 : TypeOk Try.prog 32 ti32 := typeOk_of (j := Try.t32) (ju := Try.t32) (by kernel_rfl) (by kernel_rfl)
theorem tok33 : TypeOk Try.prog 33 ti33 := typeOk_of (j := Try.t33) (ju := Try.t33) (by kernel_rfl) (by kernel_rfl)
theorem tok34 : TypeOk Try.prog 34 ti34 := typeOk_of (j := Try.t34) (ju := Try.t34) (by kernel_rfl) (by kernel_rfl)
theorem tok35 : TypeOk Try.prog 35 ti35 := typeOk_of (j := Try.t35) (ju := Try.t35) (by kernel_rfl) (by kernel_rfl)
theorem tok36 : TypeOk Try.prog 36 ti36 := typeOk_of (j := Try.t36) (ju := Try.t35) (by kernel_rfl) (by kernel_rfl)
theorem tok37 : TypeOk Try.prog 37 ti37 := typeOk_of (j := Try.t37) (ju := Try.t37) (by kernel_rfl) (by kernel_rfl)
theorem tok38 : TypeOk Try.prog 38 ti38 := typeOk_of (j := Try.t38) (ju := Try.t37) (by kernel_rfl) (by kernel_rfl)
theorem tok39 : TypeOk Try.prog 39 ti39 := typeOk_of (j := Try.t39) (ju := Try.t3) (by kernel_rfl) (by kernel_rfl)
theorem tok40 : TypeOk Try.prog 40 ti40 := typeOk_of (j := Try.t40) (ju := Try.t40) (by kernel_rfl) (by kernel_rfl)
theorem tok41 : TypeOk Try.prog 41 ti41 := typeOk_of (j := Try.t41) (ju := Try.t41) (by kernel_rfl) (by kernel_rfl)
theorem tok42 : TypeOk Try.prog 42 ti42 := typeOk_of (j := Try.t42) (ju := Try.t41) (by kernel_rfl) (by kernel_rfl)
theorem tok43 : TypeOk Try.prog 43 ti43 := typeOk_of (j := Try.t43) (ju := Try.t43) (by kernel_rfl) (by kernel_rfl)
theorem tok44 : TypeOk Try.prog 44 ti44 := typeOk_of (j := Try.t44) (ju := Try.t44) (by kernel_rfl) (by kernel_rfl)
theorem tok45 : TypeOk Try.prog 45 ti45 := typeOk_of (j := Try.t45) (ju := Try.t45) (by kernel_rfl) (by kernel_rfl)
theorem tok46 : TypeOk Try.prog 46 ti46 := typeOk_of (j := Try.t46) (ju := Try.t45) (by kernel_rfl) (by kernel_rfl)
theorem tok47 : TypeOk Try.prog 47 ti47 := typeOk_of (j := Try.t47) (ju := Try.t47) (by kernel_rfl) (by kernel_rfl)
theorem tok48 : TypeOk Try.prog 48 ti48 := typeOk_of (j := Try.t48) (ju := Try.t48) (by kernel_rfl) (by kernel_rfl)
theorem tok49 : TypeOk Try.prog 49 ti49 := typeOk_of (j := Try.t49) (ju := Try.t48) (by kernel_rfl) (by kernel_rfl)
theorem tok50 : TypeOk Try.prog 50 ti50 := typeOk_of (j := Try.t50) (ju := Try.t50) (by kernel_rfl) (by kernel_rfl)
theorem tok51 : TypeOk Try.prog 51 ti51 := typeOk_of (j := Try.t51) (ju := Try.t51) (by kernel_rfl) (by kernel_rfl)
theorem tok52 : TypeOk Try.prog 52 ti52 := typeOk_of (j := Try.t52) (ju := Try.t51) (by kernel_rfl) (by kernel_rfl)
theorem tok53 : TypeOk Try.prog 53 ti53 := typeOk_of (j := Try.t53) (ju := Try.t53) (by kernel_rfl) (by kernel_rfl)
theorem tok54 : TypeOk Try.prog 54 ti54 := typeOk_of (j := Try.t54) (ju := Try.t54) (by kernel_rfl) (by kernel_rfl)
theorem tok55 : TypeOk Try.prog 55 ti55 := typeOk_of (j := Try.t55) (ju := Try.t55) (by kernel_rfl) (by kernel_rfl)
theorem tok56 : TypeOk Try.prog 56 ti56 := typeOk_of (j := Try.t56) (ju := Try.t56) (by kernel_rfl) (by kernel_rfl)
theorem tok57 : TypeOk Try.prog 57 ti57 := typeOk_of (j := Try.t57) (ju := Try.t57) (by kernel_rfl) (by kernel_rfl)
theorem tok58 : TypeOk Try.prog 58 ti58 := typeOk_of (j := Try.t58) (ju := Try.t58) (by kernel_rfl) (by kernel_rfl)
theorem tok59 : TypeOk Try.prog 59 ti59 := typeOk_of (j := Try.t59) (ju := Try.t59) (by kernel_rfl) (by kernel_rfl)
theorem tok60 : TypeOk Try.prog 60 ti60 := typeOk_of (j := Try.t60) (ju := Try.t60) (by kernel_rfl) (by kernel_rfl)
theorem tok61 : TypeOk Try.prog 61 ti61 := typeOk_of (j := Try.t61) (ju := Try.t60) (by kernel_rfl) (by kernel_rfl)
theorem tok62 : TypeOk Try.prog 62 ti62 := typeOk_of (j := Try.t62) (ju := Try.t62) (by kernel_rfl) (by kernel_rfl)
theorem tok63 : TypeOk Try.prog 63 ti63 := typeOk_of (j := Try.t63) (ju := Try.t63) (by kernel_rfl) (by kernel_rfl)
theorem tok64 : TypeOk Try.prog 64 ti64 := typeOk_of (j := Try.t64) (ju := Try.t3) (by kernel_rfl) (by kernel_rfl)
theorem tok65 : TypeOk Try.prog 65 ti65 := typeOk_of (j := Try.t65) (ju := Try.t65) (by kernel_rfl) (by kernel_rfl)
theorem tok66 : TypeOk Try.prog 66 ti66 := typeOk_of (j := Try.t66) (ju := Try.t65) (by kernel_rfl) (by kernel_rfl)
theorem tok67 : TypeOk Try.prog 67 ti67 := typeOk_of (j := Try.t67) (ju := Try.t67) (by kernel_rfl) (by kernel_rfl)
theorem tok68 : TypeOk Try.prog 68 ti68 := typeOk_of (j := Try.t68) (ju := Try.t68) (by kernel_rfl) (by kernel_rfl)
theorem tok69 : TypeOk Try.prog 69 ti69 := typeOk_of (j := Try.t69) (ju := Try.t69) (by kernel_rfl) (by kernel_rfl)
theorem tok70 : TypeOk Try.prog 70 ti70 := typeOk_of (j := Try.t70) (ju := Try.t70) (by kernel_rfl) (by kernel_rfl)
theorem tok71 : TypeOk Try.prog 71 ti71 := typeOk_of (j := Try.t71) (ju := Try.t71) (by kernel_rfl) (by kernel_rfl)
theorem tok72 : TypeOk Try.prog 72 ti72 := typeOk_of (j := Try.t72) (ju := Try.t72) (by kernel_rfl) (by kernel_rfl)
theorem tok73 : TypeOk Try.prog 73 ti73 := typeOk_of (j := Try.t73) (ju := Try.t73) (by kernel_rfl) (by kernel_rfl)
theorem tok74 : TypeOk Try.prog 74 ti74 := typeOk_of (j := Try.t74) (ju := Try.t74) (by kernel_rfl) (by kernel_rfl)
theorem tok75 : TypeOk Try.prog 75 ti75 := typeOk_of (j := Try.t75) (ju := Try.t74) (by kernel_rfl) (by kernel_rfl)
theorem tok76 : TypeOk Try.prog 76 ti76 := typeOk_of (j := Try.t76) (ju := Try.t76) (by kernel_rfl) (by kernel_rfl)
theorem tok77 : TypeOk Try.prog 77 ti77 := typeOk_of (j := Try.t77) (ju := Try.t77) (by kernel_rfl) (by kernel_rfl)
theorem tok78 : TypeOk Try.prog 78 ti78 := typeOk_of (j := Try.t78) (ju := Try.t78) (by kernel_rfl) (by kernel_rfl)
theorem tok79 : TypeOk Try.prog 79 ti79 := typeOk_of (j := Try.t79) (ju := Try.t79) (by kernel_rfl) (by kernel_rfl)
theorem tok80 : TypeOk Try.prog 80 ti80 := typeOk_of (j := Try.t80) (ju := Try.t80) (by kernel_rfl) (by kernel_rfl)
theorem tok81 : TypeOk Try.prog 81 ti81 := typeOk_of (j := Try.t81) (ju := Try.t80) (by kernel_rfl) (by kernel_rfl)
theorem tok82 : TypeOk Try.prog 82 ti82 := typeOk_of (j := Try.t82) (ju := Try.t82) (by kernel_rfl) (by kernel_rfl)
theorem tok83 : TypeOk Try.prog 83 ti83 := typeOk_of (j := Try.t83) (ju := Try.t83) (by kernel_rfl) (by kernel_rfl)
theorem tok84 : TypeOk Try.prog 84 ti84 := typeOk_of (j := Try.t84) (ju := Try.t84) (by kernel_rfl) (by kernel_rfl)
theorem tok85 : TypeOk Try.prog 85 ti85 := typeOk_of (j := Try.t85) (ju := Try.t85) (by kernel_rfl) (by kernel_rfl)
theorem tok86 : TypeOk Try.prog 86 ti86 := typeOk_of (j := Try.t86) (ju := Try.t26) (by kernel_rfl) (by kernel_rfl)
theorem tok87 : TypeOk Try.prog 87 ti87 := typeOk_of (j := Try.t87) (ju := Try.t87) (by kernel_rfl) (by kernel_rfl)
theorem tok88 : TypeOk Try.prog 88 ti88 := typeOk_of (j := Try.t88) (ju := Try.t88) (by kernel_rfl) (by kernel_rfl)
theorem tok89 : TypeOk Try.prog 89 ti89 := typeOk_of (j := Try.t89) (ju := Try.t89) (by kernel_rfl) (by kernel_rfl)
theorem tok90 : TypeOk Try.prog 90 ti90 := typeOk_of (j := Try.t90) (ju := Try.t90) (by kernel_rfl) (by kernel_rfl)
theorem tok91 : TypeOk Try.prog 91 ti91 := typeOk_of (j := Try.t91) (ju := Try.t91) (by kernel_rfl) (by kernel_rfl)
theorem tok92 : TypeOk Try.prog 92 ti92 := typeOk_of (j := Try.t92) (ju := Try.t91) (by kernel_rfl) (by kernel_rfl)
theorem tok93 : TypeOk Try.prog 93 ti93 := typeOk_of (j := Try.t93) (ju := Try.t93) (by kernel_rfl) (by kernel_rfl)
theorem tok94 : TypeOk Try.prog 94 ti94 := typeOk_of (j := Try.t94) (ju := Try.t94) (by kernel_rfl) (by kernel_rfl)
theorem tok95 : TypeOk Try.prog 95 ti95 := typeOk_of (j := Try.t95) (ju := Try.t94) (by kernel_rfl) (by kernel_rfl)
theorem tok96 : TypeOk Try.prog 96 ti96 := typeOk_of (j := Try.t96) (ju := Try.t96) (by kernel_rfl) (by kernel_rfl)
theorem tok97 : TypeOk Try.prog 97 ti97 := typeOk_of (j := Try.t97) (ju := Try.t97) (by kernel_rfl) (by kernel_rfl)
theorem tok98 : TypeOk Try.prog 98 ti98 := typeOk_of (j := Try.t98) (ju := Try.t98) (by kernel_rfl) (by kernel_rfl)
theorem tok99 : TypeOk Try.prog 99 ti99 := typeOk_of (j := Try.t99) (ju := Try.t99) (by kernel_rfl) (by kernel_rfl)
theorem tok100 : TypeOk Try.prog 100 ti100 := typeOk_of (j := Try.t100) (ju := Try.t100) (by kernel_rfl) (by kernel_rfl)
theorem tok101 : TypeOk Try.prog 101 ti101 := typeOk_of (j := Try.t101) (ju := Try.t101) (by kernel_rfl) (by kernel_rfl)
theorem tok102 : TypeOk Try.prog 102 ti102 := typeOk_of (j := Try.t102) (ju := Try.t102) (by kernel_rfl) (by kernel_rfl)
theorem tok103 : TypeOk Try.prog 103 ti103 := typeOk_of (j := Try.t103) (ju := Try.t103) (by kernel_rfl) (by kernel_rfl)
theorem tok104 : TypeOk Try.prog 104 ti104 := typeOk_of (j := Try.t104) (ju := Try.t103) (by kernel_rfl) (by kernel_rfl)
theorem tok105 : TypeOk Try.prog 105 ti105 := typeOk_of (j := Try.t105) (ju := Try.t105) (by kernel_rfl) (by kernel_rfl)
theorem tok106 : TypeOk Try.prog 106 ti106 := typeOk_of (j := Try.t106) (ju := Try.t106) (by kernel_rfl) (by kernel_rfl)
theorem tok107 : TypeOk Try.prog 107 ti107 := typeOk_of (j := Try.t107) (ju := Try.t107) (by kernel_rfl) (by kernel_rfl)
theorem tok108 : TypeOk Try.prog 108 ti108 := typeOk_of (j := Try.t108) (ju := Try.t108) (by kernel_rfl) (by kernel_rfl)
theorem tok109 : TypeOk Try.prog 109 ti109 := typeOk_of (j := Try.t109) (ju := Try.t109) (by kernel_rfl) (by kernel_rfl)
theorem tok110 : TypeOk Try.prog 110 ti110 := typeOk_of (j := Try.t110) (ju := Try.t109) (by kernel_rfl) (by kernel_rfl)
theorem tok111 : TypeOk Try.prog 111 ti111 := typeOk_of (j := Try.t111) (ju := Try.t111) (by kernel_rfl) (by kernel_rfl)
theorem tok112 : TypeOk Try.prog 112 ti112 := typeOk_of (j := Try.t112) (ju := Try.t112) (by kernel_rfl) (by kernel_rfl)
theorem tok113 : TypeOk Try.prog 113 ti113 := typeOk_of (j := Try.t113) (ju := Try.t113) (by kernel_rfl) (by kernel_rfl)
theorem tok114 : TypeOk Try.prog 114 ti114 := typeOk_of (j := Try.t114) (ju := Try.t114) (by kernel_rfl) (by kernel_rfl)
theorem tok115 : TypeOk Try.prog 115 ti115 := typeOk_of (j := Try.t115) (ju := Try.t115) (by kernel_rfl) (by kernel_rfl)
theorem tok116 : TypeOk Try.prog 116 ti116 := typeOk_of (j := Try.t116) (ju := Try.t116) (by kernel_rfl) (by kernel_rfl)
theorem tok117 : TypeOk Try.prog 117 ti117 := typeOk_of (j := Try.t117) (ju := Try.t117) (by kernel_rfl) (by kernel_rfl)
theorem tok118 : TypeOk Try.prog 118 ti118 := typeOk_of (j := Try.t118) (ju := Try.t118) (by kernel_rfl) (by kernel_rfl)
theorem tok119 : TypeOk Try.prog 119 ti119 := typeOk_of (j := Try.t119) (ju := Try.t119) (by kernel_rfl) (by kernel_rfl)
theorem tok120 : TypeOk Try.prog 120 ti120 := typeOk_of (j := Try.t120) (ju := Try.t120) (by kernel_rfl) (by kernel_rfl)
theorem tok121 : TypeOk Try.prog 121 ti121 := typeOk_of (j := Try.t121) (ju := Try.t121) (by kernel_rfl) (by kernel_rfl)
theorem tok122 : TypeOk Try.prog 122 ti122 := typeOk_of (j := Try.t122) (ju := Try.t122) (by kernel_rfl) (by kernel_rfl)
theorem tok123 : TypeOk Try.prog 123 ti123 := typeOk_of (j := Try.t123) (ju := Try.t123) (by kernel_rfl) (by kernel_rfl)
theorem tok124 : TypeOk Try.prog 124 ti124 := typeOk_of (j := Try.t124) (ju := Try.t124) (by kernel_rfl) (by kernel_rfl)
theorem tok125 : TypeOk Try.prog 125 ti125 := typeOk_of (j := Try.t125) (ju := Try.t124) (by kernel_rfl) (by kernel_rfl)
theorem tok126 : TypeOk Try.prog 126 ti126 := typeOk_of (j := Try.t126) (ju := Try.t126) (by kernel_rfl) (by kernel_rfl)
theorem tok127 : TypeOk Try.prog 127 ti127 := typeOk_of (j := Try.t127) (ju := Try.t127) (by kernel_rfl) (by kernel_rfl)
theorem tok128 : TypeOk Try.prog 128 ti128 := typeOk_of (j := Try.t128) (ju := Try.t127) (by kernel_rfl) (by kernel_rfl)
theorem tok129 : TypeOk Try.prog 129 ti129 := typeOk_of (j := Try.t129) (ju := Try.t129) (by kernel_rfl) (by kernel_rfl)
theorem tok130 : TypeOk Try.prog 130 ti130 := typeOk_of (j := Try.t130) (ju := Try.t130) (by kernel_rfl) (by kernel_rfl)
theorem tok131 : TypeOk Try.prog 131 ti131 := typeOk_of (j := Try.t131) (ju := Try.t131) (by kernel_rfl) (by kernel_rfl)
theorem tok132 : TypeOk Try.prog 132 ti132 := typeOk_of (j := Try.t132) (ju := Try.t132) (by kernel_rfl) (by kernel_rfl)
theorem tok133 : TypeOk Try.prog 133 ti133 := typeOk_of (j := Try.t133) (ju := Try.t133) (by kernel_rfl) (by kernel_rfl)
theorem tok134 : TypeOk Try.prog 134 ti134 := typeOk_of (j := Try.t134) (ju := Try.t134) (by kernel_rfl) (by kernel_rfl)
theorem tok135 : TypeOk Try.prog 135 ti135 := typeOk_of (j := Try.t135) (ju := Try.t135) (by kernel_rfl) (by kernel_rfl)
theorem tok136 : TypeOk Try.prog 136 ti136 := typeOk_of (j := Try.t136) (ju := Try.t136) (by kernel_rfl) (by kernel_rfl)
theorem tok137 : TypeOk Try.prog 137 ti137 := typeOk_of (j := Try.t137) (ju := Try.t137) (by kernel_rfl) (by kernel_rfl)
theorem tok138 : TypeOk Try.prog 138 ti138 := typeOk_of (j := Try.t138) (ju := Try.t138) (by kernel_rfl) (by kernel_rfl)
theorem tok139 : TypeOk Try.prog 139 ti139 := typeOk_of (j := Try.t139) (ju := Try.t139) (by kernel_rfl) (by kernel_rfl)
theorem tok140 : TypeOk Try.prog 140 ti140 := typeOk_of (j := Try.t140) (ju := Try.t140) (by kernel_rfl) (by kernel_rfl)
theorem tok141 : TypeOk Try.prog 141 ti141 := typeOk_of (j := Try.t141) (ju := Try.t141) (by kernel_rfl) (by kernel_rfl)
theorem tok142 : TypeOk Try.prog 142 ti142 := typeOk_of (j := Try.t142) (ju := Try.t142) (by kernel_rfl) (by kernel_rfl)
theorem tok143 : TypeOk Try.prog 143 ti143 := typeOk_of (j := Try.t143) (ju := Try.t143) (by kernel_rfl) (by kernel_rfl)
theorem tok144 : TypeOk Try.prog 144 ti144 := typeOk_of (j := Try.t144) (ju := Try.t144) (by kernel_rfl) (by kernel_rfl)
theorem tok145 : TypeOk Try.prog 145 ti145 := typeOk_of (j := Try.t145) (ju := Try.t145) (by kernel_rfl) (by kernel_rfl)
theorem tok146 : TypeOk Try.prog 146 ti146 := typeOk_of (j := Try.t146) (ju := Try.t146) (by kernel_rfl) (by kernel_rfl)
theorem tok147 : TypeOk Try.prog 147 ti147 := typeOk_of (j := Try.t147) (ju := Try.t147) (by kernel_rfl) (by kernel_rfl)
theorem tok148 : TypeOk Try.prog 148 ti148 := typeOk_of (j := Try.t148) (ju := Try.t148) (by kernel_rfl) (by kernel_rfl)
theorem tok149 : TypeOk Try.prog 149 ti149 := typeOk_of (j := Try.t149) (ju := Try.t149) (by kernel_rfl) (by kernel_rfl)
theorem tok150 : TypeOk Try.prog 150 ti150 := typeOk_of (j := Try.t150) (ju := Try.t150) (by kernel_rfl) (by kernel_rfl)
theorem tok151 : TypeOk Try.prog 151 ti151 := typeOk_of (j := Try.t151) (ju := Try.t151) (by kernel_rfl) (by kernel_rfl)
theorem tok152 : TypeOk Try.prog 152 ti152 := typeOk_of (j := Try.t152) (ju := Try.t152) (by kernel_rfl) (by kernel_rfl)
theorem tok153 : TypeOk Try.prog 153 ti153 := typeOk_of (j := Try.t153) (ju := Try.t153) (by kernel_rfl) (by kernel_rfl)
theorem tok154 : TypeOk Try.prog 154 ti154 := typeOk_of (j := Try.t154) (ju := Try.t154) (by kernel_rfl) (by kernel_rfl)
theorem tok155 : TypeOk Try.prog 155 ti155 := typeOk_of (j := Try.t155) (ju := Try.t154) (by kernel_rfl) (by kernel_rfl)
theorem tok156 : TypeOk Try.prog 156 ti156 := typeOk_of (j := Try.t156) (ju := Try.t156) (by kernel_rfl) (by kernel_rfl)
theorem tok157 : TypeOk Try.prog 157 ti157 := typeOk_of (j := Try.t157) (ju := Try.t157) (by kernel_rfl) (by kernel_rfl)
theorem tok158 : TypeOk Try.prog 158 ti158 := typeOk_of (j := Try.t158) (ju := Try.t157) (by kernel_rfl) (by kernel_rfl)
theorem tok159 : TypeOk Try.prog 159 ti159 := typeOk_of (j := Try.t159) (ju := Try.t159) (by kernel_rfl) (by kernel_rfl)
theorem tok160 : TypeOk Try.prog 160 ti160 := typeOk_of (j := Try.t160) (ju := Try.t160) (by kernel_rfl) (by kernel_rfl)
theorem tok161 : TypeOk Try.prog 161 ti161 := typeOk_of (j := Try.t161) (ju := Try.t5) (by kernel_rfl) (by kernel_rfl)
theorem tok162 : TypeOk Try.prog 162 ti162 := typeOk_of (j := Try.t162) (ju := Try.t5) (by kernel_rfl) (by kernel_rfl)
theorem tok163 : TypeOk Try.prog 163 ti163 := typeOk_of (j := Try.t163) (ju := Try.t163) (by kernel_rfl) (by kernel_rfl)
theorem tok164 : TypeOk Try.prog 164 ti164 := typeOk_of (j := Try.t164) (ju := Try.t164) (by kernel_rfl) (by kernel_rfl)
theorem tok165 : TypeOk Try.prog 165 ti165 := typeOk_of (j := Try.t165) (ju := Try.t21) (by kernel_rfl) (by kernel_rfl)
theorem tok166 : TypeOk Try.prog 166 ti166 := typeOk_of (j := Try.t166) (ju := Try.t21) (by kernel_rfl) (by kernel_rfl)
theorem tok167 : TypeOk Try.prog 167 ti167 := typeOk_of (j := Try.t167) (ju := Try.t167) (by kernel_rfl) (by kernel_rfl)
theorem tok168 : TypeOk Try.prog 168 ti168 := typeOk_of (j := Try.t168) (ju := Try.t167) (by kernel_rfl) (by kernel_rfl)
theorem tok169 : TypeOk Try.prog 169 ti169 := typeOk_of (j := Try.t169) (ju := Try.t169) (by kernel_rfl) (by kernel_rfl)
theorem tok170 : TypeOk Try.prog 170 ti170 := typeOk_of (j := Try.t170) (ju := Try.t170) (by kernel_rfl) (by kernel_rfl)
theorem tok171 : TypeOk Try.prog 171 ti171 := typeOk_of (j := Try.t171) (ju := Try.t171) (by kernel_rfl) (by kernel_rfl)
theorem tok172 : TypeOk Try.prog 172 ti172 := typeOk_of (j := Try.t172) (ju := Try.t171) (by kernel_rfl) (by kernel_rfl)
theorem fok0 : FuncOk Try.prog 0 Try.f0 := funcOk_of Try.func0 (by kernel_rfl) (by kernel_rfl)
theorem fok1 : FuncOk Try.prog 1 Try.f1 := funcOk_of Try.func1 (by kernel_rfl) (by kernel_rfl)
theorem fok2 : FuncOk Try.prog 2 Try.f2 := funcOk_of Try.func2 (by kernel_rfl) (by kernel_rfl)
theorem fok3 : FuncOk Try.prog 3 Try.f3 := funcOk_of Try.func3 (by kernel_rfl) (by kernel_rfl)
theorem fok4 : FuncOk Try.prog 4 Try.f4 := funcOk_of Try.func4 (by kernel_rfl) (by kernel_rfl)
theorem fok5 : FuncOk Try.prog 5 Try.f5 := funcOk_of Try.func5 (by kernel_rfl) (by kernel_rfl)
theorem fok6 : FuncOk Try.prog 6 Try.f6 := funcOk_of Try.func6 (by kernel_rfl) (by kernel_rfl)
theorem fok7 : FuncOk Try.prog 7 Try.f7 := funcOk_of Try.func7 (by kernel_rfl) (by kernel_rfl)
theorem fok8 : FuncOk Try.prog 8 Try.f8 := funcOk_of Try.func8 (by kernel_rfl) (by kernel_rfl)
theorem fok9 : FuncOk Try.prog 9 Try.f9 := funcOk_of Try.func9 (by kernel_rfl) (by kernel_rfl)
theorem fok10 : FuncOk Try.prog 10 Try.f10 := funcOk_of Try.func10 (by kernel_rfl) (by kernel_rfl)
theorem fok11 : FuncOk Try.prog 11 Try.f11 := funcOk_of Try.func11 (by kernel_rfl) (by kernel_rfl)
theorem fok12 : FuncOk Try.prog 12 Try.f12 := funcOk_of Try.func12 (by kernel_rfl) (by kernel_rfl)
theorem fok13 : FuncOk Try.prog 13 Try.f13 := funcOk_of Try.func13 (by kernel_rfl) (by kernel_rfl)
theorem fok14 : FuncOk Try.prog 14 Try.f14 := funcOk_of Try.func14 (by kernel_rfl) (by kernel_rfl)
theorem fok15 : FuncOk Try.prog 15 Try.f15 := funcOk_of Try.func15 (by kernel_rfl) (by kernel_rfl)
theorem fok16 : FuncOk Try.prog 16 Try.f16 := funcOk_of Try.func16 (by kernel_rfl) (by kernel_rfl)
theorem fok17 : FuncOk Try.prog 17 Try.f17 := funcOk_of Try.func17 (by kernel_rfl) (by kernel_rfl)
theorem fok18 : FuncOk Try.prog 18 Try.f18 := funcOk_of Try.func18 (by kernel_rfl) (by kernel_rfl)
theorem fok19 : FuncOk Try.prog 19 Try.f19 := funcOk_of Try.func19 (by kernel_rfl) (by kernel_rfl)
theorem fok20 : FuncOk Try.prog 20 Try.f20 := funcOk_of Try.func20 (by kernel_rfl) (by kernel_rfl)
theorem fok21 : FuncOk Try.prog 21 Try.f21 := funcOk_of Try.func21 (by kernel_rfl) (by kernel_rfl)
theorem fok22 : FuncOk Try.prog 22 Try.f22 := funcOk_of Try.func22 (by kernel_rfl) (by kernel_rfl)
theorem fok23 : FuncOk Try.prog 23 Try.f23 := funcOk_of Try.func23 (by kernel_rfl) (by kernel_rfl)
theorem fok24 : FuncOk Try.prog 24 Try.f24 := funcOk_of Try.func24 (by kernel_rfl) (by kernel_rfl)
theorem fok25 : FuncOk Try.prog 25 Try.f25 := funcOk_of Try.func25 (by kernel_rfl) (by kernel_rfl)
theorem fok26 : FuncOk Try.prog 26 Try.f26 := funcOk_of Try.func26 (by kernel_rfl) (by kernel_rfl)
theorem fok27 : FuncOk Try.prog 27 Try.f27 := funcOk_of Try.func27 (by kernel_rfl) (by kernel_rfl)
theorem fok28 : FuncOk Try.prog 28 Try.f28 := funcOk_of Try.func28 (by kernel_rfl) (by kernel_rfl)
theorem fok29 : FuncOk Try.prog 29 Try.f29 := funcOk_of Try.func29 (by kernel_rfl) (by kernel_rfl)
theorem fok30 : FuncOk Try.prog 30 Try.f30 := funcOk_of Try.func30 (by kernel_rfl) (by kernel_rfl)
theorem fok31 : FuncOk Try.prog 31 Try.f31 := funcOk_of Try.func31 (by kernel_rfl) (by kernel_rfl)
theorem fok32 : FuncOk Try.prog 32 Try.f32 := funcOk_of Try.func32 (by kernel_rfl) (by kernel_rfl)
theorem fok33 : FuncOk Try.prog 33 Try.f33 := funcOk_of Try.func33 (by kernel_rfl) (by kernel_rfl)
theorem fok34 : FuncOk Try.prog 34 Try.f34 := funcOk_of Try.func34 (by kernel_rfl) (by kernel_rfl)
theorem fok35 : FuncOk Try.prog 35 Try.f35 := funcOk_of Try.func35 (by kernel_rfl) (by kernel_rfl)
theorem fok36 : FuncOk Try.prog 36 Try.f36 := funcOk_of Try.func36 (by kernel_rfl) (by kernel_rfl)
theorem fok37 : FuncOk Try.prog 37 Try.f37 := funcOk_of Try.func37 (by kernel_rfl) (by kernel_rfl)
theorem fok38 : FuncOk Try.prog 38 Try.f38 := funcOk_of Try.func38 (by kernel_rfl) (by kernel_rfl)
theorem fok39 : FuncOk Try.prog 39 Try.f39 := funcOk_of Try.func39 (by kernel_rfl) (by kernel_rfl)
theorem fok40 : FuncOk Try.prog 40 Try.f40 := funcOk_of Try.func40 (by kernel_rfl) (by kernel_rfl)
theorem fok41 : FuncOk Try.prog 41 Try.f41 := funcOk_of Try.func41 (by kernel_rfl) (by kernel_rfl)
theorem fok42 : FuncOk Try.prog 42 Try.f42 := funcOk_of Try.func42 (by kernel_rfl) (by kernel_rfl)
theorem fok43 : FuncOk Try.prog 43 Try.f43 := funcOk_of Try.func43 (by kernel_rfl) (by kernel_rfl)
theorem fok44 : FuncOk Try.prog 44 Try.f44 := funcOk_of Try.func44 (by kernel_rfl) (by kernel_rfl)
theorem fok45 : FuncOk Try.prog 45 Try.f45 := funcOk_of Try.func45 (by kernel_rfl) (by kernel_rfl)
theorem fok46 : FuncOk Try.prog 46 Try.f46 := funcOk_of Try.func46 (by kernel_rfl) (by kernel_rfl)
theorem fok47 : FuncOk Try.prog 47 Try.f47 := funcOk_of Try.func47 (by kernel_rfl) (by kernel_rfl)
theorem fok48 : FuncOk Try.prog 48 Try.f48 := funcOk_of Try.func48 (by kernel_rfl) (by kernel_rfl)
theorem fok49 : FuncOk Try.prog 49 Try.f49 := funcOk_of Try.func49 (by kernel_rfl) (by kernel_rfl)
theorem fok50 : FuncOk Try.prog 50 Try.f50 := funcOk_of Try.func50 (by kernel_rfl) (by kernel_rfl)
theorem fok51 : FuncOk Try.prog 51 Try.f51 := funcOk_of Try.func51 (by kernel_rfl) (by kernel_rfl)
theorem fok52 : FuncOk Try.prog 52 Try.f52 := funcOk_of Try.func52 (by kernel_rfl) (by kernel_rfl)
theorem fok53 : FuncOk Try.prog 53 Try.f53 := funcOk_of Try.func53 (by kernel_rfl) (by kernel_rfl)
theorem fok54 : FuncOk Try.prog 54 Try.f54 := funcOk_of Try.func54 (by kernel_rfl) (by kernel_rfl)
theorem fok55 : FuncOk Try.prog 55 Try.f55 := funcOk_of Try.func55 (by kernel_rfl) (by kernel_rfl)
theorem fok56 : FuncOk Try.prog 56 Try.f56 := funcOk_of Try.func56 (by kernel_rfl) (by kernel_rfl)
theorem fok57 : FuncOk Try.prog 57 Try.f57 := funcOk_of Try.func57 (by kernel_rfl) (by kernel_rfl)
theorem fok58 : FuncOk Try.prog 58 Try.f58 := funcOk_of Try.func58 (by kernel_rfl) (by kernel_rfl)
theorem fok59 : FuncOk Try.prog 59 Try.f59 := funcOk_of Try.func59 (by kernel_rfl) (by kernel_rfl)
theorem fok60 : FuncOk Try.prog 60 Try.f60 := funcOk_of Try.func60 (by kernel_rfl) (by kernel_rfl)
theorem fok61 : FuncOk Try.prog 61 Try.f61 := funcOk_of Try.func61 (by kernel_rfl) (by kernel_rfl)
theorem fok62 : FuncOk Try.prog 62 Try.f62 := funcOk_of Try.func62 (by kernel_rfl) (by kernel_rfl)
theorem fok63 : FuncOk Try.prog 63 Try.f63 := funcOk_of Try.func63 (by kernel_rfl) (by kernel_rfl)
theorem fok64 : FuncOk Try.prog 64 Try.f64 := funcOk_of Try.func64 (by kernel_rfl) (by kernel_rfl)
theorem fok65 : FuncOk Try.prog 65 Try.f65 := funcOk_of Try.func65 (by kernel_rfl) (by kernel_rfl)
theorem fok66 : FuncOk Try.prog 66 Try.f66 := funcOk_of Try.func66 (by kernel_rfl) (by kernel_rfl)
theorem fok67 : FuncOk Try.prog 67 Try.f67 := funcOk_of Try.func67 (by kernel_rfl) (by kernel_rfl)
theorem fok68 : FuncOk Try.prog 68 Try.f68 := funcOk_of Try.func68 (by kernel_rfl) (by kernel_rfl)
theorem fok69 : FuncOk Try.prog 69 Try.f69 := funcOk_of Try.func69 (by kernel_rfl) (by kernel_rfl)
theorem fok70 : FuncOk Try.prog 70 Try.f70 := funcOk_of Try.func70 (by kernel_rfl) (by kernel_rfl)
theorem fok71 : FuncOk Try.prog 71 Try.f71 := funcOk_of Try.func71 (by kernel_rfl) (by kernel_rfl)
theorem fok72 : FuncOk Try.prog 72 Try.f72 := funcOk_of Try.func72 (by kernel_rfl) (by kernel_rfl)
theorem fok73 : FuncOk Try.prog 73 Try.f73 := funcOk_of Try.func73 (by kernel_rfl) (by kernel_rfl)
theorem fok74 : FuncOk Try.prog 74 Try.f74 := funcOk_of Try.func74 (by kernel_rfl) (by kernel_rfl)
theorem fok75 : FuncOk Try.prog 75 Try.f75 := funcOk_of Try.func75 (by kernel_rfl) (by kernel_rfl)
theorem fok76 : FuncOk Try.prog 76 Try.f76 := funcOk_of Try.func76 (by kernel_rfl) (by kernel_rfl)
theorem fok77 : FuncOk Try.prog 77 Try.f77 := funcOk_of Try.func77 (by kernel_rfl) (by kernel_rfl)
theorem fok78 : FuncOk Try.prog 78 Try.f78 := funcOk_of Try.func78 (by kernel_rfl) (by kernel_rfl)
theorem fok79 : FuncOk Try.prog 79 Try.f79 := funcOk_of Try.func79 (by kernel_rfl) (by kernel_rfl)
theorem fok80 : FuncOk Try.prog 80 Try.f80 := funcOk_of Try.func80 (by kernel_rfl) (by kernel_rfl)
theorem fok81 : FuncOk Try.prog 81 Try.f81 := funcOk_of Try.func81 (by kernel_rfl) (by kernel_rfl)
theorem fok82 : FuncOk Try.prog 82 Try.f82 := funcOk_of Try.func82 (by kernel_rfl) (by kernel_rfl)
theorem fok83 : FuncOk Try.prog 83 Try.f83 := funcOk_of Try.func83 (by kernel_rfl) (by kernel_rfl)
theorem fok84 : FuncOk Try.prog 84 Try.f84 := funcOk_of Try.func84 (by kernel_rfl) (by kernel_rfl)
theorem fok85 : FuncOk Try.prog 85 Try.f85 := funcOk_of Try.func85 (by kernel_rfl) (by kernel_rfl)
theorem fok86 : FuncOk Try.prog 86 Try.f86 := funcOk_of Try.func86 (by kernel_rfl) (by kernel_rfl)
theorem fok87 : FuncOk Try.prog 87 Try.f87 := funcOk_of Try.func87 (by kernel_rfl) (by kernel_rfl)
theorem fok88 : FuncOk Try.prog 88 Try.f88 := funcOk_of Try.func88 (by kernel_rfl) (by kernel_rfl)
theorem fok89 : FuncOk Try.prog 89 Try.f89 := funcOk_of Try.func89 (by kernel_rfl) (by kernel_rfl)
theorem fok90 : FuncOk Try.prog 90 Try.f90 := funcOk_of Try.func90 (by kernel_rfl) (by kernel_rfl)
theorem fok91 : FuncOk Try.prog 91 Try.f91 := funcOk_of Try.func91 (by kernel_rfl) (by kernel_rfl)
theorem fok92 : FuncOk Try.prog 92 Try.f92 := funcOk_of Try.func92 (by kernel_rfl) (by kernel_rfl)
theorem fok93 : FuncOk Try.prog 93 Try.f93 := funcOk_of Try.func93 (by kernel_rfl) (by kernel_rfl)
theorem fok94 : FuncOk Try.prog 94 Try.f94 := funcOk_of Try.func94 (by kernel_rfl) (by kernel_rfl)
theorem fok95 : FuncOk Try.prog 95 Try.f95 := funcOk_of Try.func95 (by kernel_rfl) (by kernel_rfl)
theorem fok96 : FuncOk Try.prog 96 Try.f96 := funcOk_of Try.func96 (by kernel_rfl) (by kernel_rfl)
theorem fok97 : FuncOk Try.prog 97 Try.f97 := funcOk_of Try.func97 (by kernel_rfl) (by kernel_rfl)
theorem fok98 : FuncOk Try.prog 98 Try.f98 := funcOk_of Try.func98 (by kernel_rfl) (by kernel_rfl)
theorem fok99 : FuncOk Try.prog 99 Try.f99 := funcOk_of Try.func99 (by kernel_rfl) (by kernel_rfl)
theorem fok100 : FuncOk Try.prog 100 Try.f100 := funcOk_of Try.func100 (by kernel_rfl) (by kernel_rfl)
theorem fok101 : FuncOk Try.prog 101 Try.f101 := funcOk_of Try.func101 (by kernel_rfl) (by kernel_rfl)
theorem fok102 : FuncOk Try.prog 102 Try.f102 := funcOk_of Try.func102 (by kernel_rfl) (by kernel_rfl)
theorem fok103 : FuncOk Try.prog 103 Try.f103 := funcOk_of Try.func103 (by kernel_rfl) (by kernel_rfl)
theorem fok104 : FuncOk Try.prog 104 Try.f104 := funcOk_of Try.func104 (by kernel_rfl) (by kernel_rfl)
theorem fok105 : FuncOk Try.prog 105 Try.f105 := funcOk_of Try.func105 (by kernel_rfl) (by kernel_rfl)
theorem tab_ok : tab.Ok Try.prog := tabOk_of
 (show AllP (TypeOk Try.prog) types.toList from ⟨tok0, tok1, tok3, tok7, tok15, tok31, tok63, tok127, tok95, tok159, tok47, tok79, tok143, tok111, tok23, tok39, tok71, tok135, tok103, tok167, tok55, tok87, tok151, tok119, tok11, tok19, tok35, tok67, tok131, tok99, tok163, tok51, tok83, tok147, tok115, tok27, tok43, tok75, tok139, tok107, tok171, tok59, tok91, tok155, tok123, tok5, tok9, tok17, tok33, tok65, tok129, tok97, tok161, tok49, tok81, tok145, tok113, tok25, tok41, tok73, tok137, tok105, tok169, tok57, tok89, tok153, tok121, tok13, tok21, tok37, tok69, tok133, tok101, tok165, tok53, tok85, tok149, tok117, tok29, tok45, tok77, tok141, tok109, tok61, tok93, tok157, tok125, tok2, tok4, tok8, tok16, tok32, tok64, tok128, tok96, tok160, tok48, tok80, tok144, tok112, tok24, tok40, tok72, tok136, tok104, tok168, tok56, tok88, tok152, tok120, tok12, tok20, tok36, tok68, tok132, tok100, tok164, tok52, tok84, tok148, tok116, tok28, tok44, tok76, tok140, tok108, tok172, tok60, tok92, tok156, tok124, tok6, tok10, tok18, tok34, tok66, tok130, tok98, tok162, tok50, tok82, tok146, tok114, tok26, tok42, tok74, tok138, tok106, tok170, tok58, tok90, tok154, tok122, tok14, tok22, tok38, tok70, tok134, tok102, tok166, tok54, tok86, tok150, tok118, tok30, tok46, tok78, tok142, tok110, tok62, tok94, tok158, tok126, trivial⟩)
 (show AllP (FuncOk Try.prog) funcs.toList from ⟨fok0, fok1, fok3, fok7, fok15, fok31, fok63, fok95, fok47, fok79, fok23, fok39, fok71, fok103, fok55, fok87, fok11, fok19, fok35, fok67, fok99, fok51, fok83, fok27, fok43, fok75, fok59, fok91, fok5, fok9, fok17, fok33, fok65, fok97, fok49, fok81, fok25, fok41, fok73, fok105, fok57, fok89, fok13, fok21, fok37, fok69, fok101, fok53, fok85, fok29, fok45, fok77, fok61, fok93, fok2, fok4, fok8, fok16, fok32, fok64, fok96, fok48, fok80, fok24, fok40, fok72, fok104, fok56, fok88, fok12, fok20, fok36, fok68, fok100, fok52, fok84, fok28, fok44, fok76, fok60, fok92, fok6, fok10, fok18, fok34, fok66, fok98, fok50, fok82, fok26, fok42, fok74, fok58, fok90, fok14, fok22, fok38, fok70, fok102, fok54, fok86, fok30, fok46, fok78, fok62, fok94, trivial⟩)
 Try.checked.mixed rfl
end Go.Ai.TabYtmnbnppfidghoaa

/- math.Sqrt answers as the model's entry does. -/
namespace Go.Ai.TabYtmnbnppfidghoaa
open Go Go.Proofs Go.RowKit
theorem sqrt_run {x r : Nat} (hr : FloatKind.f64.format.sqrt x = some r) (w : World) :
    (callFunc 88 #[.float .f64 x]).run Try.prog w = .ok (.value (.float .f64 r)) w := by
  rw [run_callFunc_extern (fn := Try.f88) (e := Extern.MathSqrt.sqrt) (by kernel_rfl) (by kernel_rfl) (by kernel_rfl) (by kernel_rfl) (by kernel_rfl)]
  have : Extern.MathSqrt.sqrt #[.float .f64 x] = pure (Value.float .f64 r) := by
    show (match FloatKind.f64.format.sqrt x with
      | some r => pure (Value.float .f64 r)
      | none => do pure (Value.float .f64 (← choose (.nanBits .f64 x x)))) = _
    rw [hr]
  rw [this]
  rfl
set_option maxRecDepth 100000 in
theorem sqrt_calls {x r : Nat} (hr : FloatKind.f64.format.sqrt x = some r) (w : World) :
    Calls Try.prog 87 #[.float .f64 x] w fun e w' => e = .returned (.float .f64 r) ∧ w' = w := by
  go_enter Try.func87, Try.ntmps87
  go_wp2_with fail
  rw [sqrt_run hr]
  go_wp2_with fail
  go_ret
  exact ⟨rfl, rfl⟩
end Go.Ai.TabYtmnbnppfidghoaa
