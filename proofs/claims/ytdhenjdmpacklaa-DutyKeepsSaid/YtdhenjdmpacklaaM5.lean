/- Written by program: the tables of the seat's program for the abstract interpreter, and that they agree with it. -/
import Derived.Test.YtdhenjdmpacklaaM4
import Derived.Eval
import Derived.Test.YtdhenjdmpacklaaChecked
import Derived.KernelRfl
import Derived.Test.YtdhenjdmpacklaaM2
namespace Go.Ai.TabYtdhenjdmpacklaa
open Go Go.Ai Go.Proofs
noncomputable def tI (d t : TypeInfo) (k : Nat) : TInfo := { desc := d.desc, size := t.size, bytes := t.bytes, zero := t.zero.bind ofVal, stood := Try.prog.stoodInHeld k, eqg := Try.prog.eqGuardType Try.prog.depth k }
noncomputable def ti0 := tI Try.t0 Try.t0 0
noncomputable def ti1 := tI Try.t1 Try.t1 1
noncomputable def ti2 := tI Try.t2 Try.t2 2
noncomputable def ti3 := tI Try.t3 Try.t3 3
noncomputable def ti4 := tI Try.t4 Try.t4 4
noncomputable def ti5 := tI Try.t5 Try.t5 5
noncomputable def ti6 := tI Try.t5 Try.t6 6
noncomputable def ti7 := tI Try.t7 Try.t7 7
noncomputable def ti8 := tI Try.t7 Try.t8 8
noncomputable def ti9 := tI Try.t9 Try.t9 9
noncomputable def ti10 := tI Try.t9 Try.t10 10
noncomputable def ti11 := tI Try.t9 Try.t11 11
noncomputable def ti12 := tI Try.t12 Try.t12 12
noncomputable def ti13 := tI Try.t13 Try.t13 13
noncomputable def ti14 := tI Try.t13 Try.t14 14
noncomputable def ti15 := tI Try.t15 Try.t15 15
noncomputable def ti16 := tI Try.t16 Try.t16 16
noncomputable def ti17 := tI Try.t17 Try.t17 17
noncomputable def ti18 := tI Try.t18 Try.t18 18
noncomputable def ti19 := tI Try.t18 Try.t19 19
noncomputable def ti20 := tI Try.t20 Try.t20 20
noncomputable def ti21 := tI Try.t21 Try.t21 21
noncomputable def ti22 := tI Try.t22 Try.t22 22
noncomputable def ti23 := tI Try.t23 Try.t23 23
noncomputable def ti24 := tI Try.t24 Try.t24 24
noncomputable def ti25 := tI Try.t25 Try.t25 25
noncomputable def ti26 := tI Try.t25 Try.t26 26
noncomputable def ti27 := tI Try.t27 Try.t27 27
noncomputable def ti28 := tI Try.t28 Try.t28 28
noncomputable def ti29 := tI Try.t29 Try.t29 29
noncomputable def ti30 := tI Try.t30 Try.t30 30
noncomputable def ti31 := tI Try.t30 Try.t31 31
noncomputable def ti32 := tI Try.t3 Try.t32 32
noncomputable def ti33 := tI Try.t33 Try.t33 33
noncomputable def ti34 := tI Try.t34 Try.t34 34
noncomputable def ti35 := tI Try.t35 Try.t35 35
noncomputable def ti36 := tI Try.t36 Try.t36 36
noncomputable def ti37 := tI Try.t37 Try.t37 37
noncomputable def ti38 := tI Try.t38 Try.t38 38
noncomputable def ti39 := tI Try.t39 Try.t39 39
noncomputable def ti40 := tI Try.t40 Try.t40 40
noncomputable def ti41 := tI Try.t41 Try.t41 41
noncomputable def ti42 := tI Try.t41 Try.t42 42
noncomputable def ti43 := tI Try.t43 Try.t43 43
noncomputable def ti44 := tI Try.t44 Try.t44 44
noncomputable def ti45 := tI Try.t45 Try.t45 45
noncomputable def ti46 := tI Try.t46 Try.t46 46
noncomputable def ti47 := tI Try.t47 Try.t47 47
noncomputable def ti48 := tI Try.t48 Try.t48 48
noncomputable def ti49 := tI Try.t49 Try.t49 49
noncomputable def ti50 := tI Try.t50 Try.t50 50
noncomputable def ti51 := tI Try.t51 Try.t51 51
noncomputable def ti52 := tI Try.t52 Try.t52 52
noncomputable def ti53 := tI Try.t53 Try.t53 53
noncomputable def ti54 := tI Try.t54 Try.t54 54
noncomputable def ti55 := tI Try.t55 Try.t55 55
noncomputable def ti56 := tI Try.t56 Try.t56 56
noncomputable def ti57 := tI Try.t57 Try.t57 57
noncomputable def ti58 := tI Try.t58 Try.t58 58
noncomputable def ti59 := tI Try.t59 Try.t59 59
noncomputable def ti60 := tI Try.t60 Try.t60 60
noncomputable def ti61 := tI Try.t61 Try.t61 61
noncomputable def ti62 := tI Try.t61 Try.t62 62
noncomputable def ti63 := tI Try.t63 Try.t63 63
noncomputable def ti64 := tI Try.t64 Try.t64 64
noncomputable def ti65 := tI Try.t65 Try.t65 65
noncomputable def ti66 := tI Try.t66 Try.t66 66
noncomputable def ti67 := tI Try.t67 Try.t67 67
noncomputable def ti68 := tI Try.t3 Try.t68 68
noncomputable def ti69 := tI Try.t69 Try.t69 69
noncomputable def ti70 := tI Try.t70 Try.t70 70
noncomputable def ti71 := tI Try.t71 Try.t71 71
noncomputable def ti72 := tI Try.t72 Try.t72 72
noncomputable def ti73 := tI Try.t73 Try.t73 73
noncomputable def ti74 := tI Try.t74 Try.t74 74
noncomputable def ti75 := tI Try.t75 Try.t75 75
noncomputable def ti76 := tI Try.t76 Try.t76 76
noncomputable def ti77 := tI Try.t77 Try.t77 77
noncomputable def ti78 := tI Try.t77 Try.t78 78
noncomputable def ti79 := tI Try.t79 Try.t79 79
noncomputable def ti80 := tI Try.t80 Try.t80 80
noncomputable def ti81 := tI Try.t80 Try.t81 81
noncomputable def ti82 := tI Try.t82 Try.t82 82
noncomputable def ti83 := tI Try.t83 Try.t83 83
noncomputable def ti84 := tI Try.t84 Try.t84 84
noncomputable def ti85 := tI Try.t85 Try.t85 85
noncomputable def ti86 := tI Try.t86 Try.t86 86
noncomputable def ti87 := tI Try.t86 Try.t87 87
noncomputable def ti88 := tI Try.t88 Try.t88 88
noncomputable def ti89 := tI Try.t89 Try.t89 89
noncomputable def ti90 := tI Try.t90 Try.t90 90
noncomputable def ti91 := tI Try.t91 Try.t91 91
noncomputable def ti92 := tI Try.t92 Try.t92 92
noncomputable def ti93 := tI Try.t93 Try.t93 93
noncomputable def ti94 := tI Try.t94 Try.t94 94
noncomputable def ti95 := tI Try.t95 Try.t95 95
noncomputable def ti96 := tI Try.t95 Try.t96 96
noncomputable def ti97 := tI Try.t97 Try.t97 97
noncomputable def ti98 := tI Try.t98 Try.t98 98
noncomputable def ti99 := tI Try.t98 Try.t99 99
noncomputable def ti100 := tI Try.t100 Try.t100 100
noncomputable def ti101 := tI Try.t101 Try.t101 101
noncomputable def ti102 := tI Try.t102 Try.t102 102
noncomputable def ti103 := tI Try.t103 Try.t103 103
noncomputable def ti104 := tI Try.t104 Try.t104 104
noncomputable def ti105 := tI Try.t105 Try.t105 105
noncomputable def ti106 := tI Try.t106 Try.t106 106
noncomputable def ti107 := tI Try.t107 Try.t107 107
noncomputable def ti108 := tI Try.t108 Try.t108 108
noncomputable def ti109 := tI Try.t109 Try.t109 109
noncomputable def ti110 := tI Try.t110 Try.t110 110
noncomputable def ti111 := tI Try.t111 Try.t111 111
noncomputable def ti112 := tI Try.t112 Try.t112 112
noncomputable def ti113 := tI Try.t112 Try.t113 113
noncomputable def ti114 := tI Try.t114 Try.t114 114
noncomputable def ti115 := tI Try.t115 Try.t115 115
noncomputable def ti116 := tI Try.t116 Try.t116 116
noncomputable def ti117 := tI Try.t117 Try.t117 117
noncomputable def ti118 := tI Try.t118 Try.t118 118
noncomputable def ti119 := tI Try.t118 Try.t119 119
noncomputable def ti120 := tI Try.t120 Try.t120 120
noncomputable def ti121 := tI Try.t121 Try.t121 121
noncomputable def ti122 := tI Try.t122 Try.t122 122
noncomputable def ti123 := tI Try.t123 Try.t123 123
noncomputable def ti124 := tI Try.t124 Try.t124 124
noncomputable def ti125 := tI Try.t125 Try.t125 125
noncomputable def ti126 := tI Try.t126 Try.t126 126
noncomputable def ti127 := tI Try.t127 Try.t127 127
noncomputable def ti128 := tI Try.t128 Try.t128 128
noncomputable def ti129 := tI Try.t129 Try.t129 129
noncomputable def ti130 := tI Try.t130 Try.t130 130
noncomputable def ti131 := tI Try.t131 Try.t131 131
noncomputable def ti132 := tI Try.t132 Try.t132 132
noncomputable def ti133 := tI Try.t133 Try.t133 133
noncomputable def ti134 := tI Try.t134 Try.t134 134
noncomputable def ti135 := tI Try.t135 Try.t135 135
noncomputable def ti136 := tI Try.t136 Try.t136 136
noncomputable def ti137 := tI Try.t137 Try.t137 137
noncomputable def ti138 := tI Try.t138 Try.t138 138
noncomputable def ti139 := tI Try.t139 Try.t139 139
noncomputable def ti140 := tI Try.t140 Try.t140 140
noncomputable def ti141 := tI Try.t141 Try.t141 141
noncomputable def ti142 := tI Try.t142 Try.t142 142
noncomputable def ti143 := tI Try.t143 Try.t143 143
noncomputable def ti144 := tI Try.t144 Try.t144 144
noncomputable def ti145 := tI Try.t144 Try.t145 145
noncomputable def ti146 := tI Try.t146 Try.t146 146
noncomputable def ti147 := tI Try.t147 Try.t147 147
noncomputable def ti148 := tI Try.t147 Try.t148 148
noncomputable def ti149 := tI Try.t149 Try.t149 149
noncomputable def ti150 := tI Try.t150 Try.t150 150
noncomputable def ti151 := tI Try.t5 Try.t151 151
noncomputable def ti152 := tI Try.t5 Try.t152 152
noncomputable def ti153 := tI Try.t153 Try.t153 153
noncomputable def ti154 := tI Try.t154 Try.t154 154
noncomputable def ti155 := tI Try.t21 Try.t155 155
noncomputable def ti156 := tI Try.t21 Try.t156 156
noncomputable def ti157 := tI Try.t157 Try.t157 157
noncomputable def ti158 := tI Try.t157 Try.t158 158
noncomputable def ti159 := tI Try.t159 Try.t159 159
noncomputable def types : Tr TInfo := (.node (some ti0) (.node (some ti1) (.node (some ti3) (.node (some ti7) (.node (some ti15) (.node (some ti31) (.node (some ti63) (.node (some ti127) .leaf .leaf) .leaf) (.node (some ti95) (.node (some ti159) .leaf .leaf) .leaf)) (.node (some ti47) (.node (some ti79) (.node (some ti143) .leaf .leaf) .leaf) (.node (some ti111) .leaf .leaf))) (.node (some ti23) (.node (some ti39) (.node (some ti71) (.node (some ti135) .leaf .leaf) .leaf) (.node (some ti103) .leaf .leaf)) (.node (some ti55) (.node (some ti87) (.node (some ti151) .leaf .leaf) .leaf) (.node (some ti119) .leaf .leaf)))) (.node (some ti11) (.node (some ti19) (.node (some ti35) (.node (some ti67) (.node (some ti131) .leaf .leaf) .leaf) (.node (some ti99) .leaf .leaf)) (.node (some ti51) (.node (some ti83) (.node (some ti147) .leaf .leaf) .leaf) (.node (some ti115) .leaf .leaf))) (.node (some ti27) (.node (some ti43) (.node (some ti75) (.node (some ti139) .leaf .leaf) .leaf) (.node (some ti107) .leaf .leaf)) (.node (some ti59) (.node (some ti91) (.node (some ti155) .leaf .leaf) .leaf) (.node (some ti123) .leaf .leaf))))) (.node (some ti5) (.node (some ti9) (.node (some ti17) (.node (some ti33) (.node (some ti65) (.node (some ti129) .leaf .leaf) .leaf) (.node (some ti97) .leaf .leaf)) (.node (some ti49) (.node (some ti81) (.node (some ti145) .leaf .leaf) .leaf) (.node (some ti113) .leaf .leaf))) (.node (some ti25) (.node (some ti41) (.node (some ti73) (.node (some ti137) .leaf .leaf) .leaf) (.node (some ti105) .leaf .leaf)) (.node (some ti57) (.node (some ti89) (.node (some ti153) .leaf .leaf) .leaf) (.node (some ti121) .leaf .leaf)))) (.node (some ti13) (.node (some ti21) (.node (some ti37) (.node (some ti69) (.node (some ti133) .leaf .leaf) .leaf) (.node (some ti101) .leaf .leaf)) (.node (some ti53) (.node (some ti85) (.node (some ti149) .leaf .leaf) .leaf) (.node (some ti117) .leaf .leaf))) (.node (some ti29) (.node (some ti45) (.node (some ti77) (.node (some ti141) .leaf .leaf) .leaf) (.node (some ti109) .leaf .leaf)) (.node (some ti61) (.node (some ti93) (.node (some ti157) .leaf .leaf) .leaf) (.node (some ti125) .leaf .leaf)))))) (.node (some ti2) (.node (some ti4) (.node (some ti8) (.node (some ti16) (.node (some ti32) (.node (some ti64) (.node (some ti128) .leaf .leaf) .leaf) (.node (some ti96) .leaf .leaf)) (.node (some ti48) (.node (some ti80) (.node (some ti144) .leaf .leaf) .leaf) (.node (some ti112) .leaf .leaf))) (.node (some ti24) (.node (some ti40) (.node (some ti72) (.node (some ti136) .leaf .leaf) .leaf) (.node (some ti104) .leaf .leaf)) (.node (some ti56) (.node (some ti88) (.node (some ti152) .leaf .leaf) .leaf) (.node (some ti120) .leaf .leaf)))) (.node (some ti12) (.node (some ti20) (.node (some ti36) (.node (some ti68) (.node (some ti132) .leaf .leaf) .leaf) (.node (some ti100) .leaf .leaf)) (.node (some ti52) (.node (some ti84) (.node (some ti148) .leaf .leaf) .leaf) (.node (some ti116) .leaf .leaf))) (.node (some ti28) (.node (some ti44) (.node (some ti76) (.node (some ti140) .leaf .leaf) .leaf) (.node (some ti108) .leaf .leaf)) (.node (some ti60) (.node (some ti92) (.node (some ti156) .leaf .leaf) .leaf) (.node (some ti124) .leaf .leaf))))) (.node (some ti6) (.node (some ti10) (.node (some ti18) (.node (some ti34) (.node (some ti66) (.node (some ti130) .leaf .leaf) .leaf) (.node (some ti98) .leaf .leaf)) (.node (some ti50) (.node (some ti82) (.node (some ti146) .leaf .leaf) .leaf) (.node (some ti114) .leaf .leaf))) (.node (some ti26) (.node (some ti42) (.node (some ti74) (.node (some ti138) .leaf .leaf) .leaf) (.node (some ti106) .leaf .leaf)) (.node (some ti58) (.node (some ti90) (.node (some ti154) .leaf .leaf) .leaf) (.node (some ti122) .leaf .leaf)))) (.node (some ti14) (.node (some ti22) (.node (some ti38) (.node (some ti70) (.node (some ti134) .leaf .leaf) .leaf) (.node (some ti102) .leaf .leaf)) (.node (some ti54) (.node (some ti86) (.node (some ti150) .leaf .leaf) .leaf) (.node (some ti118) .leaf .leaf))) (.node (some ti30) (.node (some ti46) (.node (some ti78) (.node (some ti142) .leaf .leaf) .leaf) (.node (some ti110) .leaf .leaf)) (.node (some ti62) (.node (some ti94) (.node (some ti158) .leaf .leaf) .leaf) (.node (some ti126) .leaf .leaf)))))))
noncomputable def funcs : Tr Func := (.node (some Try.f0) (.node (some Try.f1) (.node (some Try.f3) (.node (some Try.f7) (.node (some Try.f15) (.node (some Try.f31) (.node (some Try.f63) .leaf .leaf) (.node (some Try.f95) .leaf .leaf)) (.node (some Try.f47) (.node (some Try.f79) .leaf .leaf) (.node (some Try.f111) .leaf .leaf))) (.node (some Try.f23) (.node (some Try.f39) (.node (some Try.f71) .leaf .leaf) (.node (some Try.f103) .leaf .leaf)) (.node (some Try.f55) (.node (some Try.f87) .leaf .leaf) .leaf))) (.node (some Try.f11) (.node (some Try.f19) (.node (some Try.f35) (.node (some Try.f67) .leaf .leaf) (.node (some Try.f99) .leaf .leaf)) (.node (some Try.f51) (.node (some Try.f83) .leaf .leaf) .leaf)) (.node (some Try.f27) (.node (some Try.f43) (.node (some Try.f75) .leaf .leaf) (.node (some Try.f107) .leaf .leaf)) (.node (some Try.f59) (.node (some Try.f91) .leaf .leaf) .leaf)))) (.node (some Try.f5) (.node (some Try.f9) (.node (some Try.f17) (.node (some Try.f33) (.node (some Try.f65) .leaf .leaf) (.node (some Try.f97) .leaf .leaf)) (.node (some Try.f49) (.node (some Try.f81) .leaf .leaf) (.node (some Try.f113) .leaf .leaf))) (.node (some Try.f25) (.node (some Try.f41) (.node (some Try.f73) .leaf .leaf) (.node (some Try.f105) .leaf .leaf)) (.node (some Try.f57) (.node (some Try.f89) .leaf .leaf) .leaf))) (.node (some Try.f13) (.node (some Try.f21) (.node (some Try.f37) (.node (some Try.f69) .leaf .leaf) (.node (some Try.f101) .leaf .leaf)) (.node (some Try.f53) (.node (some Try.f85) .leaf .leaf) .leaf)) (.node (some Try.f29) (.node (some Try.f45) (.node (some Try.f77) .leaf .leaf) (.node (some Try.f109) .leaf .leaf)) (.node (some Try.f61) (.node (some Try.f93) .leaf .leaf) .leaf))))) (.node (some Try.f2) (.node (some Try.f4) (.node (some Try.f8) (.node (some Try.f16) (.node (some Try.f32) (.node (some Try.f64) .leaf .leaf) (.node (some Try.f96) .leaf .leaf)) (.node (some Try.f48) (.node (some Try.f80) .leaf .leaf) (.node (some Try.f112) .leaf .leaf))) (.node (some Try.f24) (.node (some Try.f40) (.node (some Try.f72) .leaf .leaf) (.node (some Try.f104) .leaf .leaf)) (.node (some Try.f56) (.node (some Try.f88) .leaf .leaf) .leaf))) (.node (some Try.f12) (.node (some Try.f20) (.node (some Try.f36) (.node (some Try.f68) .leaf .leaf) (.node (some Try.f100) .leaf .leaf)) (.node (some Try.f52) (.node (some Try.f84) .leaf .leaf) .leaf)) (.node (some Try.f28) (.node (some Try.f44) (.node (some Try.f76) .leaf .leaf) (.node (some Try.f108) .leaf .leaf)) (.node (some Try.f60) (.node (some Try.f92) .leaf .leaf) .leaf)))) (.node (some Try.f6) (.node (some Try.f10) (.node (some Try.f18) (.node (some Try.f34) (.node (some Try.f66) .leaf .leaf) (.node (some Try.f98) .leaf .leaf)) (.node (some Try.f50) (.node (some Try.f82) .leaf .leaf) (.node (some Try.f114) .leaf .leaf))) (.node (some Try.f26) (.node (some Try.f42) (.node (some Try.f74) .leaf .leaf) (.node (some Try.f106) .leaf .leaf)) (.node (some Try.f58) (.node (some Try.f90) .leaf .leaf) .leaf))) (.node (some Try.f14) (.node (some Try.f22) (.node (some Try.f38) (.node (some Try.f70) .leaf .leaf) (.node (some Try.f102) .leaf .leaf)) (.node (some Try.f54) (.node (some Try.f86) .leaf .leaf) .leaf)) (.node (some Try.f30) (.node (some Try.f46) (.node (some Try.f78) .leaf .leaf) (.node (some Try.f110) .leaf .leaf)) (.node (some Try.f62) (.node (some Try.f94) .leaf .leaf) .leaf))))))
noncomputable def tab : Tab := { types, funcs }
theorem tok0 : TypeOk Try.prog 0 ti0 := typeOk_of (j := Try.t0) (ju := Try.t0) (by kernel_rfl) (by kernel_rfl)
theorem tok1 : TypeOk Try.prog 1 ti1 := typeOk_of (j := Try.t1) (ju := Try.t1) (by kernel_rfl) (by kernel_rfl)
theorem tok2 : TypeOk Try.prog 2 ti2 := typeOk_of (j := Try.t2) (ju := Try.t2) (by kernel_rfl) (by kernel_rfl)
theorem tok3 : TypeOk Try.prog 3 ti3 := typeOk_of (j := Try.t3) (ju := Try.t3) (by kernel_rfl) (by kernel_rfl)
theorem tok4 : TypeOk Try.prog 4 ti4 := typeOk_of (j := Try.t4) (ju := Try.t4) (by kernel_rfl) (by kernel_rfl)
theorem tok5 : TypeOk Try.prog 5 ti5 := typeOk_of (j := Try.t5) (ju := Try.t5) (by kernel_rfl) (by kernel_rfl)
theorem tok6 : TypeOk Try.prog 6 ti6 := typeOk_of (j := Try.t6) (ju := Try.t5) (by kernel_rfl) (by kernel_rfl)
theorem tok7 : TypeOk Try.prog 7 ti7 := typeOk_of (j := Try.t7) (ju := Try.t7) (by kernel_rfl) (by kernel_rfl)
theorem tok8 : TypeOk Try.prog 8 ti8 := typeOk_of (j := Try.t8) (ju := Try.t7) (by kernel_rfl) (by kernel_rfl)
theorem tok9 : TypeOk Try.prog 9 ti9 := typeOk_of (j := Try.t9) (ju := Try.t9) (by kernel_rfl) (by kernel_rfl)
theorem tok10 : TypeOk Try.prog 10 ti10 := typeOk_of (j := Try.t10) (ju := Try.t9) (by kernel_rfl) (by kernel_rfl)
theorem tok11 : TypeOk Try.prog 11 ti11 := typeOk_of (j := Try.t11) (ju := Try.t9) (by kernel_rfl) (by kernel_rfl)
theorem tok12 : TypeOk Try.prog 12 ti12 := typeOk_of (j := Try.t12) (ju := Try.t12) (by kernel_rfl) (by kernel_rfl)
theorem tok13 : TypeOk Try.prog 13 ti13 := typeOk_of (j := Try.t13) (ju := Try.t13) (by kernel_rfl) (by kernel_rfl)
theorem tok14 : TypeOk Try.prog 14 ti14 := typeOk_of (j := Try.t14) (ju := Try.t13) (by kernel_rfl) (by kernel_rfl)
theorem tok15 : TypeOk Try.prog 15 ti15 := typeOk_of (j := Try.t15) (ju := Try.t15) (by kernel_rfl) (by kernel_rfl)
theorem tok16 : TypeOk Try.prog 16 ti16 := typeOk_of (j := Try.t16) (ju := Try.t16) (by kernel_rfl) (by kernel_rfl)
theorem tok17 : TypeOk Try.prog 17 ti17 := typeOk_of (j := Try.t17) (ju := Try.t17) (by kernel_rfl) (by kernel_rfl)
theorem tok18 : TypeOk Try.prog 18 ti18 := typeOk_of (j := Try.t18) (ju := Try.t18) (by kernel_rfl) (by kernel_rfl)
theorem tok19 : TypeOk Try.prog 19 ti19 := typeOk_of (j := Try.t19) (ju := Try.t18) (by kernel_rfl) (by kernel_rfl)
theorem tok20 : TypeOk Try.prog 20 ti20 := typeOk_of (j := Try.t20) (ju := Try.t20) (by kernel_rfl) (by kernel_rfl)
theorem tok21 : TypeOk Try.prog 21 ti21 := typeOk_of (j := Try.t21) (ju := Try.t21) (by kernel_rfl) (by kernel_rfl)
theorem tok22 : TypeOk Try.prog 22 ti22 := typeOk_of (j := Try.t22) (ju := Try.t22) (by kernel_rfl) (by kernel_rfl)
theorem tok23 : TypeOk Try.prog 23 ti23 := typeOk_of (j := Try.t23) (ju := Try.t23) (by kernel_rfl) (by kernel_rfl)
theorem tok24 : TypeOk Try.prog 24 ti24 := typeOk_of (j := Try.t24) (ju := Try.t24) (by kernel_rfl) (by kernel_rfl)
theorem tok25 : TypeOk Try.prog 25 ti25 := typeOk_of (j := Try.t25) (ju := Try.t25) (by kernel_rfl) (by kernel_rfl)
theorem tok26 : TypeOk Try.prog 26 ti26 := typeOk_of (j := Try.t26) (ju := Try.t25) (by kernel_rfl) (by kernel_rfl)
theorem tok27 : TypeOk Try.prog 27 ti27 := typeOk_of (j := Try.t27) (ju := Try.t27) (by kernel_rfl) (by kernel_rfl)
theorem tok28 : TypeOk Try.prog 28 ti28 := typeOk_of (j := Try.t28) (ju := Try.t28) (by kernel_rfl) (by kernel_rfl)
theorem tok29 : TypeOk Try.prog 29 ti29 := typeOk_of (j := Try.t29) (ju := Try.t29) (by kernel_rfl) (by kernel_rfl)
theorem tok30 : TypeOk Try.prog 30 ti30 := typeOk_of (j := Try.t30) (ju := Try.t30) (by kernel_rfl) (by kernel_rfl)
theorem tok31 : TypeOk Try.prog 31 ti31 := typeOk_of (j := Try.t31) (ju := Try.t30) (by kernel_rfl) (by kernel_rfl)
theorem tok32 : TypeOk Try.prog 32 ti32 := typeOk_of (j := Try.t32) (ju := Try.t3) (by kernel_rfl) (by kernel_rfl)
theorem tok33 : TypeOk Try.prog 33 ti33 := typeOk_of (j := Try.t33) (ju := Try.t33) (by kernel_rfl) (by kernel_rfl)
theorem tok34 : TypeOk Try.prog 34 ti34 := typeOk_of (j := Try.t34) (ju := Try.t34) (by kernel_rfl) (by kernel_rfl)
theorem tok35 : TypeOk Try.prog 35 ti35 := typeOk_of (j := Try.t35) (ju := Try.t35) (by kernel_rfl) (by kernel_rfl)
theorem tok36 : TypeOk Try.prog 36 ti36 := typeOk_of (j := Try.t36) (ju := Try.t36) (by kernel_rfl) (by kernel_rfl)
theorem tok37 : TypeOk Try.prog 37 ti37 := typeOk_of (j := Try.t37) (ju := Try.t37) (by kernel_rfl) (by kernel_rfl)
theorem tok38 : TypeOk Try.prog 38 ti38 := typeOk_of (j := Try.t38) (ju := Try.t38) (by kernel_rfl) (by kernel_rfl)
theorem tok39 : TypeOk Try.prog 39 ti39 := typeOk_of (j := Try.t39) (ju := Try.t39) (by kernel_rfl) (by kernel_rfl)
theorem tok40 : TypeOk Try.prog 40 ti40 := typeOk_of (j := Try.t40) (ju := Try.t40) (by kernel_rfl) (by kernel_rfl)
theorem tok41 : TypeOk Try.prog 41 ti41 := typeOk_of (j := Try.t41) (ju := Try.t41) (by kernel_rfl) (by kernel_rfl)
theorem tok42 : TypeOk Try.prog 42 ti42 := typeOk_of (j := Try.t42) (ju := Try.t41) (by kernel_rfl) (by kernel_rfl)
theorem tok43 : TypeOk Try.prog 43 ti43 := typeOk_of (j := Try.t43) (ju := Try.t43) (by kernel_rfl) (by kernel_rfl)
theorem tok44 : TypeOk Try.prog 44 ti44 := typeOk_of (j := Try.t44) (ju := Try.t44) (by kernel_rfl) (by kernel_rfl)
theorem tok45 : TypeOk Try.prog 45 ti45 := typeOk_of (j := Try.t45) (ju := Try.t45) (by kernel_rfl) (by kernel_rfl)
theorem tok46 : TypeOk Try.prog 46 ti46 := typeOk_of (j := Try.t46) (ju := Try.t46) (by kernel_rfl) (by kernel_rfl)
theorem tok47 : TypeOk Try.prog 47 ti47 := typeOk_of (j := Try.t47) (ju := Try.t47) (by kernel_rfl) (by kernel_rfl)
theorem tok48 : TypeOk Try.prog 48 ti48 := typeOk_of (j := Try.t48) (ju := Try.t48) (by kernel_rfl) (by kernel_rfl)
theorem tok49 : TypeOk Try.prog 49 ti49 := typeOk_of (j := Try.t49) (ju := Try.t49) (by kernel_rfl) (by kernel_rfl)
theorem tok50 : TypeOk Try.prog 50 ti50 := typeOk_of (j := Try.t50) (ju := Try.t50) (by kernel_rfl) (by kernel_rfl)
theorem tok51 : TypeOk Try.prog 51 ti51 := typeOk_of (j := Try.t51) (ju := Try.t51) (by kernel_rfl) (by kernel_rfl)
theorem tok52 : TypeOk Try.prog 52 ti52 := typeOk_of (j := Try.t52) (ju := Try.t52) (by kernel_rfl) (by kernel_rfl)
theorem tok53 : TypeOk Try.prog 53 ti53 := typeOk_of (j := Try.t53) (ju := Try.t53) (by kernel_rfl) (by kernel_rfl)
theorem tok54 : TypeOk Try.prog 54 ti54 := typeOk_of (j := Try.t54) (ju := Try.t54) (by kernel_rfl) (by kernel_rfl)
theorem tok55 : TypeOk Try.prog 55 ti55 := typeOk_of (j := Try.t55) (ju := Try.t55) (by kernel_rfl) (by kernel_rfl)
theorem tok56 : TypeOk Try.prog 56 ti56 := typeOk_of (j := Try.t56) (ju := Try.t56) (by kernel_rfl) (by kernel_rfl)
theorem tok57 : TypeOk Try.prog 57 ti57 := typeOk_of (j := Try.t57) (ju := Try.t57) (by kernel_rfl) (by kernel_rfl)
theorem tok58 : TypeOk Try.prog 58 ti58 := typeOk_of (j := Try.t58) (ju := Try.t58) (by kernel_rfl) (by kernel_rfl)
theorem tok59 : TypeOk Try.prog 59 ti59 := typeOk_of (j := Try.t59) (ju := Try.t59) (by kernel_rfl) (by kernel_rfl)
theorem tok60 : TypeOk Try.prog 60 ti60 := typeOk_of (j := Try.t60) (ju := Try.t60) (by kernel_rfl) (by kernel_rfl)
theorem tok61 : TypeOk Try.prog 61 ti61 := typeOk_of (j := Try.t61) (ju := Try.t61) (by kernel_rfl) (by kernel_rfl)
theorem tok62 : TypeOk Try.prog 62 ti62 := typeOk_of (j := Try.t62) (ju := Try.t61) (by kernel_rfl) (by kernel_rfl)
theorem tok63 : TypeOk Try.prog 63 ti63 := typeOk_of (j := Try.t63) (ju := Try.t63) (by kernel_rfl) (by kernel_rfl)
theorem tok64 : TypeOk Try.prog 64 ti64 := typeOk_of (j := Try.t64) (ju := Try.t64) (by kernel_rfl) (by kernel_rfl)
theorem tok65 : TypeOk Try.prog 65 ti65 := typeOk_of (j := Try.t65) (ju := Try.t65) (by kernel_rfl) (by kernel_rfl)
theorem tok66 : TypeOk Try.prog 66 ti66 := typeOk_of (j := Try.t66) (ju := Try.t66) (by kernel_rfl) (by kernel_rfl)
theorem tok67 : TypeOk Try.prog 67 ti67 := typeOk_of (j := Try.t67) (ju := Try.t67) (by kernel_rfl) (by kernel_rfl)
theorem tok68 : TypeOk Try.prog 68 ti68 := typeOk_of (j := Try.t68) (ju := Try.t3) (by kernel_rfl) (by kernel_rfl)
theorem tok69 : TypeOk Try.prog 69 ti69 := typeOk_of (j := Try.t69) (ju := Try.t69) (by kernel_rfl) (by kernel_rfl)
theorem tok70 : TypeOk Try.prog 70 ti70 := typeOk_of (j := Try.t70) (ju := Try.t70) (by kernel_rfl) (by kernel_rfl)
theorem tok71 : TypeOk Try.prog 71 ti71 := typeOk_of (j := Try.t71) (ju := Try.t71) (by kernel_rfl) (by kernel_rfl)
theorem tok72 : TypeOk Try.prog 72 ti72 := typeOk_of (j := Try.t72) (ju := Try.t72) (by kernel_rfl) (by kernel_rfl)
theorem tok73 : TypeOk Try.prog 73 ti73 := typeOk_of (j := Try.t73) (ju := Try.t73) (by kernel_rfl) (by kernel_rfl)
theorem tok74 : TypeOk Try.prog 74 ti74 := typeOk_of (j := Try.t74) (ju := Try.t74) (by kernel_rfl) (by kernel_rfl)
theorem tok75 : TypeOk Try.prog 75 ti75 := typeOk_of (j := Try.t75) (ju := Try.t75) (by kernel_rfl) (by kernel_rfl)
theorem tok76 : TypeOk Try.prog 76 ti76 := typeOk_of (j := Try.t76) (ju := Try.t76) (by kernel_rfl) (by kernel_rfl)
theorem tok77 : TypeOk Try.prog 77 ti77 := typeOk_of (j := Try.t77) (ju := Try.t77) (by kernel_rfl) (by kernel_rfl)
theorem tok78 : TypeOk Try.prog 78 ti78 := typeOk_of (j := Try.t78) (ju := Try.t77) (by kernel_rfl) (by kernel_rfl)
theorem tok79 : TypeOk Try.prog 79 ti79 := typeOk_of (j := Try.t79) (ju := Try.t79) (by kernel_rfl) (by kernel_rfl)
theorem tok80 : TypeOk Try.prog 80 ti80 := typeOk_of (j := Try.t80) (ju := Try.t80) (by kernel_rfl) (by kernel_rfl)
theorem tok81 : TypeOk Try.prog 81 ti81 := typeOk_of (j := Try.t81) (ju := Try.t80) (by kernel_rfl) (by kernel_rfl)
theorem tok82 : TypeOk Try.prog 82 ti82 := typeOk_of (j := Try.t82) (ju := Try.t82) (by kernel_rfl) (by kernel_rfl)
theorem tok83 : TypeOk Try.prog 83 ti83 := typeOk_of (j := Try.t83) (ju := Try.t83) (by kernel_rfl) (by kernel_rfl)
theorem tok84 : TypeOk Try.prog 84 ti84 := typeOk_of (j := Try.t84) (ju := Try.t84) (by kernel_rfl) (by kernel_rfl)
theorem tok85 : TypeOk Try.prog 85 ti85 := typeOk_of (j := Try.t85) (ju := Try.t85) (by kernel_rfl) (by kernel_rfl)
theorem tok86 : TypeOk Try.prog 86 ti86 := typeOk_of (j := Try.t86) (ju := Try.t86) (by kernel_rfl) (by kernel_rfl)
theorem tok87 : TypeOk Try.prog 87 ti87 := typeOk_of (j := Try.t87) (ju := Try.t86) (by kernel_rfl) (by kernel_rfl)
theorem tok88 : TypeOk Try.prog 88 ti88 := typeOk_of (j := Try.t88) (ju := Try.t88) (by kernel_rfl) (by kernel_rfl)
theorem tok89 : TypeOk Try.prog 89 ti89 := typeOk_of (j := Try.t89) (ju := Try.t89) (by kernel_rfl) (by kernel_rfl)
theorem tok90 : TypeOk Try.prog 90 ti90 := typeOk_of (j := Try.t90) (ju := Try.t90) (by kernel_rfl) (by kernel_rfl)
theorem tok91 : TypeOk Try.prog 91 ti91 := typeOk_of (j := Try.t91) (ju := Try.t91) (by kernel_rfl) (by kernel_rfl)
theorem tok92 : TypeOk Try.prog 92 ti92 := typeOk_of (j := Try.t92) (ju := Try.t92) (by kernel_rfl) (by kernel_rfl)
theorem tok93 : TypeOk Try.prog 93 ti93 := typeOk_of (j := Try.t93) (ju := Try.t93) (by kernel_rfl) (by kernel_rfl)
theorem tok94 : TypeOk Try.prog 94 ti94 := typeOk_of (j := Try.t94) (ju := Try.t94) (by kernel_rfl) (by kernel_rfl)
theorem tok95 : TypeOk Try.prog 95 ti95 := typeOk_of (j := Try.t95) (ju := Try.t95) (by kernel_rfl) (by kernel_rfl)
theorem tok96 : TypeOk Try.prog 96 ti96 := typeOk_of (j := Try.t96) (ju := Try.t95) (by kernel_rfl) (by kernel_rfl)
theorem tok97 : TypeOk Try.prog 97 ti97 := typeOk_of (j := Try.t97) (ju := Try.t97) (by kernel_rfl) (by kernel_rfl)
theorem tok98 : TypeOk Try.prog 98 ti98 := typeOk_of (j := Try.t98) (ju := Try.t98) (by kernel_rfl) (by kernel_rfl)
theorem tok99 : TypeOk Try.prog 99 ti99 := typeOk_of (j := Try.t99) (ju := Try.t98) (by kernel_rfl) (by kernel_rfl)
theorem tok100 : TypeOk Try.prog 100 ti100 := typeOk_of (j := Try.t100) (ju := Try.t100) (by kernel_rfl) (by kernel_rfl)
theorem tok101 : TypeOk Try.prog 101 ti101 := typeOk_of (j := Try.t101) (ju := Try.t101) (by kernel_rfl) (by kernel_rfl)
theorem tok102 : TypeOk Try.prog 102 ti102 := typeOk_of (j := Try.t102) (ju := Try.t102) (by kernel_rfl) (by kernel_rfl)
theorem tok103 : TypeOk Try.prog 103 ti103 := typeOk_of (j := Try.t103) (ju := Try.t103) (by kernel_rfl) (by kernel_rfl)
theorem tok104 : TypeOk Try.prog 104 ti104 := typeOk_of (j := Try.t104) (ju := Try.t104) (by kernel_rfl) (by kernel_rfl)
theorem tok105 : TypeOk Try.prog 105 ti105 := typeOk_of (j := Try.t105) (ju := Try.t105) (by kernel_rfl) (by kernel_rfl)
theorem tok106 : TypeOk Try.prog 106 ti106 := typeOk_of (j := Try.t106) (ju := Try.t106) (by kernel_rfl) (by kernel_rfl)
theorem tok107 : TypeOk Try.prog 107 ti107 := typeOk_of (j := Try.t107) (ju := Try.t107) (by kernel_rfl) (by kernel_rfl)
theorem tok108 : TypeOk Try.prog 108 ti108 := typeOk_of (j := Try.t108) (ju := Try.t108) (by kernel_rfl) (by kernel_rfl)
theorem tok109 : TypeOk Try.prog 109 ti109 := typeOk_of (j := Try.t109) (ju := Try.t109) (by kernel_rfl) (by kernel_rfl)
theorem tok110 : TypeOk Try.prog 110 ti110 := typeOk_of (j := Try.t110) (ju := Try.t110) (by kernel_rfl) (by kernel_rfl)
theorem tok111 : TypeOk Try.prog 111 ti111 := typeOk_of (j := Try.t111) (ju := Try.t111) (by kernel_rfl) (by kernel_rfl)
theorem tok112 : TypeOk Try.prog 112 ti112 := typeOk_of (j := Try.t112) (ju := Try.t112) (by kernel_rfl) (by kernel_rfl)
theorem tok113 : TypeOk Try.prog 113 ti113 := typeOk_of (j := Try.t113) (ju := Try.t112) (by kernel_rfl) (by kernel_rfl)
theorem tok114 : TypeOk Try.prog 114 ti114 := typeOk_of (j := Try.t114) (ju := Try.t114) (by kernel_rfl) (by kernel_rfl)
theorem tok115 : TypeOk Try.prog 115 ti115 := typeOk_of (j := Try.t115) (ju := Try.t115) (by kernel_rfl) (by kernel_rfl)
theorem tok116 : TypeOk Try.prog 116 ti116 := typeOk_of (j := Try.t116) (ju := Try.t116) (by kernel_rfl) (by kernel_rfl)
theorem tok117 : TypeOk Try.prog 117 ti117 := typeOk_of (j := Try.t117) (ju := Try.t117) (by kernel_rfl) (by kernel_rfl)
theorem tok118 : TypeOk Try.prog 118 ti118 := typeOk_of (j := Try.t118) (ju := Try.t118) (by kernel_rfl) (by kernel_rfl)
theorem tok119 : TypeOk Try.prog 119 ti119 := typeOk_of (j := Try.t119) (ju := Try.t118) (by kernel_rfl) (by kernel_rfl)
theorem tok120 : TypeOk Try.prog 120 ti120 := typeOk_of (j := Try.t120) (ju := Try.t120) (by kernel_rfl) (by kernel_rfl)
theorem tok121 : TypeOk Try.prog 121 ti121 := typeOk_of (j := Try.t121) (ju := Try.t121) (by kernel_rfl) (by kernel_rfl)
theorem tok122 : TypeOk Try.prog 122 ti122 := typeOk_of (j := Try.t122) (ju := Try.t122) (by kernel_rfl) (by kernel_rfl)
theorem tok123 : TypeOk Try.prog 123 ti123 := typeOk_of (j := Try.t123) (ju := Try.t123) (by kernel_rfl) (by kernel_rfl)
theorem tok124 : TypeOk Try.prog 124 ti124 := typeOk_of (j := Try.t124) (ju := Try.t124) (by kernel_rfl) (by kernel_rfl)
theorem tok125 : TypeOk Try.prog 125 ti125 := typeOk_of (j := Try.t125) (ju := Try.t125) (by kernel_rfl) (by kernel_rfl)
theorem tok126 : TypeOk Try.prog 126 ti126 := typeOk_of (j := Try.t126) (ju := Try.t126) (by kernel_rfl) (by kernel_rfl)
theorem tok127 : TypeOk Try.prog 127 ti127 := typeOk_of (j := Try.t127) (ju := Try.t127) (by kernel_rfl) (by kernel_rfl)
theorem tok128 : TypeOk Try.prog 128 ti128 := typeOk_of (j := Try.t128) (ju := Try.t128) (by kernel_rfl) (by kernel_rfl)
theorem tok129 : TypeOk Try.prog 129 ti129 := typeOk_of (j := Try.t129) (ju := Try.t129) (by kernel_rfl) (by kernel_rfl)
theorem tok130 : TypeOk Try.prog 130 ti130 := typeOk_of (j := Try.t130) (ju := Try.t130) (by kernel_rfl) (by kernel_rfl)
theorem tok131 : TypeOk Try.prog 131 ti131 := typeOk_of (j := Try.t131) (ju := Try.t131) (by kernel_rfl) (by kernel_rfl)
theorem tok132 : TypeOk Try.prog 132 ti132 := typeOk_of (j := Try.t132) (ju := Try.t132) (by kernel_rfl) (by kernel_rfl)
theorem tok133 : TypeOk Try.prog 133 ti133 := typeOk_of (j := Try.t133) (ju := Try.t133) (by kernel_rfl) (by kernel_rfl)
theorem tok134 : TypeOk Try.prog 134 ti134 := typeOk_of (j := Try.t134) (ju := Try.t134) (by kernel_rfl) (by kernel_rfl)
theorem tok135 : TypeOk Try.prog 135 ti135 := typeOk_of (j := Try.t135) (ju := Try.t135) (by kernel_rfl) (by kernel_rfl)
theorem tok136 : TypeOk Try.prog 136 ti136 := typeOk_of (j := Try.t136) (ju := Try.t136) (by kernel_rfl) (by kernel_rfl)
theorem tok137 : TypeOk Try.prog 137 ti137 := typeOk_of (j := Try.t137) (ju := Try.t137) (by kernel_rfl) (by kernel_rfl)
theorem tok138 : TypeOk Try.prog 138 ti138 := typeOk_of (j := Try.t138) (ju := Try.t138) (by kernel_rfl) (by kernel_rfl)
theorem tok139 : TypeOk Try.prog 139 ti139 := typeOk_of (j := Try.t139) (ju := Try.t139) (by kernel_rfl) (by kernel_rfl)
theorem tok140 : TypeOk Try.prog 140 ti140 := typeOk_of (j := Try.t140) (ju := Try.t140) (by kernel_rfl) (by kernel_rfl)
theorem tok141 : TypeOk Try.prog 141 ti141 := typeOk_of (j := Try.t141) (ju := Try.t141) (by kernel_rfl) (by kernel_rfl)
theorem tok142 : TypeOk Try.prog 142 ti142 := typeOk_of (j := Try.t142) (ju := Try.t142) (by kernel_rfl) (by kernel_rfl)
theorem tok143 : TypeOk Try.prog 143 ti143 := typeOk_of (j := Try.t143) (ju := Try.t143) (by kernel_rfl) (by kernel_rfl)
theorem tok144 : TypeOk Try.prog 144 ti144 := typeOk_of (j := Try.t144) (ju := Try.t144) (by kernel_rfl) (by kernel_rfl)
theorem tok145 : TypeOk Try.prog 145 ti145 := typeOk_of (j := Try.t145) (ju := Try.t144) (by kernel_rfl) (by kernel_rfl)
theorem tok146 : TypeOk Try.prog 146 ti146 := typeOk_of (j := Try.t146) (ju := Try.t146) (by kernel_rfl) (by kernel_rfl)
theorem tok147 : TypeOk Try.prog 147 ti147 := typeOk_of (j := Try.t147) (ju := Try.t147) (by kernel_rfl) (by kernel_rfl)
theorem tok148 : TypeOk Try.prog 148 ti148 := typeOk_of (j := Try.t148) (ju := Try.t147) (by kernel_rfl) (by kernel_rfl)
theorem tok149 : TypeOk Try.prog 149 ti149 := typeOk_of (j := Try.t149) (ju := Try.t149) (by kernel_rfl) (by kernel_rfl)
theorem tok150 : TypeOk Try.prog 150 ti150 := typeOk_of (j := Try.t150) (ju := Try.t150) (by kernel_rfl) (by kernel_rfl)
theorem tok151 : TypeOk Try.prog 151 ti151 := typeOk_of (j := Try.t151) (ju := Try.t5) (by kernel_rfl) (by kernel_rfl)
theorem tok152 : TypeOk Try.prog 152 ti152 := typeOk_of (j := Try.t152) (ju := Try.t5) (by kernel_rfl) (by kernel_rfl)
theorem tok153 : TypeOk Try.prog 153 ti153 := typeOk_of (j := Try.t153) (ju := Try.t153) (by kernel_rfl) (by kernel_rfl)
theorem tok154 : TypeOk Try.prog 154 ti154 := typeOk_of (j := Try.t154) (ju := Try.t154) (by kernel_rfl) (by kernel_rfl)
theorem tok155 : TypeOk Try.prog 155 ti155 := typeOk_of (j := Try.t155) (ju := Try.t21) (by kernel_rfl) (by kernel_rfl)
theorem tok156 : TypeOk Try.prog 156 ti156 := typeOk_of (j := Try.t156) (ju := Try.t21) (by kernel_rfl) (by kernel_rfl)
theorem tok157 : TypeOk Try.prog 157 ti157 := typeOk_of (j := Try.t157) (ju := Try.t157) (by kernel_rfl) (by kernel_rfl)
theorem tok158 : TypeOk Try.prog 158 ti158 := typeOk_of (j := Try.t158) (ju := Try.t157) (by kernel_rfl) (by kernel_rfl)
theorem tok159 : TypeOk Try.prog 159 ti159 := typeOk_of (j := Try.t159) (ju := Try.t159) (by kernel_rfl) (by kernel_rfl)
theorem fok0 : FuncOk Try.prog 0 Try.f0 := funcOk_of Try.func0 (by kernel_rfl) (by kernel_rfl)
theorem fok1 : FuncOk Try.prog 1 Try.f1 := funcOk_of Try.func1 (by kernel_rfl) (by kernel_rfl)
theorem fok2 : FuncOk Try.prog 2 Try.f2 := funcOk_of Try.func2 (by kernel_rfl) (by kernel_rfl)
theorem fok3 : FuncOk Try.prog 3 Try.f3 := funcOk_of Try.func3 (by kernel_rfl) (by kernel_rfl)
theorem fok4 : FuncOk Try.prog 4 Try.f4 := funcOk_of Try.func4 (by kernel_rfl) (by kernel_rfl)
theorem fok5 : FuncOk Try.prog 5 Try.f5 := funcOk_of Try.func5 (by kernel_rfl) (by kernel_rfl)
theorem fok6 : FuncOk Try.prog 6 Try.f6 := funcOk_of Try.func6 (by kernel_rfl) (by kernel_rfl)
theorem fok7 : FuncOk Try.prog 7 Try.f7 := funcOk_of Try.func7 (by kernel_rfl) (by kernel_rfl)
theorem fok8 : FuncOk Try.prog 8 Try.f8 := funcOk_of Try.func8 (by kernel_rfl) (by kernel_rfl)
theorem fok9 : FuncOk Try.prog 9 Try.f9 := funcOk_of Try.func9 (by kernel_rfl) (by kernel_rfl)
theorem fok10 : FuncOk Try.prog 10 Try.f10 := funcOk_of Try.func10 (by kernel_rfl) (by kernel_rfl)
theorem fok11 : FuncOk Try.prog 11 Try.f11 := funcOk_of Try.func11 (by kernel_rfl) (by kernel_rfl)
theorem fok12 : FuncOk Try.prog 12 Try.f12 := funcOk_of Try.func12 (by kernel_rfl) (by kernel_rfl)
theorem fok13 : FuncOk Try.prog 13 Try.f13 := funcOk_of Try.func13 (by kernel_rfl) (by kernel_rfl)
theorem fok14 : FuncOk Try.prog 14 Try.f14 := funcOk_of Try.func14 (by kernel_rfl) (by kernel_rfl)
theorem fok15 : FuncOk Try.prog 15 Try.f15 := funcOk_of Try.func15 (by kernel_rfl) (by kernel_rfl)
theorem fok16 : FuncOk Try.prog 16 Try.f16 := funcOk_of Try.func16 (by kernel_rfl) (by kernel_rfl)
theorem fok17 : FuncOk Try.prog 17 Try.f17 := funcOk_of Try.func17 (by kernel_rfl) (by kernel_rfl)
theorem fok18 : FuncOk Try.prog 18 Try.f18 := funcOk_of Try.func18 (by kernel_rfl) (by kernel_rfl)
theorem fok19 : FuncOk Try.prog 19 Try.f19 := funcOk_of Try.func19 (by kernel_rfl) (by kernel_rfl)
theorem fok20 : FuncOk Try.prog 20 Try.f20 := funcOk_of Try.func20 (by kernel_rfl) (by kernel_rfl)
theorem fok21 : FuncOk Try.prog 21 Try.f21 := funcOk_of Try.func21 (by kernel_rfl) (by kernel_rfl)
theorem fok22 : FuncOk Try.prog 22 Try.f22 := funcOk_of Try.func22 (by kernel_rfl) (by kernel_rfl)
theorem fok23 : FuncOk Try.prog 23 Try.f23 := funcOk_of Try.func23 (by kernel_rfl) (by kernel_rfl)
theorem fok24 : FuncOk Try.prog 24 Try.f24 := funcOk_of Try.func24 (by kernel_rfl) (by kernel_rfl)
theorem fok25 : FuncOk Try.prog 25 Try.f25 := funcOk_of Try.func25 (by kernel_rfl) (by kernel_rfl)
theorem fok26 : FuncOk Try.prog 26 Try.f26 := funcOk_of Try.func26 (by kernel_rfl) (by kernel_rfl)
theorem fok27 : FuncOk Try.prog 27 Try.f27 := funcOk_of Try.func27 (by kernel_rfl) (by kernel_rfl)
theorem fok28 : FuncOk Try.prog 28 Try.f28 := funcOk_of Try.func28 (by kernel_rfl) (by kernel_rfl)
theorem fok29 : FuncOk Try.prog 29 Try.f29 := funcOk_of Try.func29 (by kernel_rfl) (by kernel_rfl)
theorem fok30 : FuncOk Try.prog 30 Try.f30 := funcOk_of Try.func30 (by kernel_rfl) (by kernel_rfl)
theorem fok31 : FuncOk Try.prog 31 Try.f31 := funcOk_of Try.func31 (by kernel_rfl) (by kernel_rfl)
theorem fok32 : FuncOk Try.prog 32 Try.f32 := funcOk_of Try.func32 (by kernel_rfl) (by kernel_rfl)
theorem fok33 : FuncOk Try.prog 33 Try.f33 := funcOk_of Try.func33 (by kernel_rfl) (by kernel_rfl)
theorem fok34 : FuncOk Try.prog 34 Try.f34 := funcOk_of Try.func34 (by kernel_rfl) (by kernel_rfl)
theorem fok35 : FuncOk Try.prog 35 Try.f35 := funcOk_of Try.func35 (by kernel_rfl) (by kernel_rfl)
theorem fok36 : FuncOk Try.prog 36 Try.f36 := funcOk_of Try.func36 (by kernel_rfl) (by kernel_rfl)
theorem fok37 : FuncOk Try.prog 37 Try.f37 := funcOk_of Try.func37 (by kernel_rfl) (by kernel_rfl)
theorem fok38 : FuncOk Try.prog 38 Try.f38 := funcOk_of Try.func38 (by kernel_rfl) (by kernel_rfl)
theorem fok39 : FuncOk Try.prog 39 Try.f39 := funcOk_of Try.func39 (by kernel_rfl) (by kernel_rfl)
theorem fok40 : FuncOk Try.prog 40 Try.f40 := funcOk_of Try.func40 (by kernel_rfl) (by kernel_rfl)
theorem fok41 : FuncOk Try.prog 41 Try.f41 := funcOk_of Try.func41 (by kernel_rfl) (by kernel_rfl)
theorem fok42 : FuncOk Try.prog 42 Try.f42 := funcOk_of Try.func42 (by kernel_rfl) (by kernel_rfl)
theorem fok43 : FuncOk Try.prog 43 Try.f43 := funcOk_of Try.func43 (by kernel_rfl) (by kernel_rfl)
theorem fok44 : FuncOk Try.prog 44 Try.f44 := funcOk_of Try.func44 (by kernel_rfl) (by kernel_rfl)
theorem fok45 : FuncOk Try.prog 45 Try.f45 := funcOk_of Try.func45 (by kernel_rfl) (by kernel_rfl)
theorem fok46 : FuncOk Try.prog 46 Try.f46 := funcOk_of Try.func46 (by kernel_rfl) (by kernel_rfl)
theorem fok47 : FuncOk Try.prog 47 Try.f47 := funcOk_of Try.func47 (by kernel_rfl) (by kernel_rfl)
theorem fok48 : FuncOk Try.prog 48 Try.f48 := funcOk_of Try.func48 (by kernel_rfl) (by kernel_rfl)
theorem fok49 : FuncOk Try.prog 49 Try.f49 := funcOk_of Try.func49 (by kernel_rfl) (by kernel_rfl)
theorem fok50 : FuncOk Try.prog 50 Try.f50 := funcOk_of Try.func50 (by kernel_rfl) (by kernel_rfl)
theorem fok51 : FuncOk Try.prog 51 Try.f51 := funcOk_of Try.func51 (by kernel_rfl) (by kernel_rfl)
theorem fok52 : FuncOk Try.prog 52 Try.f52 := funcOk_of Try.func52 (by kernel_rfl) (by kernel_rfl)
theorem fok53 : FuncOk Try.prog 53 Try.f53 := funcOk_of Try.func53 (by kernel_rfl) (by kernel_rfl)
theorem fok54 : FuncOk Try.prog 54 Try.f54 := funcOk_of Try.func54 (by kernel_rfl) (by kernel_rfl)
theorem fok55 : FuncOk Try.prog 55 Try.f55 := funcOk_of Try.func55 (by kernel_rfl) (by kernel_rfl)
theorem fok56 : FuncOk Try.prog 56 Try.f56 := funcOk_of Try.func56 (by kernel_rfl) (by kernel_rfl)
theorem fok57 : FuncOk Try.prog 57 Try.f57 := funcOk_of Try.func57 (by kernel_rfl) (by kernel_rfl)
theorem fok58 : FuncOk Try.prog 58 Try.f58 := funcOk_of Try.func58 (by kernel_rfl) (by kernel_rfl)
theorem fok59 : FuncOk Try.prog 59 Try.f59 := funcOk_of Try.func59 (by kernel_rfl) (by kernel_rfl)
theorem fok60 : FuncOk Try.prog 60 Try.f60 := funcOk_of Try.func60 (by kernel_rfl) (by kernel_rfl)
theorem fok61 : FuncOk Try.prog 61 Try.f61 := funcOk_of Try.func61 (by kernel_rfl) (by kernel_rfl)
theorem fok62 : FuncOk Try.prog 62 Try.f62 := funcOk_of Try.func62 (by kernel_rfl) (by kernel_rfl)
theorem fok63 : FuncOk Try.prog 63 Try.f63 := funcOk_of Try.func63 (by kernel_rfl) (by kernel_rfl)
theorem fok64 : FuncOk Try.prog 64 Try.f64 := funcOk_of Try.func64 (by kernel_rfl) (by kernel_rfl)
theorem fok65 : FuncOk Try.prog 65 Try.f65 := funcOk_of Try.func65 (by kernel_rfl) (by kernel_rfl)
theorem fok66 : FuncOk Try.prog 66 Try.f66 := funcOk_of Try.func66 (by kernel_rfl) (by kernel_rfl)
theorem fok67 : FuncOk Try.prog 67 Try.f67 := funcOk_of Try.func67 (by kernel_rfl) (by kernel_rfl)
theorem fok68 : FuncOk Try.prog 68 Try.f68 := funcOk_of Try.func68 (by kernel_rfl) (by kernel_rfl)
theorem fok69 : FuncOk Try.prog 69 Try.f69 := funcOk_of Try.func69 (by kernel_rfl) (by kernel_rfl)
theorem fok70 : FuncOk Try.prog 70 Try.f70 := funcOk_of Try.func70 (by kernel_rfl) (by kernel_rfl)
theorem fok71 : FuncOk Try.prog 71 Try.f71 := funcOk_of Try.func71 (by kernel_rfl) (by kernel_rfl)
theorem fok72 : FuncOk Try.prog 72 Try.f72 := funcOk_of Try.func72 (by kernel_rfl) (by kernel_rfl)
theorem fok73 : FuncOk Try.prog 73 Try.f73 := funcOk_of Try.func73 (by kernel_rfl) (by kernel_rfl)
theorem fok74 : FuncOk Try.prog 74 Try.f74 := funcOk_of Try.func74 (by kernel_rfl) (by kernel_rfl)
theorem fok75 : FuncOk Try.prog 75 Try.f75 := funcOk_of Try.func75 (by kernel_rfl) (by kernel_rfl)
theorem fok76 : FuncOk Try.prog 76 Try.f76 := funcOk_of Try.func76 (by kernel_rfl) (by kernel_rfl)
theorem fok77 : FuncOk Try.prog 77 Try.f77 := funcOk_of Try.func77 (by kernel_rfl) (by kernel_rfl)
theorem fok78 : FuncOk Try.prog 78 Try.f78 := funcOk_of Try.func78 (by kernel_rfl) (by kernel_rfl)
theorem fok79 : FuncOk Try.prog 79 Try.f79 := funcOk_of Try.func79 (by kernel_rfl) (by kernel_rfl)
theorem fok80 : FuncOk Try.prog 80 Try.f80 := funcOk_of Try.func80 (by kernel_rfl) (by kernel_rfl)
theorem fok81 : FuncOk Try.prog 81 Try.f81 := funcOk_of Try.func81 (by kernel_rfl) (by kernel_rfl)
theorem fok82 : FuncOk Try.prog 82 Try.f82 := funcOk_of Try.func82 (by kernel_rfl) (by kernel_rfl)
theorem fok83 : FuncOk Try.prog 83 Try.f83 := funcOk_of Try.func83 (by kernel_rfl) (by kernel_rfl)
theorem fok84 : FuncOk Try.prog 84 Try.f84 := funcOk_of Try.func84 (by kernel_rfl) (by kernel_rfl)
theorem fok85 : FuncOk Try.prog 85 Try.f85 := funcOk_of Try.func85 (by kernel_rfl) (by kernel_rfl)
theorem fok86 : FuncOk Try.prog 86 Try.f86 := funcOk_of Try.func86 (by kernel_rfl) (by kernel_rfl)
theorem fok87 : FuncOk Try.prog 87 Try.f87 := funcOk_of Try.func87 (by kernel_rfl) (by kernel_rfl)
theorem fok88 : FuncOk Try.prog 88 Try.f88 := funcOk_of Try.func88 (by kernel_rfl) (by kernel_rfl)
theorem fok89 : FuncOk Try.prog 89 Try.f89 := funcOk_of Try.func89 (by kernel_rfl) (by kernel_rfl)
theorem fok90 : FuncOk Try.prog 90 Try.f90 := funcOk_of Try.func90 (by kernel_rfl) (by kernel_rfl)
theorem fok91 : FuncOk Try.prog 91 Try.f91 := funcOk_of Try.func91 (by kernel_rfl) (by kernel_rfl)
theorem fok92 : FuncOk Try.prog 92 Try.f92 := funcOk_of Try.func92 (by kernel_rfl) (by kernel_rfl)
theorem fok93 : FuncOk Try.prog 93 Try.f93 := funcOk_of Try.func93 (by kernel_rfl) (by kernel_rfl)
theorem fok94 : FuncOk Try.prog 94 Try.f94 := funcOk_of Try.func94 (by kernel_rfl) (by kernel_rfl)
theorem fok95 : FuncOk Try.prog 95 Try.f95 := funcOk_of Try.func95 (by kernel_rfl) (by kernel_rfl)
theorem fok96 : FuncOk Try.prog 96 Try.f96 := funcOk_of Try.func96 (by kernel_rfl) (by kernel_rfl)
theorem fok97 : FuncOk Try.prog 97 Try.f97 := funcOk_of Try.func97 (by kernel_rfl) (by kernel_rfl)
theorem fok98 : FuncOk Try.prog 98 Try.f98 := funcOk_of Try.func98 (by kernel_rfl) (by kernel_rfl)
theorem fok99 : FuncOk Try.prog 99 Try.f99 := funcOk_of Try.func99 (by kernel_rfl) (by kernel_rfl)
theorem fok100 : FuncOk Try.prog 100 Try.f100 := funcOk_of Try.func100 (by kernel_rfl) (by kernel_rfl)
theorem fok101 : FuncOk Try.prog 101 Try.f101 := funcOk_of Try.func101 (by kernel_rfl) (by kernel_rfl)
theorem fok102 : FuncOk Try.prog 102 Try.f102 := funcOk_of Try.func102 (by kernel_rfl) (by kernel_rfl)
theorem fok103 : FuncOk Try.prog 103 Try.f103 := funcOk_of Try.func103 (by kernel_rfl) (by kernel_rfl)
theorem fok104 : FuncOk Try.prog 104 Try.f104 := funcOk_of Try.func104 (by kernel_rfl) (by kernel_rfl)
theorem fok105 : FuncOk Try.prog 105 Try.f105 := funcOk_of Try.func105 (by kernel_rfl) (by kernel_rfl)
theorem fok106 : FuncOk Try.prog 106 Try.f106 := funcOk_of Try.func106 (by kernel_rfl) (by kernel_rfl)
theorem fok107 : FuncOk Try.prog 107 Try.f107 := funcOk_of Try.func107 (by kernel_rfl) (by kernel_rfl)
theorem fok108 : FuncOk Try.prog 108 Try.f108 := funcOk_of Try.func108 (by kernel_rfl) (by kernel_rfl)
theorem fok109 : FuncOk Try.prog 109 Try.f109 := funcOk_of Try.func109 (by kernel_rfl) (by kernel_rfl)
theorem fok110 : FuncOk Try.prog 110 Try.f110 := funcOk_of Try.func110 (by kernel_rfl) (by kernel_rfl)
theorem fok111 : FuncOk Try.prog 111 Try.f111 := funcOk_of Try.func111 (by kernel_rfl) (by kernel_rfl)
theorem fok112 : FuncOk Try.prog 112 Try.f112 := funcOk_of Try.func112 (by kernel_rfl) (by kernel_rfl)
theorem fok113 : FuncOk Try.prog 113 Try.f113 := funcOk_of Try.func113 (by kernel_rfl) (by kernel_rfl)
theorem fok114 : FuncOk Try.prog 114 Try.f114 := funcOk_of Try.func114 (by kernel_rfl) (by kernel_rfl)
theorem tab_ok : tab.Ok Try.prog := tabOk_of
 (show AllP (TypeOk Try.prog) types.toList from ⟨tok0, tok1, tok3, tok7, tok15, tok31, tok63, tok127, tok95, tok159, tok47, tok79, tok143, tok111, tok23, tok39, tok71, tok135, tok103, tok55, tok87, tok151, tok119, tok11, tok19, tok35, tok67, tok131, tok99, tok51, tok83, tok147, tok115, tok27, tok43, tok75, tok139, tok107, tok59, tok91, tok155, tok123, tok5, tok9, tok17, tok33, tok65, tok129, tok97, tok49, tok81, tok145, tok113, tok25, tok41, tok73, tok137, tok105, tok57, tok89, tok153, tok121, tok13, tok21, tok37, tok69, tok133, tok101, tok53, tok85, tok149, tok117, tok29, tok45, tok77, tok141, tok109, tok61, tok93, tok157, tok125, tok2, tok4, tok8, tok16, tok32, tok64, tok128, tok96, tok48, tok80, tok144, tok112, tok24, tok40, tok72, tok136, tok104, tok56, tok88, tok152, tok120, tok12, tok20, tok36, tok68, tok132, tok100, tok52, tok84, tok148, tok116, tok28, tok44, tok76, tok140, tok108, tok60, tok92, tok156, tok124, tok6, tok10, tok18, tok34, tok66, tok130, tok98, tok50, tok82, tok146, tok114, tok26, tok42, tok74, tok138, tok106, tok58, tok90, tok154, tok122, tok14, tok22, tok38, tok70, tok134, tok102, tok54, tok86, tok150, tok118, tok30, tok46, tok78, tok142, tok110, tok62, tok94, tok158, tok126, trivial⟩)
 (show AllP (FuncOk Try.prog) funcs.toList from ⟨fok0, fok1, fok3, fok7, fok15, fok31, fok63, fok95, fok47, fok79, fok111, fok23, fok39, fok71, fok103, fok55, fok87, fok11, fok19, fok35, fok67, fok99, fok51, fok83, fok27, fok43, fok75, fok107, fok59, fok91, fok5, fok9, fok17, fok33, fok65, fok97, fok49, fok81, fok113, fok25, fok41, fok73, fok105, fok57, fok89, fok13, fok21, fok37, fok69, fok101, fok53, fok85, fok29, fok45, fok77, fok109, fok61, fok93, fok2, fok4, fok8, fok16, fok32, fok64, fok96, fok48, fok80, fok112, fok24, fok40, fok72, fok104, fok56, fok88, fok12, fok20, fok36, fok68, fok100, fok52, fok84, fok28, fok44, fok76, fok108, fok60, fok92, fok6, fok10, fok18, fok34, fok66, fok98, fok50, fok82, fok114, fok26, fok42, fok74, fok106, fok58, fok90, fok14, fok22, fok38, fok70, fok102, fok54, fok86, fok30, fok46, fok78, fok110, fok62, fok94, trivial⟩)
 Try.checked.mixed rfl
end Go.Ai.TabYtdhenjdmpacklaa

/- The table of this seat: no constants. -/
namespace Go.Ai.TabYtdhenjdmpacklaa
open Go Go.Ai Go.Proofs
noncomputable abbrev ktab : Tab := tab
theorem ktab_ok : ktab.Ok Try.prog := tab_ok
end Go.Ai.TabYtdhenjdmpacklaa

/- Written by program: the data of the functions, and the functions as plain Lean. -/
namespace Go.Ai.Sx
abbrev Task : Type := Int × Int × Int × Int × Unit
abbrev Yard : Type := (List (List Int)) × Int × (List Bool) × Unit
abbrev duty_work : Type := (List Task) × Yard × Unit
abbrev DutyProof : Type := (List Int) × (List Int) × Unit
abbrev WorkRules : Type := Int × Int × Int × Int × Int × Int × Unit
abbrev duty_crew : Type := duty_work × (List (List Int)) × WorkRules × Unit
abbrev DutyPiece : Type := Int × Int × Int × Unit
abbrev Duty : Type := (List DutyPiece) × Unit
abbrev duty_option : Type := Duty × Int × Int × Unit
abbrev duty_cost : Type := Int × Int × Unit
abbrev rTask : Rep Task := (rPair (rInt .i64) (rPair (rInt .i64) (rPair (rInt .i64) (rPair (rInt .i64) rUnit))))
theorem fk_Task_0 : FOk rTask 0 (rInt .i64) (fun x => x.1) (fun x y => (y, x.2.1, x.2.2.1, x.2.2.2.1, ())) := FOk.off FOk.here rfl
theorem fk_Task_1 : FOk rTask 1 (rInt .i64) (fun x => x.2.1) (fun x y => (x.1, y, x.2.2.1, x.2.2.2.1, ())) := FOk.off (FOk.there FOk.here) rfl
theorem fk_Task_2 : FOk rTask 2 (rInt .i64) (fun x => x.2.2.1) (fun x y => (x.1, x.2.1, y, x.2.2.2.1, ())) := FOk.off (FOk.there (FOk.there FOk.here)) rfl
theorem fk_Task_3 : FOk rTask 3 (rInt .i64) (fun x => x.2.2.2.1) (fun x y => (x.1, x.2.1, x.2.2.1, y, ())) := FOk.off (FOk.there (FOk.there (FOk.there FOk.here))) rfl
abbrev rYard : Rep Yard := (rPair (rSlice (rSlice (rInt .i64))) (rPair (rInt .i64) (rPair (rSlice rBool) rUnit)))
theorem fk_Yard_0 : FOk rYard 0 (rSlice (rSlice (rInt .i64))) (fun x => x.1) (fun x y => (y, x.2.1, x.2.2.1, ())) := FOk.off FOk.here rfl
theorem fk_Yard_1 : FOk rYard 1 (rInt .i64) (fun x => x.2.1) (fun x y => (x.1, y, x.2.2.1, ())) := FOk.off (FOk.there FOk.here) rfl
theorem fk_Yard_2 : FOk rYard 2 (rSlice rBool) (fun x => x.2.2.1) (fun x y => (x.1, x.2.1, y, ())) := FOk.off (FOk.there (FOk.there FOk.here)) rfl
abbrev rduty_work : Rep duty_work := (rPair (rSlice rTask) (rPair rYard rUnit))
theorem fk_duty_work_0 : FOk rduty_work 0 (rSlice rTask) (fun x => x.1) (fun x y => (y, x.2.1, ())) := FOk.off FOk.here rfl
theorem fk_duty_work_1 : FOk rduty_work 1 rYard (fun x => x.2.1) (fun x y => (x.1, y, ())) := FOk.off (FOk.there FOk.here) rfl
abbrev rDutyProof : Rep DutyProof := (rPair (rSlice (rInt .i64)) (rPair (rSlice (rInt .i64)) rUnit))
theorem fk_DutyProof_0 : FOk rDutyProof 0 (rSlice (rInt .i64)) (fun x => x.1) (fun x y => (y, x.2.1, ())) := FOk.off FOk.here rfl
theorem fk_DutyProof_1 : FOk rDutyProof 1 (rSlice (rInt .i64)) (fun x => x.2.1) (fun x y => (x.1, y, ())) := FOk.off (FOk.there FOk.here) rfl
abbrev rWorkRules : Rep WorkRules := (rPair (rInt .i64) (rPair (rInt .i64) (rPair (rInt .i64) (rPair (rInt .i64) (rPair (rInt .i64) (rPair (rInt .i64) rUnit))))))
theorem fk_WorkRules_0 : FOk rWorkRules 0 (rInt .i64) (fun x => x.1) (fun x y => (y, x.2.1, x.2.2.1, x.2.2.2.1, x.2.2.2.2.1, x.2.2.2.2.2.1, ())) := FOk.off FOk.here rfl
theorem fk_WorkRules_1 : FOk rWorkRules 1 (rInt .i64) (fun x => x.2.1) (fun x y => (x.1, y, x.2.2.1, x.2.2.2.1, x.2.2.2.2.1, x.2.2.2.2.2.1, ())) := FOk.off (FOk.there FOk.here) rfl
theorem fk_WorkRules_2 : FOk rWorkRules 2 (rInt .i64) (fun x => x.2.2.1) (fun x y => (x.1, x.2.1, y, x.2.2.2.1, x.2.2.2.2.1, x.2.2.2.2.2.1, ())) := FOk.off (FOk.there (FOk.there FOk.here)) rfl
theorem fk_WorkRules_3 : FOk rWorkRules 3 (rInt .i64) (fun x => x.2.2.2.1) (fun x y => (x.1, x.2.1, x.2.2.1, y, x.2.2.2.2.1, x.2.2.2.2.2.1, ())) := FOk.off (FOk.there (FOk.there (FOk.there FOk.here))) rfl
theorem fk_WorkRules_4 : FOk rWorkRules 4 (rInt .i64) (fun x => x.2.2.2.2.1) (fun x y => (x.1, x.2.1, x.2.2.1, x.2.2.2.1, y, x.2.2.2.2.2.1, ())) := FOk.off (FOk.there (FOk.there (FOk.there (FOk.there FOk.here)))) rfl
theorem fk_WorkRules_5 : FOk rWorkRules 5 (rInt .i64) (fun x => x.2.2.2.2.2.1) (fun x y => (x.1, x.2.1, x.2.2.1, x.2.2.2.1, x.2.2.2.2.1, y, ())) := FOk.off (FOk.there (FOk.there (FOk.there (FOk.there (FOk.there FOk.here))))) rfl
abbrev rduty_crew : Rep duty_crew := (rPair (rPtr rduty_work) (rPair (rSlice (rSlice (rInt .i64))) (rPair rWorkRules rUnit)))
theorem fk_duty_crew_0 : FOk rduty_crew 0 (rPtr rduty_work) (fun x => x.1) (fun x y => (y, x.2.1, x.2.2.1, ())) := FOk.off FOk.here rfl
theorem fk_duty_crew_1 : FOk rduty_crew 1 (rSlice (rSlice (rInt .i64))) (fun x => x.2.1) (fun x y => (x.1, y, x.2.2.1, ())) := FOk.off (FOk.there FOk.here) rfl
theorem fk_duty_crew_2 : FOk rduty_crew 2 rWorkRules (fun x => x.2.2.1) (fun x y => (x.1, x.2.1, y, ())) := FOk.off (FOk.there (FOk.there FOk.here)) rfl
abbrev rDutyPiece : Rep DutyPiece := (rPair (rInt .i64) (rPair (rInt .i64) (rPair (rInt .i64) rUnit)))
theorem fk_DutyPiece_0 : FOk rDutyPiece 0 (rInt .i64) (fun x => x.1) (fun x y => (y, x.2.1, x.2.2.1, ())) := FOk.off FOk.here rfl
theorem fk_DutyPiece_1 : FOk rDutyPiece 1 (rInt .i64) (fun x => x.2.1) (fun x y => (x.1, y, x.2.2.1, ())) := FOk.off (FOk.there FOk.here) rfl
theorem fk_DutyPiece_2 : FOk rDutyPiece 2 (rInt .i64) (fun x => x.2.2.1) (fun x y => (x.1, x.2.1, y, ())) := FOk.off (FOk.there (FOk.there FOk.here)) rfl
abbrev rDuty : Rep Duty := (rPair (rSlice rDutyPiece) rUnit)
theorem fk_Duty_0 : FOk rDuty 0 (rSlice rDutyPiece) (fun x => x.1) (fun x y => (y, ())) := FOk.off FOk.here rfl
abbrev rduty_option : Rep duty_option := (rPair rDuty (rPair (rInt .u64) (rPair (rInt .i64) rUnit)))
theorem fk_duty_option_0 : FOk rduty_option 0 rDuty (fun x => x.1) (fun x y => (y, x.2.1, x.2.2.1, ())) := FOk.off FOk.here rfl
theorem fk_duty_option_1 : FOk rduty_option 1 (rInt .u64) (fun x => x.2.1) (fun x y => (x.1, y, x.2.2.1, ())) := FOk.off (FOk.there FOk.here) rfl
theorem fk_duty_option_2 : FOk rduty_option 2 (rInt .i64) (fun x => x.2.2.1) (fun x y => (x.1, x.2.1, y, ())) := FOk.off (FOk.there (FOk.there FOk.here)) rfl
abbrev rduty_cost : Rep duty_cost := (rPair (rInt .i64) (rPair (rInt .i64) rUnit))
theorem fk_duty_cost_0 : FOk rduty_cost 0 (rInt .i64) (fun x => x.1) (fun x y => (y, x.2.1, ())) := FOk.off FOk.here rfl
theorem fk_duty_cost_1 : FOk rduty_cost 1 (rInt .i64) (fun x => x.2.1) (fun x y => (x.1, y, ())) := FOk.off (FOk.there FOk.here) rfl
def g_law08_few (t_0 : (List Task)) (y_1 : Yard) (most_2 : Int) : Option (Bool) :=
Option.bind (cond ((decide ((lenI y_1.2.2.1) > 50))) (some true) (some ((decide ((lenI y_1.1) > 50))))) fun c2 =>
cond (c2) (some false) (Option.bind (iter (σ := (Int)) (τ := Unit ⊕ (Bool)) (fun s8 =>
cond ((decide (s8 < (lenI y_1.1)))) (Option.bind (idx y_1.1 s8) fun x11 =>
cond ((decide ((lenI x11) > 50))) (some (.inr ((.inr false)))) (some (.inl ((w64 (s8 + 1)))))) (some (.inr ((.inl (())))))) big 0) fun t13 =>
alt (fun b15 => Option.bind (cond ((decide ((lenI t_0) ≤ most_2))) (some true) (cond ((decide ((lenI t_0) > 60))) (some ((decide ((lenI t_0) < 200)))) (some false))) fun c19 =>
some c19) (fun b16 => some b16) t13)
def g_duty_within (n_0 : Int) (low_1 : Int) (high_2 : Int) : Option (Bool) :=
Option.bind (cond ((decide (n_0 ≥ low_1))) (some ((decide (n_0 ≤ high_2)))) (some false)) fun c2 =>
some c2
def g_slices_IndexFunc_int_int (s_0 : (List Int)) (f_1 : ((Int) → Option (Bool))) : Option (Int) :=
Option.bind (iter (σ := (Int)) (τ := Unit ⊕ (Int)) (fun s5 =>
cond ((decide (s5 < (lenI s_0)))) (Option.bind (idx s_0 s5) fun x8 =>
Option.bind (f_1 x8) fun y9 =>
cond (y9) (some (.inr ((.inr s5)))) (some (.inl ((w64 (s5 + 1)))))) (some (.inr ((.inl (())))))) big 0) fun t11 =>
alt (fun b13 => some ((-1))) (fun b14 => some b14) t11
def g_slices_ContainsFunc_int_int (s_0 : (List Int)) (f_1 : ((Int) → Option (Bool))) : Option (Bool) :=
Option.bind (g_slices_IndexFunc_int_int s_0 f_1) fun y1 =>
some ((decide (y1 ≥ 0)))
def g_duty_Check_1 (d_0 : Int) : Option (Bool) :=
Option.bind (g_duty_within d_0 ((-1)) 20000) fun y1 =>
some ((!y1))
def g_duty_Check (p_0 : (List Task)) (p_1 : Yard) : Option (Int) :=
Option.bind (cond ((decide ((lenI p_0) > 60))) (some true) (Option.bind (g_duty_within ((lenI p_1.2.2.1)) 1 40) fun y8 =>
cond ((!y8)) (some true) (cond (((lenI p_1.1) != (lenI p_1.2.2.1))) (some true) (Option.bind (g_duty_within p_1.2.1 0 3600) fun y11 =>
some ((!y11)))))) fun c6 =>
cond (c6) (some 2) (Option.bind (iter (σ := (Int)) (τ := Unit ⊕ (Int)) (fun s26 =>
cond ((decide (s26 < (lenI p_1.1)))) (Option.bind (idx p_1.1 s26) fun x29 =>
cond (((lenI x29) != (lenI p_1.2.2.1))) (some (.inr ((.inr 2)))) (Option.bind (idx x29 s26) fun x36 =>
cond ((x36 != 0)) (some (.inr ((.inr 2)))) (Option.bind (g_slices_ContainsFunc_int_int x29 ((fun x => g_duty_Check_1 x))) fun y39 =>
cond (y39) (some (.inr ((.inr 2)))) (some (.inl ((w64 (s26 + 1)))))))) (some (.inr ((.inl (())))))) big 0) fun t41 =>
alt (fun b43 => Option.bind (iter (σ := (Int)) (τ := Unit ⊕ (Int)) (fun s73 =>
cond ((decide (s73 < (lenI p_0)))) (Option.bind (idx p_0 s73) fun x76 =>
Option.bind (g_duty_within x76.1 0 ((w64 ((lenI p_1.2.2.1) - 1)))) fun y88 =>
cond ((!y88)) (some (.inr ((.inr 2)))) (Option.bind (g_duty_within x76.2.1 0 ((w64 ((lenI p_1.2.2.1) - 1)))) fun y91 =>
cond ((!y91)) (some (.inr ((.inr 2)))) (Option.bind (g_duty_within x76.2.2.1 0 x76.2.2.2.1) fun y94 =>
cond ((!y94)) (some (.inr ((.inr 2)))) (cond ((decide (x76.2.2.2.1 > 200000))) (some (.inr ((.inr 2)))) (cond ((decide (s73 > 0))) (Option.bind (idx p_0 ((w64 (s73 - 1)))) fun x100 =>
cond ((decide (x76.2.2.1 < x100.2.2.1))) (some (.inr ((.inr 2)))) (some (.inl ((w64 (s73 + 1)))))) (some (.inl ((w64 (s73 + 1)))))))))) (some (.inr ((.inl (())))))) big 0) fun t103 =>
alt (fun b105 => some 0) (fun b106 => some b106) t103) (fun b44 => some b44) t41)
def g_duty_work_follows (w_0 : duty_work) (a_1 : Int) (b_2 : Int) : Option (Bool) :=
Option.bind (idx w_0.1 a_1) fun x1 =>
Option.bind (idx w_0.1 b_2) fun x2 =>
Option.bind (idx w_0.2.1.1 x1.2.1) fun x7 =>
Option.bind (idx x7 x2.1) fun x8 =>
Option.bind (cond ((decide (a_1 < b_2))) (cond ((decide (x8 ≥ 0))) (some ((decide ((w64 ((w64 (x1.2.2.2.1 + w_0.2.1.2.1)) + x8)) ≤ x2.2.2.1)))) (some false)) (some false)) fun c11 =>
some c11
def g_slices_Index_int_int (s_0 : (List Int)) (v_1 : Int) : Option (Int) :=
Option.bind (iter (σ := (Int)) (τ := Unit ⊕ (Int)) (fun s4 =>
cond ((decide (s4 < (lenI s_0)))) (Option.bind (idx s_0 s4) fun x7 =>
cond ((v_1 == x7)) (some (.inr ((.inr s4)))) (some (.inl ((w64 (s4 + 1)))))) (some (.inr ((.inl (())))))) big 0) fun t9 =>
alt (fun b11 => some ((-1))) (fun b12 => some b12) t9
def g_slices_Contains_int_int (s_0 : (List Int)) (v_1 : Int) : Option (Bool) :=
Option.bind (g_slices_Index_int_int s_0 v_1) fun y1 =>
some ((decide (y1 ≥ 0)))
def g_duty_work_matched_1_body   (rec : Int → Int → (List Bool) → (List Bool) → duty_work → (List Int) → Option ((Bool) × (List Bool) × (List Int))) (a_0 : Int) (p_1 : Int) (p_2 : (List Bool)) (p_3 : (List Bool)) (p_4 : duty_work) (p_5 : (List Int)) : Option ((Bool) × (List Bool) × (List Int)) :=
Option.bind (iter (σ := (Int × (List Bool) × (List Int))) (τ := ((List Bool) × (List Int)) ⊕ (Bool × (List Bool) × (List Int))) (fun s63 =>
cond ((decide (s63.1 < p_1))) (Option.bind (idx p_2 s63.1) fun x79 =>
cond (x79) (some (.inl (((w64 (s63.1 + 1)), s63.2.1, s63.2.2)))) (Option.bind (idx s63.2.1 s63.1) fun x84 =>
cond (x84) (some (.inl (((w64 (s63.1 + 1)), s63.2.1, s63.2.2)))) (Option.bind (g_duty_work_follows p_4 a_0 s63.1) fun y89 =>
cond ((!y89)) (some (.inl (((w64 (s63.1 + 1)), s63.2.1, s63.2.2)))) (Option.bind (idx s63.2.1 s63.1) fun x93 =>
Option.bind (idx s63.2.2 s63.1) fun x99 =>
cond ((decide (x99 < 0))) (Option.bind (idx s63.2.2 s63.1) fun x102 =>
some (.inr ((.inr ((true, (s63.2.1).set (Int.toNat s63.1) true, (s63.2.2).set (Int.toNat s63.1) a_0)))))) (Option.bind (idx s63.2.2 s63.1) fun x105 =>
Option.bind (rec x105 p_1 p_2 ((s63.2.1).set (Int.toNat s63.1) true) p_4 s63.2.2) fun y106 =>
cond (y106.1) (Option.bind (idx y106.2.2 s63.1) fun x109 =>
some (.inr ((.inr ((true, y106.2.1, (y106.2.2).set (Int.toNat s63.1) a_0)))))) (some (.inl (((w64 (s63.1 + 1)), y106.2.1, y106.2.2))))))))) (some (.inr ((.inl ((s63.2.1, s63.2.2))))))) big (((w64 (a_0 + 1)), p_3, p_5))) fun t116 =>
alt (fun b118 => some ((false, b118.1, b118.2))) (fun b119 => some ((b119.1, b119.2.1, b119.2.2))) t116
def g_duty_work_matched_1   : Nat → Int → Int → (List Bool) → (List Bool) → duty_work → (List Int) → Option ((Bool) × (List Bool) × (List Int))
 | 0 => fun _ _ _ _ _ _ => none
 | k + 1 => g_duty_work_matched_1_body (g_duty_work_matched_1 k)
def g_duty_work_matched (w_0 : duty_work) (fixed_1 : (List Int)) : Option (Int) :=
Option.bind (mkO 8 ((lenI w_0.1)) (0 : Int)) fun x3 =>
Option.bind (iter (σ := (Int × (List Int))) (τ := ((List Int))) (fun s15 =>
cond ((decide (s15.1 < (lenI x3)))) (Option.bind (idx s15.2 s15.1) fun x21 =>
some (.inl (((w64 (s15.1 + 1)), (s15.2).set (Int.toNat s15.1) ((-1)))))) (some (.inr s15.2))) big ((0, x3))) fun t24 =>
Option.bind (mkO 1 ((lenI w_0.1)) (false : Bool)) fun x27 =>
Option.bind (iter (σ := (Int × Int × (List Bool))) (τ := (Int × (List Bool))) (fun s43 =>
cond ((decide (s43.2.1 < (lenI fixed_1)))) (Option.bind (idx fixed_1 s43.2.1) fun x49 =>
cond ((decide (x49 < (lenI w_0.1)))) (Option.bind (idx s43.2.2 x49) fun x51 =>
some (.inl (((w64 (s43.1 + 1)), (w64 (s43.2.1 + 1)), (s43.2.2).set (Int.toNat x49) true)))) (some (.inl ((s43.1, (w64 (s43.2.1 + 1)), s43.2.2))))) (some (.inr (((s43.1, s43.2.2)))))) big ((0, 0, x27))) fun t55 =>
Option.bind (iter (σ := (Int × Int × (List Bool) × (List Int))) (τ := (Int × (List Bool) × (List Int))) (fun s81 =>
cond ((decide (s81.2.1 < (lenI w_0.1)))) (Option.bind (mkO 1 ((lenI w_0.1)) (false : Bool)) fun x90 =>
Option.bind (g_duty_work_matched_1 big s81.2.1 ((lenI w_0.1)) t55.2 x90 w_0 s81.2.2.2) fun y93 =>
cond (y93.1) (some (.inl (((w64 (s81.1 + 1)), (w64 (s81.2.1 + 1)), y93.2.1, y93.2.2)))) (some (.inl ((s81.1, (w64 (s81.2.1 + 1)), y93.2.1, y93.2.2))))) (some (.inr (((s81.1, s81.2.2.1, s81.2.2.2)))))) big ((t55.1, (lenI fixed_1), [], t24))) fun t102 =>
some t102.1
def g_slices_Clone_int_int (s_0 : (List Int)) : Option (List Int) := appO 8 [] s_0
def g_duty_work_followers (w_0 : duty_work) : Option ((List Int)) :=
Option.bind (g_duty_work_matched w_0 ([])) fun y2 =>
Option.bind (iter (σ := ((List Int) × Int)) (τ := ((List Int))) (fun s83 =>
cond ((decide (s83.2 < (lenI w_0.1)))) (Option.bind (iter (σ := ((List Int) × Int)) (τ := ((List Int) × Int × Bool × Bool × duty_work × Int × (List Int) × (List Int) × Int × Int × Bool) ⊕ ((List Int))) (fun s117 =>
cond ((decide (s117.2 < (lenI w_0.1)))) (Option.bind (g_duty_work_follows w_0 s83.2 s117.2) fun y135 =>
cond (y135) (Option.bind (g_slices_Contains_int_int s117.1 s117.2) fun y137 =>
cond ((!y137)) (Option.bind (g_slices_Clone_int_int s117.1) fun y139 =>
Option.bind (appO 8 y139 ([s117.2])) fun x142 =>
Option.bind (g_duty_work_matched w_0 x142) fun y144 =>
cond ((y144 == y2)) (Option.bind (appO 8 s117.1 ([s117.2])) fun x146 =>
some (.inr ((.inl ((x146, s117.2, y137, (!y137), w_0, s117.2, [s117.2], x142, y144, y2, (y144 == y2))))))) (some (.inl ((s117.1, (w64 (s117.2 + 1))))))) (some (.inl ((s117.1, (w64 (s117.2 + 1))))))) (some (.inl ((s117.1, (w64 (s117.2 + 1))))))) (some (.inr ((.inr s117.1))))) big ((s83.1, (w64 (s83.2 + 1))))) fun t156 =>
alt (fun b158 => some (.inl ((b158.1, (w64 (s83.2 + 1)))))) (fun b159 => Option.bind (appO 8 b159 ([(lenI w_0.1)])) fun x164 =>
some (.inl ((x164, (w64 (s83.2 + 1)))))) t156) (some (.inr s83.1))) big (([], 0))) fun t168 =>
some t168
def g_duty_Cars_1_body   (rec : Int → (List Bool) → Int → duty_work → (List Bool) → (List Int) → Option ((List Bool) × (List Bool))) (a_0 : Int) (p_1 : (List Bool)) (p_2 : Int) (p_3 : duty_work) (p_4 : (List Bool)) (p_5 : (List Int)) : Option ((List Bool) × (List Bool)) :=
Option.bind (idx p_1 a_0) fun x1 =>
cond (x1) (some ((p_1, p_4))) (Option.bind (idx p_1 a_0) fun x3 =>
Option.bind (iter (σ := (Int × (List Bool) × (List Bool))) (τ := ((List Bool) × (List Bool))) (fun s38 =>
cond ((decide (s38.1 < p_2))) (Option.bind (g_duty_work_follows p_3 a_0 s38.1) fun y50 =>
cond (y50) (Option.bind (idx s38.2.2 s38.1) fun x52 =>
cond ((!x52)) (Option.bind (idx s38.2.2 s38.1) fun x54 =>
Option.bind (idx p_5 s38.1) fun x55 =>
cond ((decide (x55 ≥ 0))) (Option.bind (idx p_5 s38.1) fun x57 =>
Option.bind (rec x57 s38.2.1 p_2 p_3 ((s38.2.2).set (Int.toNat s38.1) true) p_5) fun y58 =>
some (.inl (((w64 (s38.1 + 1)), y58.1, y58.2)))) (some (.inl (((w64 (s38.1 + 1)), s38.2.1, (s38.2.2).set (Int.toNat s38.1) true))))) (some (.inl (((w64 (s38.1 + 1)), s38.2.1, s38.2.2))))) (some (.inl (((w64 (s38.1 + 1)), s38.2.1, s38.2.2))))) (some (.inr (((s38.2.1, s38.2.2)))))) big ((0, (p_1).set (Int.toNat a_0) true, p_4))) fun t71 =>
some ((t71.1, t71.2)))
def g_duty_Cars_1   : Nat → Int → (List Bool) → Int → duty_work → (List Bool) → (List Int) → Option ((List Bool) × (List Bool))
 | 0 => fun _ _ _ _ _ _ => none
 | k + 1 => g_duty_Cars_1_body (g_duty_Cars_1 k)
def g_duty_Cars (p_0 : (List Task)) (p_1 : Yard) : Option ((List (List Int)) × DutyProof × Int) :=
Option.bind (g_duty_Check p_0 p_1) fun y4 =>
cond ((y4 != 0)) (some (([], (([], [], ()) : DutyProof), 2))) (Option.bind (g_duty_work_followers (((p_0, p_1, ()) : duty_work))) fun y11 =>
Option.bind (mkO 8 ((lenI p_0)) (0 : Int)) fun x14 =>
Option.bind (iter (σ := (Int × (List Int))) (τ := ((List Int))) (fun s26 =>
cond ((decide (s26.1 < (lenI x14)))) (Option.bind (idx s26.2 s26.1) fun x32 =>
some (.inl (((w64 (s26.1 + 1)), (s26.2).set (Int.toNat s26.1) ((-1)))))) (some (.inr s26.2))) big ((0, x14))) fun t35 =>
Option.bind (iter (σ := (Int × (List Int))) (τ := ((List Int))) (fun s48 =>
cond ((decide (s48.1 < (lenI y11)))) (Option.bind (idx y11 s48.1) fun x54 =>
cond ((decide (x54 < (lenI p_0)))) (Option.bind (idx s48.2 x54) fun x56 =>
some (.inl (((w64 (s48.1 + 1)), (s48.2).set (Int.toNat x54) s48.1)))) (some (.inl (((w64 (s48.1 + 1)), s48.2))))) (some (.inr s48.2))) big ((0, t35))) fun t60 =>
Option.bind (iter (σ := ((List (List Int)) × Int)) (τ := ((List (List Int)))) (fun s92 =>
cond ((decide (s92.2 < (lenI p_0)))) (Option.bind (idx t60 s92.2) fun x98 =>
cond ((decide (x98 ≥ 0))) (some (.inl ((s92.1, (w64 (s92.2 + 1)))))) (Option.bind (iter (σ := ((List Int) × Int)) (τ := ((List Int))) (fun s108 =>
cond ((decide (s108.2 < (lenI p_0)))) (Option.bind (appO 8 s108.1 ([s108.2])) fun x114 =>
Option.bind (idx y11 s108.2) fun x116 =>
some (.inl ((x114, x116)))) (some (.inr s108.1))) big (([], s92.2))) fun t119 =>
Option.bind (appO 24 s92.1 ([t119])) fun x122 =>
some (.inl ((x122, (w64 (s92.2 + 1))))))) (some (.inr s92.1))) big (([], 0))) fun t126 =>
Option.bind (mkO 1 ((lenI p_0)) (false : Bool)) fun x129 =>
Option.bind (mkO 1 ((lenI p_0)) (false : Bool)) fun x132 =>
Option.bind (iter (σ := (Int × (List Bool) × (List Bool))) (τ := ((List Bool) × (List Bool))) (fun s157 =>
cond ((decide (s157.1 < (lenI p_0)))) (Option.bind (idx y11 s157.1) fun x166 =>
cond ((x166 == (lenI p_0))) (Option.bind (g_duty_Cars_1 big s157.1 s157.2.2 ((lenI p_0)) (((p_0, p_1, ()) : duty_work)) s157.2.1 t60) fun y168 =>
some (.inl (((w64 (s157.1 + 1)), y168.2, y168.1)))) (some (.inl (((w64 (s157.1 + 1)), s157.2.1, s157.2.2))))) (some (.inr (((s157.2.1, s157.2.2)))))) big ((0, x132, x129))) fun t176 =>
Option.bind (iter (σ := (Int × (List Int) × (List Int))) (τ := ((List Int) × (List Int))) (fun s214 =>
cond ((decide (s214.1 < (lenI p_0)))) (Option.bind (idx t176.2 s214.1) fun x223 =>
cond ((!x223)) (Option.bind (appO 8 s214.2.2 ([s214.1])) fun x225 =>
Option.bind (idx t176.1 s214.1) fun x227 =>
cond (x227) (Option.bind (appO 8 s214.2.1 ([s214.1])) fun x229 =>
some (.inl (((w64 (s214.1 + 1)), x229, x225)))) (some (.inl (((w64 (s214.1 + 1)), s214.2.1, x225))))) (Option.bind (idx t176.1 s214.1) fun x235 =>
cond (x235) (Option.bind (appO 8 s214.2.1 ([s214.1])) fun x237 =>
some (.inl (((w64 (s214.1 + 1)), x237, s214.2.2)))) (some (.inl (((w64 (s214.1 + 1)), s214.2.1, s214.2.2)))))) (some (.inr (((s214.2.2, s214.2.1)))))) big ((0, [], []))) fun t245 =>
some ((t126, (t245.1, t245.2, ()), 0)))
def g_ref08_Same (a_0 : (List Int)) (b_1 : (List Int)) : Option (Bool) :=
cond (((lenI a_0) != (lenI b_1))) (some false) (Option.bind (iter (σ := (Int)) (τ := Unit ⊕ (Bool)) (fun s6 =>
cond ((decide (s6 < (lenI a_0)))) (Option.bind (idx a_0 s6) fun x9 =>
Option.bind (idx b_1 s6) fun x10 =>
cond ((x9 != x10)) (some (.inr ((.inr false)))) (some (.inl ((w64 (s6 + 1)))))) (some (.inr ((.inl (())))))) big 0) fun t12 =>
alt (fun b14 => some true) (fun b15 => some b15) t12)
def g_ref08_Lists (a_0 : (List (List Int))) (b_1 : (List (List Int))) : Option (Bool) :=
cond (((lenI a_0) != (lenI b_1))) (some false) (Option.bind (iter (σ := (Int)) (τ := Unit ⊕ (Bool)) (fun s7 =>
cond ((decide (s7 < (lenI a_0)))) (Option.bind (idx a_0 s7) fun x10 =>
Option.bind (idx b_1 s7) fun x11 =>
Option.bind (g_ref08_Same x10 x11) fun y12 =>
cond ((!y12)) (some (.inr ((.inr false)))) (some (.inl ((w64 (s7 + 1)))))) (some (.inr ((.inl (())))))) big 0) fun t14 =>
alt (fun b16 => some true) (fun b17 => some b17) t14)
def g_duty_work_planned (p_0 : duty_work) (p_1 : (List (List Int))) : Option (Bool) :=
Option.bind (mkO 1 ((lenI p_0.1)) (false : Bool)) fun x1 =>
Option.bind (iter (σ := (Int × Int × (List Bool))) (τ := (Int × (List Bool)) ⊕ (Bool)) (fun s298 =>
cond ((decide (s298.2.1 < (lenI p_1)))) (Option.bind (idx p_1 s298.2.1) fun x301 =>
cond (((lenI x301) == 0)) (some (.inr ((.inr false)))) (cond ((decide (s298.2.1 > 0))) (Option.bind (idx x301 0) fun x310 =>
Option.bind (idx p_1 ((w64 (s298.2.1 - 1)))) fun x311 =>
Option.bind (idx x311 0) fun x312 =>
cond ((decide (x310 ≤ x312))) (some (.inr ((.inr false)))) (Option.bind (iter (σ := (Int × Int × (List Bool))) (τ := (Int × (List Bool)) ⊕ (Bool × (List Bool))) (fun s358 =>
cond ((decide (s358.2.1 < (lenI x301)))) (Option.bind (idx x301 s358.2.1) fun x361 =>
Option.bind (g_duty_within x361 0 ((w64 ((lenI p_0.1) - 1)))) fun y369 =>
cond ((!y369)) (some (.inr ((.inr ((false, s358.2.2)))))) (Option.bind (idx s358.2.2 x361) fun x372 =>
cond (x372) (some (.inr ((.inr ((false, s358.2.2)))))) (cond ((decide (s358.2.1 > 0))) (Option.bind (idx x301 ((w64 (s358.2.1 - 1)))) fun x376 =>
Option.bind (g_duty_work_follows p_0 x376 x361) fun y377 =>
cond ((!y377)) (some (.inr ((.inr ((false, s358.2.2)))))) (Option.bind (idx s358.2.2 x361) fun x379 =>
some (.inl (((w64 (s358.1 + 1)), (w64 (s358.2.1 + 1)), (s358.2.2).set (Int.toNat x361) true))))) (Option.bind (idx s358.2.2 x361) fun x381 =>
some (.inl (((w64 (s358.1 + 1)), (w64 (s358.2.1 + 1)), (s358.2.2).set (Int.toNat x361) true))))))) (some (.inr ((.inl ((s358.1, s358.2.2))))))) big ((s298.1, 0, s298.2.2))) fun t382 =>
alt (fun b384 => some (.inl ((b384.1, (w64 (s298.2.1 + 1)), b384.2)))) (fun b385 => some (.inr ((.inr b385.1)))) t382)) (Option.bind (iter (σ := (Int × Int × (List Bool))) (τ := (Int × (List Bool)) ⊕ (Bool × (List Bool))) (fun s431 =>
cond ((decide (s431.2.1 < (lenI x301)))) (Option.bind (idx x301 s431.2.1) fun x434 =>
Option.bind (g_duty_within x434 0 ((w64 ((lenI p_0.1) - 1)))) fun y442 =>
cond ((!y442)) (some (.inr ((.inr ((false, s431.2.2)))))) (Option.bind (idx s431.2.2 x434) fun x445 =>
cond (x445) (some (.inr ((.inr ((false, s431.2.2)))))) (cond ((decide (s431.2.1 > 0))) (Option.bind (idx x301 ((w64 (s431.2.1 - 1)))) fun x449 =>
Option.bind (g_duty_work_follows p_0 x449 x434) fun y450 =>
cond ((!y450)) (some (.inr ((.inr ((false, s431.2.2)))))) (Option.bind (idx s431.2.2 x434) fun x452 =>
some (.inl (((w64 (s431.1 + 1)), (w64 (s431.2.1 + 1)), (s431.2.2).set (Int.toNat x434) true))))) (Option.bind (idx s431.2.2 x434) fun x454 =>
some (.inl (((w64 (s431.1 + 1)), (w64 (s431.2.1 + 1)), (s431.2.2).set (Int.toNat x434) true))))))) (some (.inr ((.inl ((s431.1, s431.2.2))))))) big ((s298.1, 0, s298.2.2))) fun t455 =>
alt (fun b457 => some (.inl ((b457.1, (w64 (s298.2.1 + 1)), b457.2)))) (fun b458 => some (.inr ((.inr b458.1)))) t455))) (some (.inr ((.inl ((s298.1, s298.2.2))))))) big ((0, 0, x1))) fun t459 =>
alt (fun b461 => some ((b461.1 == (lenI p_0.1)))) (fun b462 => some b462) t459
def g_duty_crewed_1 (x_0 : Int) : Option (Bool) :=
Option.bind (g_duty_within x_0 0 200000) fun y1 =>
some ((!y1))
def g_duty_crewed (tasks_0 : (List Task)) (y_1 : Yard) (cars_2 : (List (List Int))) (r_3 : WorkRules) : Option ((Option duty_crew) × Bool) :=
Option.bind (g_duty_Check tasks_0 y_1) fun y1 =>
cond ((y1 != 0)) (some (((none : Option duty_crew), false))) (Option.bind (Option.bind (g_duty_work_planned ((((((tasks_0, y_1, ()) : duty_work), cars_2, r_3, ()) : duty_crew)).1) cars_2) fun y7 =>
cond ((!y7)) (some true) (Option.bind (g_slices_ContainsFunc_int_int ([r_3.1, r_3.2.1, r_3.2.2.1, r_3.2.2.2.1, r_3.2.2.2.2.1, r_3.2.2.2.2.2.1]) ((fun x => g_duty_crewed_1 x))) fun y9 =>
some y9)) fun c6 =>
cond (c6) (some (((none : Option duty_crew), false))) (some (((some (((((tasks_0, y_1, ()) : duty_work), cars_2, r_3, ()) : duty_crew))), true))))
def g_duty_crew_pieces (c_0 : duty_crew) : Option ((List DutyPiece)) :=
Option.bind (iter (σ := ((List DutyPiece) × Int)) (τ := ((List DutyPiece))) (fun s57 =>
cond ((decide (s57.2 < (lenI c_0.2.1)))) (Option.bind (idx c_0.2.1 s57.2) fun x63 =>
Option.bind (iter (σ := ((List DutyPiece) × Int)) (τ := ((List DutyPiece))) (fun s85 =>
cond ((decide (s85.2 < (lenI x63)))) (Option.bind (iter (σ := ((List DutyPiece) × Int)) (τ := ((List DutyPiece))) (fun s96 =>
cond ((decide (s96.2 < (lenI x63)))) (Option.bind (appO 24 s96.1 ([((s57.2, s85.2, s96.2, ()) : DutyPiece)])) fun x102 =>
some (.inl ((x102, (w64 (s96.2 + 1)))))) (some (.inr s96.1))) big ((s85.1, s85.2))) fun t106 =>
some (.inl ((t106, (w64 (s85.2 + 1)))))) (some (.inr s85.1))) big ((s57.1, 0))) fun t111 =>
some (.inl ((t111, (w64 (s57.2 + 1)))))) (some (.inr s57.1))) big (([], 0))) fun t116 =>
some t116
def g_duty_crew_options_1 (p_0 : DutyPiece) (p_1 : duty_crew) : Option (Int) :=
Option.bind (idx p_1.2.1 p_0.1) fun x1 =>
Option.bind (slO x1 p_0.2.1 ((w64 (p_0.2.2.1 + 1)))) fun x2 =>
Option.bind (iter (σ := (Int × Int)) (τ := (Int)) (fun s6 =>
cond ((decide (s6.2 < (lenI x2)))) (Option.bind (idx x2 s6.2) fun x9 =>
Option.bind (shlO .u64 1 x9) fun x10 =>
some (.inl (((bOr .u64 s6.1 x10), (w64 (s6.2 + 1)))))) (some (.inr s6.1))) big ((0, 0))) fun t11 =>
some t11
def g_slices_IndexFunc_api_DutyPiece_api_DutyPiece (s_0 : (List DutyPiece)) (f_1 : ((DutyPiece) → Option (Bool))) : Option (Int) :=
Option.bind (iter (σ := (Int)) (τ := Unit ⊕ (Int)) (fun s5 =>
cond ((decide (s5 < (lenI s_0)))) (Option.bind (idx s_0 s5) fun x8 =>
Option.bind (f_1 x8) fun y9 =>
cond (y9) (some (.inr ((.inr s5)))) (some (.inl ((w64 (s5 + 1)))))) (some (.inr ((.inl (())))))) big 0) fun t11 =>
alt (fun b13 => some ((-1))) (fun b14 => some b14) t11
def g_slices_ContainsFunc_api_DutyPiece_api_DutyPiece (s_0 : (List DutyPiece)) (f_1 : ((DutyPiece) → Option (Bool))) : Option (Bool) :=
Option.bind (g_slices_IndexFunc_api_DutyPiece_api_DutyPiece s_0 f_1) fun y1 =>
some ((decide (y1 ≥ 0)))
def g_duty_crew_last (c_0 : duty_crew) (p_1 : DutyPiece) : Option (Task) :=
Option.bind (idx c_0.2.1 p_1.1) fun x3 =>
Option.bind (idx x3 p_1.2.2.1) fun x4 =>
Option.bind (idx c_0.1.1 x4) fun x5 =>
some x5
def g_duty_crew_first (c_0 : duty_crew) (p_1 : DutyPiece) : Option (Task) :=
Option.bind (idx c_0.2.1 p_1.1) fun x3 =>
Option.bind (idx x3 p_1.2.1) fun x4 =>
Option.bind (idx c_0.1.1 x4) fun x5 =>
some x5
def g_duty_crew_lasts (c_0 : duty_crew) (p_1 : DutyPiece) : Option (Int) :=
Option.bind (g_duty_crew_last c_0 p_1) fun y1 =>
Option.bind (g_duty_crew_first c_0 p_1) fun y2 =>
some ((w64 (y1.2.2.2.1 - y2.2.2.1)))
def g_duty_crew_piece_1 (p_0 : DutyPiece) (p_1 : duty_crew) : Option (Bool) :=
Option.bind (g_duty_crew_lasts p_1 p_0) fun y1 =>
some ((decide (y1 > p_1.2.2.1.1)))
def g_duty_crew_piece (c_0 : duty_crew) (d_1 : Duty) : Option (Bool) :=
Option.bind (g_slices_ContainsFunc_api_DutyPiece_api_DutyPiece d_1.1 ((fun x => g_duty_crew_piece_1 x c_0))) fun y1 =>
some y1
def g_duty_crew_relief_1 (p_0 : DutyPiece) (p_1 : duty_crew) : Option (Bool) :=
Option.bind (cond ((decide (p_0.2.1 > 0))) (Option.bind (g_duty_crew_first p_1 p_0) fun y15 =>
Option.bind (idx p_1.1.2.1.2.2.1 y15.1) fun x16 =>
cond ((!x16)) (some true) (Option.bind (idx p_1.2.1 p_0.1) fun x18 =>
cond ((decide (p_0.2.2.1 < (w64 ((lenI x18) - 1))))) (Option.bind (g_duty_crew_last p_1 p_0) fun y20 =>
Option.bind (idx p_1.1.2.1.2.2.1 y20.2.1) fun x21 =>
some ((!x21))) (some false))) (Option.bind (idx p_1.2.1 p_0.1) fun x22 =>
cond ((decide (p_0.2.2.1 < (w64 ((lenI x22) - 1))))) (Option.bind (g_duty_crew_last p_1 p_0) fun y24 =>
Option.bind (idx p_1.1.2.1.2.2.1 y24.2.1) fun x25 =>
some ((!x25))) (some false))) fun c13 =>
some c13
def g_duty_crew_relief (c_0 : duty_crew) (d_1 : Duty) : Option (Bool) :=
Option.bind (g_slices_ContainsFunc_api_DutyPiece_api_DutyPiece d_1.1 ((fun x => g_duty_crew_relief_1 x c_0))) fun y1 =>
some y1
def g_duty_crew_between (c_0 : duty_crew) (d_1 : Duty) : Option (Int × Int) :=
Option.bind (idx d_1.1 0) fun x1 =>
Option.bind (g_duty_crew_last c_0 x1) fun y2 =>
Option.bind (idx d_1.1 1) fun x3 =>
Option.bind (g_duty_crew_first c_0 x3) fun y4 =>
Option.bind (idx c_0.1.2.1.1 y2.2.1) fun x9 =>
Option.bind (idx x9 y4.1) fun x10 =>
some (((w64 (y4.2.2.1 - y2.2.2.2.1)), x10))
def g_duty_crew_order (c_0 : duty_crew) (d_1 : Duty) : Option (Bool) :=
cond (((lenI d_1.1) == 1)) (some false) (Option.bind (g_duty_crew_between c_0 d_1) fun y2 =>
Option.bind (cond ((decide (y2.1 < 0))) (some true) (some ((decide (y2.2 < 0))))) fun c4 =>
some c4)
def g_duty_crew_pause (c_0 : duty_crew) (d_1 : Duty) : Option (Bool) :=
Option.bind (cond (((lenI d_1.1) == 1)) (some true) (Option.bind (g_duty_crew_order c_0 d_1) fun y5 =>
some y5)) fun c3 =>
cond (c3) (some false) (Option.bind (g_duty_crew_between c_0 d_1) fun y7 =>
some ((decide (y7.1 < (w64 (c_0.2.2.1.2.2.2.1 + y7.2))))))
def g_duty_crew_span (c_0 : duty_crew) (d_1 : Duty) : Option (Int) :=
Option.bind (idx d_1.1 ((w64 ((lenI d_1.1) - 1)))) fun x1 =>
Option.bind (g_duty_crew_last c_0 x1) fun y2 =>
Option.bind (idx d_1.1 0) fun x3 =>
Option.bind (g_duty_crew_first c_0 x3) fun y4 =>
some ((w64 (y2.2.2.2.1 - y4.2.2.1)))
def g_duty_crew_long (c_0 : duty_crew) (d_1 : Duty) : Option (Bool) :=
Option.bind (g_duty_crew_span c_0 d_1) fun y1 =>
some ((decide ((w64 ((w64 (y1 + c_0.2.2.1.2.2.2.2.1)) + c_0.2.2.1.2.2.2.2.2.1)) > c_0.2.2.1.2.1)))
def g_duty_crew_time (c_0 : duty_crew) (d_1 : Duty) : Option (Bool) :=
Option.bind (iter (σ := (Int × Int)) (τ := (Int)) (fun s6 =>
cond ((decide (s6.2 < (lenI d_1.1)))) (Option.bind (idx d_1.1 s6.2) fun x9 =>
Option.bind (g_duty_crew_lasts c_0 x9) fun y12 =>
some (.inl (((w64 (s6.1 + y12)), (w64 (s6.2 + 1)))))) (some (.inr s6.1))) big (((w64 (c_0.2.2.1.2.2.2.2.1 + c_0.2.2.1.2.2.2.2.2.1)), 0))) fun t13 =>
some ((decide (t13 > c_0.2.2.1.2.2.1)))
def g_duty_crew_faults (c_0 : duty_crew) (d_1 : Duty) : Option ((List Int)) :=
Option.bind (iter (σ := ((List Int) × Int)) (τ := ((List Int))) (fun s13 =>
cond ((decide (s13.2 < 6))) (Option.bind (idx (([(fun x => g_duty_crew_piece c_0 x), (fun x => g_duty_crew_relief c_0 x), (fun x => g_duty_crew_order c_0 x), (fun x => g_duty_crew_pause c_0 x), (fun x => g_duty_crew_long c_0 x), (fun x => g_duty_crew_time c_0 x)] : (List ((Duty) → Option (Bool))))) s13.2) fun x19 =>
Option.bind (x19 d_1) fun y20 =>
cond (y20) (Option.bind (appO 8 s13.1 ([(w64 (1 + s13.2))])) fun x22 =>
some (.inl ((x22, (w64 (s13.2 + 1)))))) (some (.inl ((s13.1, (w64 (s13.2 + 1))))))) (some (.inr s13.1))) big (([], 0))) fun t27 =>
some t27
def g_duty_crew_options_2   (s_0 : Int) (l_1 : (List DutyPiece)) (p_2 : duty_crew) (p_3 : (List duty_option)) : Option ((List duty_option)) :=
Option.bind (g_duty_crew_faults p_2 (((l_1, ()) : Duty))) fun y3 =>
cond (((lenI y3) == 0)) (Option.bind (g_duty_crew_span p_2 (((l_1, ()) : Duty))) fun y7 =>
Option.bind (appO 40 p_3 ([((((l_1, ()) : Duty), s_0, y7, ()) : duty_option)])) fun x8 =>
some x8) (some p_3)
def g_slices_insertionSortCmpFunc_duty_option   (data_0 : (List duty_option)) (a_1 : Int) (b_2 : Int) (cmp_3 : ((duty_option × duty_option) → Option (Int))) : Option ((List duty_option)) :=
Option.bind (iter (σ := (Int × (List duty_option))) (τ := ((List duty_option))) (fun s95 =>
cond ((decide (s95.1 < b_2))) (Option.bind (iter (σ := (Int × (List duty_option))) (τ := ((List duty_option))) (fun s126 =>
cond ((decide (s126.1 > a_1))) (Option.bind (idx s126.2 s126.1) fun x133 =>
Option.bind (idx s126.2 ((w64 (s126.1 - 1)))) fun x134 =>
Option.bind (cmp_3 ((x133, x134))) fun y135 =>
cond ((decide (y135 < 0))) (Option.bind (idx s126.2 ((w64 (s126.1 - 1)))) fun x137 =>
Option.bind (idx s126.2 s126.1) fun x138 =>
Option.bind (idx s126.2 s126.1) fun x139 =>
Option.bind (idx ((s126.2).set (Int.toNat s126.1) x137) ((w64 (s126.1 - 1)))) fun x140 =>
some (.inl (((w64 (s126.1 - 1)), ((s126.2).set (Int.toNat s126.1) x137).set (Int.toNat ((w64 (s126.1 - 1)))) x138)))) (some (.inr s126.2))) (some (.inr s126.2))) big ((s95.1, s95.2))) fun t142 =>
some (.inl (((w64 (s95.1 + 1)), t142)))) (some (.inr s95.2))) big (((w64 (a_1 + 1)), data_0))) fun t144 =>
some t144
def g_slices_swapRangeCmpFunc_duty_option   (data_0 : (List duty_option)) (a_1 : Int) (b_2 : Int) (n_3 : Int) (cmp_4 : ((duty_option × duty_option) → Option (Int))) : Option ((List duty_option)) :=
Option.bind (iter (σ := (Int × (List duty_option))) (τ := ((List duty_option))) (fun s11 =>
cond ((decide (s11.1 < n_3))) (Option.bind (idx s11.2 ((w64 (b_2 + s11.1)))) fun x14 =>
Option.bind (idx s11.2 ((w64 (a_1 + s11.1)))) fun x15 =>
Option.bind (idx s11.2 ((w64 (a_1 + s11.1)))) fun x16 =>
Option.bind (idx ((s11.2).set (Int.toNat ((w64 (a_1 + s11.1)))) x14) ((w64 (b_2 + s11.1)))) fun x17 =>
some (.inl (((w64 (s11.1 + 1)), ((s11.2).set (Int.toNat ((w64 (a_1 + s11.1)))) x14).set (Int.toNat ((w64 (b_2 + s11.1)))) x15)))) (some (.inr s11.2))) big ((0, data_0))) fun t18 =>
some t18
def g_slices_rotateCmpFunc_duty_option   (data_0 : (List duty_option)) (a_1 : Int) (m_2 : Int) (b_3 : Int) (cmp_4 : ((duty_option × duty_option) → Option (Int))) : Option ((List duty_option)) :=
Option.bind (iter (σ := (Int × Int × (List duty_option))) (τ := (Int × (List duty_option))) (fun s13 =>
cond ((s13.1 != s13.2.1)) (cond ((decide (s13.1 > s13.2.1))) (Option.bind (g_slices_swapRangeCmpFunc_duty_option s13.2.2 ((w64 (m_2 - s13.1))) m_2 s13.2.1 cmp_4) fun y17 =>
some (.inl (((w64 (s13.1 - s13.2.1)), s13.2.1, y17)))) (Option.bind (g_slices_swapRangeCmpFunc_duty_option s13.2.2 ((w64 (m_2 - s13.1))) ((w64 ((w64 (m_2 + s13.2.1)) - s13.1))) s13.1 cmp_4) fun y19 =>
some (.inl ((s13.1, (w64 (s13.2.1 - s13.1)), y19))))) (some (.inr (((s13.1, s13.2.2)))))) big (((w64 (m_2 - a_1)), (w64 (b_3 - m_2)), data_0))) fun t21 =>
Option.bind (g_slices_swapRangeCmpFunc_duty_option t21.2 ((w64 (m_2 - t21.1))) m_2 t21.1 cmp_4) fun y23 =>
some y23
def g_slices_symMergeCmpFunc_duty_option_body   (rec : (List duty_option) → Int → Int → Int → ((duty_option × duty_option) → Option (Int)) → Option ((List duty_option))) (p_0 : (List duty_option)) (p_1 : Int) (p_2 : Int) (p_3 : Int) (p_4 : ((duty_option × duty_option) → Option (Int))) : Option ((List duty_option)) :=
cond (((w64 (p_2 - p_1)) == 1)) (Option.bind (iter (σ := (Int × Int)) (τ := (Int)) (fun s8 =>
cond ((decide (s8.1 < s8.2))) (Option.bind (shrO .u64 ((IntKind.u64.wrap ((w64 (s8.1 + s8.2))))) 1) fun x11 =>
Option.bind (idx p_0 ((w64 x11))) fun x12 =>
Option.bind (idx p_0 p_1) fun x13 =>
Option.bind (p_4 ((x12, x13))) fun y14 =>
cond ((decide (y14 < 0))) (some (.inl (((w64 ((w64 x11) + 1)), s8.2)))) (some (.inl ((s8.1, (w64 x11)))))) (some (.inr s8.1))) big ((p_2, p_3))) fun t16 =>
Option.bind (iter (σ := (Int × (List duty_option))) (τ := ((List duty_option))) (fun s28 =>
cond ((decide (s28.1 < (w64 (t16 - 1))))) (Option.bind (idx s28.2 ((w64 (s28.1 + 1)))) fun x31 =>
Option.bind (idx s28.2 s28.1) fun x32 =>
Option.bind (idx s28.2 s28.1) fun x33 =>
Option.bind (idx ((s28.2).set (Int.toNat s28.1) x31) ((w64 (s28.1 + 1)))) fun x34 =>
some (.inl (((w64 (s28.1 + 1)), ((s28.2).set (Int.toNat s28.1) x31).set (Int.toNat ((w64 (s28.1 + 1)))) x32)))) (some (.inr s28.2))) big ((p_1, p_0))) fun t35 =>
some t35) (cond (((w64 (p_3 - p_2)) == 1)) (Option.bind (iter (σ := (Int × Int)) (τ := (Int)) (fun s44 =>
cond ((decide (s44.1 < s44.2))) (Option.bind (shrO .u64 ((IntKind.u64.wrap ((w64 (s44.1 + s44.2))))) 1) fun x47 =>
Option.bind (idx p_0 p_2) fun x48 =>
Option.bind (idx p_0 ((w64 x47))) fun x49 =>
Option.bind (p_4 ((x48, x49))) fun y50 =>
cond ((!(decide (y50 < 0)))) (some (.inl (((w64 ((w64 x47) + 1)), s44.2)))) (some (.inl ((s44.1, (w64 x47)))))) (some (.inr s44.1))) big ((p_1, p_2))) fun t52 =>
Option.bind (iter (σ := (Int × (List duty_option))) (τ := ((List duty_option))) (fun s64 =>
cond ((decide (s64.1 > t52))) (Option.bind (idx s64.2 ((w64 (s64.1 - 1)))) fun x67 =>
Option.bind (idx s64.2 s64.1) fun x68 =>
Option.bind (idx s64.2 s64.1) fun x69 =>
Option.bind (idx ((s64.2).set (Int.toNat s64.1) x67) ((w64 (s64.1 - 1)))) fun x70 =>
some (.inl (((w64 (s64.1 - 1)), ((s64.2).set (Int.toNat s64.1) x67).set (Int.toNat ((w64 (s64.1 - 1)))) x68)))) (some (.inr s64.2))) big ((p_2, p_0))) fun t71 =>
some t71) (Option.bind (shrO .u64 ((IntKind.u64.wrap ((w64 (p_1 + p_3))))) 1) fun x73 =>
cond ((decide (p_2 > (w64 x73)))) (Option.bind (iter (σ := (Int × Int)) (τ := (Int)) (fun s81 =>
cond ((decide (s81.1 < s81.2))) (Option.bind (shrO .u64 ((IntKind.u64.wrap ((w64 (s81.1 + s81.2))))) 1) fun x84 =>
Option.bind (idx p_0 ((w64 ((w64 ((w64 ((w64 x73) + p_2)) - 1)) - (w64 x84))))) fun x85 =>
Option.bind (idx p_0 ((w64 x84))) fun x86 =>
Option.bind (p_4 ((x85, x86))) fun y87 =>
cond ((!(decide (y87 < 0)))) (some (.inl (((w64 ((w64 x84) + 1)), s81.2)))) (some (.inl ((s81.1, (w64 x84)))))) (some (.inr s81.1))) big (((w64 ((w64 ((w64 x73) + p_2)) - p_3)), (w64 x73)))) fun t89 =>
Option.bind (cond ((decide (t89 < p_2))) (some ((decide (p_2 < (w64 ((w64 ((w64 x73) + p_2)) - t89)))))) (some false)) fun c92 =>
cond (c92) (Option.bind (g_slices_rotateCmpFunc_duty_option p_0 t89 p_2 ((w64 ((w64 ((w64 x73) + p_2)) - t89))) p_4) fun y95 =>
Option.bind (cond ((decide (p_1 < t89))) (some ((decide (t89 < (w64 x73))))) (some false)) fun c98 =>
cond (c98) (Option.bind (rec y95 p_1 t89 ((w64 x73)) p_4) fun y101 =>
Option.bind (cond ((decide ((w64 x73) < (w64 ((w64 ((w64 x73) + p_2)) - t89))))) (some ((decide ((w64 ((w64 ((w64 x73) + p_2)) - t89)) < p_3)))) (some false)) fun c104 =>
cond (c104) (Option.bind (rec y101 ((w64 x73)) ((w64 ((w64 ((w64 x73) + p_2)) - t89))) p_3 p_4) fun y107 =>
some y107) (some y101)) (Option.bind (cond ((decide ((w64 x73) < (w64 ((w64 ((w64 x73) + p_2)) - t89))))) (some ((decide ((w64 ((w64 ((w64 x73) + p_2)) - t89)) < p_3)))) (some false)) fun c110 =>
cond (c110) (Option.bind (rec y95 ((w64 x73)) ((w64 ((w64 ((w64 x73) + p_2)) - t89))) p_3 p_4) fun y113 =>
some y113) (some y95))) (Option.bind (cond ((decide (p_1 < t89))) (some ((decide (t89 < (w64 x73))))) (some false)) fun c116 =>
cond (c116) (Option.bind (rec p_0 p_1 t89 ((w64 x73)) p_4) fun y119 =>
Option.bind (cond ((decide ((w64 x73) < (w64 ((w64 ((w64 x73) + p_2)) - t89))))) (some ((decide ((w64 ((w64 ((w64 x73) + p_2)) - t89)) < p_3)))) (some false)) fun c122 =>
cond (c122) (Option.bind (rec y119 ((w64 x73)) ((w64 ((w64 ((w64 x73) + p_2)) - t89))) p_3 p_4) fun y125 =>
some y125) (some y119)) (Option.bind (cond ((decide ((w64 x73) < (w64 ((w64 ((w64 x73) + p_2)) - t89))))) (some ((decide ((w64 ((w64 ((w64 x73) + p_2)) - t89)) < p_3)))) (some false)) fun c128 =>
cond (c128) (Option.bind (rec p_0 ((w64 x73)) ((w64 ((w64 ((w64 x73) + p_2)) - t89))) p_3 p_4) fun y131 =>
some y131) (some p_0)))) (Option.bind (iter (σ := (Int × Int)) (τ := (Int)) (fun s139 =>
cond ((decide (s139.1 < s139.2))) (Option.bind (shrO .u64 ((IntKind.u64.wrap ((w64 (s139.1 + s139.2))))) 1) fun x142 =>
Option.bind (idx p_0 ((w64 ((w64 ((w64 ((w64 x73) + p_2)) - 1)) - (w64 x142))))) fun x143 =>
Option.bind (idx p_0 ((w64 x142))) fun x144 =>
Option.bind (p_4 ((x143, x144))) fun y145 =>
cond ((!(decide (y145 < 0)))) (some (.inl (((w64 ((w64 x142) + 1)), s139.2)))) (some (.inl ((s139.1, (w64 x142)))))) (some (.inr s139.1))) big ((p_1, p_2))) fun t147 =>
Option.bind (cond ((decide (t147 < p_2))) (some ((decide (p_2 < (w64 ((w64 ((w64 x73) + p_2)) - t147)))))) (some false)) fun c150 =>
cond (c150) (Option.bind (g_slices_rotateCmpFunc_duty_option p_0 t147 p_2 ((w64 ((w64 ((w64 x73) + p_2)) - t147))) p_4) fun y153 =>
Option.bind (cond ((decide (p_1 < t147))) (some ((decide (t147 < (w64 x73))))) (some false)) fun c156 =>
cond (c156) (Option.bind (rec y153 p_1 t147 ((w64 x73)) p_4) fun y159 =>
Option.bind (cond ((decide ((w64 x73) < (w64 ((w64 ((w64 x73) + p_2)) - t147))))) (some ((decide ((w64 ((w64 ((w64 x73) + p_2)) - t147)) < p_3)))) (some false)) fun c162 =>
cond (c162) (Option.bind (rec y159 ((w64 x73)) ((w64 ((w64 ((w64 x73) + p_2)) - t147))) p_3 p_4) fun y165 =>
some y165) (some y159)) (Option.bind (cond ((decide ((w64 x73) < (w64 ((w64 ((w64 x73) + p_2)) - t147))))) (some ((decide ((w64 ((w64 ((w64 x73) + p_2)) - t147)) < p_3)))) (some false)) fun c168 =>
cond (c168) (Option.bind (rec y153 ((w64 x73)) ((w64 ((w64 ((w64 x73) + p_2)) - t147))) p_3 p_4) fun y171 =>
some y171) (some y153))) (Option.bind (cond ((decide (p_1 < t147))) (some ((decide (t147 < (w64 x73))))) (some false)) fun c174 =>
cond (c174) (Option.bind (rec p_0 p_1 t147 ((w64 x73)) p_4) fun y177 =>
Option.bind (cond ((decide ((w64 x73) < (w64 ((w64 ((w64 x73) + p_2)) - t147))))) (some ((decide ((w64 ((w64 ((w64 x73) + p_2)) - t147)) < p_3)))) (some false)) fun c180 =>
cond (c180) (Option.bind (rec y177 ((w64 x73)) ((w64 ((w64 ((w64 x73) + p_2)) - t147))) p_3 p_4) fun y183 =>
some y183) (some y177)) (Option.bind (cond ((decide ((w64 x73) < (w64 ((w64 ((w64 x73) + p_2)) - t147))))) (some ((decide ((w64 ((w64 ((w64 x73) + p_2)) - t147)) < p_3)))) (some false)) fun c186 =>
cond (c186) (Option.bind (rec p_0 ((w64 x73)) ((w64 ((w64 ((w64 x73) + p_2)) - t147))) p_3 p_4) fun y189 =>
some y189) (some p_0))))))
def g_slices_symMergeCmpFunc_duty_option   : Nat → (List duty_option) → Int → Int → Int → ((duty_option × duty_option) → Option (Int)) → Option ((List duty_option))
 | 0 => fun _ _ _ _ _ => none
 | k + 1 => g_slices_symMergeCmpFunc_duty_option_body (g_slices_symMergeCmpFunc_duty_option k)
def g_slices_stableCmpFunc_duty_option   (data_0 : (List duty_option)) (n_1 : Int) (cmp_2 : ((duty_option × duty_option) → Option (Int))) : Option ((List duty_option)) :=
Option.bind (iter (σ := (Int × Int × (List duty_option))) (τ := (Int × (List duty_option))) (fun s7 =>
cond ((decide (s7.2.1 ≤ n_1))) (Option.bind (g_slices_insertionSortCmpFunc_duty_option s7.2.2 s7.1 s7.2.1 cmp_2) fun y10 =>
some (.inl ((s7.2.1, (w64 (s7.2.1 + 20)), y10)))) (some (.inr (((s7.1, s7.2.2)))))) big ((0, 20, data_0))) fun t12 =>
Option.bind (g_slices_insertionSortCmpFunc_duty_option t12.2 t12.1 n_1 cmp_2) fun y14 =>
Option.bind (iter (σ := (Int × (List duty_option))) (τ := ((List duty_option))) (fun s50 =>
cond ((decide (s50.1 < n_1))) (Option.bind (iter (σ := (Int × Int × (List duty_option))) (τ := (Int × (List duty_option))) (fun s59 =>
cond ((decide (s59.2.1 ≤ n_1))) (Option.bind (g_slices_symMergeCmpFunc_duty_option big s59.2.2 s59.1 ((w64 (s59.1 + s50.1))) s59.2.1 cmp_2) fun y62 =>
some (.inl ((s59.2.1, (w64 (s59.2.1 + (w64 (2 * s50.1)))), y62)))) (some (.inr (((s59.1, s59.2.2)))))) big ((0, (w64 (2 * s50.1)), s50.2))) fun t64 =>
cond ((decide ((w64 (t64.1 + s50.1)) < n_1))) (Option.bind (g_slices_symMergeCmpFunc_duty_option big t64.2 t64.1 ((w64 (t64.1 + s50.1))) n_1 cmp_2) fun y67 =>
some (.inl (((w64 (s50.1 * 2)), y67)))) (some (.inl (((w64 (s50.1 * 2)), t64.2))))) (some (.inr s50.2))) big ((20, y14))) fun t69 =>
some t69
def g_slices_SortStableFunc_duty_option_duty_option   (x_0 : (List duty_option)) (cmp_1 : ((duty_option × duty_option) → Option (Int))) : Option ((List duty_option)) :=
Option.bind (g_slices_stableCmpFunc_duty_option x_0 ((lenI x_0)) cmp_1) fun y1 =>
some y1
def g_duty_ordered_duty_option   (l_0 : (List duty_option)) (order_1 : ((duty_option × duty_option) → Option (Int))) : Option (((List duty_option))) :=
Option.bind (g_slices_SortStableFunc_duty_option_duty_option l_0 order_1) fun y2 =>
some y2
def g_cmp_Or_int (vals_0 : (List Int)) : Option (Int) :=
Option.bind (iter (σ := (Int)) (τ := Unit ⊕ (Int)) (fun s4 =>
cond ((decide (s4 < (lenI vals_0)))) (Option.bind (idx vals_0 s4) fun x7 =>
cond ((x7 != 0)) (some (.inr ((.inr x7)))) (some (.inl ((w64 (s4 + 1)))))) (some (.inr ((.inl (())))))) big 0) fun t9 =>
alt (fun b11 => some 0) (fun b12 => some b12) t9
def g_cmp_isNaN_int (x_0 : Int) : Option (Bool) :=
some ((x_0 != x_0))
def g_cmp_Compare_int (x_0 : Int) (y_1 : Int) : Option (Int) :=
Option.bind (g_cmp_isNaN_int x_0) fun y1 =>
Option.bind (g_cmp_isNaN_int y_1) fun y2 =>
cond (y1) (cond (y2) (some 0) (some ((-1)))) (cond (y2) (some 1) (cond ((decide (x_0 < y_1))) (some ((-1))) (cond ((decide (x_0 > y_1))) (some 1) (some 0))))
def g_duty_pieced (a_0 : DutyPiece) (b_1 : DutyPiece) : Option (Int) :=
Option.bind (g_cmp_Compare_int a_0.1 b_1.1) fun y1 =>
Option.bind (g_cmp_Compare_int a_0.2.1 b_1.2.1) fun y2 =>
Option.bind (g_cmp_Compare_int a_0.2.2.1 b_1.2.2.1) fun y3 =>
Option.bind (g_cmp_Or_int ([y1, y2, y3])) fun y4 =>
some y4
def g_duty_crew_options_3 (a_0 : duty_option) (b_1 : duty_option) : Option (Int) :=
Option.bind (idx a_0.1.1 0) fun x1 =>
Option.bind (idx b_1.1.1 0) fun x2 =>
Option.bind (g_duty_pieced x1 x2) fun y3 =>
Option.bind (g_cmp_Compare_int ((lenI a_0.1.1)) ((lenI b_1.1.1))) fun y4 =>
Option.bind (g_cmp_Or_int ([y3, y4])) fun y5 =>
Option.bind (cond ((y5 != 0)) (some true) (some (((lenI a_0.1.1) == 1)))) fun c7 =>
cond (c7) (some y5) (Option.bind (idx a_0.1.1 1) fun x10 =>
Option.bind (idx b_1.1.1 1) fun x11 =>
Option.bind (g_duty_pieced x10 x11) fun y12 =>
some y12)
def g_duty_crew_options (c_0 : duty_crew) : Option ((List duty_option)) :=
Option.bind (g_duty_crew_pieces c_0) fun y5 =>
Option.bind (iter (σ := (Int × (List duty_option))) (τ := ((List duty_option))) (fun s116 =>
cond ((decide (s116.1 < (lenI y5)))) (Option.bind (idx y5 s116.1) fun x122 =>
Option.bind (((fun x => g_duty_crew_options_1 x c_0)) x122) fun y125 =>
Option.bind (g_duty_crew_options_2 y125 ([x122]) c_0 s116.2) fun y126 =>
Option.bind (iter (σ := (Int × (List duty_option))) (τ := ((List duty_option))) (fun s152 =>
cond ((decide (s152.1 < (lenI y5)))) (Option.bind (idx y5 s152.1) fun x158 =>
Option.bind (((fun x => g_duty_crew_options_1 x c_0)) x122) fun y161 =>
Option.bind (((fun x => g_duty_crew_options_1 x c_0)) x158) fun y162 =>
cond (((bAnd .u64 y161 y162) == 0)) (Option.bind (((fun x => g_duty_crew_options_1 x c_0)) x122) fun y164 =>
Option.bind (((fun x => g_duty_crew_options_1 x c_0)) x158) fun y165 =>
Option.bind (g_duty_crew_options_2 ((bOr .u64 y164 y165)) ([x122, x158]) c_0 s152.2) fun y166 =>
some (.inl (((w64 (s152.1 + 1)), y166)))) (some (.inl (((w64 (s152.1 + 1)), s152.2))))) (some (.inr s152.2))) big ((0, y126))) fun t171 =>
some (.inl (((w64 (s116.1 + 1)), t171)))) (some (.inr s116.2))) big ((0, []))) fun t176 =>
Option.bind (g_duty_ordered_duty_option t176 ((fun x => g_duty_crew_options_3 x.1 x.2))) fun y179 =>
some y179
def g_duty_Duties (p_0 : (List Task)) (p_1 : Yard) (p_2 : (List (List Int))) (p_3 : WorkRules) : Option ((List Duty) × Int) :=
Option.bind (g_duty_crewed p_0 p_1 p_2 p_3) fun y2 =>
cond ((!y2.2)) (some (([], 2))) (cond ((decide ((lenI p_0) > 14))) (some (([], 3))) (Option.bind (y2.1) fun p7 =>
Option.bind (g_duty_crew_options p7) fun y8 =>
Option.bind (shlO .u64 1 ((lenI p_0))) fun x11 =>
Option.bind (iter (σ := (Int × (List (Int × duty_cost)))) (τ := ((List (Int × duty_cost)))) (fun s192 =>
cond ((decide (s192.1 < (IntKind.u64.wrap ((IntKind.u64.wrap (x11 - 1)) + 1))))) (Option.bind (iter (σ := (Int × (List (Int × duty_cost)))) (τ := ((List (Int × duty_cost)))) (fun s251 =>
cond ((decide (s251.1 < (lenI y8)))) (Option.bind (idx y8 s251.1) fun x254 =>
cond ((s192.1 == 0)) (some (.inl (((w64 (s251.1 + 1)), s251.2)))) (cond (((bAnd .u64 x254.2.1 ((bAnd .u64 s192.1 ((IntKind.u64.wrap (0 - s192.1)))))) == 0)) (some (.inl (((w64 (s251.1 + 1)), s251.2)))) (cond (((bAndNot .u64 x254.2.1 s192.1) != 0)) (some (.inl (((w64 (s251.1 + 1)), s251.2)))) (cond ((!((mget s251.2 ((bAndNot .u64 s192.1 x254.2.1))).isSome))) (some (.inl (((w64 (s251.1 + 1)), s251.2)))) (cond ((!((mget s251.2 s192.1).isSome))) (some (.inl (((w64 (s251.1 + 1)), (mset s251.2 s192.1 ((((w64 ((((mget s251.2 ((bAndNot .u64 s192.1 x254.2.1))).getD (0, 0, ()))).1 + 1)), (w64 ((((mget s251.2 ((bAndNot .u64 s192.1 x254.2.1))).getD (0, 0, ()))).2.1 + x254.2.2.1)), ()) : duty_cost))))))) (cond ((decide (((((w64 ((((mget s251.2 ((bAndNot .u64 s192.1 x254.2.1))).getD (0, 0, ()))).1 + 1)), (w64 ((((mget s251.2 ((bAndNot .u64 s192.1 x254.2.1))).getD (0, 0, ()))).2.1 + x254.2.2.1)), ()) : duty_cost)).1 < (((mget s251.2 s192.1).getD (0, 0, ()))).1))) (some (.inl (((w64 (s251.1 + 1)), (mset s251.2 s192.1 ((((w64 ((((mget s251.2 ((bAndNot .u64 s192.1 x254.2.1))).getD (0, 0, ()))).1 + 1)), (w64 ((((mget s251.2 ((bAndNot .u64 s192.1 x254.2.1))).getD (0, 0, ()))).2.1 + x254.2.2.1)), ()) : duty_cost))))))) (cond ((((((w64 ((((mget s251.2 ((bAndNot .u64 s192.1 x254.2.1))).getD (0, 0, ()))).1 + 1)), (w64 ((((mget s251.2 ((bAndNot .u64 s192.1 x254.2.1))).getD (0, 0, ()))).2.1 + x254.2.2.1)), ()) : duty_cost)).1 == (((mget s251.2 s192.1).getD (0, 0, ()))).1)) (cond ((decide (((((w64 ((((mget s251.2 ((bAndNot .u64 s192.1 x254.2.1))).getD (0, 0, ()))).1 + 1)), (w64 ((((mget s251.2 ((bAndNot .u64 s192.1 x254.2.1))).getD (0, 0, ()))).2.1 + x254.2.2.1)), ()) : duty_cost)).2.1 < (((mget s251.2 s192.1).getD (0, 0, ()))).2.1))) (some (.inl (((w64 (s251.1 + 1)), (mset s251.2 s192.1 ((((w64 ((((mget s251.2 ((bAndNot .u64 s192.1 x254.2.1))).getD (0, 0, ()))).1 + 1)), (w64 ((((mget s251.2 ((bAndNot .u64 s192.1 x254.2.1))).getD (0, 0, ()))).2.1 + x254.2.2.1)), ()) : duty_cost))))))) (some (.inl (((w64 (s251.1 + 1)), s251.2))))) (some (.inl (((w64 (s251.1 + 1)), s251.2))))))))))) (some (.inr s251.2))) big ((0, s192.2))) fun t281 =>
some (.inl (((IntKind.u64.wrap (s192.1 + 1)), t281)))) (some (.inr s192.2))) big ((0, (mset (([] : (List (Int × duty_cost)))) 0 (((0, 0, ()) : duty_cost)))))) fun t283 =>
cond ((!((mget t283 ((IntKind.u64.wrap (x11 - 1)))).isSome))) (some (([], 4))) (Option.bind (iter (σ := ((List Duty) × Int × Int × Int)) (τ := ((List Duty))) (fun s425 =>
cond ((s425.2.1 != 0)) (Option.bind (iter (σ := ((List Duty) × Int × Int × Int × Int)) (τ := ((List Duty) × Int × Bool × duty_cost × Int × Int × Int × Int × Int × Int × duty_cost × Bool × Int × Int) ⊕ ((List Duty) × Int × Int)) (fun s464 =>
cond ((decide (s464.2.2.1 < (lenI y8)))) (Option.bind (idx y8 s464.2.2.1) fun x471 =>
cond (((bAndNot .u64 x471.2.1 s464.2.1) == 0)) (cond (((mget t283 ((bAndNot .u64 s464.2.1 x471.2.1))).isSome)) (cond ((((mget t283 ((bAndNot .u64 s464.2.1 x471.2.1))).getD (0, 0, ())) == (((w64 (s464.2.2.2.1 - 1)), (w64 (s464.2.2.2.2 - x471.2.2.1)), ()) : duty_cost))) (Option.bind (appO 24 s464.1 ([x471.1])) fun x481 =>
some (.inr ((.inl ((x481, (bAndNot .u64 s464.2.1 x471.2.1), ((mget t283 ((bAndNot .u64 s464.2.1 x471.2.1))).isSome), ((mget t283 ((bAndNot .u64 s464.2.1 x471.2.1))).getD (0, 0, ())), s464.2.2.2.1, (w64 (s464.2.2.2.1 - 1)), s464.2.2.2.2, x471.2.2.1, x471.2.2.1, (w64 (s464.2.2.2.2 - x471.2.2.1)), (((w64 (s464.2.2.2.1 - 1)), (w64 (s464.2.2.2.2 - x471.2.2.1)), ()) : duty_cost), (((mget t283 ((bAndNot .u64 s464.2.1 x471.2.1))).getD (0, 0, ())) == (((w64 (s464.2.2.2.1 - 1)), (w64 (s464.2.2.2.2 - x471.2.2.1)), ()) : duty_cost)), (((mget t283 ((bAndNot .u64 s464.2.1 x471.2.1))).getD (0, 0, ()))).1, (((mget t283 ((bAndNot .u64 s464.2.1 x471.2.1))).getD (0, 0, ()))).2.1)))))) (some (.inl ((s464.1, s464.2.1, (w64 (s464.2.2.1 + 1)), s464.2.2.2.1, s464.2.2.2.2))))) (some (.inl ((s464.1, s464.2.1, (w64 (s464.2.2.1 + 1)), s464.2.2.2.1, s464.2.2.2.2))))) (some (.inl ((s464.1, s464.2.1, (w64 (s464.2.2.1 + 1)), s464.2.2.2.1, s464.2.2.2.2))))) (some (.inr ((.inr ((s464.1, s464.2.2.2.1, s464.2.2.2.2))))))) big ((s425.1, s425.2.1, 0, s425.2.2.1, s425.2.2.2))) fun t490 =>
alt (fun b492 => some (.inl ((b492.1, b492.2.1, b492.2.2.2.2.2.2.2.2.2.2.2.2.1, b492.2.2.2.2.2.2.2.2.2.2.2.2.2)))) (fun b493 => some (.inr b493.1)) t490) (some (.inr s425.1))) big (([], (IntKind.u64.wrap (x11 - 1)), (((mget t283 ((IntKind.u64.wrap (x11 - 1)))).getD (0, 0, ()))).1, (((mget t283 ((IntKind.u64.wrap (x11 - 1)))).getD (0, 0, ()))).2.1))) fun t499 =>
some ((t499, 0)))))
def g_ref08_Pieces (a_0 : Duty) (b_1 : Duty) : Option (Bool) :=
cond (((lenI a_0.1) != (lenI b_1.1))) (some false) (Option.bind (iter (σ := (Int)) (τ := Unit ⊕ (Bool)) (fun s6 =>
cond ((decide (s6 < (lenI a_0.1)))) (Option.bind (idx a_0.1 s6) fun x9 =>
Option.bind (idx b_1.1 s6) fun x10 =>
cond ((x9 != x10)) (some (.inr ((.inr false)))) (some (.inl ((w64 (s6 + 1)))))) (some (.inr ((.inl (())))))) big 0) fun t12 =>
alt (fun b14 => some true) (fun b15 => some b15) t12)
def g_ref08_Plans (a_0 : (List Duty)) (b_1 : (List Duty)) : Option (Bool) :=
cond (((lenI a_0) != (lenI b_1))) (some false) (Option.bind (iter (σ := (Int)) (τ := Unit ⊕ (Bool)) (fun s7 =>
cond ((decide (s7 < (lenI a_0)))) (Option.bind (idx a_0 s7) fun x10 =>
Option.bind (idx b_1 s7) fun x11 =>
Option.bind (g_ref08_Pieces x10 x11) fun y12 =>
cond ((!y12)) (some (.inr ((.inr false)))) (some (.inl ((w64 (s7 + 1)))))) (some (.inr ((.inl (())))))) big 0) fun t14 =>
alt (fun b16 => some true) (fun b17 => some b17) t14)
def g_duty_Bare (p_0 : (List Task)) (p_1 : Yard) (p_2 : (List (List Int))) (p_3 : WorkRules) : Option ((List Int) × Int) :=
Option.bind (g_duty_crewed p_0 p_1 p_2 p_3) fun y2 =>
cond ((!y2.2)) (some (([], 2))) (Option.bind (mkO 1 ((lenI p_0)) (false : Bool)) fun x5 =>
Option.bind (y2.1) fun p8 =>
Option.bind (g_duty_crew_pieces p8) fun y9 =>
Option.bind (iter (σ := (Int × (List Bool))) (τ := ((List Bool))) (fun s60 =>
cond ((decide (s60.1 < (lenI y9)))) (Option.bind (idx y9 s60.1) fun x63 =>
Option.bind (y2.1) fun p66 =>
Option.bind (g_duty_crew_faults p66 ((([x63], ()) : Duty))) fun y67 =>
cond (((lenI y67) == 0)) (Option.bind (idx p_2 x63.1) fun x71 =>
Option.bind (slO x71 x63.2.1 ((w64 (x63.2.2.1 + 1)))) fun x72 =>
Option.bind (iter (σ := (Int × (List Bool))) (τ := ((List Bool))) (fun s79 =>
cond ((decide (s79.1 < (lenI x72)))) (Option.bind (idx x72 s79.1) fun x82 =>
Option.bind (idx s79.2 x82) fun x83 =>
some (.inl (((w64 (s79.1 + 1)), (s79.2).set (Int.toNat x82) true)))) (some (.inr s79.2))) big ((0, s60.2))) fun t84 =>
some (.inl (((w64 (s60.1 + 1)), t84)))) (some (.inl (((w64 (s60.1 + 1)), s60.2))))) (some (.inr s60.2))) big ((0, x5))) fun t86 =>
Option.bind (iter (σ := ((List Int) × Int)) (τ := ((List Int))) (fun s96 =>
cond ((decide (s96.2 < (lenI t86)))) (Option.bind (idx t86 s96.2) fun x102 =>
cond ((!x102)) (Option.bind (appO 8 s96.1 ([s96.2])) fun x104 =>
some (.inl ((x104, (w64 (s96.2 + 1)))))) (some (.inl ((s96.1, (w64 (s96.2 + 1))))))) (some (.inr s96.1))) big (([], 0))) fun t109 =>
some ((t109, 0)))
def g_law08_Example  : Option ((List Task) × Yard × WorkRules) :=
some (([((0, 1, 0, 50, ()) : Task), ((0, 1, 20, 80, ()) : Task), ((1, 0, 60, 120, ()) : Task), ((1, 0, 100, 150, ()) : Task), ((0, 1, 260, 300, ()) : Task)], (([[0, 100], [100, 0]], 10, [true, false], ()) : Yard), ((200, 400, 300, 60, 10, 10, ()) : WorkRules)))
def g_law08_known  : Option (Bool) :=
Option.bind (g_law08_Example) fun y1 =>
Option.bind (g_duty_Cars y1.1 y1.2.1) fun y6 =>
Option.bind (g_duty_Duties y1.1 y1.2.1 ([[0, 2, 4], [1, 3]]) y1.2.2) fun y11 =>
Option.bind (g_duty_Bare y1.1 y1.2.1 ([[0, 2, 4], [1, 3]]) ((129, y1.2.2.2.1, y1.2.2.2.2.1, y1.2.2.2.2.2.1, y1.2.2.2.2.2.2.1, y1.2.2.2.2.2.2.2.1, ()))) fun y14 =>
Option.bind (cond ((y6.2.2 != 0)) (some true) (cond ((y11.2 != 0)) (some true) (some ((y14.2 != 0))))) fun c19 =>
cond (c19) (some false) (Option.bind (Option.bind (g_ref08_Lists y6.1 ([[0, 2, 4], [1, 3]])) fun y33 =>
cond (y33) (Option.bind (g_ref08_Same y6.2.1.1 ([0, 1])) fun y35 =>
cond (y35) (Option.bind (g_ref08_Same y6.2.1.2.1 ([4])) fun y37 =>
cond (y37) (Option.bind (g_ref08_Plans y11.1 ([(([((0, 0, 1, ()) : DutyPiece)], ()) : Duty), (([((1, 0, 1, ()) : DutyPiece), ((0, 2, 2, ()) : DutyPiece)], ()) : Duty)])) fun y39 =>
cond (y39) (Option.bind (g_ref08_Same y14.1 ([1, 3])) fun y41 =>
some y41) (some false)) (some false)) (some false)) (some false)) fun c32 =>
some c32)
def g_ref08_in (x_0 : Int) (low_1 : Int) (high_2 : Int) : Option (Bool) :=
Option.bind (cond ((decide (x_0 ≥ low_1))) (some ((decide (x_0 ≤ high_2)))) (some false)) fun c2 =>
some c2
def g_ref08_Fine (p_0 : (List Task)) (p_1 : Yard) : Option (Bool) :=
Option.bind (Option.bind (g_ref08_in ((lenI p_1.2.2.1)) 1 40) fun y7 =>
cond ((!y7)) (some true) (cond (((lenI p_1.1) != (lenI p_1.2.2.1))) (some true) (Option.bind (g_ref08_in p_1.2.1 0 3600) fun y10 =>
cond ((!y10)) (some true) (some ((decide ((lenI p_0) > 60))))))) fun c6 =>
cond (c6) (some false) (Option.bind (iter (σ := (Int)) (τ := Unit ⊕ (Bool)) (fun s40 =>
cond ((decide (s40 < (lenI p_1.2.2.1)))) (Option.bind (idx p_1.1 s40) fun x47 =>
cond (((lenI x47) != (lenI p_1.2.2.1))) (some (.inr ((.inr false)))) (Option.bind (idx p_1.1 s40) fun x50 =>
Option.bind (idx x50 s40) fun x51 =>
cond ((x51 != 0)) (some (.inr ((.inr false)))) (Option.bind (iter (σ := (Int)) (τ := Unit ⊕ (Bool)) (fun s58 =>
cond ((decide (s58 < (lenI p_1.2.2.1)))) (Option.bind (idx p_1.1 s40) fun x61 =>
Option.bind (idx x61 s58) fun x62 =>
Option.bind (g_ref08_in x62 ((-1)) 20000) fun y63 =>
cond ((!y63)) (some (.inr ((.inr false)))) (some (.inl ((w64 (s58 + 1)))))) (some (.inr ((.inl (())))))) big 0) fun t65 =>
alt (fun b67 => some (.inl ((w64 (s40 + 1))))) (fun b68 => some (.inr ((.inr b68)))) t65))) (some (.inr ((.inl (())))))) big 0) fun t69 =>
alt (fun b71 => Option.bind (iter (σ := (Int)) (τ := Unit ⊕ (Bool)) (fun s102 =>
cond ((decide (s102 < (lenI p_0)))) (Option.bind (idx p_0 s102) fun x105 =>
Option.bind (g_ref08_in x105.1 0 ((w64 ((lenI p_1.2.2.1) - 1)))) fun y117 =>
cond ((!y117)) (some (.inr ((.inr false)))) (Option.bind (g_ref08_in x105.2.1 0 ((w64 ((lenI p_1.2.2.1) - 1)))) fun y120 =>
cond ((!y120)) (some (.inr ((.inr false)))) (cond ((decide (x105.2.2.1 < 0))) (some (.inr ((.inr false)))) (cond ((decide (x105.2.2.1 > x105.2.2.2.1))) (some (.inr ((.inr false)))) (cond ((decide (x105.2.2.2.1 > 200000))) (some (.inr ((.inr false)))) (cond ((decide (s102 > 0))) (Option.bind (idx p_0 ((w64 (s102 - 1)))) fun x130 =>
cond ((decide (x105.2.2.1 < x130.2.2.1))) (some (.inr ((.inr false)))) (some (.inl ((w64 (s102 + 1)))))) (some (.inl ((w64 (s102 + 1))))))))))) (some (.inr ((.inl (())))))) big 0) fun t133 =>
alt (fun b135 => some true) (fun b136 => some b136) t133) (fun b72 => some b72) t69)
def g_ref08_Follows (tasks_0 : (List Task)) (y_1 : Yard) (a_2 : Int) (b_3 : Int) : Option (Bool) :=
Option.bind (idx tasks_0 a_2) fun x1 =>
Option.bind (idx y_1.1 x1.2.1) fun x2 =>
Option.bind (idx tasks_0 b_3) fun x3 =>
Option.bind (idx x2 x3.1) fun x4 =>
Option.bind (cond ((decide (a_2 < b_3))) (cond ((decide (x4 ≥ 0))) (Option.bind (idx tasks_0 a_2) fun x12 =>
Option.bind (idx tasks_0 b_3) fun x13 =>
some ((decide ((w64 ((w64 (x12.2.2.2.1 + y_1.2.1)) + x4)) ≤ x13.2.2.1)))) (some false)) (some false)) fun c9 =>
some c9
def g_law08_plans (cars_0 : (List (List Int))) : Option (Bool) :=
Option.bind (iter (σ := (Int)) (τ := Unit ⊕ (Bool)) (fun s4 =>
cond ((decide (s4 < (lenI cars_0)))) (Option.bind (idx cars_0 s4) fun x7 =>
cond ((decide ((lenI x7) > 80))) (some (.inr ((.inr false)))) (some (.inl ((w64 (s4 + 1)))))) (some (.inr ((.inl (())))))) big 0) fun t9 =>
alt (fun b11 => some ((decide ((lenI cars_0) ≤ 80)))) (fun b12 => some b12) t9
def g_ref08_Plan (p_0 : (List Task)) (p_1 : Yard) (p_2 : (List (List Int))) : Option (Bool) :=
Option.bind (mkO 1 ((lenI p_0)) (false : Bool)) fun x1 =>
Option.bind (iter (σ := (Int × Int × (List Bool))) (τ := (Int × (List Bool)) ⊕ (Bool)) (fun s202 =>
cond ((decide (s202.2.1 < (lenI p_2)))) (Option.bind (idx p_2 s202.2.1) fun x205 =>
cond (((lenI x205) == 0)) (some (.inr ((.inr false)))) (Option.bind (iter (σ := (Int × Int × (List Bool))) (τ := (Int × (List Bool)) ⊕ (Bool × (List Bool))) (fun s259 =>
Option.bind (idx p_2 s202.2.1) fun x261 =>
cond ((decide (s259.2.1 < (lenI x261)))) (Option.bind (idx p_2 s202.2.1) fun x263 =>
Option.bind (idx x263 s259.2.1) fun x264 =>
Option.bind (g_ref08_in x264 0 ((w64 ((lenI p_0) - 1)))) fun y273 =>
cond ((!y273)) (some (.inr ((.inr ((false, s259.2.2)))))) (Option.bind (idx s259.2.2 x264) fun x276 =>
cond (x276) (some (.inr ((.inr ((false, s259.2.2)))))) (cond ((decide (s259.2.1 > 0))) (Option.bind (idx p_2 s202.2.1) fun x280 =>
Option.bind (idx x280 ((w64 (s259.2.1 - 1)))) fun x281 =>
Option.bind (g_ref08_Follows p_0 p_1 x281 x264) fun y282 =>
cond ((!y282)) (some (.inr ((.inr ((false, s259.2.2)))))) (Option.bind (idx s259.2.2 x264) fun x284 =>
some (.inl (((w64 (s259.1 + 1)), (w64 (s259.2.1 + 1)), (s259.2.2).set (Int.toNat x264) true))))) (Option.bind (idx s259.2.2 x264) fun x286 =>
some (.inl (((w64 (s259.1 + 1)), (w64 (s259.2.1 + 1)), (s259.2.2).set (Int.toNat x264) true))))))) (some (.inr ((.inl ((s259.1, s259.2.2))))))) big ((s202.1, 0, s202.2.2))) fun t287 =>
alt (fun b289 => cond ((decide (s202.2.1 > 0))) (Option.bind (idx p_2 s202.2.1) fun x297 =>
Option.bind (idx x297 0) fun x298 =>
Option.bind (idx p_2 ((w64 (s202.2.1 - 1)))) fun x299 =>
Option.bind (idx x299 0) fun x300 =>
cond ((decide (x298 ≤ x300))) (some (.inr ((.inr false)))) (some (.inl ((b289.1, (w64 (s202.2.1 + 1)), b289.2))))) (some (.inl ((b289.1, (w64 (s202.2.1 + 1)), b289.2))))) (fun b290 => some (.inr ((.inr b290.1)))) t287)) (some (.inr ((.inl ((s202.1, s202.2.2))))))) big ((0, 0, x1))) fun t303 =>
alt (fun b305 => some ((b305.1 == (lenI p_0)))) (fun b306 => some b306) t303
def g_ref08_Rules (w_0 : WorkRules) : Option (Bool) :=
Option.bind (Option.bind (g_ref08_in w_0.1 0 200000) fun y13 =>
cond (y13) (Option.bind (g_ref08_in w_0.2.1 0 200000) fun y15 =>
cond (y15) (Option.bind (g_ref08_in w_0.2.2.1 0 200000) fun y17 =>
cond (y17) (Option.bind (g_ref08_in w_0.2.2.2.1 0 200000) fun y19 =>
cond (y19) (Option.bind (g_ref08_in w_0.2.2.2.2.1 0 200000) fun y21 =>
cond (y21) (Option.bind (g_ref08_in w_0.2.2.2.2.2.1 0 200000) fun y23 =>
some y23) (some false)) (some false)) (some false)) (some false)) (some false)) fun c12 =>
some c12
def g_ref08_ends (tasks_0 : (List Task)) (cars_1 : (List (List Int))) (x_2 : DutyPiece) : Option (Task × Task) :=
Option.bind (idx cars_1 x_2.1) fun x5 =>
Option.bind (idx x5 x_2.2.1) fun x6 =>
Option.bind (idx tasks_0 x6) fun x7 =>
Option.bind (idx cars_1 x_2.1) fun x8 =>
Option.bind (idx x8 x_2.2.2.1) fun x9 =>
Option.bind (idx tasks_0 x9) fun x10 =>
some ((x7, x10))
def g_ref08_Faults (p_0 : (List Task)) (p_1 : Yard) (p_2 : (List (List Int))) (p_3 : WorkRules) (p_4 : Duty) : Option ((List Int)) :=
Option.bind (iter (σ := (Bool × Bool × Int × Int)) (τ := (Bool × Bool × Int)) (fun s53 =>
cond ((decide (s53.2.2.2 < (lenI p_4.1)))) (Option.bind (idx p_4.1 s53.2.2.2) fun x56 =>
Option.bind (g_ref08_ends p_0 p_2 x56) fun y59 =>
cond (s53.1) (cond (s53.2.1) (some (.inl ((true, true, (w64 ((w64 (s53.2.2.1 + y59.2.2.2.2.1)) - y59.1.2.2.1)), (w64 (s53.2.2.2 + 1)))))) (cond ((decide (x56.2.1 > 0))) (Option.bind (idx p_1.2.2.1 y59.1.1) fun x78 =>
cond ((!x78)) (some (.inl ((true, true, (w64 ((w64 (s53.2.2.1 + y59.2.2.2.2.1)) - y59.1.2.2.1)), (w64 (s53.2.2.2 + 1)))))) (Option.bind (idx p_2 x56.1) fun x80 =>
cond ((decide (x56.2.2.1 < (w64 ((lenI x80) - 1))))) (Option.bind (idx p_1.2.2.1 y59.2.2.1) fun x82 =>
some (.inl ((true, (!x82), (w64 ((w64 (s53.2.2.1 + y59.2.2.2.2.1)) - y59.1.2.2.1)), (w64 (s53.2.2.2 + 1)))))) (some (.inl ((true, false, (w64 ((w64 (s53.2.2.1 + y59.2.2.2.2.1)) - y59.1.2.2.1)), (w64 (s53.2.2.2 + 1)))))))) (Option.bind (idx p_2 x56.1) fun x83 =>
cond ((decide (x56.2.2.1 < (w64 ((lenI x83) - 1))))) (Option.bind (idx p_1.2.2.1 y59.2.2.1) fun x85 =>
some (.inl ((true, (!x85), (w64 ((w64 (s53.2.2.1 + y59.2.2.2.2.1)) - y59.1.2.2.1)), (w64 (s53.2.2.2 + 1)))))) (some (.inl ((true, false, (w64 ((w64 (s53.2.2.1 + y59.2.2.2.2.1)) - y59.1.2.2.1)), (w64 (s53.2.2.2 + 1))))))))) (cond (s53.2.1) (some (.inl (((decide ((w64 (y59.2.2.2.2.1 - y59.1.2.2.1)) > p_3.1)), true, (w64 ((w64 (s53.2.2.1 + y59.2.2.2.2.1)) - y59.1.2.2.1)), (w64 (s53.2.2.2 + 1)))))) (cond ((decide (x56.2.1 > 0))) (Option.bind (idx p_1.2.2.1 y59.1.1) fun x98 =>
cond ((!x98)) (some (.inl (((decide ((w64 (y59.2.2.2.2.1 - y59.1.2.2.1)) > p_3.1)), true, (w64 ((w64 (s53.2.2.1 + y59.2.2.2.2.1)) - y59.1.2.2.1)), (w64 (s53.2.2.2 + 1)))))) (Option.bind (idx p_2 x56.1) fun x100 =>
cond ((decide (x56.2.2.1 < (w64 ((lenI x100) - 1))))) (Option.bind (idx p_1.2.2.1 y59.2.2.1) fun x102 =>
some (.inl (((decide ((w64 (y59.2.2.2.2.1 - y59.1.2.2.1)) > p_3.1)), (!x102), (w64 ((w64 (s53.2.2.1 + y59.2.2.2.2.1)) - y59.1.2.2.1)), (w64 (s53.2.2.2 + 1)))))) (some (.inl (((decide ((w64 (y59.2.2.2.2.1 - y59.1.2.2.1)) > p_3.1)), false, (w64 ((w64 (s53.2.2.1 + y59.2.2.2.2.1)) - y59.1.2.2.1)), (w64 (s53.2.2.2 + 1)))))))) (Option.bind (idx p_2 x56.1) fun x103 =>
cond ((decide (x56.2.2.1 < (w64 ((lenI x103) - 1))))) (Option.bind (idx p_1.2.2.1 y59.2.2.1) fun x105 =>
some (.inl (((decide ((w64 (y59.2.2.2.2.1 - y59.1.2.2.1)) > p_3.1)), (!x105), (w64 ((w64 (s53.2.2.1 + y59.2.2.2.2.1)) - y59.1.2.2.1)), (w64 (s53.2.2.2 + 1)))))) (some (.inl (((decide ((w64 (y59.2.2.2.2.1 - y59.1.2.2.1)) > p_3.1)), false, (w64 ((w64 (s53.2.2.1 + y59.2.2.2.2.1)) - y59.1.2.2.1)), (w64 (s53.2.2.2 + 1)))))))))) (some (.inr (((s53.1, s53.2.1, s53.2.2.1)))))) big ((false, false, (w64 (p_3.2.2.2.2.1 + p_3.2.2.2.2.2.1)), 0))) fun t106 =>
cond (t106.1) (Option.bind (appO 8 ([]) ([1])) fun x110 =>
cond (t106.2.1) (Option.bind (appO 8 x110 ([2])) fun x113 =>
Option.bind (idx p_4.1 0) fun x115 =>
Option.bind (g_ref08_ends p_0 p_2 x115) fun y116 =>
cond (((lenI p_4.1) == 2)) (Option.bind (idx p_4.1 1) fun x122 =>
Option.bind (g_ref08_ends p_0 p_2 x122) fun y123 =>
Option.bind (idx p_1.1 y116.2.2.1) fun x128 =>
Option.bind (idx x128 y123.1.1) fun x129 =>
Option.bind (cond ((decide (y123.1.2.2.1 < y116.2.2.2.2.1))) (some true) (some ((decide (x129 < 0))))) fun c131 =>
cond (c131) (Option.bind (appO 8 x113 ([3])) fun x134 =>
cond ((decide ((w64 ((w64 ((w64 (y123.2.2.2.2.1 - y116.1.2.2.1)) + p_3.2.2.2.2.1)) + p_3.2.2.2.2.2.1)) > p_3.2.1))) (Option.bind (appO 8 x134 ([5])) fun x137 =>
cond ((decide (t106.2.2 > p_3.2.2.1))) (Option.bind (appO 8 x137 ([6])) fun x140 =>
some x140) (some x137)) (cond ((decide (t106.2.2 > p_3.2.2.1))) (Option.bind (appO 8 x134 ([6])) fun x143 =>
some x143) (some x134))) (cond ((decide ((w64 (y123.1.2.2.1 - y116.2.2.2.2.1)) < (w64 (p_3.2.2.2.1 + x129))))) (Option.bind (appO 8 x113 ([4])) fun x146 =>
cond ((decide ((w64 ((w64 ((w64 (y123.2.2.2.2.1 - y116.1.2.2.1)) + p_3.2.2.2.2.1)) + p_3.2.2.2.2.2.1)) > p_3.2.1))) (Option.bind (appO 8 x146 ([5])) fun x149 =>
cond ((decide (t106.2.2 > p_3.2.2.1))) (Option.bind (appO 8 x149 ([6])) fun x152 =>
some x152) (some x149)) (cond ((decide (t106.2.2 > p_3.2.2.1))) (Option.bind (appO 8 x146 ([6])) fun x155 =>
some x155) (some x146))) (cond ((decide ((w64 ((w64 ((w64 (y123.2.2.2.2.1 - y116.1.2.2.1)) + p_3.2.2.2.2.1)) + p_3.2.2.2.2.2.1)) > p_3.2.1))) (Option.bind (appO 8 x113 ([5])) fun x158 =>
cond ((decide (t106.2.2 > p_3.2.2.1))) (Option.bind (appO 8 x158 ([6])) fun x161 =>
some x161) (some x158)) (cond ((decide (t106.2.2 > p_3.2.2.1))) (Option.bind (appO 8 x113 ([6])) fun x164 =>
some x164) (some x113))))) (cond ((decide ((w64 ((w64 ((w64 (y116.2.2.2.2.1 - y116.1.2.2.1)) + p_3.2.2.2.2.1)) + p_3.2.2.2.2.2.1)) > p_3.2.1))) (Option.bind (appO 8 x113 ([5])) fun x167 =>
cond ((decide (t106.2.2 > p_3.2.2.1))) (Option.bind (appO 8 x167 ([6])) fun x170 =>
some x170) (some x167)) (cond ((decide (t106.2.2 > p_3.2.2.1))) (Option.bind (appO 8 x113 ([6])) fun x173 =>
some x173) (some x113)))) (Option.bind (idx p_4.1 0) fun x175 =>
Option.bind (g_ref08_ends p_0 p_2 x175) fun y176 =>
cond (((lenI p_4.1) == 2)) (Option.bind (idx p_4.1 1) fun x182 =>
Option.bind (g_ref08_ends p_0 p_2 x182) fun y183 =>
Option.bind (idx p_1.1 y176.2.2.1) fun x188 =>
Option.bind (idx x188 y183.1.1) fun x189 =>
Option.bind (cond ((decide (y183.1.2.2.1 < y176.2.2.2.2.1))) (some true) (some ((decide (x189 < 0))))) fun c191 =>
cond (c191) (Option.bind (appO 8 x110 ([3])) fun x194 =>
cond ((decide ((w64 ((w64 ((w64 (y183.2.2.2.2.1 - y176.1.2.2.1)) + p_3.2.2.2.2.1)) + p_3.2.2.2.2.2.1)) > p_3.2.1))) (Option.bind (appO 8 x194 ([5])) fun x197 =>
cond ((decide (t106.2.2 > p_3.2.2.1))) (Option.bind (appO 8 x197 ([6])) fun x200 =>
some x200) (some x197)) (cond ((decide (t106.2.2 > p_3.2.2.1))) (Option.bind (appO 8 x194 ([6])) fun x203 =>
some x203) (some x194))) (cond ((decide ((w64 (y183.1.2.2.1 - y176.2.2.2.2.1)) < (w64 (p_3.2.2.2.1 + x189))))) (Option.bind (appO 8 x110 ([4])) fun x206 =>
cond ((decide ((w64 ((w64 ((w64 (y183.2.2.2.2.1 - y176.1.2.2.1)) + p_3.2.2.2.2.1)) + p_3.2.2.2.2.2.1)) > p_3.2.1))) (Option.bind (appO 8 x206 ([5])) fun x209 =>
cond ((decide (t106.2.2 > p_3.2.2.1))) (Option.bind (appO 8 x209 ([6])) fun x212 =>
some x212) (some x209)) (cond ((decide (t106.2.2 > p_3.2.2.1))) (Option.bind (appO 8 x206 ([6])) fun x215 =>
some x215) (some x206))) (cond ((decide ((w64 ((w64 ((w64 (y183.2.2.2.2.1 - y176.1.2.2.1)) + p_3.2.2.2.2.1)) + p_3.2.2.2.2.2.1)) > p_3.2.1))) (Option.bind (appO 8 x110 ([5])) fun x218 =>
cond ((decide (t106.2.2 > p_3.2.2.1))) (Option.bind (appO 8 x218 ([6])) fun x221 =>
some x221) (some x218)) (cond ((decide (t106.2.2 > p_3.2.2.1))) (Option.bind (appO 8 x110 ([6])) fun x224 =>
some x224) (some x110))))) (cond ((decide ((w64 ((w64 ((w64 (y176.2.2.2.2.1 - y176.1.2.2.1)) + p_3.2.2.2.2.1)) + p_3.2.2.2.2.2.1)) > p_3.2.1))) (Option.bind (appO 8 x110 ([5])) fun x227 =>
cond ((decide (t106.2.2 > p_3.2.2.1))) (Option.bind (appO 8 x227 ([6])) fun x230 =>
some x230) (some x227)) (cond ((decide (t106.2.2 > p_3.2.2.1))) (Option.bind (appO 8 x110 ([6])) fun x233 =>
some x233) (some x110))))) (cond (t106.2.1) (Option.bind (appO 8 ([]) ([2])) fun x236 =>
Option.bind (idx p_4.1 0) fun x238 =>
Option.bind (g_ref08_ends p_0 p_2 x238) fun y239 =>
cond (((lenI p_4.1) == 2)) (Option.bind (idx p_4.1 1) fun x245 =>
Option.bind (g_ref08_ends p_0 p_2 x245) fun y246 =>
Option.bind (idx p_1.1 y239.2.2.1) fun x251 =>
Option.bind (idx x251 y246.1.1) fun x252 =>
Option.bind (cond ((decide (y246.1.2.2.1 < y239.2.2.2.2.1))) (some true) (some ((decide (x252 < 0))))) fun c254 =>
cond (c254) (Option.bind (appO 8 x236 ([3])) fun x257 =>
cond ((decide ((w64 ((w64 ((w64 (y246.2.2.2.2.1 - y239.1.2.2.1)) + p_3.2.2.2.2.1)) + p_3.2.2.2.2.2.1)) > p_3.2.1))) (Option.bind (appO 8 x257 ([5])) fun x260 =>
cond ((decide (t106.2.2 > p_3.2.2.1))) (Option.bind (appO 8 x260 ([6])) fun x263 =>
some x263) (some x260)) (cond ((decide (t106.2.2 > p_3.2.2.1))) (Option.bind (appO 8 x257 ([6])) fun x266 =>
some x266) (some x257))) (cond ((decide ((w64 (y246.1.2.2.1 - y239.2.2.2.2.1)) < (w64 (p_3.2.2.2.1 + x252))))) (Option.bind (appO 8 x236 ([4])) fun x269 =>
cond ((decide ((w64 ((w64 ((w64 (y246.2.2.2.2.1 - y239.1.2.2.1)) + p_3.2.2.2.2.1)) + p_3.2.2.2.2.2.1)) > p_3.2.1))) (Option.bind (appO 8 x269 ([5])) fun x272 =>
cond ((decide (t106.2.2 > p_3.2.2.1))) (Option.bind (appO 8 x272 ([6])) fun x275 =>
some x275) (some x272)) (cond ((decide (t106.2.2 > p_3.2.2.1))) (Option.bind (appO 8 x269 ([6])) fun x278 =>
some x278) (some x269))) (cond ((decide ((w64 ((w64 ((w64 (y246.2.2.2.2.1 - y239.1.2.2.1)) + p_3.2.2.2.2.1)) + p_3.2.2.2.2.2.1)) > p_3.2.1))) (Option.bind (appO 8 x236 ([5])) fun x281 =>
cond ((decide (t106.2.2 > p_3.2.2.1))) (Option.bind (appO 8 x281 ([6])) fun x284 =>
some x284) (some x281)) (cond ((decide (t106.2.2 > p_3.2.2.1))) (Option.bind (appO 8 x236 ([6])) fun x287 =>
some x287) (some x236))))) (cond ((decide ((w64 ((w64 ((w64 (y239.2.2.2.2.1 - y239.1.2.2.1)) + p_3.2.2.2.2.1)) + p_3.2.2.2.2.2.1)) > p_3.2.1))) (Option.bind (appO 8 x236 ([5])) fun x290 =>
cond ((decide (t106.2.2 > p_3.2.2.1))) (Option.bind (appO 8 x290 ([6])) fun x293 =>
some x293) (some x290)) (cond ((decide (t106.2.2 > p_3.2.2.1))) (Option.bind (appO 8 x236 ([6])) fun x296 =>
some x296) (some x236)))) (Option.bind (idx p_4.1 0) fun x298 =>
Option.bind (g_ref08_ends p_0 p_2 x298) fun y299 =>
cond (((lenI p_4.1) == 2)) (Option.bind (idx p_4.1 1) fun x305 =>
Option.bind (g_ref08_ends p_0 p_2 x305) fun y306 =>
Option.bind (idx p_1.1 y299.2.2.1) fun x311 =>
Option.bind (idx x311 y306.1.1) fun x312 =>
Option.bind (cond ((decide (y306.1.2.2.1 < y299.2.2.2.2.1))) (some true) (some ((decide (x312 < 0))))) fun c314 =>
cond (c314) (Option.bind (appO 8 ([]) ([3])) fun x317 =>
cond ((decide ((w64 ((w64 ((w64 (y306.2.2.2.2.1 - y299.1.2.2.1)) + p_3.2.2.2.2.1)) + p_3.2.2.2.2.2.1)) > p_3.2.1))) (Option.bind (appO 8 x317 ([5])) fun x320 =>
cond ((decide (t106.2.2 > p_3.2.2.1))) (Option.bind (appO 8 x320 ([6])) fun x323 =>
some x323) (some x320)) (cond ((decide (t106.2.2 > p_3.2.2.1))) (Option.bind (appO 8 x317 ([6])) fun x326 =>
some x326) (some x317))) (cond ((decide ((w64 (y306.1.2.2.1 - y299.2.2.2.2.1)) < (w64 (p_3.2.2.2.1 + x312))))) (Option.bind (appO 8 ([]) ([4])) fun x329 =>
cond ((decide ((w64 ((w64 ((w64 (y306.2.2.2.2.1 - y299.1.2.2.1)) + p_3.2.2.2.2.1)) + p_3.2.2.2.2.2.1)) > p_3.2.1))) (Option.bind (appO 8 x329 ([5])) fun x332 =>
cond ((decide (t106.2.2 > p_3.2.2.1))) (Option.bind (appO 8 x332 ([6])) fun x335 =>
some x335) (some x332)) (cond ((decide (t106.2.2 > p_3.2.2.1))) (Option.bind (appO 8 x329 ([6])) fun x338 =>
some x338) (some x329))) (cond ((decide ((w64 ((w64 ((w64 (y306.2.2.2.2.1 - y299.1.2.2.1)) + p_3.2.2.2.2.1)) + p_3.2.2.2.2.2.1)) > p_3.2.1))) (Option.bind (appO 8 ([]) ([5])) fun x341 =>
cond ((decide (t106.2.2 > p_3.2.2.1))) (Option.bind (appO 8 x341 ([6])) fun x344 =>
some x344) (some x341)) (cond ((decide (t106.2.2 > p_3.2.2.1))) (Option.bind (appO 8 ([]) ([6])) fun x347 =>
some x347) (some ([])))))) (cond ((decide ((w64 ((w64 ((w64 (y299.2.2.2.2.1 - y299.1.2.2.1)) + p_3.2.2.2.2.1)) + p_3.2.2.2.2.2.1)) > p_3.2.1))) (Option.bind (appO 8 ([]) ([5])) fun x350 =>
cond ((decide (t106.2.2 > p_3.2.2.1))) (Option.bind (appO 8 x350 ([6])) fun x353 =>
some x353) (some x350)) (cond ((decide (t106.2.2 > p_3.2.2.1))) (Option.bind (appO 8 ([]) ([6])) fun x356 =>
some x356) (some ([]))))))
def g_duty_Faults (p_0 : (List Task)) (p_1 : Yard) (p_2 : (List (List Int))) (p_3 : WorkRules) (p_4 : Duty) : Option ((List Int) × Int) :=
Option.bind (g_duty_crewed p_0 p_1 p_2 p_3) fun y2 =>
Option.bind (cond ((!y2.2)) (some true) (Option.bind (g_duty_within ((lenI p_4.1)) 1 2) fun y7 =>
some ((!y7)))) fun c5 =>
cond (c5) (some (([], 2))) (Option.bind (iter (σ := (Int)) (τ := Unit ⊕ ((List Int) × Int)) (fun s32 =>
cond ((decide (s32 < (lenI p_4.1)))) (Option.bind (idx p_4.1 s32) fun x36 =>
Option.bind (g_duty_within x36.1 0 ((w64 ((lenI p_2) - 1)))) fun y45 =>
cond ((!y45)) (some (.inr ((.inr (([], 2)))))) (Option.bind (idx p_2 x36.1) fun x50 =>
Option.bind (g_duty_within x36.2.2.1 0 ((w64 ((lenI x50) - 1)))) fun y51 =>
cond ((!y51)) (some (.inr ((.inr (([], 2)))))) (Option.bind (g_duty_within x36.2.1 0 x36.2.2.1) fun y56 =>
cond ((!y56)) (some (.inr ((.inr (([], 2)))))) (some (.inl ((w64 (s32 + 1)))))))) (some (.inr ((.inl (())))))) big 0) fun t60 =>
alt (fun b62 => Option.bind (y2.1) fun p64 =>
Option.bind (g_duty_crew_faults p64 p_4) fun y65 =>
some ((y65, 0))) (fun b63 => some ((b63.1, b63.2))) t60)
def g_ref08_Duty (cars_0 : (List (List Int))) (d_1 : Duty) : Option (Bool) :=
Option.bind (iter (σ := (Int)) (τ := Unit ⊕ (Bool)) (fun s19 =>
cond ((decide (s19 < (lenI d_1.1)))) (Option.bind (idx d_1.1 s19) fun x22 =>
Option.bind (g_ref08_in x22.1 0 ((w64 ((lenI cars_0) - 1)))) fun y30 =>
cond ((!y30)) (some (.inr ((.inr false)))) (cond ((decide (x22.2.1 < 0))) (some (.inr ((.inr false)))) (cond ((decide (x22.2.1 > x22.2.2.1))) (some (.inr ((.inr false)))) (Option.bind (idx cars_0 x22.1) fun x37 =>
cond ((decide (x22.2.2.1 ≥ (lenI x37)))) (some (.inr ((.inr false)))) (some (.inl ((w64 (s19 + 1))))))))) (some (.inr ((.inl (())))))) big 0) fun t39 =>
alt (fun b41 => Option.bind (g_ref08_in ((lenI d_1.1)) 1 2) fun y43 =>
some y43) (fun b42 => some b42) t39
def g_law08_count (p_0 : (List Task)) (p_1 : Yard) (p_2 : (List (List Int))) (p_3 : WorkRules) (p_4 : (List Duty)) : Option (Int × Bool) :=
Option.bind (mkO 8 ((lenI p_0)) (0 : Int)) fun x1 =>
Option.bind (iter (σ := (Int × (List Int))) (τ := ((List Int)) ⊕ (Int × Bool × (List Int))) (fun s186 =>
cond ((decide (s186.1 < (lenI p_4)))) (Option.bind (idx p_4 s186.1) fun x189 =>
Option.bind (g_ref08_Duty p_2 x189) fun y190 =>
cond ((!y190)) (some (.inr ((.inr ((0, false, s186.2)))))) (Option.bind (idx p_4 s186.1) fun x192 =>
Option.bind (g_duty_Faults p_0 p_1 p_2 p_3 x192) fun y193 =>
cond ((y193.2 != 0)) (some (.inr ((.inr ((0, false, s186.2)))))) (cond ((decide ((lenI y193.1) > 0))) (some (.inr ((.inr ((0, false, s186.2)))))) (Option.bind (iter (σ := (Int × (List Int))) (τ := ((List Int))) (fun s250 =>
Option.bind (idx p_4 s186.1) fun x252 =>
cond ((decide (s250.1 < (lenI x252.1)))) (Option.bind (idx p_4 s186.1) fun x254 =>
Option.bind (idx x254.1 s250.1) fun x255 =>
Option.bind (iter (σ := (Int × (List Int))) (τ := ((List Int))) (fun s268 =>
cond ((decide (s268.1 ≤ x255.2.2.1))) (Option.bind (idx p_2 x255.1) fun x271 =>
Option.bind (idx x271 s268.1) fun x272 =>
Option.bind (idx s268.2 x272) fun x273 =>
Option.bind (idx s268.2 x272) fun x274 =>
some (.inl (((w64 (s268.1 + 1)), (s268.2).set (Int.toNat x272) ((w64 (x273 + 1))))))) (some (.inr s268.2))) big ((x255.2.1, s250.2))) fun t275 =>
some (.inl (((w64 (s250.1 + 1)), t275)))) (some (.inr s250.2))) big ((0, s186.2))) fun t277 =>
some (.inl (((w64 (s186.1 + 1)), t277))))))) (some (.inr ((.inl s186.2))))) big ((0, x1))) fun t279 =>
alt (fun b281 => Option.bind (iter (σ := (Int)) (τ := Unit ⊕ (Int × Bool)) (fun s286 =>
cond ((decide (s286 < (lenI p_0)))) (Option.bind (idx b281 s286) fun x289 =>
cond ((x289 != 1)) (some (.inr ((.inr ((0, false)))))) (some (.inl ((w64 (s286 + 1)))))) (some (.inr ((.inl (())))))) big 0) fun t291 =>
alt (fun b293 => some (((lenI p_4), true))) (fun b294 => some ((b294.1, b294.2))) t291) (fun b282 => some ((b282.1, b282.2.1))) t279
def g_law08_DutyKeeps (p_0 : (List Task)) (p_1 : Yard) (p_2 : (List (List Int))) (p_3 : WorkRules) (p_4 : (List Duty)) (p_5 : Int) : Option (Bool) :=
Option.bind (Option.bind (g_law08_few p_0 p_1 14) fun y14 =>
cond ((!y14)) (some true) (Option.bind (g_law08_plans p_2) fun y16 =>
cond ((!y16)) (some true) (Option.bind (g_ref08_Fine p_0 p_1) fun y18 =>
cond ((!y18)) (some true) (Option.bind (g_ref08_Plan p_0 p_1 p_2) fun y20 =>
cond ((!y20)) (some true) (Option.bind (g_ref08_Rules p_3) fun y22 =>
cond ((!y22)) (some true) (cond ((decide ((lenI p_4) > 20))) (some true) (cond ((decide (p_5 < 0))) (some true) (some ((decide (p_5 > 100000))))))))))) fun c13 =>
cond (c13) (Option.bind (g_law08_known) fun y27 =>
some y27) (Option.bind (g_duty_Duties p_0 p_1 p_2 p_3) fun y28 =>
Option.bind (g_duty_Bare p_0 p_1 p_2 p_3) fun y31 =>
Option.bind (g_law08_count p_0 p_1 p_2 p_3 p_4) fun y34 =>
cond ((y31.2 != 0)) (some false) (cond ((y28.2 != 0)) (Option.bind (cond ((y28.2 == 4)) (cond ((!y34.2)) (Option.bind (g_law08_known) fun y43 =>
some y43) (some false)) (some false)) fun c40 =>
some c40) (Option.bind (g_law08_count p_0 p_1 p_2 p_3 y28.1) fun y44 =>
Option.bind (cond ((!y44.2)) (some true) (cond ((y44.1 != (lenI y28.1))) (some true) (cond (y34.2) (cond ((decide (y34.1 < y44.1))) (some true) (some ((decide ((lenI y31.1) > 0))))) (some ((decide ((lenI y31.1) > 0))))))) fun c49 =>
cond (c49) (some false) (Option.bind (g_duty_Duties p_0 p_1 p_2 ((((min 200000 ((w64 (p_3.1 + p_5)))), (min 200000 ((w64 (p_3.2.1 + p_5)))), (min 200000 ((w64 (p_3.2.2.1 + p_5)))), (max 0 ((w64 (p_3.2.2.2.1 - p_5)))), (max 0 ((w64 (p_3.2.2.2.2.1 - p_5)))), (max 0 ((w64 (p_3.2.2.2.2.2.1 - p_5)))), ()) : WorkRules))) fun y57 =>
Option.bind (cond ((y57.2 == 0)) (cond ((decide ((lenI y57.1) ≤ (lenI y28.1)))) (Option.bind (g_law08_known) fun y66 =>
some y66) (some false)) (some false)) fun c63 =>
some c63))))
end Go.Ai.Sx
