/- Written by program: the facts of the tables,and the walks through the functions. -/
import Derived.Test.YtghlaibcihhbcaaGreatK8
import Derived.Test.YtghlaibcihhbcaaGreatK9
import Derived.KernelRfl
import Derived.Test.YtghlaibcihhbcaaGreatK10
import Derived.Test.YtghlaibcihhbcaaGreatK5
import Derived.Test.YtghlaibcihhbcaaGreatRows
import Derived.WalkKit
import Derived.ProofKit
import Derived.JoinedOf
set_option linter.unusedSimpArgs false
set_option linter.unusedVariables false
set_option linter.unusedSectionVars false
namespace Go.Ai.TabYtghlaibcihhbcaaGreat
open Go Go.Ai Go.Ai.Sx Go.Proofs
attribute [local irreducible] zm
noncomputable def zob:Array Field:=match Tryz.t147.desc with | .struct fs=>fs | _=>#[]
noncomputable def zzr:Array Field:=match Tryz.t131.desc with | .struct fs=>fs | _=>#[]
noncomputable def zzs:Array Field:=match Tryz.t260.desc with | .struct fs=>fs | _=>#[]
noncomputable def zzt:Array Field:=match Tryz.t283.desc with | .struct fs=>fs | _=>#[]
noncomputable def zxm:Array Field:=match Tryz.t40.desc with | .struct fs=>fs | _=>#[]
noncomputable def zx3:Array Field:=match Tryz.t79.desc with | .struct fs=>fs | _=>#[]
noncomputable def zvh:Array Field:=match Tryz.t120.desc with | .struct fs=>fs | _=>#[]
noncomputable def zvi:Array Field:=match Tryz.t162.desc with | .struct fs=>fs | _=>#[]
noncomputable def zoc:Field:=zob[0]!
noncomputable def zod:Field:=zob[1]!
noncomputable def zxn:Field:=zxm[3]!
noncomputable def zxo:Field:=zxm[2]!
noncomputable def zxp:Field:=zxm[1]!
noncomputable def zxq:Field:=zxm[0]!
noncomputable def zxr:Field:=zx3[2]!
noncomputable def zxs:Field:=zx3[1]!
noncomputable def zxt:Field:=zx3[0]!
noncomputable def zvj:Field:=zvh[1]!
noncomputable def zvk:Field:=zvh[0]!
noncomputable def zvl:Field:=zvi[1]!
noncomputable def zvm:Field:=zvi[0]!
theorem zzu:Und ktab 117 (zd zg):=⟨by kernel_rfl,by kernel_rfl⟩
theorem U27:Und ktab 27 (zd (zh .i64)):=⟨by kernel_rfl,by kernel_rfl⟩
theorem U55:Und ktab 55 (zd zu):=⟨by kernel_rfl,by kernel_rfl⟩
theorem zvn:Und ktab 113 zpI:=⟨by kernel_rfl,by kernel_rfl⟩
theorem zvo:Und ktab 167 zpI:=⟨by kernel_rfl,by kernel_rfl⟩
theorem zlZ:Mp ktab 122 (zh .u64) 121:=⟨⟨119,by kernel_rfl,zu6 (by kernel_rfl)⟩⟩
theorem zvp:Mp ktab 201 zQ 4:=⟨⟨148,by kernel_rfl,zuj (fs:=zob) (by kernel_rfl) (by kernel_rfl) rfl (by rw [show zob.toList=[zoc,zod] by kernel_rfl]; exact (zui (by kernel_rfl) (by kernel_rfl) (by kernel_rfl) (zq6 (by kernel_rfl) (by kernel_rfl) (by kernel_rfl) zuh)))⟩⟩
theorem zvq:Mp ktab 259 zQ 3:=⟨⟨148,by kernel_rfl,zuj (fs:=zob) (by kernel_rfl) (by kernel_rfl) rfl (by rw [show zob.toList=[zoc,zod] by kernel_rfl]; exact (zui (by kernel_rfl) (by kernel_rfl) (by kernel_rfl) (zq6 (by kernel_rfl) (by kernel_rfl) (by kernel_rfl) zuh)))⟩⟩
theorem zzv:Stt ktab 132 [.nilslice,.nilslice,.nilslice,.nilslice,.nilslice,.nilslice,.int .i64 0,.int .i64 0,.int .i64 0,.int .i64 0,.int .i64 0,.int .i64 0,.int .i64 0,.int .i64 0,.int .i64 0,.nilslice,.int .i64 0,.int .i64 0,.nilslice,.nilslice,.nilslice,.nilslice] [(0,18),(18,2),(20,2)]:=⟨by kernel_rfl,⟨zzr,by kernel_rfl,by kernel_rfl⟩⟩
theorem zyJ:Stt ktab 261 [.nilslice,.nilslice,.nilslice,.nilmap] [(0,2),(2,1),(3,1)]:=⟨by kernel_rfl,⟨zzs,by kernel_rfl,by kernel_rfl⟩⟩
theorem zyK:Stt ktab 284 [.nilptr,.nilslice,.nilslice,.nilslice,.nilslice,.nilslice] [(0,1),(1,1),(2,1),(3,1),(4,1),(5,1)]:=⟨by kernel_rfl,⟨zzt,by kernel_rfl,by kernel_rfl⟩⟩
theorem E41:SEq ktab 41 zby (λx y=>x==y):=⟨⟨zxm,by kernel_rfl,by rw [show zxm.toList=[zxq,zxp,zxo,zxn] by kernel_rfl]; exact (.i (of_decide_eq_true (by kernel_rfl)) (by kernel_rfl) (by kernel_rfl) (.i (of_decide_eq_true (by kernel_rfl)) (by kernel_rfl) (by kernel_rfl) (.i (of_decide_eq_true (by kernel_rfl)) (by kernel_rfl) (by kernel_rfl) (.i (of_decide_eq_true (by kernel_rfl)) (by kernel_rfl) (by kernel_rfl) .n))))⟩,by kernel_rfl,by kernel_rfl⟩
theorem E80:SEq ktab 80 zr (λx y=>x==y):=⟨⟨zx3,by kernel_rfl,by rw [show zx3.toList=[zxt,zxs,zxr] by kernel_rfl]; exact (.i (of_decide_eq_true (by kernel_rfl)) (by kernel_rfl) (by kernel_rfl) (.i (of_decide_eq_true (by kernel_rfl)) (by kernel_rfl) (by kernel_rfl) (.i (of_decide_eq_true (by kernel_rfl)) (by kernel_rfl) (by kernel_rfl) .n)))⟩,by kernel_rfl,by kernel_rfl⟩
theorem zzH:SEq ktab 121 zaC (λx y=>x==y):=⟨⟨zvh,by kernel_rfl,by rw [show zvh.toList=[zvk,zvj] by kernel_rfl]; exact (.i (of_decide_eq_true (by kernel_rfl)) (by kernel_rfl) (by kernel_rfl) (.i (of_decide_eq_true (by kernel_rfl)) (by kernel_rfl) (by kernel_rfl) .n))⟩,by kernel_rfl,by kernel_rfl⟩
theorem zzI:SEq ktab 148 zQ (λx y=>x==y):=⟨⟨zob,by kernel_rfl,by rw [show zob.toList=[zoc,zod] by kernel_rfl]; exact (.i (of_decide_eq_true (by kernel_rfl)) (by kernel_rfl) (by kernel_rfl) (.b (of_decide_eq_true (by kernel_rfl)) (by kernel_rfl) (by kernel_rfl) .n))⟩,by kernel_rfl,by kernel_rfl⟩
theorem zzJ:SEq ktab 163 z5 (λx y=>x==y):=⟨⟨zvi,by kernel_rfl,by rw [show zvi.toList=[zvm,zvl] by kernel_rfl]; exact (.i (of_decide_eq_true (by kernel_rfl)) (by kernel_rfl) (by kernel_rfl) (.b (of_decide_eq_true (by kernel_rfl)) (by kernel_rfl) (by kernel_rfl) .n))⟩,by kernel_rfl,by kernel_rfl⟩
instance:iK ktab 3 (.int .i64):=uK
instance:iK ktab 5 (.int .u8):=uK
instance:iK ktab 119 (.int .u64):=uK
instance:iK ktab 328 (.int .u64):=uK
instance:iU ktab 108 (zS zJ):=uU
instance:iU ktab 114 (zS zY):=uU
instance:iU ktab 117 (zd zg):=uU
instance:iU ktab 119 (zh .u64):=uU
instance:iU ktab 121 zaC:=uU
instance:iU ktab 124 zg:=uU
instance:iU ktab 135 zcj:=uU
instance:iU ktab 136 (zh .i64):=uU
instance:iU ktab 137 (zd zQ):=uU
instance:iU ktab 139 zb5:=uU
instance:iU ktab 142 (zd zcj):=uU
instance:iU ktab 144 zex:=uU
instance:iU ktab 148 zQ:=uU
instance:iU ktab 163 z5:=uU
instance:iU ktab 187 (zjn 6 (rFn ktab (Duty) (Bool) (λx=>[.val zck (x)]) (λy=>[.val zu (y)]))):=uU
instance:iU ktab 22 (zd zb5):=uU
instance:iU ktab 221 zw:=uU
instance:iU ktab 223 zgn:=uU
instance:iU ktab 23 (zd zex):=uU
instance:iU ktab 231 (zS z9):=uU
instance:iU ktab 247 zo:=uU
instance:iU ktab 249 zag:=uU
instance:iU ktab 25 zbJ:=uU
instance:iU ktab 259 (zp8 zQ (zh .i64)):=uU
instance:iU ktab 26 (zd ze3):=uU
instance:iU ktab 263 (zS zaw):=uU
instance:iU ktab 27 (zd (zh .i64)):=uU
instance:iU ktab 280 (zS zI):=uU
instance:iU ktab 286 (rFn ktab (zb) (Int) (λx=>[.val zo (x)]) (λy=>[.val (zh .i64) (y)])):=uU
instance:iU ktab 288 zaN:=uU
instance:iU ktab 29 zc0:=uU
instance:iU ktab 294 zaq:=uU
instance:iU ktab 3 (zh .i64):=uU
instance:iU ktab 308 (rFn ktab (zav×Int×Int) (Bool) (λx=>[.val zaq (x.1),.val (zh .i64) (x.2.1),.val (zh .i64) (x.2.2)]) (λy=>[.val zu (y)])):=uU
instance:iU ktab 33 (zd zby):=uU
instance:iU ktab 4 zu:=uU
instance:iU ktab 41 zby:=uU
instance:iU ktab 47 (zd z5):=uU
instance:iU ktab 49 zcU:=uU
instance:iU ktab 51 zbG:=uU
instance:iU ktab 53 ze3:=uU
instance:iU ktab 54 (zd (zd (zh .i64))):=uU
instance:iU ktab 55 (zd zu):=uU
instance:iU ktab 57 zih:=uU
instance:iU ktab 59 zhJ:=uU
instance:iU ktab 63 zfm:=uU
instance:iU ktab 68 zbA:=uU
instance:iU ktab 80 zr:=uU
instance:iU ktab 81 (zd zr):=uU
instance:iU ktab 83 zck:=uU
instance:iU ktab 96 (zS zp):=uU
instance:iS ktab 22 zb5 139:=uS
instance:iS ktab 23 zex 144:=uS
instance:iS ktab 26 ze3 53:=uS
instance:iS ktab 27 (zh .i64) 3:=uS
instance:iS ktab 30 zhJ 59:=uS
instance:iS ktab 33 zby 41:=uS
instance:iS ktab 47 z5 163:=uS
instance:iS ktab 54 (zd (zh .i64)) 27:=uS
instance:iS ktab 55 zu 4:=uS
instance:iS ktab 71 zck 83:=uS
instance:iS ktab 81 zr 80:=uS
instance:iS ktab 91 (zS zp) 96:=uS
instance:iS ktab 117 zg 124:=uS
instance:iS ktab 127 (zh .i64) 188:=uS
instance:iS ktab 137 zQ 148:=uS
instance:iS ktab 142 zcj 135:=uS
instance:iS ktab 217 zgn 223:=uS
instance:iS ktab 273 (zd zcj) 142:=uS
instance:iS ktab 303 zw 221:=uS
instance:iS ktab 304 zg1 307:=uS
instance:iY ktab 3 (zh .i64) 8:=uY
instance:iY ktab 4 zu 1:=uY
instance:iY ktab 27 (zd (zh .i64)) 24:=uY
instance:iY ktab 41 zby 32:=uY
instance:iY ktab 80 zr 24:=uY
instance:iY ktab 83 zck 24:=uY
instance:iY ktab 96 (zS zp) 8:=uY
instance:iY ktab 124 zg 40:=uY
instance:iY ktab 135 zcj 16:=uY
instance:iY ktab 142 (zd zcj) 24:=uY
instance:iY ktab 148 zQ 16:=uY
instance:iY ktab 188 (zh .i64) 8:=uY
instance:iY ktab 221 zw 48:=uY
instance:iY ktab 223 zgn 80:=uY
instance:iY ktab 307 zg1 24:=uY
instance:iZ ktab 3 (zh .i64) 0:=uZ (zv:=.int .i64 0) (λ_=>⟨zint,rfl⟩)
instance:iZ ktab 4 zu false:=uZ (zv:=.bool false) (λ_=>⟨zbool,rfl⟩)
instance:iZ ktab 121 zaC (0,0,()):=uZ (zv:=.agg [.int .i64 0,.int .i64 0]) (λ_=>⟨(zpair zint (zpair zint zunit rfl) rfl),rfl⟩)
instance:iZ ktab 135 zcj (0,0,()):=uZ (zv:=.agg [.int .i64 0,.int .i64 0]) (λ_=>⟨(zpair zint (zpair zint zunit rfl) rfl),rfl⟩)
instance:iB ktab 41 zby [.int .i64 0,.int .i64 0,.int .i64 0,.int .i64 0] [(0,1),(1,1),(2,1),(3,1)]:=uB
instance:iB ktab 57 zih [.nilslice,.int .i64 0,.nilslice] [(0,1),(1,1),(2,1)]:=uB
instance:iB ktab 63 zfm [.nilslice,.nilslice] [(0,1),(1,1)]:=uB
instance:iB ktab 68 zbA [.int .i64 0,.int .i64 0,.int .i64 0,.int .i64 0,.int .i64 0,.int .i64 0] [(0,1),(1,1),(2,1),(3,1),(4,1),(5,1)]:=uB
instance:iB ktab 80 zr [.int .i64 0,.int .i64 0,.int .i64 0] [(0,1),(1,1),(2,1)]:=uB
instance:iB ktab 83 zck [.nilslice] [(0,1)]:=uB
instance:iB ktab 110 zJ [.nilslice,.nilslice,.int .i64 0,.nilslice] [(0,1),(1,3)]:=uB
instance:iB ktab 121 zaC [.int .i64 0,.int .i64 0] [(0,1),(1,1)]:=uB
instance:iB ktab 124 zg [.nilslice,.int .u64 0,.int .i64 0] [(0,1),(1,1),(2,1)]:=uB
instance:iB ktab 148 zQ [.int .i64 0,.bool false] [(0,1),(1,1)]:=uB
instance:iB ktab 163 z5 [.int .i64 0,.bool false] [(0,1),(1,1)]:=uB
instance:iB ktab 177 zY [.nilptr,.nilslice,.int .i64 0,.int .i64 0,.int .i64 0,.int .i64 0,.int .i64 0,.int .i64 0] [(0,1),(1,1),(2,6)]:=uB
instance:iB ktab 221 zw [.int .i64 0,.int .i64 0,.int .i64 0,.int .i64 0,.int .i64 0,.int .i64 0] [(0,1),(1,1),(2,1),(3,1),(4,1),(5,1)]:=uB
instance:iB ktab 247 zo [.int .i64 0,.int .i64 0] [(0,1),(1,1)]:=uB
instance:iB ktab 249 zag [.nilslice,.nilslice,.nilslice,.int .i64 0,.int .i64 0,.int .i64 0,.int .i64 0,.int .i64 0,.int .i64 0,.int .i64 0,.int .i64 0,.int .i64 0,.nilslice,.int .i64 0,.int .i64 0] [(0,2),(2,1),(3,10),(13,1),(14,1)]:=uB
instance:iB ktab 294 zaq [.int .i64 0,.int .i64 0,.int .i64 0,.nilslice,.int .i64 0] [(0,5)]:=uB
instance:iB ktab 300 zI [.int .i64 0,.int .i64 0,.int .i64 0,.int .i64 0,.int .i64 0,.int .i64 0,.int .i64 0,.int .i64 0,.int .i64 0,.nilslice,.int .i64 0] [(0,10),(10,1)]:=uB
instance:iB ktab 307 zg1 [.int .i64 0,.int .i64 0,.int .i64 0] [(0,1),(1,1),(2,1)]:=uB
instance:iF ktab 25 0 zbJ (zd zb5) 22 0 (λx=>x.1) wh:=uF fh
instance:iF ktab 25 1 zbJ (zd zex) 23 1 (λx=>x.2.1) (wt wh):=uF (ft' fh)
instance:iF ktab 29 0 zc0 (zd ze3) 26 0 (λx=>x.1) wh:=uF fh
instance:iF ktab 29 1 zc0 (zd (zh .i64)) 27 1 (λx=>x.2.1) (wt wh):=uF (ft' fh)
instance:iF ktab 29 2 zc0 (zd (zh .i64)) 27 2 (λx=>x.2.2.1) (wt (wt wh)):=uF (ft' (ft' fh))
instance:iF ktab 41 0 zby (zh .i64) 3 0 (λx=>x.1) wh:=uF fh
instance:iF ktab 41 1 zby (zh .i64) 3 1 (λx=>x.2.1) (wt wh):=uF (ft' fh)
instance:iF ktab 41 2 zby (zh .i64) 3 2 (λx=>x.2.2.1) (wt (wt wh)):=uF (ft' (ft' fh))
instance:iF ktab 41 3 zby (zh .i64) 3 3 (λx=>x.2.2.2.1) (wt (wt (wt wh))):=uF (ft' (ft' (ft' fh)))
instance:iF ktab 49 0 zcU (zd z5) 47 0 (λx=>x.1) wh:=uF fh
instance:iF ktab 49 1 zcU (zd (zh .i64)) 27 1 (λx=>x.2.1) (wt wh):=uF (ft' fh)
instance:iF ktab 49 2 zcU (zd (zh .i64)) 27 2 (λx=>x.2.2.1) (wt (wt wh)):=uF (ft' (ft' fh))
instance:iF ktab 51 0 zbG (zh .i64) 3 0 (λx=>x.1) wh:=uF fh
instance:iF ktab 51 1 zbG (zh .i64) 3 1 (λx=>x.2.1) (wt wh):=uF (ft' fh)
instance:iF ktab 51 2 zbG (zh .i64) 3 2 (λx=>x.2.2.1) (wt (wt wh)):=uF (ft' (ft' fh))
instance:iF ktab 51 3 zbG (zh .i64) 3 3 (λx=>x.2.2.2.1) (wt (wt (wt wh))):=uF (ft' (ft' (ft' fh)))
instance:iF ktab 51 4 zbG (zh .i64) 3 4 (λx=>x.2.2.2.2.1) (wt (wt (wt (wt wh)))):=uF (ft' (ft' (ft' (ft' fh))))
instance:iF ktab 51 5 zbG (zh .i64) 3 5 (λx=>x.2.2.2.2.2.1) (wt (wt (wt (wt (wt wh))))):=uF (ft' (ft' (ft' (ft' (ft' fh)))))
instance:iF ktab 51 6 zbG (zh .i64) 3 6 (λx=>x.2.2.2.2.2.2.1) (wt (wt (wt (wt (wt (wt wh)))))):=uF (ft' (ft' (ft' (ft' (ft' (ft' fh))))))
instance:iF ktab 51 7 zbG (zh .i64) 3 7 (λx=>x.2.2.2.2.2.2.2.1) (wt (wt (wt (wt (wt (wt (wt wh))))))):=uF (ft' (ft' (ft' (ft' (ft' (ft' (ft' fh)))))))
instance:iF ktab 51 8 zbG (zh .i64) 3 8 (λx=>x.2.2.2.2.2.2.2.2.1) (wt (wt (wt (wt (wt (wt (wt (wt wh)))))))):=uF (ft' (ft' (ft' (ft' (ft' (ft' (ft' (ft' fh))))))))
instance:iF ktab 51 9 zbG (zd (zh .i64)) 27 9 (λx=>x.2.2.2.2.2.2.2.2.2.1) (wt (wt (wt (wt (wt (wt (wt (wt (wt wh))))))))):=uF (ft' (ft' (ft' (ft' (ft' (ft' (ft' (ft' (ft' fh)))))))))
instance:iF ktab 53 0 ze3 zcU 49 0 (λx=>x.1) wh:=uF fh
instance:iF ktab 53 1 ze3 zcU 49 3 (λx=>x.2.1) (wt wh):=uF (ft' fh)
instance:iF ktab 53 2 ze3 zbG 51 6 (λx=>x.2.2.1) (wt (wt wh)):=uF (ft' (ft' fh))
instance:iF ktab 53 3 ze3 (zh .i64) 3 16 (λx=>x.2.2.2.1) (wt (wt (wt wh))):=uF (ft' (ft' (ft' fh)))
instance:iF ktab 53 4 ze3 (zh .i64) 3 17 (λx=>x.2.2.2.2.1) (wt (wt (wt (wt wh)))):=uF (ft' (ft' (ft' (ft' fh))))
instance:iF ktab 57 0 zih (zd (zd (zh .i64))) 54 0 (λx=>x.1) wh:=uF fh
instance:iF ktab 57 1 zih (zh .i64) 3 1 (λx=>x.2.1) (wt wh):=uF (ft' fh)
instance:iF ktab 57 2 zih (zd zu) 55 2 (λx=>x.2.2.1) (wt (wt wh)):=uF (ft' (ft' fh))
instance:iF ktab 59 0 zhJ (zh .i64) 3 0 (λx=>x.1) wh:=uF fh
instance:iF ktab 59 1 zhJ zu 4 1 (λx=>x.2.1) (wt wh):=uF (ft' fh)
instance:iF ktab 59 3 zhJ (zh .i64) 3 3 (λx=>x.2.2.2.1) (wt (wt (wt wh))):=uF (ft' (ft' (ft' fh)))
instance:iF ktab 63 0 zfm (zd (zh .i64)) 27 0 (λx=>x.1) wh:=uF fh
instance:iF ktab 63 1 zfm (zd (zh .i64)) 27 1 (λx=>x.2.1) (wt wh):=uF (ft' fh)
instance:iF ktab 68 0 zbA (zh .i64) 3 0 (λx=>x.1) wh:=uF fh
instance:iF ktab 68 1 zbA (zh .i64) 3 1 (λx=>x.2.1) (wt wh):=uF (ft' fh)
instance:iF ktab 68 2 zbA (zh .i64) 3 2 (λx=>x.2.2.1) (wt (wt wh)):=uF (ft' (ft' fh))
instance:iF ktab 68 3 zbA (zh .i64) 3 3 (λx=>x.2.2.2.1) (wt (wt (wt wh))):=uF (ft' (ft' (ft' fh)))
instance:iF ktab 68 4 zbA (zh .i64) 3 4 (λx=>x.2.2.2.2.1) (wt (wt (wt (wt wh)))):=uF (ft' (ft' (ft' (ft' fh))))
instance:iF ktab 68 5 zbA (zh .i64) 3 5 (λx=>x.2.2.2.2.2.1) (wt (wt (wt (wt (wt wh))))):=uF (ft' (ft' (ft' (ft' (ft' fh)))))
instance:iF ktab 80 0 zr (zh .i64) 3 0 (λx=>x.1) wh:=uF fh
instance:iF ktab 80 1 zr (zh .i64) 3 1 (λx=>x.2.1) (wt wh):=uF (ft' fh)
instance:iF ktab 80 2 zr (zh .i64) 3 2 (λx=>x.2.2.1) (wt (wt wh)):=uF (ft' (ft' fh))
instance:iF ktab 83 0 zck (zd zr) 81 0 (λx=>x.1) wh:=uF fh
instance:iF ktab 110 0 zJ (zd zby) 33 0 (λx=>x.1) wh:=uF fh
instance:iF ktab 110 1 zJ zih 57 1 (λx=>x.2.1) (wt wh):=uF (ft' fh)
instance:iF ktab 121 0 zaC (zh .i64) 3 0 (λx=>x.1) wh:=uF fh
instance:iF ktab 121 1 zaC (zh .i64) 3 1 (λx=>x.2.1) (wt wh):=uF (ft' fh)
instance:iF ktab 124 0 zg zck 83 0 (λx=>x.1) wh:=uF fh
instance:iF ktab 124 1 zg (zh .u64) 119 1 (λx=>x.2.1) (wt wh):=uF (ft' fh)
instance:iF ktab 124 2 zg (zh .i64) 3 2 (λx=>x.2.2.1) (wt (wt wh)):=uF (ft' (ft' fh))
instance:iF ktab 132 1 zp (zjn 2 (zd (zh .i64))) 130 18 (λx=>x.2.1) (wt wh):=uF (ft' fh)
instance:iF ktab 132 2 zp (zjn 2 (zd (zh .i64))) 130 20 (λx=>x.2.2.1) (wt (wt wh)):=uF (ft' (ft' fh))
instance:iF ktab 135 0 zcj (zh .i64) 3 0 (λx=>x.1) wh:=uF fh
instance:iF ktab 135 1 zcj (zh .i64) 3 1 (λx=>x.2.1) (wt wh):=uF (ft' fh)
instance:iF ktab 139 0 zb5 zcj 135 0 (λx=>x.1) wh:=uF fh
instance:iF ktab 139 1 zb5 (zh .i64) 136 2 (λx=>x.2.1) (wt wh):=uF (ft' fh)
instance:iF ktab 139 2 zb5 (zd zQ) 137 3 (λx=>x.2.2.1) (wt (wt wh)):=uF (ft' (ft' fh))
instance:iF ktab 139 3 zb5 (zh .i64) 3 4 (λx=>x.2.2.2.1) (wt (wt (wt wh))):=uF (ft' (ft' (ft' fh)))
instance:iF ktab 144 0 zex (zh .i64) 3 0 (λx=>x.1) wh:=uF fh
instance:iF ktab 144 1 zex (zh .i64) 3 1 (λx=>x.2.1) (wt wh):=uF (ft' fh)
instance:iF ktab 144 2 zex (zd zcj) 142 2 (λx=>x.2.2.1) (wt (wt wh)):=uF (ft' (ft' fh))
instance:iF ktab 144 3 zex (zh .i64) 3 3 (λx=>x.2.2.2.1) (wt (wt (wt wh))):=uF (ft' (ft' (ft' fh)))
instance:iF ktab 144 4 zex (zh .i64) 3 4 (λx=>x.2.2.2.2.1) (wt (wt (wt (wt wh)))):=uF (ft' (ft' (ft' (ft' fh))))
instance:iF ktab 148 0 zQ (zh .i64) 3 0 (λx=>x.1) wh:=uF fh
instance:iF ktab 148 1 zQ zu 4 1 (λx=>x.2.1) (wt wh):=uF (ft' fh)
instance:iF ktab 163 0 z5 (zh .i64) 3 0 (λx=>x.1) wh:=uF fh
instance:iF ktab 163 1 z5 zu 4 1 (λx=>x.2.1) (wt wh):=uF (ft' fh)
instance:iF ktab 177 0 zY (zS zJ) 108 0 (λx=>x.1) wh:=uF fh
instance:iF ktab 177 1 zY (zd (zd (zh .i64))) 54 1 (λx=>x.2.1) (wt wh):=uF (ft' fh)
instance:iF ktab 177 2 zY zbA 68 2 (λx=>x.2.2.1) (wt (wt wh)):=uF (ft' (ft' fh))
instance:iF ktab 221 0 zw (zh .i64) 3 0 (λx=>x.1) wh:=uF fh
instance:iF ktab 221 1 zw (zh .i64) 3 1 (λx=>x.2.1) (wt wh):=uF (ft' fh)
instance:iF ktab 221 2 zw (zh .i64) 3 2 (λx=>x.2.2.1) (wt (wt wh)):=uF (ft' (ft' fh))
instance:iF ktab 221 3 zw (zh .i64) 3 3 (λx=>x.2.2.2.1) (wt (wt (wt wh))):=uF (ft' (ft' (ft' fh)))
instance:iF ktab 221 4 zw (zh .i64) 3 4 (λx=>x.2.2.2.2.1) (wt (wt (wt (wt wh)))):=uF (ft' (ft' (ft' (ft' fh))))
instance:iF ktab 221 5 zw (zh .i64) 3 5 (λx=>x.2.2.2.2.2.1) (wt (wt (wt (wt (wt wh))))):=uF (ft' (ft' (ft' (ft' (ft' fh)))))
instance:iF ktab 223 0 zgn (zh .i64) 3 0 (λx=>x.1) wh:=uF fh
instance:iF ktab 223 1 zgn (zh .i64) 3 1 (λx=>x.2.1) (wt wh):=uF (ft' fh)
instance:iF ktab 223 2 zgn zw 221 2 (λx=>x.2.2.1) (wt (wt wh)):=uF (ft' (ft' fh))
instance:iF ktab 223 3 zgn (zh .i64) 3 8 (λx=>x.2.2.2.1) (wt (wt (wt wh))):=uF (ft' (ft' (ft' fh)))
instance:iF ktab 223 4 zgn (zh .i64) 3 9 (λx=>x.2.2.2.2.1) (wt (wt (wt (wt wh)))):=uF (ft' (ft' (ft' (ft' fh))))
instance:iF ktab 247 0 zo (zh .i64) 3 0 (λx=>x.1) wh:=uF fh
instance:iF ktab 247 1 zo (zh .i64) 3 1 (λx=>x.2.1) (wt wh):=uF (ft' fh)
instance:iF ktab 249 0 zag zbJ 25 0 (λx=>x.1) wh:=uF fh
instance:iF ktab 249 1 zag (zd z5) 47 2 (λx=>x.2.1) (wt wh):=uF (ft' fh)
instance:iF ktab 249 2 zag zbG 51 3 (λx=>x.2.2.1) (wt (wt wh)):=uF (ft' (ft' fh))
instance:iF ktab 249 3 zag (zh .i64) 3 13 (λx=>x.2.2.2.1) (wt (wt (wt wh))):=uF (ft' (ft' (ft' fh)))
instance:iF ktab 249 4 zag (zh .i64) 3 14 (λx=>x.2.2.2.2.1) (wt (wt (wt (wt wh)))):=uF (ft' (ft' (ft' (ft' fh))))
instance:iF ktab 261 0 z9 zbJ 25 0 (λx=>x.1) wh:=uF fh
instance:iF ktab 261 1 z9 (zd (zh .i64)) 27 2 (λx=>x.2.1) (wt wh):=uF (ft' fh)
instance:iF ktab 261 2 z9 (zp8 zQ (zh .i64)) 259 3 (λx=>x.2.2.1) (wt (wt wh)):=uF (ft' (ft' fh))
instance:iF ktab 284 0 zaw (zS zI) 280 0 (λx=>x.1) wh:=uF fh
instance:iF ktab 284 2 zaw (zd (zh .i64)) 27 2 (λx=>x.2.2.1) (wt (wt wh)):=uF (ft' (ft' fh))
instance:iF ktab 284 3 zaw (zd (zh .i64)) 27 3 (λx=>x.2.2.2.1) (wt (wt (wt wh))):=uF (ft' (ft' (ft' fh)))
instance:iF ktab 284 4 zaw (zd (zh .i64)) 27 4 (λx=>x.2.2.2.2.1) (wt (wt (wt (wt wh)))):=uF (ft' (ft' (ft' (ft' fh))))
instance:iF ktab 288 0 zaN zo 247 0 (λx=>x.1) wh:=uF fh
instance:iF ktab 288 1 zaN zw 221 2 (λx=>x.2.1) (wt wh):=uF (ft' fh)
instance:iF ktab 288 2 zaN (zh .i64) 3 8 (λx=>x.2.2.1) (wt (wt wh)):=uF (ft' (ft' fh))
instance:iF ktab 288 3 zaN (zh .i64) 3 9 (λx=>x.2.2.2.1) (wt (wt (wt wh))):=uF (ft' (ft' (ft' fh)))
instance:iF ktab 294 0 zaq zb5 139 0 (λx=>x.1) wh:=uF fh
instance:iF ktab 300 0 zI zbG 51 0 (λx=>x.1) wh:=uF fh
instance:iF ktab 300 1 zI (zh .i64) 3 10 (λx=>x.2.1) (wt wh):=uF (ft' fh)
instance:iF ktab 307 0 zg1 (zh .i64) 3 0 (λx=>x.1) wh:=uF fh
instance:iA ktab 130 (zd (zh .i64)) 27 2:=uA
instance:iA ktab 159 zcU 49 2:=uA
instance:iA ktab 187 (rFn ktab (Duty) (Bool) (λx=>[.val zck (x)]) (λy=>[.val zu (y)])) 186 6:=uA
instance:iA ktab 227 (zh .i64) 3 7:=uA
instance:iA ktab 309 (rFn ktab (zav×Int×Int) (Bool) (λx=>[.val zaq (x.1),.val (zh .i64) (x.2.1),.val (zh .i64) (x.2.2)]) (λy=>[.val zu (y)])) 308 7:=uA
instance:iA ktab 313 (zh .i64) 3 4:=uA
instance:iA ktab 329 (rFn ktab (Int×Int×Int) (Int) (λx=>[.val (zh .i64) (x.1),.val (zh .i64) (x.2.1),.val (zh .i64) (x.2.2)]) (λy=>[.val (zh .i64) (y)])) 158 4:=uA
instance:iE ktab 41 zby (λx y=>x==y):=⟨E41,rfl⟩
instance:iE ktab 80 zr (λx y=>x==y):=⟨E80,rfl⟩
instance:iE ktab 121 zaC (λx y=>x==y):=⟨zzH,rfl⟩
instance:iE ktab 148 zQ (λx y=>x==y):=⟨zzI,rfl⟩
instance:iE ktab 163 z5 (λx y=>x==y):=⟨zzJ,rfl⟩
instance:iL ktab 3 (.int .i64 0) [vI (0)]:=uL
instance:iL ktab 4 (.bool false) [vB (false)]:=uL
instance:iL ktab 27 (.nilslice) [.raw .nilslice]:=uL
instance:iL ktab 41 (.agg [.int .i64 0,.int .i64 0,.int .i64 0,.int .i64 0]) [vI (0),vI (0),vI (0),vI (0)]:=uL
instance:iL ktab 49 (.agg [.nilslice,.nilslice,.nilslice]) [.val (zd z5) ([]),.val (zd (zh .i64)) ([]),.val (zd (zh .i64)) ([])]:=uL
instance:iL ktab 53 (.agg [.nilslice,.nilslice,.nilslice,.nilslice,.nilslice,.nilslice,.int .i64 0,.int .i64 0,.int .i64 0,.int .i64 0,.int .i64 0,.int .i64 0,.int .i64 0,.int .i64 0,.int .i64 0,.nilslice,.int .i64 0,.int .i64 0]) [.val (zd z5) ([]),.val (zd (zh .i64)) ([]),.val (zd (zh .i64)) ([]),.val (zd z5) ([]),.val (zd (zh .i64)) ([]),.val (zd (zh .i64)) ([]),vI (0),vI (0),vI (0),vI (0),vI (0),vI (0),vI (0),vI (0),vI (0),.val (zd (zh .i64)) ([]),vI (0),vI (0)]:=uL
instance:iL ktab 55 (.nilslice) [.raw .nilslice]:=uL
instance:iL ktab 57 (.agg [.nilslice,.int .i64 0,.nilslice]) [.val (zd (zd (zh .i64))) ([]),vI (0),.val (zd zu) ([])]:=uL
instance:iL ktab 59 (.agg [.int .i64 0,.bool false,.int .i64 0,.int .i64 0]) [vI (0),vB (false),vI (0),vI (0)]:=uL
instance:iL ktab 63 (.agg [.nilslice,.nilslice]) [.val (zd (zh .i64)) ([]),.val (zd (zh .i64)) ([])]:=uL
instance:iL ktab 68 (.agg [.int .i64 0,.int .i64 0,.int .i64 0,.int .i64 0,.int .i64 0,.int .i64 0]) [vI (0),vI (0),vI (0),vI (0),vI (0),vI (0)]:=uL
instance:iL ktab 80 (.agg [.int .i64 0,.int .i64 0,.int .i64 0]) [vI (0),vI (0),vI (0)]:=uL
instance:iL ktab 83 (.agg [.nilslice]) [.val (zd zr) ([])]:=uL
instance:iL ktab 108 (.nilptr) [.raw (.nilptr)]:=uL
instance:iL ktab 113 (.nilfunc) [.raw (.nilfunc)]:=uL
instance:iL ktab 117 (.nilslice) [.raw .nilslice]:=uL
instance:iL ktab 121 (.agg [.int .i64 0,.int .i64 0]) [vI (0),vI (0)]:=uL
instance:iL ktab 124 (.agg [.nilslice,.int .u64 0,.int .i64 0]) [.val (zd zr) ([]),.val (zh .u64) (0),vI (0)]:=uL
instance:iL ktab 135 (.agg [.int .i64 0,.int .i64 0]) [vI (0),vI (0)]:=uL
instance:iL ktab 139 (.agg [.int .i64 0,.int .i64 0,.int .i64 0,.nilslice,.int .i64 0]) [vI (0),vI (0),vI (0),.val (zd zQ) ([]),vI (0)]:=uL
instance:iL ktab 144 (.agg [.int .i64 0,.int .i64 0,.nilslice,.int .i64 0,.int .i64 0]) [vI (0),vI (0),.val (zd zcj) ([]),vI (0),vI (0)]:=uL
instance:iL ktab 148 (.agg [.int .i64 0,.bool false]) [vI (0),vB (false)]:=uL
instance:iL ktab 159 (.agg [.nilslice,.nilslice,.nilslice,.nilslice,.nilslice,.nilslice]) [.raw (.nilslice),.raw (.nilslice),.raw (.nilslice),.raw (.nilslice),.raw (.nilslice),.raw (.nilslice)]:=uL
instance:iL ktab 163 (.agg [.int .i64 0,.bool false]) [vI (0),vB (false)]:=uL
instance:iL ktab 167 (.nilfunc) [.raw (.nilfunc)]:=uL
instance:iL ktab 187 (.agg [.nilfunc,.nilfunc,.nilfunc,.nilfunc,.nilfunc,.nilfunc]) [.raw (.nilfunc),.raw (.nilfunc),.raw (.nilfunc),.raw (.nilfunc),.raw (.nilfunc),.raw (.nilfunc)]:=uL
instance:iL ktab 221 (.agg [.int .i64 0,.int .i64 0,.int .i64 0,.int .i64 0,.int .i64 0,.int .i64 0]) [vI (0),vI (0),vI (0),vI (0),vI (0),vI (0)]:=uL
instance:iL ktab 223 (.agg [.int .i64 0,.int .i64 0,.int .i64 0,.int .i64 0,.int .i64 0,.int .i64 0,.int .i64 0,.int .i64 0,.int .i64 0,.int .i64 0]) [vI (0),vI (0),vI (0),vI (0),vI (0),vI (0),vI (0),vI (0),vI (0),vI (0)]:=uL
instance:iL ktab 227 (.agg [.int .i64 0,.int .i64 0,.int .i64 0,.int .i64 0,.int .i64 0,.int .i64 0,.int .i64 0]) [.raw (.int .i64 0),.raw (.int .i64 0),.raw (.int .i64 0),.raw (.int .i64 0),.raw (.int .i64 0),.raw (.int .i64 0),.raw (.int .i64 0)]:=uL
instance:iL ktab 247 (.agg [.int .i64 0,.int .i64 0]) [vI (0),vI (0)]:=uL
instance:iL ktab 249 (.agg [.nilslice,.nilslice,.nilslice,.int .i64 0,.int .i64 0,.int .i64 0,.int .i64 0,.int .i64 0,.int .i64 0,.int .i64 0,.int .i64 0,.int .i64 0,.nilslice,.int .i64 0,.int .i64 0]) [.val (zd zb5) ([]),.val (zd zex) ([]),.val (zd z5) ([]),vI (0),vI (0),vI (0),vI (0),vI (0),vI (0),vI (0),vI (0),vI (0),.val (zd (zh .i64)) ([]),vI (0),vI (0)]:=uL
instance:iL ktab 288 (.agg [.int .i64 0,.int .i64 0,.int .i64 0,.int .i64 0,.int .i64 0,.int .i64 0,.int .i64 0,.int .i64 0,.int .i64 0,.int .i64 0]) [vI (0),vI (0),vI (0),vI (0),vI (0),vI (0),vI (0),vI (0),vI (0),vI (0)]:=uL
instance:iL ktab 309 (.agg [.nilfunc,.nilfunc,.nilfunc,.nilfunc,.nilfunc,.nilfunc,.nilfunc]) [.raw (.nilfunc),.raw (.nilfunc),.raw (.nilfunc),.raw (.nilfunc),.raw (.nilfunc),.raw (.nilfunc),.raw (.nilfunc)]:=uL
instance:iL ktab 313 (.agg [.int .i64 0,.int .i64 0,.int .i64 0,.int .i64 0]) [.raw (.int .i64 0),.raw (.int .i64 0),.raw (.int .i64 0),.raw (.int .i64 0)]:=uL
end Go.Ai.TabYtghlaibcihhbcaaGreat
/- What the rows of this seat ask,of the abstract interpreter. -/
namespace Go.Ai.TabYtghlaibcihhbcaaGreat
open Go Go.Ai Go.Ai.Sx Go.Proofs Go.Proofs.YtghlaibcihhbcaaGreat
theorem own:ownKnob Tryz.prog.godebug=none:=by kernel_rfl
theorem zrj:laidOutB Tryz.prog=true:=by kernel_rfl
theorem begun:decide (Tryz.prog.globals.size<(begin Tryz.prog (λ_ _=>0) default).world.heap.size)=true:=by kernel_rfl
theorem ztc {W:World} (h:W.ShapedOpen Tryz.prog):0<W.heap.size:=by
 obtain ⟨o,_,ho,_⟩:=h.2 Tryz.prog.globals.size (Nat.le_refl _) (of_decide_eq_true begun);have:=(Array.getElem?_eq_some_iff.1 ho).1;omega
theorem zF {P:Program} {A B:Type} {f:Field} {fs:List Field} {o:Nat} {t:TypeId} {R:Rep A} {S:Rep B} (hf:f.offset=o) (ht:f.type=t) (ho:Opens P t R) (hs:zk5 P fs (o+R.sz) S):zk5 P (f::fs) o (zz R S):=by
 subst ht;exact znV hf ho hs
noncomputable def zoW:Array Field:=match Tryz.t134.desc with | .struct fs=>fs | _=>#[]
noncomputable def ztd:Field:=zoW[0]!
noncomputable def zte:Field:=zoW[1]!
noncomputable def zoX:Array Field:=match Tryz.t147.desc with | .struct fs=>fs | _=>#[]
noncomputable def ztf:Field:=zoX[0]!
noncomputable def ztg:Field:=zoX[1]!
noncomputable def zld:Array Field:=match Tryz.t138.desc with | .struct fs=>fs | _=>#[]
noncomputable def zth:Field:=zld[0]!
noncomputable def zti:Field:=zld[1]!
noncomputable def ztj:Field:=zld[2]!
noncomputable def ztk:Field:=zld[3]!
noncomputable def zkg:Array Field:=match Tryz.t143.desc with | .struct fs=>fs | _=>#[]
noncomputable def ztl:Field:=zkg[0]!
noncomputable def ztm:Field:=zkg[1]!
noncomputable def ztn:Field:=zkg[2]!
noncomputable def zto:Field:=zkg[3]!
noncomputable def ztp:Field:=zkg[4]!
noncomputable def ztq:Array Field:=match Tryz.t24.desc with | .struct fs=>fs | _=>#[]
noncomputable def zvr:Field:=ztq[0]!
noncomputable def zvs:Field:=ztq[1]!
noncomputable def zoY:Array Field:=match Tryz.t162.desc with | .struct fs=>fs | _=>#[]
noncomputable def ztr:Field:=zoY[0]!
noncomputable def zts:Field:=zoY[1]!
noncomputable def zrk:Array Field:=match Tryz.t48.desc with | .struct fs=>fs | _=>#[]
noncomputable def zvt:Field:=zrk[0]!
noncomputable def zvu:Field:=zrk[1]!
noncomputable def zvv:Field:=zrk[2]!
noncomputable def zjc:Array Field:=match Tryz.t50.desc with | .struct fs=>fs | _=>#[]
noncomputable def zvw:Field:=zjc[0]!
noncomputable def zvx:Field:=zjc[1]!
noncomputable def zvy:Field:=zjc[2]!
noncomputable def zvz:Field:=zjc[3]!
noncomputable def zvA:Field:=zjc[4]!
noncomputable def zvB:Field:=zjc[5]!
noncomputable def zvC:Field:=zjc[6]!
noncomputable def zvD:Field:=zjc[7]!
noncomputable def zvE:Field:=zjc[8]!
noncomputable def zvF:Field:=zjc[9]!
noncomputable def zoe:Array Field:=match Tryz.t52.desc with | .struct fs=>fs | _=>#[]
noncomputable def zvG:Field:=zoe[0]!
noncomputable def zvH:Field:=zoe[1]!
noncomputable def zvI:Field:=zoe[2]!
noncomputable def zvJ:Field:=zoe[3]!
noncomputable def zvK:Field:=zoe[4]!
noncomputable def zrl:Array Field:=match Tryz.t28.desc with | .struct fs=>fs | _=>#[]
noncomputable def zvL:Field:=zrl[0]!
noncomputable def zvM:Field:=zrl[1]!
noncomputable def zvN:Field:=zrl[2]!
noncomputable def zpR:Array Field:=match Tryz.t58.desc with | .struct fs=>fs | _=>#[]
noncomputable def zvO:Field:=zpR[0]!
noncomputable def zvP:Field:=zpR[1]!
noncomputable def zvQ:Field:=zpR[2]!
noncomputable def zvR:Field:=zpR[3]!
theorem o3:Opens Tryz.prog 3 (zh .i64):=zmR (by kernel_rfl) (by kernel_rfl)
theorem zze:Opens Tryz.prog 135 zcj:=zbs (fs:=zoW) (by kernel_rfl) (by kernel_rfl) rfl (by
 rw [show zoW.toList=[ztd,zte] by kernel_rfl];exact (zF (by kernel_rfl) (by kernel_rfl) o3 (zF (by kernel_rfl) (by kernel_rfl) o3 (zcr _))))
theorem zzw:Opens Tryz.prog 136 (zh .i64):=zmR (by kernel_rfl) (by kernel_rfl)
theorem o4:Opens Tryz.prog 4 zu:=zpB (by kernel_rfl) (by kernel_rfl)
theorem zzx:Opens Tryz.prog 148 zQ:=zbs (fs:=zoX) (by kernel_rfl) (by kernel_rfl) rfl (by
 rw [show zoX.toList=[ztf,ztg] by kernel_rfl];exact (zF (by kernel_rfl) (by kernel_rfl) o3 (zF (by kernel_rfl) (by kernel_rfl) o4 (zcr _))))
theorem zzy:Opens Tryz.prog 137 (zd zQ):=zc9 (by kernel_rfl) (by kernel_rfl) zzx (by decide)
theorem zzz:Opens Tryz.prog 139 zb5:=zbs (fs:=zld) (by kernel_rfl) (by kernel_rfl) rfl (by
 rw [show zld.toList=[zth,zti,ztj,ztk] by kernel_rfl];exact (zF (by kernel_rfl) (by kernel_rfl) zze (zF (by kernel_rfl) (by kernel_rfl) zzw (zF (by kernel_rfl) (by kernel_rfl) zzy (zF (by kernel_rfl) (by kernel_rfl) o3 (zcr _))))))
theorem o22:Opens Tryz.prog 22 (zd zb5):=zc9 (by kernel_rfl) (by kernel_rfl) zzz (by decide)
theorem zzA:Opens Tryz.prog 142 (zd zcj):=zc9 (by kernel_rfl) (by kernel_rfl) zze (by decide)
theorem zzB:Opens Tryz.prog 144 zex:=zbs (fs:=zkg) (by kernel_rfl) (by kernel_rfl) rfl (by
 rw [show zkg.toList=[ztl,ztm,ztn,zto,ztp] by kernel_rfl];exact (zF (by kernel_rfl) (by kernel_rfl) o3 (zF (by kernel_rfl) (by kernel_rfl) o3 (zF (by kernel_rfl) (by kernel_rfl) zzA (zF (by kernel_rfl) (by kernel_rfl) o3 (zF (by kernel_rfl) (by kernel_rfl) o3 (zcr _)))))))
theorem o23:Opens Tryz.prog 23 (zd zex):=zc9 (by kernel_rfl) (by kernel_rfl) zzB (by decide)
theorem o25:Opens Tryz.prog 25 zbJ:=zbs (fs:=ztq) (by kernel_rfl) (by kernel_rfl) rfl (by
 rw [show ztq.toList=[zvr,zvs] by kernel_rfl];exact (zF (by kernel_rfl) (by kernel_rfl) o22 (zF (by kernel_rfl) (by kernel_rfl) o23 (zcr _))))
theorem zzC:Opens Tryz.prog 163 z5:=zbs (fs:=zoY) (by kernel_rfl) (by kernel_rfl) rfl (by
 rw [show zoY.toList=[ztr,zts] by kernel_rfl];exact (zF (by kernel_rfl) (by kernel_rfl) o3 (zF (by kernel_rfl) (by kernel_rfl) o4 (zcr _))))
theorem o47:Opens Tryz.prog 47 (zd z5):=zc9 (by kernel_rfl) (by kernel_rfl) zzC (by decide)
theorem o27:Opens Tryz.prog 27 (zd (zh .i64)):=zc9 (by kernel_rfl) (by kernel_rfl) o3 (by decide)
theorem o49:Opens Tryz.prog 49 zcU:=zbs (fs:=zrk) (by kernel_rfl) (by kernel_rfl) rfl (by
 rw [show zrk.toList=[zvt,zvu,zvv] by kernel_rfl];exact (zF (by kernel_rfl) (by kernel_rfl) o47 (zF (by kernel_rfl) (by kernel_rfl) o27 (zF (by kernel_rfl) (by kernel_rfl) o27 (zcr _)))))
theorem o51:Opens Tryz.prog 51 zbG:=zbs (fs:=zjc) (by kernel_rfl) (by kernel_rfl) rfl (by
 rw [show zjc.toList=[zvw,zvx,zvy,zvz,zvA,zvB,zvC,zvD,zvE,zvF] by kernel_rfl];exact (zF (by kernel_rfl) (by kernel_rfl) o3 (zF (by kernel_rfl) (by kernel_rfl) o3 (zF (by kernel_rfl) (by kernel_rfl) o3 (zF (by kernel_rfl) (by kernel_rfl) o3 (zF (by kernel_rfl) (by kernel_rfl) o3 (zF (by kernel_rfl) (by kernel_rfl) o3 (zF (by kernel_rfl) (by kernel_rfl) o3 (zF (by kernel_rfl) (by kernel_rfl) o3 (zF (by kernel_rfl) (by kernel_rfl) o3 (zF (by kernel_rfl) (by kernel_rfl) o27 (zcr _))))))))))))
theorem o53:Opens Tryz.prog 53 ze3:=zbs (fs:=zoe) (by kernel_rfl) (by kernel_rfl) rfl (by
 rw [show zoe.toList=[zvG,zvH,zvI,zvJ,zvK] by kernel_rfl];exact (zF (by kernel_rfl) (by kernel_rfl) o49 (zF (by kernel_rfl) (by kernel_rfl) o49 (zF (by kernel_rfl) (by kernel_rfl) o51 (zF (by kernel_rfl) (by kernel_rfl) o3 (zF (by kernel_rfl) (by kernel_rfl) o3 (zcr _)))))))
theorem o26:Opens Tryz.prog 26 (zd ze3):=zc9 (by kernel_rfl) (by kernel_rfl) o53 (by decide)
theorem o29:Opens Tryz.prog 29 zc0:=zbs (fs:=zrl) (by kernel_rfl) (by kernel_rfl) rfl (by
 rw [show zrl.toList=[zvL,zvM,zvN] by kernel_rfl];exact (zF (by kernel_rfl) (by kernel_rfl) o26 (zF (by kernel_rfl) (by kernel_rfl) o27 (zF (by kernel_rfl) (by kernel_rfl) o27 (zcr _)))))
theorem o59:Opens Tryz.prog 59 zhJ:=zbs (fs:=zpR) (by kernel_rfl) (by kernel_rfl) rfl (by
 rw [show zpR.toList=[zvO,zvP,zvQ,zvR] by kernel_rfl];exact (zF (by kernel_rfl) (by kernel_rfl) o3 (zF (by kernel_rfl) (by kernel_rfl) o4 (zF (by kernel_rfl) (by kernel_rfl) o3 (zF (by kernel_rfl) (by kernel_rfl) o3 (zcr _))))))
theorem o30:Opens Tryz.prog 30 (zd zhJ):=zc9 (by kernel_rfl) (by kernel_rfl) o59 (by decide)
theorem zhM {a b:Bool} (h:a=true) (k:b=true):(a&&b)=true:=by rw [h,k]; rfl
set_option maxRecDepth 100000 in
theorem zxu:mapsRowed Tryz.prog=true:=by kernel_rfl
set_option maxRecDepth 100000 in
theorem zvS:(Tryz.prog.stops==[])=true:=by kernel_rfl
set_option maxRecDepth 100000 in
theorem zvT:(Tryz.prog.stopKnobs==[])=true:=by kernel_rfl
set_option maxRecDepth 100000 in
theorem zvU:(Rows.dutyTripsRow.plainKeys==Tryz.prog.plainKeys)=true:=by kernel_rfl
set_option maxRecDepth 100000 in
theorem zvV:Tryz.prog.stopsHeard=true:=by kernel_rfl
set_option maxRecDepth 100000 in
theorem zvW:Tryz.prog.mayEnter=true:=by kernel_rfl
set_option maxRecDepth 100000 in
theorem zxv:(Rows.dutyTripsRow.lifted==Tryz.prog.liftsFinal)=true:=by kernel_rfl
set_option maxRecDepth 100000 in
theorem zxw:(Tryz.prog.make==some Rows.dutyTripsRow.make)=true:=by kernel_rfl
end Go.Ai.TabYtghlaibcihhbcaaGreat