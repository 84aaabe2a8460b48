/- Written by program: the facts of the tables,and the walks through the functions. -/
import Derived.Test.YtppebpagcocogaaGreatU8
import Derived.Test.YtppebpagcocogaaGreatU9
import Derived.KernelRfl
import Derived.Test.YtppebpagcocogaaGreatU10
import Derived.Test.YtppebpagcocogaaGreatU5
import Derived.Test.YtppebpagcocogaaGreatRows
import Derived.WalkKit
import Derived.ProofKit
import Derived.JoinedOf
set_option linter.unusedSimpArgs false
set_option linter.unusedVariables false
set_option linter.unusedSectionVars false
namespace Go.Ai.TabYtppebpagcocogaaGreat
open Go Go.Ai Go.Ai.Sx Go.Proofs
attribute [local irreducible] zo
noncomputable def znR:Array Field:=match Tryz.t122.desc with | .struct fs=>fs | _=>#[]
noncomputable def zz5:Array Field:=match Tryz.t112.desc with | .struct fs=>fs | _=>#[]
noncomputable def zz6:Array Field:=match Tryz.t253.desc with | .struct fs=>fs | _=>#[]
noncomputable def zz7:Array Field:=match Tryz.t214.desc with | .struct fs=>fs | _=>#[]
noncomputable def zvz:Array Field:=match Tryz.t151.desc with | .struct fs=>fs | _=>#[]
noncomputable def znS:Field:=znR[0]!
noncomputable def znT:Field:=znR[1]!
noncomputable def zvA:Field:=zvz[1]!
noncomputable def zvB:Field:=zvz[0]!
theorem U27:Und ktab 27 (zf (zj .i64)):=⟨by kernel_rfl,by kernel_rfl⟩
theorem U88:Und ktab 88 (zf z7):=⟨by kernel_rfl,by kernel_rfl⟩
theorem zvC:Mp ktab 199 zV 4:=⟨⟨123,by kernel_rfl,zuu (fs:=znR) (by kernel_rfl) (by kernel_rfl) rfl (by rw [show znR.toList=[znS,znT] by kernel_rfl]; exact (zut (by kernel_rfl) (by kernel_rfl) (by kernel_rfl) (zqQ (by kernel_rfl) (by kernel_rfl) (by kernel_rfl) zus)))⟩⟩
theorem zvD:Mp ktab 252 zV 3:=⟨⟨123,by kernel_rfl,zuu (fs:=znR) (by kernel_rfl) (by kernel_rfl) rfl (by rw [show znR.toList=[znS,znT] by kernel_rfl]; exact (zut (by kernel_rfl) (by kernel_rfl) (by kernel_rfl) (zqQ (by kernel_rfl) (by kernel_rfl) (by kernel_rfl) zus)))⟩⟩
theorem zz8:Stt ktab 113 [.nilslice,.nilslice,.nilslice,.nilslice,.nilslice,.nilslice,.int .i64 0,.int .i64 0,.int .i64 0,.int .i64 0,.int .i64 0,.int .i64 0,.int .i64 0,.int .i64 0,.int .i64 0,.nilslice,.int .i64 0,.int .i64 0,.nilslice,.nilslice,.nilslice,.nilslice] [(0,18),(18,2),(20,2)]:=⟨by kernel_rfl,⟨zz5,by kernel_rfl,by kernel_rfl⟩⟩
theorem zzs:Stt ktab 254 [.nilslice,.nilslice,.nilslice,.nilmap] [(0,2),(2,1),(3,1)]:=⟨by kernel_rfl,⟨zz6,by kernel_rfl,by kernel_rfl⟩⟩
theorem zzt:Stt ktab 215 [.nilptr,.nilslice,.nilslice,.nilslice,.nilslice,.nilslice] [(0,1),(1,1),(2,1),(3,1),(4,1),(5,1)]:=⟨by kernel_rfl,⟨zz7,by kernel_rfl,by kernel_rfl⟩⟩
theorem zAl:SEq ktab 123 zV (λx y=>x==y):=⟨⟨znR,by kernel_rfl,by rw [show znR.toList=[znS,znT] by kernel_rfl]; exact (.i (of_decide_eq_true (by kernel_rfl)) (by kernel_rfl) (by kernel_rfl) (.b (of_decide_eq_true (by kernel_rfl)) (by kernel_rfl) (by kernel_rfl) .n))⟩,by kernel_rfl,by kernel_rfl⟩
theorem zAm:SEq ktab 152 zR (λx y=>x==y):=⟨⟨zvz,by kernel_rfl,by rw [show zvz.toList=[zvB,zvA] by kernel_rfl]; exact (.i (of_decide_eq_true (by kernel_rfl)) (by kernel_rfl) (by kernel_rfl) (.b (of_decide_eq_true (by kernel_rfl)) (by kernel_rfl) (by kernel_rfl) .n))⟩,by kernel_rfl,by kernel_rfl⟩
instance:iK ktab 3 (.int .i64):=uK
instance:iK ktab 4 .bool:=uK
instance:iK ktab 5 (.int .u8):=uK
instance:iK ktab 263 (.int .u64):=uK
instance:iK ktab 303 (.int .u64):=uK
instance:iU ktab 100 (zf zV):=uU
instance:iU ktab 102 zbR:=uU
instance:iU ktab 103 (zf zch):=uU
instance:iU ktab 105 zdH:=uU
instance:iU ktab 108 (zaY zi):=uU
instance:iU ktab 123 zV:=uU
instance:iU ktab 152 zR:=uU
instance:iU ktab 164 zy:=uU
instance:iU ktab 166 zfX:=uU
instance:iU ktab 187 (zaY zay):=uU
instance:iU ktab 191 zr:=uU
instance:iU ktab 211 (zaY zJ):=uU
instance:iU ktab 217 (rFn ktab (zb) (Int) (λx=>[.val zr (x)]) (λy=>[.val (zj .i64) (y)])):=uU
instance:iU ktab 219 zaI:=uU
instance:iU ktab 22 (zf zbR):=uU
instance:iU ktab 228 (zaY zab):=uU
instance:iU ktab 23 (zf zdH):=uU
instance:iU ktab 238 zaf:=uU
instance:iU ktab 25 zbl:=uU
instance:iU ktab 252 (zpR zV (zj .i64)):=uU
instance:iU ktab 26 (zf zR):=uU
instance:iU ktab 27 (zf (zj .i64)):=uU
instance:iU ktab 281 zaq:=uU
instance:iU ktab 289 (rFn ktab (zax×Int×Int) (Bool) (λx=>[.val zaq (x.1),.val (zj .i64) (x.2.1),.val (zj .i64) (x.2.2)]) (λy=>[.val zaw (y)])):=uU
instance:iU ktab 29 zco:=uU
instance:iU ktab 3 (zj .i64):=uU
instance:iU ktab 31 zbE:=uU
instance:iU ktab 33 zdk:=uU
instance:iU ktab 4 zaw:=uU
instance:iU ktab 48 (zf zdk):=uU
instance:iU ktab 50 zdR:=uU
instance:iU ktab 68 (zf zd6):=uU
instance:iU ktab 70 zd6:=uU
instance:iU ktab 72 z7:=uU
instance:iU ktab 88 (zf z7):=uU
instance:iU ktab 98 zch:=uU
instance:iU ktab 99 (zj .i64):=uU
instance:iS ktab 22 zbR 102:=uS
instance:iS ktab 23 zdH 105:=uS
instance:iS ktab 26 zR 152:=uS
instance:iS ktab 27 (zj .i64) 3:=uS
instance:iS ktab 48 zdk 33:=uS
instance:iS ktab 68 zd6 70:=uS
instance:iS ktab 88 z7 72:=uS
instance:iS ktab 95 zaw 4:=uS
instance:iS ktab 100 zV 123:=uS
instance:iS ktab 103 zch 98:=uS
instance:iS ktab 129 (zaY zi) 108:=uS
instance:iS ktab 155 (zf z7) 88:=uS
instance:iS ktab 159 zfX 166:=uS
instance:iS ktab 257 zy 164:=uS
instance:iS ktab 270 (zf zch) 103:=uS
instance:iS ktab 285 zgy 288:=uS
instance:iY ktab 3 (zj .i64) 8:=uY
instance:iY ktab 4 zaw 1:=uY
instance:iY ktab 72 z7 32:=uY
instance:iY ktab 88 (zf z7) 24:=uY
instance:iY ktab 98 zch 16:=uY
instance:iY ktab 102 zbR 56:=uY
instance:iY ktab 103 (zf zch) 24:=uY
instance:iY ktab 105 zdH 56:=uY
instance:iY ktab 108 (zaY zi) 8:=uY
instance:iY ktab 123 zV 16:=uY
instance:iY ktab 152 zR 16:=uY
instance:iY ktab 164 zy 48:=uY
instance:iY ktab 166 zfX 80:=uY
instance:iY ktab 288 zgy 24:=uY
instance:iZ ktab 3 (zj .i64) 0:=uZ (zv:=.int .i64 0) (λ_=>⟨zint,rfl⟩)
instance:iZ ktab 4 zaw false:=uZ (zv:=.bool false) (λ_=>⟨zbool,rfl⟩)
instance:iZ ktab 72 z7 (0,false,0,0,()):=uZ (zv:=.agg [.int .i64 0,.bool false,.int .i64 0,.int .i64 0]) (λ_=>⟨(zpair zint (zpair zbool (zpair zint (zpair zint zunit rfl) rfl) rfl) rfl),rfl⟩)
instance:iZ ktab 98 zch (0,0,()):=uZ (zv:=.agg [.int .i64 0,.int .i64 0]) (λ_=>⟨(zpair zint (zpair zint zunit rfl) rfl),rfl⟩)
instance:iB ktab 25 zbl [.nilslice,.nilslice] [(0,1),(1,1)]:=uB
instance:iB ktab 29 zco [.nilslice,.nilslice,.nilslice] [(0,1),(1,1),(2,1)]:=uB
instance:iB ktab 31 zbE [.int .i64 0,.int .i64 0,.int .i64 0,.int .i64 0,.int .i64 0,.int .i64 0,.int .i64 0,.int .i64 0,.int .i64 0,.nilslice] [(0,1),(1,1),(2,1),(3,1),(4,1),(5,1),(6,1),(7,1),(8,1),(9,1)]:=uB
instance:iB ktab 33 zdk [.nilslice,.nilslice,.nilslice,.nilslice,.nilslice,.nilslice,.int .i64 0,.int .i64 0,.int .i64 0,.int .i64 0,.int .i64 0,.int .i64 0,.int .i64 0,.int .i64 0,.int .i64 0,.nilslice,.int .i64 0,.int .i64 0] [(0,3),(3,3),(6,10),(16,1),(17,1)]:=uB
instance:iB ktab 72 z7 [.int .i64 0,.bool false,.int .i64 0,.int .i64 0] [(0,1),(1,1),(2,1),(3,1)]:=uB
instance:iB ktab 98 zch [.int .i64 0,.int .i64 0] [(0,1),(1,1)]:=uB
instance:iB ktab 102 zbR [.int .i64 0,.int .i64 0,.int .i64 0,.nilslice,.int .i64 0] [(0,2),(2,1),(3,1),(4,1)]:=uB
instance:iB ktab 105 zdH [.int .i64 0,.int .i64 0,.nilslice,.int .i64 0,.int .i64 0] [(0,1),(1,1),(2,1),(3,1),(4,1)]:=uB
instance:iB ktab 123 zV [.int .i64 0,.bool false] [(0,1),(1,1)]:=uB
instance:iB ktab 152 zR [.int .i64 0,.bool false] [(0,1),(1,1)]:=uB
instance:iB ktab 164 zy [.int .i64 0,.int .i64 0,.int .i64 0,.int .i64 0,.int .i64 0,.int .i64 0] [(0,1),(1,1),(2,1),(3,1),(4,1),(5,1)]:=uB
instance:iB ktab 191 zr [.int .i64 0,.int .i64 0] [(0,1),(1,1)]:=uB
instance:iB ktab 238 zaf [.nilslice,.nilslice,.nilslice,.int .i64 0,.int .i64 0,.int .i64 0,.int .i64 0,.int .i64 0,.int .i64 0,.int .i64 0,.int .i64 0,.int .i64 0,.nilslice,.int .i64 0,.int .i64 0] [(0,2),(2,1),(3,10),(13,1),(14,1)]:=uB
instance:iB ktab 251 zJ [.int .i64 0,.int .i64 0,.int .i64 0,.int .i64 0,.int .i64 0,.int .i64 0,.int .i64 0,.int .i64 0,.int .i64 0,.nilslice,.int .i64 0] [(0,10),(10,1)]:=uB
instance:iB ktab 281 zaq [.int .i64 0,.int .i64 0,.int .i64 0,.nilslice,.int .i64 0] [(0,5)]:=uB
instance:iB ktab 288 zgy [.int .i64 0,.int .i64 0,.int .i64 0] [(0,1),(1,1),(2,1)]:=uB
instance:iF ktab 25 0 zbl (zf zbR) 22 0 (λx=>x.1) wh:=uF fh
instance:iF ktab 25 1 zbl (zf zdH) 23 1 (λx=>x.2.1) (wt wh):=uF (ft' fh)
instance:iF ktab 29 0 zco (zf zR) 26 0 (λx=>x.1) wh:=uF fh
instance:iF ktab 29 1 zco (zf (zj .i64)) 27 1 (λx=>x.2.1) (wt wh):=uF (ft' fh)
instance:iF ktab 29 2 zco (zf (zj .i64)) 27 2 (λx=>x.2.2.1) (wt (wt wh)):=uF (ft' (ft' fh))
instance:iF ktab 31 0 zbE (zj .i64) 3 0 (λx=>x.1) wh:=uF fh
instance:iF ktab 31 1 zbE (zj .i64) 3 1 (λx=>x.2.1) (wt wh):=uF (ft' fh)
instance:iF ktab 31 2 zbE (zj .i64) 3 2 (λx=>x.2.2.1) (wt (wt wh)):=uF (ft' (ft' fh))
instance:iF ktab 31 3 zbE (zj .i64) 3 3 (λx=>x.2.2.2.1) (wt (wt (wt wh))):=uF (ft' (ft' (ft' fh)))
instance:iF ktab 31 4 zbE (zj .i64) 3 4 (λx=>x.2.2.2.2.1) (wt (wt (wt (wt wh)))):=uF (ft' (ft' (ft' (ft' fh))))
instance:iF ktab 31 5 zbE (zj .i64) 3 5 (λx=>x.2.2.2.2.2.1) (wt (wt (wt (wt (wt wh))))):=uF (ft' (ft' (ft' (ft' (ft' fh)))))
instance:iF ktab 31 6 zbE (zj .i64) 3 6 (λx=>x.2.2.2.2.2.2.1) (wt (wt (wt (wt (wt (wt wh)))))):=uF (ft' (ft' (ft' (ft' (ft' (ft' fh))))))
instance:iF ktab 31 7 zbE (zj .i64) 3 7 (λx=>x.2.2.2.2.2.2.2.1) (wt (wt (wt (wt (wt (wt (wt wh))))))):=uF (ft' (ft' (ft' (ft' (ft' (ft' (ft' fh)))))))
instance:iF ktab 31 8 zbE (zj .i64) 3 8 (λx=>x.2.2.2.2.2.2.2.2.1) (wt (wt (wt (wt (wt (wt (wt (wt wh)))))))):=uF (ft' (ft' (ft' (ft' (ft' (ft' (ft' (ft' fh))))))))
instance:iF ktab 31 9 zbE (zf (zj .i64)) 27 9 (λx=>x.2.2.2.2.2.2.2.2.2.1) (wt (wt (wt (wt (wt (wt (wt (wt (wt wh))))))))):=uF (ft' (ft' (ft' (ft' (ft' (ft' (ft' (ft' (ft' fh)))))))))
instance:iF ktab 33 0 zdk zco 29 0 (λx=>x.1) wh:=uF fh
instance:iF ktab 33 1 zdk zco 29 3 (λx=>x.2.1) (wt wh):=uF (ft' fh)
instance:iF ktab 33 2 zdk zbE 31 6 (λx=>x.2.2.1) (wt (wt wh)):=uF (ft' (ft' fh))
instance:iF ktab 33 3 zdk (zj .i64) 3 16 (λx=>x.2.2.2.1) (wt (wt (wt wh))):=uF (ft' (ft' (ft' fh)))
instance:iF ktab 33 4 zdk (zj .i64) 3 17 (λx=>x.2.2.2.2.1) (wt (wt (wt (wt wh)))):=uF (ft' (ft' (ft' (ft' fh))))
instance:iF ktab 50 0 zdR (zf zdk) 48 0 (λx=>x.1) wh:=uF fh
instance:iF ktab 50 1 zdR (zf (zj .i64)) 27 1 (λx=>x.2.1) (wt wh):=uF (ft' fh)
instance:iF ktab 50 2 zdR (zf (zj .i64)) 27 2 (λx=>x.2.2.1) (wt (wt wh)):=uF (ft' (ft' fh))
instance:iF ktab 70 0 zd6 (zj .i64) 3 0 (λx=>x.1) wh:=uF fh
instance:iF ktab 70 1 zd6 (zj .i64) 3 1 (λx=>x.2.1) (wt wh):=uF (ft' fh)
instance:iF ktab 70 2 zd6 (zj .i64) 3 2 (λx=>x.2.2.1) (wt (wt wh)):=uF (ft' (ft' fh))
instance:iF ktab 72 0 z7 (zj .i64) 3 0 (λx=>x.1) wh:=uF fh
instance:iF ktab 72 1 z7 zaw 4 1 (λx=>x.2.1) (wt wh):=uF (ft' fh)
instance:iF ktab 72 2 z7 (zj .i64) 3 2 (λx=>x.2.2.1) (wt (wt wh)):=uF (ft' (ft' fh))
instance:iF ktab 72 3 z7 (zj .i64) 3 3 (λx=>x.2.2.2.1) (wt (wt (wt wh))):=uF (ft' (ft' (ft' fh)))
instance:iF ktab 98 0 zch (zj .i64) 3 0 (λx=>x.1) wh:=uF fh
instance:iF ktab 98 1 zch (zj .i64) 3 1 (λx=>x.2.1) (wt wh):=uF (ft' fh)
instance:iF ktab 102 0 zbR zch 98 0 (λx=>x.1) wh:=uF fh
instance:iF ktab 102 1 zbR (zj .i64) 99 2 (λx=>x.2.1) (wt wh):=uF (ft' fh)
instance:iF ktab 102 2 zbR (zf zV) 100 3 (λx=>x.2.2.1) (wt (wt wh)):=uF (ft' (ft' fh))
instance:iF ktab 102 3 zbR (zj .i64) 3 4 (λx=>x.2.2.2.1) (wt (wt (wt wh))):=uF (ft' (ft' (ft' fh)))
instance:iF ktab 105 0 zdH (zj .i64) 3 0 (λx=>x.1) wh:=uF fh
instance:iF ktab 105 1 zdH (zj .i64) 3 1 (λx=>x.2.1) (wt wh):=uF (ft' fh)
instance:iF ktab 105 2 zdH (zf zch) 103 2 (λx=>x.2.2.1) (wt (wt wh)):=uF (ft' (ft' fh))
instance:iF ktab 105 3 zdH (zj .i64) 3 3 (λx=>x.2.2.2.1) (wt (wt (wt wh))):=uF (ft' (ft' (ft' fh)))
instance:iF ktab 105 4 zdH (zj .i64) 3 4 (λx=>x.2.2.2.2.1) (wt (wt (wt (wt wh)))):=uF (ft' (ft' (ft' (ft' fh))))
instance:iF ktab 113 0 zi zdk 33 0 (λx=>x.1) wh:=uF fh
instance:iF ktab 113 1 zi (zjB 2 (zf (zj .i64))) 111 18 (λx=>x.2.1) (wt wh):=uF (ft' fh)
instance:iF ktab 113 2 zi (zjB 2 (zf (zj .i64))) 111 20 (λx=>x.2.2.1) (wt (wt wh)):=uF (ft' (ft' fh))
instance:iF ktab 123 0 zV (zj .i64) 3 0 (λx=>x.1) wh:=uF fh
instance:iF ktab 123 1 zV zaw 4 1 (λx=>x.2.1) (wt wh):=uF (ft' fh)
instance:iF ktab 152 0 zR (zj .i64) 3 0 (λx=>x.1) wh:=uF fh
instance:iF ktab 152 1 zR zaw 4 1 (λx=>x.2.1) (wt wh):=uF (ft' fh)
instance:iF ktab 164 0 zy (zj .i64) 3 0 (λx=>x.1) wh:=uF fh
instance:iF ktab 164 1 zy (zj .i64) 3 1 (λx=>x.2.1) (wt wh):=uF (ft' fh)
instance:iF ktab 164 2 zy (zj .i64) 3 2 (λx=>x.2.2.1) (wt (wt wh)):=uF (ft' (ft' fh))
instance:iF ktab 164 3 zy (zj .i64) 3 3 (λx=>x.2.2.2.1) (wt (wt (wt wh))):=uF (ft' (ft' (ft' fh)))
instance:iF ktab 164 4 zy (zj .i64) 3 4 (λx=>x.2.2.2.2.1) (wt (wt (wt (wt wh)))):=uF (ft' (ft' (ft' (ft' fh))))
instance:iF ktab 164 5 zy (zj .i64) 3 5 (λx=>x.2.2.2.2.2.1) (wt (wt (wt (wt (wt wh))))):=uF (ft' (ft' (ft' (ft' (ft' fh)))))
instance:iF ktab 166 0 zfX (zj .i64) 3 0 (λx=>x.1) wh:=uF fh
instance:iF ktab 166 1 zfX (zj .i64) 3 1 (λx=>x.2.1) (wt wh):=uF (ft' fh)
instance:iF ktab 166 2 zfX zy 164 2 (λx=>x.2.2.1) (wt (wt wh)):=uF (ft' (ft' fh))
instance:iF ktab 166 3 zfX (zj .i64) 3 8 (λx=>x.2.2.2.1) (wt (wt (wt wh))):=uF (ft' (ft' (ft' fh)))
instance:iF ktab 166 4 zfX (zj .i64) 3 9 (λx=>x.2.2.2.2.1) (wt (wt (wt (wt wh)))):=uF (ft' (ft' (ft' (ft' fh))))
instance:iF ktab 191 0 zr (zj .i64) 3 0 (λx=>x.1) wh:=uF fh
instance:iF ktab 191 1 zr (zj .i64) 3 1 (λx=>x.2.1) (wt wh):=uF (ft' fh)
instance:iF ktab 215 0 zay (zaY zJ) 211 0 (λx=>x.1) wh:=uF fh
instance:iF ktab 215 2 zay (zf (zj .i64)) 27 2 (λx=>x.2.2.1) (wt (wt wh)):=uF (ft' (ft' fh))
instance:iF ktab 215 3 zay (zf (zj .i64)) 27 3 (λx=>x.2.2.2.1) (wt (wt (wt wh))):=uF (ft' (ft' (ft' fh)))
instance:iF ktab 215 4 zay (zf (zj .i64)) 27 4 (λx=>x.2.2.2.2.1) (wt (wt (wt (wt wh)))):=uF (ft' (ft' (ft' (ft' fh))))
instance:iF ktab 219 0 zaI zr 191 0 (λx=>x.1) wh:=uF fh
instance:iF ktab 219 1 zaI zy 164 2 (λx=>x.2.1) (wt wh):=uF (ft' fh)
instance:iF ktab 219 2 zaI (zj .i64) 3 8 (λx=>x.2.2.1) (wt (wt wh)):=uF (ft' (ft' fh))
instance:iF ktab 219 3 zaI (zj .i64) 3 9 (λx=>x.2.2.2.1) (wt (wt (wt wh))):=uF (ft' (ft' (ft' fh)))
instance:iF ktab 238 0 zaf zbl 25 0 (λx=>x.1) wh:=uF fh
instance:iF ktab 238 1 zaf (zf zR) 26 2 (λx=>x.2.1) (wt wh):=uF (ft' fh)
instance:iF ktab 238 2 zaf zbE 31 3 (λx=>x.2.2.1) (wt (wt wh)):=uF (ft' (ft' fh))
instance:iF ktab 238 3 zaf (zj .i64) 3 13 (λx=>x.2.2.2.1) (wt (wt (wt wh))):=uF (ft' (ft' (ft' fh)))
instance:iF ktab 238 4 zaf (zj .i64) 3 14 (λx=>x.2.2.2.2.1) (wt (wt (wt (wt wh)))):=uF (ft' (ft' (ft' (ft' fh))))
instance:iF ktab 251 0 zJ zbE 31 0 (λx=>x.1) wh:=uF fh
instance:iF ktab 251 1 zJ (zj .i64) 3 10 (λx=>x.2.1) (wt wh):=uF (ft' fh)
instance:iF ktab 254 0 zab zbl 25 0 (λx=>x.1) wh:=uF fh
instance:iF ktab 254 1 zab (zf (zj .i64)) 27 2 (λx=>x.2.1) (wt wh):=uF (ft' fh)
instance:iF ktab 254 2 zab (zpR zV (zj .i64)) 252 3 (λx=>x.2.2.1) (wt (wt wh)):=uF (ft' (ft' fh))
instance:iF ktab 281 0 zaq zbR 102 0 (λx=>x.1) wh:=uF fh
instance:iF ktab 288 0 zgy (zj .i64) 3 0 (λx=>x.1) wh:=uF fh
instance:iA ktab 111 (zf (zj .i64)) 27 2:=uA
instance:iA ktab 169 zco 29 2:=uA
instance:iA ktab 224 (zj .i64) 3 7:=uA
instance:iA ktab 265 (zj .i64) 3 4:=uA
instance:iA ktab 278 (rFn ktab (Int×Int×Int) (Int) (λx=>[.val (zj .i64) (x.1),.val (zj .i64) (x.2.1),.val (zj .i64) (x.2.2)]) (λy=>[.val (zj .i64) (y)])) 177 4:=uA
instance:iA ktab 290 (rFn ktab (zax×Int×Int) (Bool) (λx=>[.val zaq (x.1),.val (zj .i64) (x.2.1),.val (zj .i64) (x.2.2)]) (λy=>[.val zaw (y)])) 289 7:=uA
instance:iE ktab 123 zV (λx y=>x==y):=⟨zAl,rfl⟩
instance:iE ktab 152 zR (λx y=>x==y):=⟨zAm,rfl⟩
instance:iL ktab 3 (.int .i64 0) [vI (0)]:=uL
instance:iL ktab 4 (.bool false) [vB (false)]:=uL
instance:iL ktab 25 (.agg [.nilslice,.nilslice]) [.val (zf zbR) ([]),.val (zf zdH) ([])]:=uL
instance:iL ktab 26 (.nilslice) [.val (zf zR) ([])]:=uL
instance:iL ktab 29 (.agg [.nilslice,.nilslice,.nilslice]) [.val (zf zR) ([]),.val (zf (zj .i64)) ([]),.val (zf (zj .i64)) ([])]:=uL
instance:iL ktab 31 (.agg [.int .i64 0,.int .i64 0,.int .i64 0,.int .i64 0,.int .i64 0,.int .i64 0,.int .i64 0,.int .i64 0,.int .i64 0,.nilslice]) [vI (0),vI (0),vI (0),vI (0),vI (0),vI (0),vI (0),vI (0),vI (0),.val (zf (zj .i64)) ([])]:=uL
instance:iL ktab 33 (.agg [.nilslice,.nilslice,.nilslice,.nilslice,.nilslice,.nilslice,.int .i64 0,.int .i64 0,.int .i64 0,.int .i64 0,.int .i64 0,.int .i64 0,.int .i64 0,.int .i64 0,.int .i64 0,.nilslice,.int .i64 0,.int .i64 0]) [.val (zf zR) ([]),.val (zf (zj .i64)) ([]),.val (zf (zj .i64)) ([]),.val (zf zR) ([]),.val (zf (zj .i64)) ([]),.val (zf (zj .i64)) ([]),vI (0),vI (0),vI (0),vI (0),vI (0),vI (0),vI (0),vI (0),vI (0),.val (zf (zj .i64)) ([]),vI (0),vI (0)]:=uL
instance:iL ktab 72 (.agg [.int .i64 0,.bool false,.int .i64 0,.int .i64 0]) [vI (0),vB (false),vI (0),vI (0)]:=uL
instance:iL ktab 88 (.nilslice) [.raw .nilslice]:=uL
instance:iL ktab 98 (.agg [.int .i64 0,.int .i64 0]) [vI (0),vI (0)]:=uL
instance:iL ktab 102 (.agg [.int .i64 0,.int .i64 0,.int .i64 0,.nilslice,.int .i64 0]) [vI (0),vI (0),vI (0),.val (zf zV) ([]),vI (0)]:=uL
instance:iL ktab 105 (.agg [.int .i64 0,.int .i64 0,.nilslice,.int .i64 0,.int .i64 0]) [vI (0),vI (0),.val (zf zch) ([]),vI (0),vI (0)]:=uL
instance:iL ktab 108 (.nilptr) [.raw (.nilptr)]:=uL
instance:iL ktab 123 (.agg [.int .i64 0,.bool false]) [vI (0),vB (false)]:=uL
instance:iL ktab 152 (.agg [.int .i64 0,.bool false]) [vI (0),vB (false)]:=uL
instance:iL ktab 164 (.agg [.int .i64 0,.int .i64 0,.int .i64 0,.int .i64 0,.int .i64 0,.int .i64 0]) [vI (0),vI (0),vI (0),vI (0),vI (0),vI (0)]:=uL
instance:iL ktab 166 (.agg [.int .i64 0,.int .i64 0,.int .i64 0,.int .i64 0,.int .i64 0,.int .i64 0,.int .i64 0,.int .i64 0,.int .i64 0,.int .i64 0]) [vI (0),vI (0),vI (0),vI (0),vI (0),vI (0),vI (0),vI (0),vI (0),vI (0)]:=uL
instance:iL ktab 169 (.agg [.nilslice,.nilslice,.nilslice,.nilslice,.nilslice,.nilslice]) [.raw (.nilslice),.raw (.nilslice),.raw (.nilslice),.raw (.nilslice),.raw (.nilslice),.raw (.nilslice)]:=uL
instance:iL ktab 191 (.agg [.int .i64 0,.int .i64 0]) [vI (0),vI (0)]:=uL
instance:iL ktab 219 (.agg [.int .i64 0,.int .i64 0,.int .i64 0,.int .i64 0,.int .i64 0,.int .i64 0,.int .i64 0,.int .i64 0,.int .i64 0,.int .i64 0]) [vI (0),vI (0),vI (0),vI (0),vI (0),vI (0),vI (0),vI (0),vI (0),vI (0)]:=uL
instance:iL ktab 224 (.agg [.int .i64 0,.int .i64 0,.int .i64 0,.int .i64 0,.int .i64 0,.int .i64 0,.int .i64 0]) [.raw (.int .i64 0),.raw (.int .i64 0),.raw (.int .i64 0),.raw (.int .i64 0),.raw (.int .i64 0),.raw (.int .i64 0),.raw (.int .i64 0)]:=uL
instance:iL ktab 238 (.agg [.nilslice,.nilslice,.nilslice,.int .i64 0,.int .i64 0,.int .i64 0,.int .i64 0,.int .i64 0,.int .i64 0,.int .i64 0,.int .i64 0,.int .i64 0,.nilslice,.int .i64 0,.int .i64 0]) [.val (zf zbR) ([]),.val (zf zdH) ([]),.val (zf zR) ([]),vI (0),vI (0),vI (0),vI (0),vI (0),vI (0),vI (0),vI (0),vI (0),.val (zf (zj .i64)) ([]),vI (0),vI (0)]:=uL
instance:iL ktab 265 (.agg [.int .i64 0,.int .i64 0,.int .i64 0,.int .i64 0]) [.raw (.int .i64 0),.raw (.int .i64 0),.raw (.int .i64 0),.raw (.int .i64 0)]:=uL
instance:iL ktab 290 (.agg [.nilfunc,.nilfunc,.nilfunc,.nilfunc,.nilfunc,.nilfunc,.nilfunc]) [.raw (.nilfunc),.raw (.nilfunc),.raw (.nilfunc),.raw (.nilfunc),.raw (.nilfunc),.raw (.nilfunc),.raw (.nilfunc)]:=uL
end Go.Ai.TabYtppebpagcocogaaGreat
/- What the rows of this seat ask,of the abstract interpreter. -/
namespace Go.Ai.TabYtppebpagcocogaaGreat
open Go Go.Ai Go.Ai.Sx Go.Proofs Go.Proofs.YtppebpagcocogaaGreat
theorem own:ownKnob Tryz.prog.godebug=none:=by kernel_rfl
theorem zq4:laidOutB Tryz.prog=true:=by kernel_rfl
theorem begun:decide (Tryz.prog.globals.size<(begin Tryz.prog (λ_ _=>0) default).world.heap.size)=true:=by kernel_rfl
theorem ztl {W:World} (h:W.ShapedOpen Tryz.prog):0<W.heap.size:=by
 obtain ⟨o,_,ho,_⟩:=h.2 Tryz.prog.globals.size (Nat.le_refl _) (of_decide_eq_true begun);have:=(Array.getElem?_eq_some_iff.1 ho).1;omega
theorem zP {P:Program} {A B:Type} {f:Field} {fs:List Field} {o:Nat} {t:TypeId} {R:Rep A} {S:Rep B} (hf:f.offset=o) (ht:f.type=t) (ho:Opens P t R) (hs:zkM P fs (o+R.sz) S):zkM P (f::fs) o (zK R S):=by
 subst ht;exact znz hf ho hs
noncomputable def ztm:Array Field:=match Tryz.t97.desc with | .struct fs=>fs | _=>#[]
noncomputable def zvE:Field:=ztm[0]!
noncomputable def zvF:Field:=ztm[1]!
noncomputable def zoB:Array Field:=match Tryz.t122.desc with | .struct fs=>fs | _=>#[]
noncomputable def ztn:Field:=zoB[0]!
noncomputable def zto:Field:=zoB[1]!
noncomputable def zkU:Array Field:=match Tryz.t101.desc with | .struct fs=>fs | _=>#[]
noncomputable def ztp:Field:=zkU[0]!
noncomputable def ztq:Field:=zkU[1]!
noncomputable def ztr:Field:=zkU[2]!
noncomputable def zts:Field:=zkU[3]!
noncomputable def zjR:Array Field:=match Tryz.t104.desc with | .struct fs=>fs | _=>#[]
noncomputable def ztt:Field:=zjR[0]!
noncomputable def ztu:Field:=zjR[1]!
noncomputable def ztv:Field:=zjR[2]!
noncomputable def ztw:Field:=zjR[3]!
noncomputable def ztx:Field:=zjR[4]!
noncomputable def zty:Array Field:=match Tryz.t24.desc with | .struct fs=>fs | _=>#[]
noncomputable def zvG:Field:=zty[0]!
noncomputable def zvH:Field:=zty[1]!
noncomputable def zoC:Array Field:=match Tryz.t151.desc with | .struct fs=>fs | _=>#[]
noncomputable def ztz:Field:=zoC[0]!
noncomputable def ztA:Field:=zoC[1]!
noncomputable def zq5:Array Field:=match Tryz.t28.desc with | .struct fs=>fs | _=>#[]
noncomputable def zvI:Field:=zq5[0]!
noncomputable def zvJ:Field:=zq5[1]!
noncomputable def zvK:Field:=zq5[2]!
noncomputable def ziO:Array Field:=match Tryz.t30.desc with | .struct fs=>fs | _=>#[]
noncomputable def zvL:Field:=ziO[0]!
noncomputable def zvM:Field:=ziO[1]!
noncomputable def zvN:Field:=ziO[2]!
noncomputable def zvO:Field:=ziO[3]!
noncomputable def zvP:Field:=ziO[4]!
noncomputable def zvQ:Field:=ziO[5]!
noncomputable def zvR:Field:=ziO[6]!
noncomputable def zvS:Field:=ziO[7]!
noncomputable def zvT:Field:=ziO[8]!
noncomputable def zvU:Field:=ziO[9]!
noncomputable def znU:Array Field:=match Tryz.t32.desc with | .struct fs=>fs | _=>#[]
noncomputable def zvV:Field:=znU[0]!
noncomputable def zvW:Field:=znU[1]!
noncomputable def zvX:Field:=znU[2]!
noncomputable def zvY:Field:=znU[3]!
noncomputable def zvZ:Field:=znU[4]!
noncomputable def zq6:Array Field:=match Tryz.t49.desc with | .struct fs=>fs | _=>#[]
noncomputable def zv0:Field:=zq6[0]!
noncomputable def zv1:Field:=zq6[1]!
noncomputable def zv2:Field:=zq6[2]!
theorem o3:Opens Tryz.prog 3 (zj .i64):=zmx (by kernel_rfl) (by kernel_rfl)
theorem o98:Opens Tryz.prog 98 zch:=zbQ (fs:=ztm) (by kernel_rfl) (by kernel_rfl) rfl (by
 rw [show ztm.toList=[zvE,zvF] by kernel_rfl];exact (zP (by kernel_rfl) (by kernel_rfl) o3 (zP (by kernel_rfl) (by kernel_rfl) o3 (zcI _))))
theorem o99:Opens Tryz.prog 99 (zj .i64):=zmx (by kernel_rfl) (by kernel_rfl)
theorem o4:Opens Tryz.prog 4 zaw:=zpm (by kernel_rfl) (by kernel_rfl)
theorem zz9:Opens Tryz.prog 123 zV:=zbQ (fs:=zoB) (by kernel_rfl) (by kernel_rfl) rfl (by
 rw [show zoB.toList=[ztn,zto] by kernel_rfl];exact (zP (by kernel_rfl) (by kernel_rfl) o3 (zP (by kernel_rfl) (by kernel_rfl) o4 (zcI _))))
theorem zAa:Opens Tryz.prog 100 (zf zV):=zdx (by kernel_rfl) (by kernel_rfl) zz9 (by decide)
theorem zAb:Opens Tryz.prog 102 zbR:=zbQ (fs:=zkU) (by kernel_rfl) (by kernel_rfl) rfl (by
 rw [show zkU.toList=[ztp,ztq,ztr,zts] by kernel_rfl];exact (zP (by kernel_rfl) (by kernel_rfl) o98 (zP (by kernel_rfl) (by kernel_rfl) o99 (zP (by kernel_rfl) (by kernel_rfl) zAa (zP (by kernel_rfl) (by kernel_rfl) o3 (zcI _))))))
theorem o22:Opens Tryz.prog 22 (zf zbR):=zdx (by kernel_rfl) (by kernel_rfl) zAb (by decide)
theorem zAc:Opens Tryz.prog 103 (zf zch):=zdx (by kernel_rfl) (by kernel_rfl) o98 (by decide)
theorem zAd:Opens Tryz.prog 105 zdH:=zbQ (fs:=zjR) (by kernel_rfl) (by kernel_rfl) rfl (by
 rw [show zjR.toList=[ztt,ztu,ztv,ztw,ztx] by kernel_rfl];exact (zP (by kernel_rfl) (by kernel_rfl) o3 (zP (by kernel_rfl) (by kernel_rfl) o3 (zP (by kernel_rfl) (by kernel_rfl) zAc (zP (by kernel_rfl) (by kernel_rfl) o3 (zP (by kernel_rfl) (by kernel_rfl) o3 (zcI _)))))))
theorem o23:Opens Tryz.prog 23 (zf zdH):=zdx (by kernel_rfl) (by kernel_rfl) zAd (by decide)
theorem o25:Opens Tryz.prog 25 zbl:=zbQ (fs:=zty) (by kernel_rfl) (by kernel_rfl) rfl (by
 rw [show zty.toList=[zvG,zvH] by kernel_rfl];exact (zP (by kernel_rfl) (by kernel_rfl) o22 (zP (by kernel_rfl) (by kernel_rfl) o23 (zcI _))))
theorem zAe:Opens Tryz.prog 152 zR:=zbQ (fs:=zoC) (by kernel_rfl) (by kernel_rfl) rfl (by
 rw [show zoC.toList=[ztz,ztA] by kernel_rfl];exact (zP (by kernel_rfl) (by kernel_rfl) o3 (zP (by kernel_rfl) (by kernel_rfl) o4 (zcI _))))
theorem o26:Opens Tryz.prog 26 (zf zR):=zdx (by kernel_rfl) (by kernel_rfl) zAe (by decide)
theorem o27:Opens Tryz.prog 27 (zf (zj .i64)):=zdx (by kernel_rfl) (by kernel_rfl) o3 (by decide)
theorem o29:Opens Tryz.prog 29 zco:=zbQ (fs:=zq5) (by kernel_rfl) (by kernel_rfl) rfl (by
 rw [show zq5.toList=[zvI,zvJ,zvK] by kernel_rfl];exact (zP (by kernel_rfl) (by kernel_rfl) o26 (zP (by kernel_rfl) (by kernel_rfl) o27 (zP (by kernel_rfl) (by kernel_rfl) o27 (zcI _)))))
theorem o31:Opens Tryz.prog 31 zbE:=zbQ (fs:=ziO) (by kernel_rfl) (by kernel_rfl) rfl (by
 rw [show ziO.toList=[zvL,zvM,zvN,zvO,zvP,zvQ,zvR,zvS,zvT,zvU] by kernel_rfl];exact (zP (by kernel_rfl) (by kernel_rfl) o3 (zP (by kernel_rfl) (by kernel_rfl) o3 (zP (by kernel_rfl) (by kernel_rfl) o3 (zP (by kernel_rfl) (by kernel_rfl) o3 (zP (by kernel_rfl) (by kernel_rfl) o3 (zP (by kernel_rfl) (by kernel_rfl) o3 (zP (by kernel_rfl) (by kernel_rfl) o3 (zP (by kernel_rfl) (by kernel_rfl) o3 (zP (by kernel_rfl) (by kernel_rfl) o3 (zP (by kernel_rfl) (by kernel_rfl) o27 (zcI _))))))))))))
theorem o33:Opens Tryz.prog 33 zdk:=zbQ (fs:=znU) (by kernel_rfl) (by kernel_rfl) rfl (by
 rw [show znU.toList=[zvV,zvW,zvX,zvY,zvZ] by kernel_rfl];exact (zP (by kernel_rfl) (by kernel_rfl) o29 (zP (by kernel_rfl) (by kernel_rfl) o29 (zP (by kernel_rfl) (by kernel_rfl) o31 (zP (by kernel_rfl) (by kernel_rfl) o3 (zP (by kernel_rfl) (by kernel_rfl) o3 (zcI _)))))))
theorem o48:Opens Tryz.prog 48 (zf zdk):=zdx (by kernel_rfl) (by kernel_rfl) o33 (by decide)
theorem o50:Opens Tryz.prog 50 zdR:=zbQ (fs:=zq6) (by kernel_rfl) (by kernel_rfl) rfl (by
 rw [show zq6.toList=[zv0,zv1,zv2] by kernel_rfl];exact (zP (by kernel_rfl) (by kernel_rfl) o48 (zP (by kernel_rfl) (by kernel_rfl) o27 (zP (by kernel_rfl) (by kernel_rfl) o27 (zcI _)))))
theorem zhk {a b:Bool} (h:a=true) (k:b=true):(a&&b)=true:=by rw [h,k]; rfl
set_option maxRecDepth 100000 in
theorem zxO:mapsRowed Tryz.prog=true:=by kernel_rfl
set_option maxRecDepth 100000 in
theorem zv3:(Tryz.prog.stops==[])=true:=by kernel_rfl
set_option maxRecDepth 100000 in
theorem zv4:(Tryz.prog.stopKnobs==[])=true:=by kernel_rfl
set_option maxRecDepth 100000 in
theorem zv5:(Rows.serviceOffsetsRow.plainKeys==Tryz.prog.plainKeys)=true:=by kernel_rfl
set_option maxRecDepth 100000 in
theorem zv6:Tryz.prog.stopsHeard=true:=by kernel_rfl
set_option maxRecDepth 100000 in
theorem zv7:Tryz.prog.mayEnter=true:=by kernel_rfl
set_option maxRecDepth 100000 in
theorem zxP:(Rows.serviceOffsetsRow.lifted==Tryz.prog.liftsFinal)=true:=by kernel_rfl
set_option maxRecDepth 100000 in
theorem zxQ:(Tryz.prog.make==some Rows.serviceOffsetsRow.make)=true:=by kernel_rfl
end Go.Ai.TabYtppebpagcocogaaGreat