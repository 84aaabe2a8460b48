/- Written by program: the facts of the tables,and the walks through the functions. -/
import Derived.Test.YtppebpagcocogaaGreatU8
import Derived.Test.YtppebpagcocogaaGreatU9
import Derived.KernelRfl
import Derived.Test.YtppebpagcocogaaGreatU10
import Derived.Test.YtppebpagcocogaaGreatU5
import Derived.Test.YtppebpagcocogaaGreatRows
import Derived.WalkKit
import Derived.ProofKit
import Derived.JoinedOf
set_option linter.unusedSimpArgs false
set_option linter.unusedVariables false
set_option linter.unusedSectionVars false
namespace Go.Ai.TabYtppebpagcocogaaGreat
open Go Go.Ai Go.Ai.Sx Go.Proofs
attribute [local irreducible] zr
noncomputable def zoI:Array Field:=match Tryz.t122.desc with | .struct fs=>fs | _=>#[]
noncomputable def zBm:Array Field:=match Tryz.t112.desc with | .struct fs=>fs | _=>#[]
noncomputable def zBn:Array Field:=match Tryz.t253.desc with | .struct fs=>fs | _=>#[]
noncomputable def zBo:Array Field:=match Tryz.t214.desc with | .struct fs=>fs | _=>#[]
noncomputable def zBB:Array Field:=match Tryz.t49.desc with | .struct fs=>fs | _=>#[]
noncomputable def zwT:Array Field:=match Tryz.t151.desc with | .struct fs=>fs | _=>#[]
noncomputable def zoJ:Field:=zoI[0]!
noncomputable def zoK:Field:=zoI[1]!
noncomputable def zwU:Field:=zwT[1]!
noncomputable def zwV:Field:=zwT[0]!
theorem U27:Und ktab 27 (zb (zj .i64)):=⟨by kernel_rfl,by kernel_rfl⟩
theorem zAl:Und ktab 50 zlp:=⟨by kernel_rfl,by kernel_rfl⟩
theorem zAm:Und ktab 50 zke:=⟨by kernel_rfl,by kernel_rfl⟩
theorem zAn:Und ktab 83 zqR:=⟨by kernel_rfl,by kernel_rfl⟩
theorem zwW:Mp ktab 199 zP 4:=⟨⟨123,by kernel_rfl,zvF (fs:=zoI) (by kernel_rfl) (by kernel_rfl) rfl (by rw [show zoI.toList=[zoJ,zoK] by kernel_rfl]; exact (zvE (by kernel_rfl) (by kernel_rfl) (by kernel_rfl) (zrS (by kernel_rfl) (by kernel_rfl) (by kernel_rfl) zvD)))⟩⟩
theorem zwX:Mp ktab 252 zP 3:=⟨⟨123,by kernel_rfl,zvF (fs:=zoI) (by kernel_rfl) (by kernel_rfl) rfl (by rw [show zoI.toList=[zoJ,zoK] by kernel_rfl]; exact (zvE (by kernel_rfl) (by kernel_rfl) (by kernel_rfl) (zrS (by kernel_rfl) (by kernel_rfl) (by kernel_rfl) zvD)))⟩⟩
theorem zBp:Stt ktab 113 [.nilslice,.nilslice,.nilslice,.nilslice,.nilslice,.nilslice,.int .i64 0,.int .i64 0,.int .i64 0,.int .i64 0,.int .i64 0,.int .i64 0,.int .i64 0,.int .i64 0,.int .i64 0,.nilslice,.int .i64 0,.int .i64 0,.nilslice,.nilslice,.nilslice,.nilslice] [(0,18),(18,2),(20,2)]:=⟨by kernel_rfl,⟨zBm,by kernel_rfl,by kernel_rfl⟩⟩
theorem zAo:Stt ktab 254 [.nilslice,.nilslice,.nilslice,.nilmap] [(0,2),(2,1),(3,1)]:=⟨by kernel_rfl,⟨zBn,by kernel_rfl,by kernel_rfl⟩⟩
theorem zAp:Stt ktab 215 [.nilptr,.nilslice,.nilslice,.nilslice,.nilslice,.nilslice] [(0,1),(1,1),(2,1),(3,1),(4,1),(5,1)]:=⟨by kernel_rfl,⟨zBo,by kernel_rfl,by kernel_rfl⟩⟩
theorem zAq:Stt ktab 50 [.nilslice,.nilslice,.nilslice] [(0,1),(1,1),(2,1)]:=⟨by kernel_rfl,⟨zBB,by kernel_rfl,by kernel_rfl⟩⟩
theorem zAr:Stt ktab 50 [.nilslice,.nilslice,.nilslice] [(0,1),(1,1),(2,1)]:=⟨by kernel_rfl,⟨zBB,by kernel_rfl,by kernel_rfl⟩⟩
theorem zBC:SEq ktab 123 zP (λx y=>x==y):=⟨⟨zoI,by kernel_rfl,by rw [show zoI.toList=[zoJ,zoK] by kernel_rfl]; exact (.i (of_decide_eq_true (by kernel_rfl)) (by kernel_rfl) (by kernel_rfl) (.b (of_decide_eq_true (by kernel_rfl)) (by kernel_rfl) (by kernel_rfl) .n))⟩,by kernel_rfl,by kernel_rfl⟩
theorem zBD:SEq ktab 152 zW (λx y=>x==y):=⟨⟨zwT,by kernel_rfl,by rw [show zwT.toList=[zwV,zwU] by kernel_rfl]; exact (.i (of_decide_eq_true (by kernel_rfl)) (by kernel_rfl) (by kernel_rfl) (.b (of_decide_eq_true (by kernel_rfl)) (by kernel_rfl) (by kernel_rfl) .n))⟩,by kernel_rfl,by kernel_rfl⟩
instance:iK ktab 3 (.int .i64):=uK
instance:iK ktab 5 (.int .u8):=uK
instance:iK ktab 263 (.int .u64):=uK
instance:iK ktab 303 (.int .u64):=uK
instance:iU ktab 100 (zb zP):=uU
instance:iU ktab 102 zbW:=uU
instance:iU ktab 103 (zb zco):=uU
instance:iU ktab 105 zdS:=uU
instance:iU ktab 108 (z5 zg):=uU
instance:iU ktab 123 zP:=uU
instance:iU ktab 129 (zb (z5 zg)):=uU
instance:iU ktab 152 zW:=uU
instance:iU ktab 164 zx:=uU
instance:iU ktab 166 zf0:=uU
instance:iU ktab 187 (z5 zap):=uU
instance:iU ktab 191 zu:=uU
instance:iU ktab 211 (z5 zJ):=uU
instance:iU ktab 217 (rFn ktab (zd) (Int) (λx=>[.val zu (x)]) (λy=>[.val (zj .i64) (y)])):=uU
instance:iU ktab 219 zaB:=uU
instance:iU ktab 22 (zb zbW):=uU
instance:iU ktab 228 (z5 z6):=uU
instance:iU ktab 23 (zb zdS):=uU
instance:iU ktab 238 zac:=uU
instance:iU ktab 25 zaP:=uU
instance:iU ktab 252 (zqS zP (zj .i64)):=uU
instance:iU ktab 26 (zb zW):=uU
instance:iU ktab 27 (zb (zj .i64)):=uU
instance:iU ktab 281 zak:=uU
instance:iU ktab 289 (rFn ktab (zao×Int×Int) (Bool) (λx=>[.val zak (x.1),.val (zj .i64) (x.2.1),.val (zj .i64) (x.2.2)]) (λy=>[.val zau (y)])):=uU
instance:iU ktab 29 zcx:=uU
instance:iU ktab 3 (zj .i64):=uU
instance:iU ktab 31 zbG:=uU
instance:iU ktab 33 zav:=uU
instance:iU ktab 37 (zj .i64):=uU
instance:iU ktab 4 zau:=uU
instance:iU ktab 48 (zb zav):=uU
instance:iU ktab 50 zbM:=uU
instance:iU ktab 53 (zb zk):=uU
instance:iU ktab 56 zk:=uU
instance:iU ktab 98 zco:=uU
instance:iU ktab 99 (zj .i64):=uU
instance:iS ktab 22 zbW 102:=uS
instance:iS ktab 23 zdS 105:=uS
instance:iS ktab 26 zW 152:=uS
instance:iS ktab 27 (zj .i64) 3:=uS
instance:iS ktab 48 zav 33:=uS
instance:iS ktab 53 zk 56:=uS
instance:iS ktab 100 zP 123:=uS
instance:iS ktab 103 zco 98:=uS
instance:iS ktab 129 (z5 zg) 108:=uS
instance:iS ktab 159 zf0 166:=uS
instance:iS ktab 257 zx 164:=uS
instance:iS ktab 270 (zb zco) 103:=uS
instance:iS ktab 285 zgI 288:=uS
instance:iY ktab 3 (zj .i64) 8:=uY
instance:iY ktab 33 zav 256:=uY
instance:iY ktab 56 zk 64:=uY
instance:iY ktab 98 zco 16:=uY
instance:iY ktab 102 zbW 56:=uY
instance:iY ktab 103 (zb zco) 24:=uY
instance:iY ktab 105 zdS 56:=uY
instance:iY ktab 108 (z5 zg) 8:=uY
instance:iY ktab 123 zP 16:=uY
instance:iY ktab 152 zW 16:=uY
instance:iY ktab 164 zx 48:=uY
instance:iY ktab 166 zf0 80:=uY
instance:iY ktab 288 zgI 24:=uY
instance:iZ ktab 3 (zj .i64) 0:=uZ (zv:=.int .i64 0) (λ_=>⟨zint,rfl⟩)
instance:iZ ktab 4 zau false:=uZ (zv:=.bool false) (λ_=>⟨zbool,rfl⟩)
instance:iZ ktab 98 zco (0,0,()):=uZ (zv:=.agg [.int .i64 0,.int .i64 0]) (λ_=>⟨(zpair zint (zpair zint zunit rfl) rfl),rfl⟩)
instance:iB ktab 25 zaP [.nilslice,.nilslice] [(0,1),(1,1)]:=uB
instance:iB ktab 29 zcx [.nilslice,.nilslice,.nilslice] [(0,1),(1,1),(2,1)]:=uB
instance:iB ktab 31 zbG [.int .i64 0,.int .i64 0,.int .i64 0,.int .i64 0,.int .i64 0,.int .i64 0,.int .i64 0,.int .i64 0,.int .i64 0,.nilslice] [(0,1),(1,1),(2,1),(3,1),(4,1),(5,1),(6,1),(7,1),(8,1),(9,1)]:=uB
instance:iB ktab 33 zav [.nilslice,.nilslice,.nilslice,.nilslice,.nilslice,.nilslice,.int .i64 0,.int .i64 0,.int .i64 0,.int .i64 0,.int .i64 0,.int .i64 0,.int .i64 0,.int .i64 0,.int .i64 0,.nilslice,.int .i64 0,.int .i64 0] [(0,3),(3,3),(6,10),(16,1),(17,1)]:=uB
instance:iB ktab 50 zbM [.nilslice,.nilslice,.nilslice] [(0,1),(1,1),(2,1)]:=uB
instance:iB ktab 56 zk [.int .i64 0,.bool false,.int .i64 0,.int .i64 0,.bool false,.int .i64 0,.int .i64 0,.int .i64 0] [(0,1),(1,1),(2,1),(3,1),(4,1),(5,1),(6,1),(7,1)]:=uB
instance:iB ktab 98 zco [.int .i64 0,.int .i64 0] [(0,1),(1,1)]:=uB
instance:iB ktab 102 zbW [.int .i64 0,.int .i64 0,.int .i64 0,.nilslice,.int .i64 0] [(0,2),(2,1),(3,1),(4,1)]:=uB
instance:iB ktab 105 zdS [.int .i64 0,.int .i64 0,.nilslice,.int .i64 0,.int .i64 0] [(0,1),(1,1),(2,1),(3,1),(4,1)]:=uB
instance:iB ktab 123 zP [.int .i64 0,.bool false] [(0,1),(1,1)]:=uB
instance:iB ktab 152 zW [.int .i64 0,.bool false] [(0,1),(1,1)]:=uB
instance:iB ktab 164 zx [.int .i64 0,.int .i64 0,.int .i64 0,.int .i64 0,.int .i64 0,.int .i64 0] [(0,1),(1,1),(2,1),(3,1),(4,1),(5,1)]:=uB
instance:iB ktab 191 zu [.int .i64 0,.int .i64 0] [(0,1),(1,1)]:=uB
instance:iB ktab 238 zac [.nilslice,.nilslice,.nilslice,.int .i64 0,.int .i64 0,.int .i64 0,.int .i64 0,.int .i64 0,.int .i64 0,.int .i64 0,.int .i64 0,.int .i64 0,.nilslice,.int .i64 0,.int .i64 0] [(0,2),(2,1),(3,10),(13,1),(14,1)]:=uB
instance:iB ktab 251 zJ [.int .i64 0,.int .i64 0,.int .i64 0,.int .i64 0,.int .i64 0,.int .i64 0,.int .i64 0,.int .i64 0,.int .i64 0,.nilslice,.int .i64 0] [(0,10),(10,1)]:=uB
instance:iB ktab 281 zak [.int .i64 0,.int .i64 0,.int .i64 0,.nilslice,.int .i64 0] [(0,5)]:=uB
instance:iB ktab 288 zgI [.int .i64 0,.int .i64 0,.int .i64 0] [(0,1),(1,1),(2,1)]:=uB
instance:iF ktab 25 0 zaP (zb zbW) 22 0 (λx=>x.1) wh:=uF fh
instance:iF ktab 25 1 zaP (zb zdS) 23 1 (λx=>x.2.1) (wt wh):=uF (ft' fh)
instance:iF ktab 29 0 zcx (zb zW) 26 0 (λx=>x.1) wh:=uF fh
instance:iF ktab 29 1 zcx (zb (zj .i64)) 27 1 (λx=>x.2.1) (wt wh):=uF (ft' fh)
instance:iF ktab 29 2 zcx (zb (zj .i64)) 27 2 (λx=>x.2.2.1) (wt (wt wh)):=uF (ft' (ft' fh))
instance:iF ktab 31 0 zbG (zj .i64) 3 0 (λx=>x.1) wh:=uF fh
instance:iF ktab 31 1 zbG (zj .i64) 3 1 (λx=>x.2.1) (wt wh):=uF (ft' fh)
instance:iF ktab 31 2 zbG (zj .i64) 3 2 (λx=>x.2.2.1) (wt (wt wh)):=uF (ft' (ft' fh))
instance:iF ktab 31 3 zbG (zj .i64) 3 3 (λx=>x.2.2.2.1) (wt (wt (wt wh))):=uF (ft' (ft' (ft' fh)))
instance:iF ktab 31 4 zbG (zj .i64) 3 4 (λx=>x.2.2.2.2.1) (wt (wt (wt (wt wh)))):=uF (ft' (ft' (ft' (ft' fh))))
instance:iF ktab 31 5 zbG (zj .i64) 3 5 (λx=>x.2.2.2.2.2.1) (wt (wt (wt (wt (wt wh))))):=uF (ft' (ft' (ft' (ft' (ft' fh)))))
instance:iF ktab 31 6 zbG (zj .i64) 3 6 (λx=>x.2.2.2.2.2.2.1) (wt (wt (wt (wt (wt (wt wh)))))):=uF (ft' (ft' (ft' (ft' (ft' (ft' fh))))))
instance:iF ktab 31 7 zbG (zj .i64) 3 7 (λx=>x.2.2.2.2.2.2.2.1) (wt (wt (wt (wt (wt (wt (wt wh))))))):=uF (ft' (ft' (ft' (ft' (ft' (ft' (ft' fh)))))))
instance:iF ktab 31 8 zbG (zj .i64) 3 8 (λx=>x.2.2.2.2.2.2.2.2.1) (wt (wt (wt (wt (wt (wt (wt (wt wh)))))))):=uF (ft' (ft' (ft' (ft' (ft' (ft' (ft' (ft' fh))))))))
instance:iF ktab 31 9 zbG (zb (zj .i64)) 27 9 (λx=>x.2.2.2.2.2.2.2.2.2.1) (wt (wt (wt (wt (wt (wt (wt (wt (wt wh))))))))):=uF (ft' (ft' (ft' (ft' (ft' (ft' (ft' (ft' (ft' fh)))))))))
instance:iF ktab 33 0 zav zcx 29 0 (λx=>x.1) wh:=uF fh
instance:iF ktab 33 1 zav zcx 29 3 (λx=>x.2.1) (wt wh):=uF (ft' fh)
instance:iF ktab 33 2 zav zbG 31 6 (λx=>x.2.2.1) (wt (wt wh)):=uF (ft' (ft' fh))
instance:iF ktab 33 3 zav (zj .i64) 3 16 (λx=>x.2.2.2.1) (wt (wt (wt wh))):=uF (ft' (ft' (ft' fh)))
instance:iF ktab 33 4 zav (zj .i64) 3 17 (λx=>x.2.2.2.2.1) (wt (wt (wt (wt wh)))):=uF (ft' (ft' (ft' (ft' fh))))
instance:iF ktab 50 0 zbM (zb zav) 48 0 (λx=>x.1) wh:=uF fh
instance:iF ktab 50 1 zbM (zb (zj .i64)) 27 1 (λx=>x.2.1) (wt wh):=uF (ft' fh)
instance:iF ktab 50 2 zbM (zb (zj .i64)) 27 2 (λx=>x.2.2.1) (wt (wt wh)):=uF (ft' (ft' fh))
instance:iF ktab 56 0 zk (zj .i64) 3 0 (λx=>x.1) wh:=uF fh
instance:iF ktab 56 1 zk zau 4 1 (λx=>x.2.1) (wt wh):=uF (ft' fh)
instance:iF ktab 56 2 zk (zj .i64) 3 2 (λx=>x.2.2.1) (wt (wt wh)):=uF (ft' (ft' fh))
instance:iF ktab 56 3 zk (zj .i64) 3 3 (λx=>x.2.2.2.1) (wt (wt (wt wh))):=uF (ft' (ft' (ft' fh)))
instance:iF ktab 56 4 zk zau 4 4 (λx=>x.2.2.2.2.1) (wt (wt (wt (wt wh)))):=uF (ft' (ft' (ft' (ft' fh))))
instance:iF ktab 56 5 zk (zj .i64) 3 5 (λx=>x.2.2.2.2.2.1) (wt (wt (wt (wt (wt wh))))):=uF (ft' (ft' (ft' (ft' (ft' fh)))))
instance:iF ktab 56 6 zk (zj .i64) 3 6 (λx=>x.2.2.2.2.2.2.1) (wt (wt (wt (wt (wt (wt wh)))))):=uF (ft' (ft' (ft' (ft' (ft' (ft' fh))))))
instance:iF ktab 56 7 zk (zj .i64) 3 7 (λx=>x.2.2.2.2.2.2.2.1) (wt (wt (wt (wt (wt (wt (wt wh))))))):=uF (ft' (ft' (ft' (ft' (ft' (ft' (ft' fh)))))))
instance:iF ktab 98 0 zco (zj .i64) 3 0 (λx=>x.1) wh:=uF fh
instance:iF ktab 98 1 zco (zj .i64) 3 1 (λx=>x.2.1) (wt wh):=uF (ft' fh)
instance:iF ktab 102 0 zbW zco 98 0 (λx=>x.1) wh:=uF fh
instance:iF ktab 102 1 zbW (zj .i64) 99 2 (λx=>x.2.1) (wt wh):=uF (ft' fh)
instance:iF ktab 102 2 zbW (zb zP) 100 3 (λx=>x.2.2.1) (wt (wt wh)):=uF (ft' (ft' fh))
instance:iF ktab 102 3 zbW (zj .i64) 3 4 (λx=>x.2.2.2.1) (wt (wt (wt wh))):=uF (ft' (ft' (ft' fh)))
instance:iF ktab 105 0 zdS (zj .i64) 3 0 (λx=>x.1) wh:=uF fh
instance:iF ktab 105 1 zdS (zj .i64) 3 1 (λx=>x.2.1) (wt wh):=uF (ft' fh)
instance:iF ktab 105 2 zdS (zb zco) 103 2 (λx=>x.2.2.1) (wt (wt wh)):=uF (ft' (ft' fh))
instance:iF ktab 105 3 zdS (zj .i64) 3 3 (λx=>x.2.2.2.1) (wt (wt (wt wh))):=uF (ft' (ft' (ft' fh)))
instance:iF ktab 105 4 zdS (zj .i64) 3 4 (λx=>x.2.2.2.2.1) (wt (wt (wt (wt wh)))):=uF (ft' (ft' (ft' (ft' fh))))
instance:iF ktab 113 0 zg zav 33 0 (λx=>x.1) wh:=uF fh
instance:iF ktab 113 1 zg (zjT 2 (zb (zj .i64))) 111 18 (λx=>x.2.1) (wt wh):=uF (ft' fh)
instance:iF ktab 113 2 zg (zjT 2 (zb (zj .i64))) 111 20 (λx=>x.2.2.1) (wt (wt wh)):=uF (ft' (ft' fh))
instance:iF ktab 123 0 zP (zj .i64) 3 0 (λx=>x.1) wh:=uF fh
instance:iF ktab 123 1 zP zau 4 1 (λx=>x.2.1) (wt wh):=uF (ft' fh)
instance:iF ktab 152 0 zW (zj .i64) 3 0 (λx=>x.1) wh:=uF fh
instance:iF ktab 152 1 zW zau 4 1 (λx=>x.2.1) (wt wh):=uF (ft' fh)
instance:iF ktab 164 0 zx (zj .i64) 3 0 (λx=>x.1) wh:=uF fh
instance:iF ktab 164 1 zx (zj .i64) 3 1 (λx=>x.2.1) (wt wh):=uF (ft' fh)
instance:iF ktab 164 2 zx (zj .i64) 3 2 (λx=>x.2.2.1) (wt (wt wh)):=uF (ft' (ft' fh))
instance:iF ktab 164 3 zx (zj .i64) 3 3 (λx=>x.2.2.2.1) (wt (wt (wt wh))):=uF (ft' (ft' (ft' fh)))
instance:iF ktab 164 4 zx (zj .i64) 3 4 (λx=>x.2.2.2.2.1) (wt (wt (wt (wt wh)))):=uF (ft' (ft' (ft' (ft' fh))))
instance:iF ktab 164 5 zx (zj .i64) 3 5 (λx=>x.2.2.2.2.2.1) (wt (wt (wt (wt (wt wh))))):=uF (ft' (ft' (ft' (ft' (ft' fh)))))
instance:iF ktab 166 0 zf0 (zj .i64) 3 0 (λx=>x.1) wh:=uF fh
instance:iF ktab 166 1 zf0 (zj .i64) 3 1 (λx=>x.2.1) (wt wh):=uF (ft' fh)
instance:iF ktab 166 2 zf0 zx 164 2 (λx=>x.2.2.1) (wt (wt wh)):=uF (ft' (ft' fh))
instance:iF ktab 166 3 zf0 (zj .i64) 3 8 (λx=>x.2.2.2.1) (wt (wt (wt wh))):=uF (ft' (ft' (ft' fh)))
instance:iF ktab 166 4 zf0 (zj .i64) 3 9 (λx=>x.2.2.2.2.1) (wt (wt (wt (wt wh)))):=uF (ft' (ft' (ft' (ft' fh))))
instance:iF ktab 191 0 zu (zj .i64) 3 0 (λx=>x.1) wh:=uF fh
instance:iF ktab 191 1 zu (zj .i64) 3 1 (λx=>x.2.1) (wt wh):=uF (ft' fh)
instance:iF ktab 215 0 zap (z5 zJ) 211 0 (λx=>x.1) wh:=uF fh
instance:iF ktab 215 2 zap (zb (zj .i64)) 27 2 (λx=>x.2.2.1) (wt (wt wh)):=uF (ft' (ft' fh))
instance:iF ktab 215 3 zap (zb (zj .i64)) 27 3 (λx=>x.2.2.2.1) (wt (wt (wt wh))):=uF (ft' (ft' (ft' fh)))
instance:iF ktab 215 4 zap (zb (zj .i64)) 27 4 (λx=>x.2.2.2.2.1) (wt (wt (wt (wt wh)))):=uF (ft' (ft' (ft' (ft' fh))))
instance:iF ktab 219 0 zaB zu 191 0 (λx=>x.1) wh:=uF fh
instance:iF ktab 219 1 zaB zx 164 2 (λx=>x.2.1) (wt wh):=uF (ft' fh)
instance:iF ktab 219 2 zaB (zj .i64) 3 8 (λx=>x.2.2.1) (wt (wt wh)):=uF (ft' (ft' fh))
instance:iF ktab 219 3 zaB (zj .i64) 3 9 (λx=>x.2.2.2.1) (wt (wt (wt wh))):=uF (ft' (ft' (ft' fh)))
instance:iF ktab 238 0 zac zaP 25 0 (λx=>x.1) wh:=uF fh
instance:iF ktab 238 1 zac (zb zW) 26 2 (λx=>x.2.1) (wt wh):=uF (ft' fh)
instance:iF ktab 238 2 zac zbG 31 3 (λx=>x.2.2.1) (wt (wt wh)):=uF (ft' (ft' fh))
instance:iF ktab 238 3 zac (zj .i64) 3 13 (λx=>x.2.2.2.1) (wt (wt (wt wh))):=uF (ft' (ft' (ft' fh)))
instance:iF ktab 238 4 zac (zj .i64) 3 14 (λx=>x.2.2.2.2.1) (wt (wt (wt (wt wh)))):=uF (ft' (ft' (ft' (ft' fh))))
instance:iF ktab 251 0 zJ zbG 31 0 (λx=>x.1) wh:=uF fh
instance:iF ktab 251 1 zJ (zj .i64) 3 10 (λx=>x.2.1) (wt wh):=uF (ft' fh)
instance:iF ktab 254 0 z6 zaP 25 0 (λx=>x.1) wh:=uF fh
instance:iF ktab 254 1 z6 (zb (zj .i64)) 27 2 (λx=>x.2.1) (wt wh):=uF (ft' fh)
instance:iF ktab 254 2 z6 (zqS zP (zj .i64)) 252 3 (λx=>x.2.2.1) (wt (wt wh)):=uF (ft' (ft' fh))
instance:iF ktab 281 0 zak zbW 102 0 (λx=>x.1) wh:=uF fh
instance:iF ktab 288 0 zgI (zj .i64) 3 0 (λx=>x.1) wh:=uF fh
instance:iA ktab 111 (zb (zj .i64)) 27 2:=uA
instance:iA ktab 169 zcx 29 2:=uA
instance:iA ktab 224 (zj .i64) 3 7:=uA
instance:iA ktab 265 (zj .i64) 3 4:=uA
instance:iA ktab 278 (rFn ktab (Int×Int×Int) (Int) (λx=>[.val (zj .i64) (x.1),.val (zj .i64) (x.2.1),.val (zj .i64) (x.2.2)]) (λy=>[.val (zj .i64) (y)])) 177 4:=uA
instance:iA ktab 290 (rFn ktab (zao×Int×Int) (Bool) (λx=>[.val zak (x.1),.val (zj .i64) (x.2.1),.val (zj .i64) (x.2.2)]) (λy=>[.val zau (y)])) 289 7:=uA
instance:iE ktab 123 zP (λx y=>x==y):=⟨zBC,rfl⟩
instance:iE ktab 152 zW (λx y=>x==y):=⟨zBD,rfl⟩
instance:iL ktab 3 (.int .i64 0) [vI (0)]:=uL
instance:iL ktab 4 (.bool false) [vB (false)]:=uL
instance:iL ktab 25 (.agg [.nilslice,.nilslice]) [.val (zb zbW) ([]),.val (zb zdS) ([])]:=uL
instance:iL ktab 27 (.nilslice) [.val (zb (zj .i64)) ([])]:=uL
instance:iL ktab 29 (.agg [.nilslice,.nilslice,.nilslice]) [.val (zb zW) ([]),.val (zb (zj .i64)) ([]),.val (zb (zj .i64)) ([])]:=uL
instance:iL ktab 31 (.agg [.int .i64 0,.int .i64 0,.int .i64 0,.int .i64 0,.int .i64 0,.int .i64 0,.int .i64 0,.int .i64 0,.int .i64 0,.nilslice]) [vI (0),vI (0),vI (0),vI (0),vI (0),vI (0),vI (0),vI (0),vI (0),.val (zb (zj .i64)) ([])]:=uL
instance:iL ktab 33 (.agg [.nilslice,.nilslice,.nilslice,.nilslice,.nilslice,.nilslice,.int .i64 0,.int .i64 0,.int .i64 0,.int .i64 0,.int .i64 0,.int .i64 0,.int .i64 0,.int .i64 0,.int .i64 0,.nilslice,.int .i64 0,.int .i64 0]) [.val (zb zW) ([]),.val (zb (zj .i64)) ([]),.val (zb (zj .i64)) ([]),.val (zb zW) ([]),.val (zb (zj .i64)) ([]),.val (zb (zj .i64)) ([]),vI (0),vI (0),vI (0),vI (0),vI (0),vI (0),vI (0),vI (0),vI (0),.val (zb (zj .i64)) ([]),vI (0),vI (0)]:=uL
instance:iL ktab 37 (.int .i64 0) [vI (0)]:=uL
instance:iL ktab 50 (.agg [.nilslice,.nilslice,.nilslice]) [.val (zb zav) ([]),.val (zb (zj .i64)) ([]),.val (zb (zj .i64)) ([])]:=uL
instance:iL ktab 56 (.agg [.int .i64 0,.bool false,.int .i64 0,.int .i64 0,.bool false,.int .i64 0,.int .i64 0,.int .i64 0]) [vI (0),vB (false),vI (0),vI (0),vB (false),vI (0),vI (0),vI (0)]:=uL
instance:iL ktab 83 (.nilfunc) [.raw (.nilfunc)]:=uL
instance:iL ktab 98 (.agg [.int .i64 0,.int .i64 0]) [vI (0),vI (0)]:=uL
instance:iL ktab 102 (.agg [.int .i64 0,.int .i64 0,.int .i64 0,.nilslice,.int .i64 0]) [vI (0),vI (0),vI (0),.val (zb zP) ([]),vI (0)]:=uL
instance:iL ktab 105 (.agg [.int .i64 0,.int .i64 0,.nilslice,.int .i64 0,.int .i64 0]) [vI (0),vI (0),.val (zb zco) ([]),vI (0),vI (0)]:=uL
instance:iL ktab 123 (.agg [.int .i64 0,.bool false]) [vI (0),vB (false)]:=uL
instance:iL ktab 129 (.nilslice) [.val (zb (z5 zg)) ([])]:=uL
instance:iL ktab 152 (.agg [.int .i64 0,.bool false]) [vI (0),vB (false)]:=uL
instance:iL ktab 164 (.agg [.int .i64 0,.int .i64 0,.int .i64 0,.int .i64 0,.int .i64 0,.int .i64 0]) [vI (0),vI (0),vI (0),vI (0),vI (0),vI (0)]:=uL
instance:iL ktab 166 (.agg [.int .i64 0,.int .i64 0,.int .i64 0,.int .i64 0,.int .i64 0,.int .i64 0,.int .i64 0,.int .i64 0,.int .i64 0,.int .i64 0]) [vI (0),vI (0),vI (0),vI (0),vI (0),vI (0),vI (0),vI (0),vI (0),vI (0)]:=uL
instance:iL ktab 169 (.agg [.nilslice,.nilslice,.nilslice,.nilslice,.nilslice,.nilslice]) [.raw (.nilslice),.raw (.nilslice),.raw (.nilslice),.raw (.nilslice),.raw (.nilslice),.raw (.nilslice)]:=uL
instance:iL ktab 191 (.agg [.int .i64 0,.int .i64 0]) [vI (0),vI (0)]:=uL
instance:iL ktab 219 (.agg [.int .i64 0,.int .i64 0,.int .i64 0,.int .i64 0,.int .i64 0,.int .i64 0,.int .i64 0,.int .i64 0,.int .i64 0,.int .i64 0]) [vI (0),vI (0),vI (0),vI (0),vI (0),vI (0),vI (0),vI (0),vI (0),vI (0)]:=uL
instance:iL ktab 224 (.agg [.int .i64 0,.int .i64 0,.int .i64 0,.int .i64 0,.int .i64 0,.int .i64 0,.int .i64 0]) [.raw (.int .i64 0),.raw (.int .i64 0),.raw (.int .i64 0),.raw (.int .i64 0),.raw (.int .i64 0),.raw (.int .i64 0),.raw (.int .i64 0)]:=uL
instance:iL ktab 238 (.agg [.nilslice,.nilslice,.nilslice,.int .i64 0,.int .i64 0,.int .i64 0,.int .i64 0,.int .i64 0,.int .i64 0,.int .i64 0,.int .i64 0,.int .i64 0,.nilslice,.int .i64 0,.int .i64 0]) [.val (zb zbW) ([]),.val (zb zdS) ([]),.val (zb zW) ([]),vI (0),vI (0),vI (0),vI (0),vI (0),vI (0),vI (0),vI (0),vI (0),.val (zb (zj .i64)) ([]),vI (0),vI (0)]:=uL
instance:iL ktab 265 (.agg [.int .i64 0,.int .i64 0,.int .i64 0,.int .i64 0]) [.raw (.int .i64 0),.raw (.int .i64 0),.raw (.int .i64 0),.raw (.int .i64 0)]:=uL
instance:iL ktab 290 (.agg [.nilfunc,.nilfunc,.nilfunc,.nilfunc,.nilfunc,.nilfunc,.nilfunc]) [.raw (.nilfunc),.raw (.nilfunc),.raw (.nilfunc),.raw (.nilfunc),.raw (.nilfunc),.raw (.nilfunc),.raw (.nilfunc)]:=uL
end Go.Ai.TabYtppebpagcocogaaGreat
/- What the rows of this seat ask,of the abstract interpreter. -/
namespace Go.Ai.TabYtppebpagcocogaaGreat
open Go Go.Ai Go.Ai.Sx Go.Proofs Go.Proofs.YtppebpagcocogaaGreat
theorem own:ownKnob Tryz.prog.godebug=none:=by kernel_rfl
theorem ziH:laidOutB Tryz.prog=true:=by kernel_rfl
theorem begun:decide (Tryz.prog.globals.size<(begin Tryz.prog (λ_ _=>0) default).world.heap.size)=true:=by kernel_rfl
theorem zmd {W:World} (h:W.ShapedOpen Tryz.prog):0<W.heap.size:=by
 obtain ⟨o,_,ho,_⟩:=h.2 Tryz.prog.globals.size (Nat.le_refl _) (of_decide_eq_true begun);have:=(Array.getElem?_eq_some_iff.1 ho).1;omega
theorem zD {P:Program} {A B:Type} {f:Field} {fs:List Field} {o:Nat} {t:TypeId} {R:Rep A} {S:Rep B} (hf:f.offset=o) (ht:f.type=t) (ho:Opens P t R) (hs:zlg P fs (o+R.sz) S):zlg P (f::fs) o (zH R S):=by
 subst ht;exact zop hf ho hs
noncomputable def zuu:Array Field:=match Tryz.t97.desc with | .struct fs=>fs | _=>#[]
noncomputable def zwY:Field:=zuu[0]!
noncomputable def zwZ:Field:=zuu[1]!
noncomputable def zpF:Array Field:=match Tryz.t122.desc with | .struct fs=>fs | _=>#[]
noncomputable def zuv:Field:=zpF[0]!
noncomputable def zuw:Field:=zpF[1]!
noncomputable def zlq:Array Field:=match Tryz.t101.desc with | .struct fs=>fs | _=>#[]
noncomputable def zux:Field:=zlq[0]!
noncomputable def zuy:Field:=zlq[1]!
noncomputable def zuz:Field:=zlq[2]!
noncomputable def zuA:Field:=zlq[3]!
noncomputable def zkf:Array Field:=match Tryz.t104.desc with | .struct fs=>fs | _=>#[]
noncomputable def zuB:Field:=zkf[0]!
noncomputable def zuC:Field:=zkf[1]!
noncomputable def zuD:Field:=zkf[2]!
noncomputable def zuE:Field:=zkf[3]!
noncomputable def zuF:Field:=zkf[4]!
noncomputable def zuG:Array Field:=match Tryz.t24.desc with | .struct fs=>fs | _=>#[]
noncomputable def zw0:Field:=zuG[0]!
noncomputable def zw1:Field:=zuG[1]!
noncomputable def zpG:Array Field:=match Tryz.t151.desc with | .struct fs=>fs | _=>#[]
noncomputable def zuH:Field:=zpG[0]!
noncomputable def zuI:Field:=zpG[1]!
noncomputable def zr8:Array Field:=match Tryz.t28.desc with | .struct fs=>fs | _=>#[]
noncomputable def zw2:Field:=zr8[0]!
noncomputable def zw3:Field:=zr8[1]!
noncomputable def zw4:Field:=zr8[2]!
noncomputable def zjc:Array Field:=match Tryz.t30.desc with | .struct fs=>fs | _=>#[]
noncomputable def zw5:Field:=zjc[0]!
noncomputable def zw6:Field:=zjc[1]!
noncomputable def zw7:Field:=zjc[2]!
noncomputable def zw8:Field:=zjc[3]!
noncomputable def zw9:Field:=zjc[4]!
noncomputable def zxa:Field:=zjc[5]!
noncomputable def zxb:Field:=zjc[6]!
noncomputable def zxc:Field:=zjc[7]!
noncomputable def zxd:Field:=zjc[8]!
noncomputable def zxe:Field:=zjc[9]!
noncomputable def zoL:Array Field:=match Tryz.t32.desc with | .struct fs=>fs | _=>#[]
noncomputable def zxf:Field:=zoL[0]!
noncomputable def zxg:Field:=zoL[1]!
noncomputable def zxh:Field:=zoL[2]!
noncomputable def zxi:Field:=zoL[3]!
noncomputable def zxj:Field:=zoL[4]!
noncomputable def zr9:Array Field:=match Tryz.t49.desc with | .struct fs=>fs | _=>#[]
noncomputable def zxk:Field:=zr9[0]!
noncomputable def zxl:Field:=zr9[1]!
noncomputable def zxm:Field:=zr9[2]!
noncomputable def zkM:Array Field:=match Tryz.t55.desc with | .struct fs=>fs | _=>#[]
noncomputable def zxn:Field:=zkM[0]!
noncomputable def zxo:Field:=zkM[1]!
noncomputable def zxp:Field:=zkM[2]!
noncomputable def zxq:Field:=zkM[3]!
noncomputable def zxr:Field:=zkM[4]!
noncomputable def zxs:Field:=zkM[5]!
noncomputable def zxt:Field:=zkM[6]!
noncomputable def zxu:Field:=zkM[7]!
theorem o3:Opens Tryz.prog 3 (zj .i64):=zm9 (by kernel_rfl) (by kernel_rfl)
theorem o98:Opens Tryz.prog 98 zco:=zbE (fs:=zuu) (by kernel_rfl) (by kernel_rfl) rfl (by
 rw [show zuu.toList=[zwY,zwZ] by kernel_rfl];exact (zD (by kernel_rfl) (by kernel_rfl) o3 (zD (by kernel_rfl) (by kernel_rfl) o3 (zcv _))))
theorem o99:Opens Tryz.prog 99 (zj .i64):=zm9 (by kernel_rfl) (by kernel_rfl)
theorem o4:Opens Tryz.prog 4 zau:=zqo (by kernel_rfl) (by kernel_rfl)
theorem zBq:Opens Tryz.prog 123 zP:=zbE (fs:=zpF) (by kernel_rfl) (by kernel_rfl) rfl (by
 rw [show zpF.toList=[zuv,zuw] by kernel_rfl];exact (zD (by kernel_rfl) (by kernel_rfl) o3 (zD (by kernel_rfl) (by kernel_rfl) o4 (zcv _))))
theorem zBr:Opens Tryz.prog 100 (zb zP):=zc6 (by kernel_rfl) (by kernel_rfl) zBq (by decide)
theorem zBs:Opens Tryz.prog 102 zbW:=zbE (fs:=zlq) (by kernel_rfl) (by kernel_rfl) rfl (by
 rw [show zlq.toList=[zux,zuy,zuz,zuA] by kernel_rfl];exact (zD (by kernel_rfl) (by kernel_rfl) o98 (zD (by kernel_rfl) (by kernel_rfl) o99 (zD (by kernel_rfl) (by kernel_rfl) zBr (zD (by kernel_rfl) (by kernel_rfl) o3 (zcv _))))))
theorem o22:Opens Tryz.prog 22 (zb zbW):=zc6 (by kernel_rfl) (by kernel_rfl) zBs (by decide)
theorem zBt:Opens Tryz.prog 103 (zb zco):=zc6 (by kernel_rfl) (by kernel_rfl) o98 (by decide)
theorem zBu:Opens Tryz.prog 105 zdS:=zbE (fs:=zkf) (by kernel_rfl) (by kernel_rfl) rfl (by
 rw [show zkf.toList=[zuB,zuC,zuD,zuE,zuF] by kernel_rfl];exact (zD (by kernel_rfl) (by kernel_rfl) o3 (zD (by kernel_rfl) (by kernel_rfl) o3 (zD (by kernel_rfl) (by kernel_rfl) zBt (zD (by kernel_rfl) (by kernel_rfl) o3 (zD (by kernel_rfl) (by kernel_rfl) o3 (zcv _)))))))
theorem o23:Opens Tryz.prog 23 (zb zdS):=zc6 (by kernel_rfl) (by kernel_rfl) zBu (by decide)
theorem o25:Opens Tryz.prog 25 zaP:=zbE (fs:=zuG) (by kernel_rfl) (by kernel_rfl) rfl (by
 rw [show zuG.toList=[zw0,zw1] by kernel_rfl];exact (zD (by kernel_rfl) (by kernel_rfl) o22 (zD (by kernel_rfl) (by kernel_rfl) o23 (zcv _))))
theorem zBv:Opens Tryz.prog 152 zW:=zbE (fs:=zpG) (by kernel_rfl) (by kernel_rfl) rfl (by
 rw [show zpG.toList=[zuH,zuI] by kernel_rfl];exact (zD (by kernel_rfl) (by kernel_rfl) o3 (zD (by kernel_rfl) (by kernel_rfl) o4 (zcv _))))
theorem o26:Opens Tryz.prog 26 (zb zW):=zc6 (by kernel_rfl) (by kernel_rfl) zBv (by decide)
theorem o27:Opens Tryz.prog 27 (zb (zj .i64)):=zc6 (by kernel_rfl) (by kernel_rfl) o3 (by decide)
theorem o29:Opens Tryz.prog 29 zcx:=zbE (fs:=zr8) (by kernel_rfl) (by kernel_rfl) rfl (by
 rw [show zr8.toList=[zw2,zw3,zw4] by kernel_rfl];exact (zD (by kernel_rfl) (by kernel_rfl) o26 (zD (by kernel_rfl) (by kernel_rfl) o27 (zD (by kernel_rfl) (by kernel_rfl) o27 (zcv _)))))
theorem o31:Opens Tryz.prog 31 zbG:=zbE (fs:=zjc) (by kernel_rfl) (by kernel_rfl) rfl (by
 rw [show zjc.toList=[zw5,zw6,zw7,zw8,zw9,zxa,zxb,zxc,zxd,zxe] by kernel_rfl];exact (zD (by kernel_rfl) (by kernel_rfl) o3 (zD (by kernel_rfl) (by kernel_rfl) o3 (zD (by kernel_rfl) (by kernel_rfl) o3 (zD (by kernel_rfl) (by kernel_rfl) o3 (zD (by kernel_rfl) (by kernel_rfl) o3 (zD (by kernel_rfl) (by kernel_rfl) o3 (zD (by kernel_rfl) (by kernel_rfl) o3 (zD (by kernel_rfl) (by kernel_rfl) o3 (zD (by kernel_rfl) (by kernel_rfl) o3 (zD (by kernel_rfl) (by kernel_rfl) o27 (zcv _))))))))))))
theorem o33:Opens Tryz.prog 33 zav:=zbE (fs:=zoL) (by kernel_rfl) (by kernel_rfl) rfl (by
 rw [show zoL.toList=[zxf,zxg,zxh,zxi,zxj] by kernel_rfl];exact (zD (by kernel_rfl) (by kernel_rfl) o29 (zD (by kernel_rfl) (by kernel_rfl) o29 (zD (by kernel_rfl) (by kernel_rfl) o31 (zD (by kernel_rfl) (by kernel_rfl) o3 (zD (by kernel_rfl) (by kernel_rfl) o3 (zcv _)))))))
theorem o48:Opens Tryz.prog 48 (zb zav):=zc6 (by kernel_rfl) (by kernel_rfl) o33 (by decide)
theorem o50:Opens Tryz.prog 50 zbM:=zbE (fs:=zr9) (by kernel_rfl) (by kernel_rfl) rfl (by
 rw [show zr9.toList=[zxk,zxl,zxm] by kernel_rfl];exact (zD (by kernel_rfl) (by kernel_rfl) o48 (zD (by kernel_rfl) (by kernel_rfl) o27 (zD (by kernel_rfl) (by kernel_rfl) o27 (zcv _)))))
theorem o56:Opens Tryz.prog 56 zk:=zbE (fs:=zkM) (by kernel_rfl) (by kernel_rfl) rfl (by
 rw [show zkM.toList=[zxn,zxo,zxp,zxq,zxr,zxs,zxt,zxu] by kernel_rfl];exact (zD (by kernel_rfl) (by kernel_rfl) o3 (zD (by kernel_rfl) (by kernel_rfl) o4 (zD (by kernel_rfl) (by kernel_rfl) o3 (zD (by kernel_rfl) (by kernel_rfl) o3 (zD (by kernel_rfl) (by kernel_rfl) o4 (zD (by kernel_rfl) (by kernel_rfl) o3 (zD (by kernel_rfl) (by kernel_rfl) o3 (zD (by kernel_rfl) (by kernel_rfl) o3 (zcv _))))))))))
theorem o53:Opens Tryz.prog 53 (zb zk):=zc6 (by kernel_rfl) (by kernel_rfl) o56 (by decide)
theorem zb9 {a b:Bool} (h:a=true) (k:b=true):(a&&b)=true:=by rw [h,k]; rfl
set_option maxRecDepth 100000 in
theorem zsa:mapsRowed Tryz.prog=true:=by kernel_rfl
set_option maxRecDepth 100000 in
theorem zoM:(Tryz.prog.stops==[])=true:=by kernel_rfl
set_option maxRecDepth 100000 in
theorem zoN:(Tryz.prog.stopKnobs==[])=true:=by kernel_rfl
set_option maxRecDepth 100000 in
theorem zoO:(Rows.serviceOffsetsRow.plainKeys==Tryz.prog.plainKeys)=true:=by kernel_rfl
set_option maxRecDepth 100000 in
theorem zoP:Tryz.prog.stopsHeard=true:=by kernel_rfl
set_option maxRecDepth 100000 in
theorem zoQ:Tryz.prog.mayEnter=true:=by kernel_rfl
set_option maxRecDepth 100000 in
theorem zsb:(Rows.serviceOffsetsRow.lifted==Tryz.prog.liftsFinal)=true:=by kernel_rfl
set_option maxRecDepth 100000 in
theorem zsc:(Tryz.prog.make==some Rows.serviceOffsetsRow.make)=true:=by kernel_rfl
end Go.Ai.TabYtppebpagcocogaaGreat