/- Written by program: the facts of the tables,and the walks through the functions. -/
import Derived.Test.YtppebpagcocogaaGreatT8
import Derived.Test.YtppebpagcocogaaGreatT9
import Derived.KernelRfl
import Derived.Test.YtppebpagcocogaaGreatT10
import Derived.Test.YtppebpagcocogaaGreatT5
import Derived.Test.YtppebpagcocogaaGreatRows
import Derived.WalkKit
import Derived.ProofKit
import Derived.JoinedOf
set_option linter.unusedSimpArgs false
set_option linter.unusedVariables false
set_option linter.unusedSectionVars false
namespace Go.Ai.TabYtppebpagcocogaaGreat
open Go Go.Ai Go.Ai.Sx Go.Proofs
attribute [local irreducible] zo
noncomputable def zoc:Array Field:=match Tryz.t122.desc with | .struct fs=>fs | _=>#[]
noncomputable def zAD:Array Field:=match Tryz.t112.desc with | .struct fs=>fs | _=>#[]
noncomputable def zAE:Array Field:=match Tryz.t253.desc with | .struct fs=>fs | _=>#[]
noncomputable def zAF:Array Field:=match Tryz.t214.desc with | .struct fs=>fs | _=>#[]
noncomputable def zyj:Array Field:=match Tryz.t71.desc with | .struct fs=>fs | _=>#[]
noncomputable def zwb:Array Field:=match Tryz.t151.desc with | .struct fs=>fs | _=>#[]
noncomputable def zod:Field:=zoc[0]!
noncomputable def zoe:Field:=zoc[1]!
noncomputable def zyk:Field:=zyj[3]!
noncomputable def zyl:Field:=zyj[2]!
noncomputable def zym:Field:=zyj[1]!
noncomputable def zyn:Field:=zyj[0]!
noncomputable def zwc:Field:=zwb[1]!
noncomputable def zwd:Field:=zwb[0]!
theorem U27:Und ktab 27 (zf (zj .i64)):=⟨by kernel_rfl,by kernel_rfl⟩
theorem U88:Und ktab 88 (zf zp):=⟨by kernel_rfl,by kernel_rfl⟩
theorem zwe:Mp ktab 199 z5 4:=⟨⟨123,by kernel_rfl,zu7 (fs:=zoc) (by kernel_rfl) (by kernel_rfl) rfl (by rw [show zoc.toList=[zod,zoe] by kernel_rfl]; exact (zu6 (by kernel_rfl) (by kernel_rfl) (by kernel_rfl) (zrb (by kernel_rfl) (by kernel_rfl) (by kernel_rfl) zu5)))⟩⟩
theorem zwf:Mp ktab 252 z5 3:=⟨⟨123,by kernel_rfl,zu7 (fs:=zoc) (by kernel_rfl) (by kernel_rfl) rfl (by rw [show zoc.toList=[zod,zoe] by kernel_rfl]; exact (zu6 (by kernel_rfl) (by kernel_rfl) (by kernel_rfl) (zrb (by kernel_rfl) (by kernel_rfl) (by kernel_rfl) zu5)))⟩⟩
theorem zAG:Stt ktab 113 [.nilslice,.nilslice,.nilslice,.nilslice,.nilslice,.nilslice,.int .i64 0,.int .i64 0,.int .i64 0,.int .i64 0,.int .i64 0,.int .i64 0,.int .i64 0,.int .i64 0,.int .i64 0,.nilslice,.int .i64 0,.int .i64 0,.nilslice,.nilslice,.nilslice,.nilslice] [(0,18),(18,2),(20,2)]:=⟨by kernel_rfl,⟨zAD,by kernel_rfl,by kernel_rfl⟩⟩
theorem zz2:Stt ktab 254 [.nilslice,.nilslice,.nilslice,.nilmap] [(0,2),(2,1),(3,1)]:=⟨by kernel_rfl,⟨zAE,by kernel_rfl,by kernel_rfl⟩⟩
theorem zz3:Stt ktab 215 [.nilptr,.nilslice,.nilslice,.nilslice,.nilslice,.nilslice] [(0,1),(1,1),(2,1),(3,1),(4,1),(5,1)]:=⟨by kernel_rfl,⟨zAF,by kernel_rfl,by kernel_rfl⟩⟩
theorem E72:SEq ktab 72 zp (λx y=>x==y):=⟨⟨zyj,by kernel_rfl,by rw [show zyj.toList=[zyn,zym,zyl,zyk] by kernel_rfl]; exact (.i (of_decide_eq_true (by kernel_rfl)) (by kernel_rfl) (by kernel_rfl) (.b (of_decide_eq_true (by kernel_rfl)) (by kernel_rfl) (by kernel_rfl) (.i (of_decide_eq_true (by kernel_rfl)) (by kernel_rfl) (by kernel_rfl) (.i (of_decide_eq_true (by kernel_rfl)) (by kernel_rfl) (by kernel_rfl) .n))))⟩,by kernel_rfl,by kernel_rfl⟩
theorem zAQ:SEq ktab 123 z5 (λx y=>x==y):=⟨⟨zoc,by kernel_rfl,by rw [show zoc.toList=[zod,zoe] by kernel_rfl]; exact (.i (of_decide_eq_true (by kernel_rfl)) (by kernel_rfl) (by kernel_rfl) (.b (of_decide_eq_true (by kernel_rfl)) (by kernel_rfl) (by kernel_rfl) .n))⟩,by kernel_rfl,by kernel_rfl⟩
theorem zAR:SEq ktab 152 zO (λx y=>x==y):=⟨⟨zwb,by kernel_rfl,by rw [show zwb.toList=[zwd,zwc] by kernel_rfl]; exact (.i (of_decide_eq_true (by kernel_rfl)) (by kernel_rfl) (by kernel_rfl) (.b (of_decide_eq_true (by kernel_rfl)) (by kernel_rfl) (by kernel_rfl) .n))⟩,by kernel_rfl,by kernel_rfl⟩
instance:iK ktab 3 (.int .i64):=uK
instance:iK ktab 5 (.int .u8):=uK
instance:iK ktab 263 (.int .u64):=uK
instance:iK ktab 303 (.int .u64):=uK
instance:iU ktab 100 (zf z5):=uU
instance:iU ktab 102 zbZ:=uU
instance:iU ktab 103 (zf zco):=uU
instance:iU ktab 105 zdZ:=uU
instance:iU ktab 108 (zaG zi):=uU
instance:iU ktab 123 z5:=uU
instance:iU ktab 152 zO:=uU
instance:iU ktab 164 zC:=uU
instance:iU ktab 166 zf2:=uU
instance:iU ktab 187 (zaG zaD):=uU
instance:iU ktab 191 zw:=uU
instance:iU ktab 211 (zaG zQ):=uU
instance:iU ktab 217 (rFn ktab (zb) (Int) (λx=>[.val zw (x)]) (λy=>[.val (zj .i64) (y)])):=uU
instance:iU ktab 219 zaV:=uU
instance:iU ktab 22 (zf zbZ):=uU
instance:iU ktab 228 (zaG zak):=uU
instance:iU ktab 23 (zf zdZ):=uU
instance:iU ktab 238 zap:=uU
instance:iU ktab 25 zaZ:=uU
instance:iU ktab 252 (zqe z5 (zj .i64)):=uU
instance:iU ktab 26 (zf zO):=uU
instance:iU ktab 27 (zf (zj .i64)):=uU
instance:iU ktab 281 zay:=uU
instance:iU ktab 289 (rFn ktab (zaC×Int×Int) (Bool) (λx=>[.val zay (x.1),.val (zj .i64) (x.2.1),.val (zj .i64) (x.2.2)]) (λy=>[.val zaH (y)])):=uU
instance:iU ktab 29 zcB:=uU
instance:iU ktab 3 (zj .i64):=uU
instance:iU ktab 31 zbJ:=uU
instance:iU ktab 33 zcs:=uU
instance:iU ktab 4 zaH:=uU
instance:iU ktab 48 (zf zcs):=uU
instance:iU ktab 50 zcb:=uU
instance:iU ktab 68 (zf zbs):=uU
instance:iU ktab 70 zbs:=uU
instance:iU ktab 72 zp:=uU
instance:iU ktab 88 (zf zp):=uU
instance:iU ktab 98 zco:=uU
instance:iU ktab 99 (zj .i64):=uU
instance:iS ktab 22 zbZ 102:=uS
instance:iS ktab 23 zdZ 105:=uS
instance:iS ktab 26 zO 152:=uS
instance:iS ktab 27 (zj .i64) 3:=uS
instance:iS ktab 48 zcs 33:=uS
instance:iS ktab 68 zbs 70:=uS
instance:iS ktab 88 zp 72:=uS
instance:iS ktab 100 z5 123:=uS
instance:iS ktab 103 zco 98:=uS
instance:iS ktab 129 (zaG zi) 108:=uS
instance:iS ktab 155 (zf zp) 88:=uS
instance:iS ktab 159 zf2 166:=uS
instance:iS ktab 257 zC 164:=uS
instance:iS ktab 270 (zf zco) 103:=uS
instance:iS ktab 285 zgE 288:=uS
instance:iY ktab 3 (zj .i64) 8:=uY
instance:iY ktab 33 zcs 256:=uY
instance:iY ktab 72 zp 32:=uY
instance:iY ktab 88 (zf zp) 24:=uY
instance:iY ktab 98 zco 16:=uY
instance:iY ktab 102 zbZ 56:=uY
instance:iY ktab 103 (zf zco) 24:=uY
instance:iY ktab 105 zdZ 56:=uY
instance:iY ktab 108 (zaG zi) 8:=uY
instance:iY ktab 123 z5 16:=uY
instance:iY ktab 152 zO 16:=uY
instance:iY ktab 164 zC 48:=uY
instance:iY ktab 166 zf2 80:=uY
instance:iY ktab 288 zgE 24:=uY
instance:iZ ktab 3 (zj .i64) 0:=uZ (zv:=.int .i64 0) (λ_=>⟨zint,rfl⟩)
instance:iZ ktab 4 zaH false:=uZ (zv:=.bool false) (λ_=>⟨zbool,rfl⟩)
instance:iZ ktab 72 zp (0,false,0,0,()):=uZ (zv:=.agg [.int .i64 0,.bool false,.int .i64 0,.int .i64 0]) (λ_=>⟨(zpair zint (zpair zbool (zpair zint (zpair zint zunit rfl) rfl) rfl) rfl),rfl⟩)
instance:iZ ktab 98 zco (0,0,()):=uZ (zv:=.agg [.int .i64 0,.int .i64 0]) (λ_=>⟨(zpair zint (zpair zint zunit rfl) rfl),rfl⟩)
instance:iB ktab 25 zaZ [.nilslice,.nilslice] [(0,1),(1,1)]:=uB
instance:iB ktab 29 zcB [.nilslice,.nilslice,.nilslice] [(0,1),(1,1),(2,1)]:=uB
instance:iB ktab 31 zbJ [.int .i64 0,.int .i64 0,.int .i64 0,.int .i64 0,.int .i64 0,.int .i64 0,.int .i64 0,.int .i64 0,.int .i64 0,.nilslice] [(0,1),(1,1),(2,1),(3,1),(4,1),(5,1),(6,1),(7,1),(8,1),(9,1)]:=uB
instance:iB ktab 33 zcs [.nilslice,.nilslice,.nilslice,.nilslice,.nilslice,.nilslice,.int .i64 0,.int .i64 0,.int .i64 0,.int .i64 0,.int .i64 0,.int .i64 0,.int .i64 0,.int .i64 0,.int .i64 0,.nilslice,.int .i64 0,.int .i64 0] [(0,3),(3,3),(6,10),(16,1),(17,1)]:=uB
instance:iB ktab 50 zcb [.nilslice,.nilslice,.nilslice] [(0,1),(1,1),(2,1)]:=uB
instance:iB ktab 72 zp [.int .i64 0,.bool false,.int .i64 0,.int .i64 0] [(0,1),(1,1),(2,1),(3,1)]:=uB
instance:iB ktab 98 zco [.int .i64 0,.int .i64 0] [(0,1),(1,1)]:=uB
instance:iB ktab 102 zbZ [.int .i64 0,.int .i64 0,.int .i64 0,.nilslice,.int .i64 0] [(0,2),(2,1),(3,1),(4,1)]:=uB
instance:iB ktab 105 zdZ [.int .i64 0,.int .i64 0,.nilslice,.int .i64 0,.int .i64 0] [(0,1),(1,1),(2,1),(3,1),(4,1)]:=uB
instance:iB ktab 123 z5 [.int .i64 0,.bool false] [(0,1),(1,1)]:=uB
instance:iB ktab 152 zO [.int .i64 0,.bool false] [(0,1),(1,1)]:=uB
instance:iB ktab 164 zC [.int .i64 0,.int .i64 0,.int .i64 0,.int .i64 0,.int .i64 0,.int .i64 0] [(0,1),(1,1),(2,1),(3,1),(4,1),(5,1)]:=uB
instance:iB ktab 191 zw [.int .i64 0,.int .i64 0] [(0,1),(1,1)]:=uB
instance:iB ktab 238 zap [.nilslice,.nilslice,.nilslice,.int .i64 0,.int .i64 0,.int .i64 0,.int .i64 0,.int .i64 0,.int .i64 0,.int .i64 0,.int .i64 0,.int .i64 0,.nilslice,.int .i64 0,.int .i64 0] [(0,2),(2,1),(3,10),(13,1),(14,1)]:=uB
instance:iB ktab 251 zQ [.int .i64 0,.int .i64 0,.int .i64 0,.int .i64 0,.int .i64 0,.int .i64 0,.int .i64 0,.int .i64 0,.int .i64 0,.nilslice,.int .i64 0] [(0,10),(10,1)]:=uB
instance:iB ktab 281 zay [.int .i64 0,.int .i64 0,.int .i64 0,.nilslice,.int .i64 0] [(0,5)]:=uB
instance:iB ktab 288 zgE [.int .i64 0,.int .i64 0,.int .i64 0] [(0,1),(1,1),(2,1)]:=uB
instance:iF ktab 25 0 zaZ (zf zbZ) 22 0 (λx=>x.1) wh:=uF fh
instance:iF ktab 25 1 zaZ (zf zdZ) 23 1 (λx=>x.2.1) (wt wh):=uF (ft' fh)
instance:iF ktab 29 0 zcB (zf zO) 26 0 (λx=>x.1) wh:=uF fh
instance:iF ktab 29 1 zcB (zf (zj .i64)) 27 1 (λx=>x.2.1) (wt wh):=uF (ft' fh)
instance:iF ktab 29 2 zcB (zf (zj .i64)) 27 2 (λx=>x.2.2.1) (wt (wt wh)):=uF (ft' (ft' fh))
instance:iF ktab 31 0 zbJ (zj .i64) 3 0 (λx=>x.1) wh:=uF fh
instance:iF ktab 31 1 zbJ (zj .i64) 3 1 (λx=>x.2.1) (wt wh):=uF (ft' fh)
instance:iF ktab 31 2 zbJ (zj .i64) 3 2 (λx=>x.2.2.1) (wt (wt wh)):=uF (ft' (ft' fh))
instance:iF ktab 31 3 zbJ (zj .i64) 3 3 (λx=>x.2.2.2.1) (wt (wt (wt wh))):=uF (ft' (ft' (ft' fh)))
instance:iF ktab 31 4 zbJ (zj .i64) 3 4 (λx=>x.2.2.2.2.1) (wt (wt (wt (wt wh)))):=uF (ft' (ft' (ft' (ft' fh))))
instance:iF ktab 31 5 zbJ (zj .i64) 3 5 (λx=>x.2.2.2.2.2.1) (wt (wt (wt (wt (wt wh))))):=uF (ft' (ft' (ft' (ft' (ft' fh)))))
instance:iF ktab 31 6 zbJ (zj .i64) 3 6 (λx=>x.2.2.2.2.2.2.1) (wt (wt (wt (wt (wt (wt wh)))))):=uF (ft' (ft' (ft' (ft' (ft' (ft' fh))))))
instance:iF ktab 31 7 zbJ (zj .i64) 3 7 (λx=>x.2.2.2.2.2.2.2.1) (wt (wt (wt (wt (wt (wt (wt wh))))))):=uF (ft' (ft' (ft' (ft' (ft' (ft' (ft' fh)))))))
instance:iF ktab 31 8 zbJ (zj .i64) 3 8 (λx=>x.2.2.2.2.2.2.2.2.1) (wt (wt (wt (wt (wt (wt (wt (wt wh)))))))):=uF (ft' (ft' (ft' (ft' (ft' (ft' (ft' (ft' fh))))))))
instance:iF ktab 31 9 zbJ (zf (zj .i64)) 27 9 (λx=>x.2.2.2.2.2.2.2.2.2.1) (wt (wt (wt (wt (wt (wt (wt (wt (wt wh))))))))):=uF (ft' (ft' (ft' (ft' (ft' (ft' (ft' (ft' (ft' fh)))))))))
instance:iF ktab 33 0 zcs zcB 29 0 (λx=>x.1) wh:=uF fh
instance:iF ktab 33 1 zcs zcB 29 3 (λx=>x.2.1) (wt wh):=uF (ft' fh)
instance:iF ktab 33 2 zcs zbJ 31 6 (λx=>x.2.2.1) (wt (wt wh)):=uF (ft' (ft' fh))
instance:iF ktab 33 3 zcs (zj .i64) 3 16 (λx=>x.2.2.2.1) (wt (wt (wt wh))):=uF (ft' (ft' (ft' fh)))
instance:iF ktab 33 4 zcs (zj .i64) 3 17 (λx=>x.2.2.2.2.1) (wt (wt (wt (wt wh)))):=uF (ft' (ft' (ft' (ft' fh))))
instance:iF ktab 50 0 zcb (zf zcs) 48 0 (λx=>x.1) wh:=uF fh
instance:iF ktab 50 1 zcb (zf (zj .i64)) 27 1 (λx=>x.2.1) (wt wh):=uF (ft' fh)
instance:iF ktab 50 2 zcb (zf (zj .i64)) 27 2 (λx=>x.2.2.1) (wt (wt wh)):=uF (ft' (ft' fh))
instance:iF ktab 70 0 zbs (zj .i64) 3 0 (λx=>x.1) wh:=uF fh
instance:iF ktab 70 1 zbs (zj .i64) 3 1 (λx=>x.2.1) (wt wh):=uF (ft' fh)
instance:iF ktab 70 2 zbs (zj .i64) 3 2 (λx=>x.2.2.1) (wt (wt wh)):=uF (ft' (ft' fh))
instance:iF ktab 72 0 zp (zj .i64) 3 0 (λx=>x.1) wh:=uF fh
instance:iF ktab 72 1 zp zaH 4 1 (λx=>x.2.1) (wt wh):=uF (ft' fh)
instance:iF ktab 72 3 zp (zj .i64) 3 3 (λx=>x.2.2.2.1) (wt (wt (wt wh))):=uF (ft' (ft' (ft' fh)))
instance:iF ktab 98 0 zco (zj .i64) 3 0 (λx=>x.1) wh:=uF fh
instance:iF ktab 98 1 zco (zj .i64) 3 1 (λx=>x.2.1) (wt wh):=uF (ft' fh)
instance:iF ktab 102 0 zbZ zco 98 0 (λx=>x.1) wh:=uF fh
instance:iF ktab 102 1 zbZ (zj .i64) 99 2 (λx=>x.2.1) (wt wh):=uF (ft' fh)
instance:iF ktab 102 2 zbZ (zf z5) 100 3 (λx=>x.2.2.1) (wt (wt wh)):=uF (ft' (ft' fh))
instance:iF ktab 102 3 zbZ (zj .i64) 3 4 (λx=>x.2.2.2.1) (wt (wt (wt wh))):=uF (ft' (ft' (ft' fh)))
instance:iF ktab 105 0 zdZ (zj .i64) 3 0 (λx=>x.1) wh:=uF fh
instance:iF ktab 105 1 zdZ (zj .i64) 3 1 (λx=>x.2.1) (wt wh):=uF (ft' fh)
instance:iF ktab 105 2 zdZ (zf zco) 103 2 (λx=>x.2.2.1) (wt (wt wh)):=uF (ft' (ft' fh))
instance:iF ktab 105 3 zdZ (zj .i64) 3 3 (λx=>x.2.2.2.1) (wt (wt (wt wh))):=uF (ft' (ft' (ft' fh)))
instance:iF ktab 105 4 zdZ (zj .i64) 3 4 (λx=>x.2.2.2.2.1) (wt (wt (wt (wt wh)))):=uF (ft' (ft' (ft' (ft' fh))))
instance:iF ktab 113 0 zi zcs 33 0 (λx=>x.1) wh:=uF fh
instance:iF ktab 113 1 zi (zjD 2 (zf (zj .i64))) 111 18 (λx=>x.2.1) (wt wh):=uF (ft' fh)
instance:iF ktab 113 2 zi (zjD 2 (zf (zj .i64))) 111 20 (λx=>x.2.2.1) (wt (wt wh)):=uF (ft' (ft' fh))
instance:iF ktab 123 0 z5 (zj .i64) 3 0 (λx=>x.1) wh:=uF fh
instance:iF ktab 123 1 z5 zaH 4 1 (λx=>x.2.1) (wt wh):=uF (ft' fh)
instance:iF ktab 152 0 zO (zj .i64) 3 0 (λx=>x.1) wh:=uF fh
instance:iF ktab 152 1 zO zaH 4 1 (λx=>x.2.1) (wt wh):=uF (ft' fh)
instance:iF ktab 164 0 zC (zj .i64) 3 0 (λx=>x.1) wh:=uF fh
instance:iF ktab 164 1 zC (zj .i64) 3 1 (λx=>x.2.1) (wt wh):=uF (ft' fh)
instance:iF ktab 164 2 zC (zj .i64) 3 2 (λx=>x.2.2.1) (wt (wt wh)):=uF (ft' (ft' fh))
instance:iF ktab 164 3 zC (zj .i64) 3 3 (λx=>x.2.2.2.1) (wt (wt (wt wh))):=uF (ft' (ft' (ft' fh)))
instance:iF ktab 164 4 zC (zj .i64) 3 4 (λx=>x.2.2.2.2.1) (wt (wt (wt (wt wh)))):=uF (ft' (ft' (ft' (ft' fh))))
instance:iF ktab 164 5 zC (zj .i64) 3 5 (λx=>x.2.2.2.2.2.1) (wt (wt (wt (wt (wt wh))))):=uF (ft' (ft' (ft' (ft' (ft' fh)))))
instance:iF ktab 166 0 zf2 (zj .i64) 3 0 (λx=>x.1) wh:=uF fh
instance:iF ktab 166 1 zf2 (zj .i64) 3 1 (λx=>x.2.1) (wt wh):=uF (ft' fh)
instance:iF ktab 166 2 zf2 zC 164 2 (λx=>x.2.2.1) (wt (wt wh)):=uF (ft' (ft' fh))
instance:iF ktab 166 3 zf2 (zj .i64) 3 8 (λx=>x.2.2.2.1) (wt (wt (wt wh))):=uF (ft' (ft' (ft' fh)))
instance:iF ktab 166 4 zf2 (zj .i64) 3 9 (λx=>x.2.2.2.2.1) (wt (wt (wt (wt wh)))):=uF (ft' (ft' (ft' (ft' fh))))
instance:iF ktab 191 0 zw (zj .i64) 3 0 (λx=>x.1) wh:=uF fh
instance:iF ktab 191 1 zw (zj .i64) 3 1 (λx=>x.2.1) (wt wh):=uF (ft' fh)
instance:iF ktab 215 0 zaD (zaG zQ) 211 0 (λx=>x.1) wh:=uF fh
instance:iF ktab 215 2 zaD (zf (zj .i64)) 27 2 (λx=>x.2.2.1) (wt (wt wh)):=uF (ft' (ft' fh))
instance:iF ktab 215 3 zaD (zf (zj .i64)) 27 3 (λx=>x.2.2.2.1) (wt (wt (wt wh))):=uF (ft' (ft' (ft' fh)))
instance:iF ktab 215 4 zaD (zf (zj .i64)) 27 4 (λx=>x.2.2.2.2.1) (wt (wt (wt (wt wh)))):=uF (ft' (ft' (ft' (ft' fh))))
instance:iF ktab 219 0 zaV zw 191 0 (λx=>x.1) wh:=uF fh
instance:iF ktab 219 1 zaV zC 164 2 (λx=>x.2.1) (wt wh):=uF (ft' fh)
instance:iF ktab 219 2 zaV (zj .i64) 3 8 (λx=>x.2.2.1) (wt (wt wh)):=uF (ft' (ft' fh))
instance:iF ktab 219 3 zaV (zj .i64) 3 9 (λx=>x.2.2.2.1) (wt (wt (wt wh))):=uF (ft' (ft' (ft' fh)))
instance:iF ktab 238 0 zap zaZ 25 0 (λx=>x.1) wh:=uF fh
instance:iF ktab 238 1 zap (zf zO) 26 2 (λx=>x.2.1) (wt wh):=uF (ft' fh)
instance:iF ktab 238 2 zap zbJ 31 3 (λx=>x.2.2.1) (wt (wt wh)):=uF (ft' (ft' fh))
instance:iF ktab 238 3 zap (zj .i64) 3 13 (λx=>x.2.2.2.1) (wt (wt (wt wh))):=uF (ft' (ft' (ft' fh)))
instance:iF ktab 238 4 zap (zj .i64) 3 14 (λx=>x.2.2.2.2.1) (wt (wt (wt (wt wh)))):=uF (ft' (ft' (ft' (ft' fh))))
instance:iF ktab 251 0 zQ zbJ 31 0 (λx=>x.1) wh:=uF fh
instance:iF ktab 251 1 zQ (zj .i64) 3 10 (λx=>x.2.1) (wt wh):=uF (ft' fh)
instance:iF ktab 254 0 zak zaZ 25 0 (λx=>x.1) wh:=uF fh
instance:iF ktab 254 1 zak (zf (zj .i64)) 27 2 (λx=>x.2.1) (wt wh):=uF (ft' fh)
instance:iF ktab 254 2 zak (zqe z5 (zj .i64)) 252 3 (λx=>x.2.2.1) (wt (wt wh)):=uF (ft' (ft' fh))
instance:iF ktab 281 0 zay zbZ 102 0 (λx=>x.1) wh:=uF fh
instance:iF ktab 288 0 zgE (zj .i64) 3 0 (λx=>x.1) wh:=uF fh
instance:iA ktab 111 (zf (zj .i64)) 27 2:=uA
instance:iA ktab 169 zcB 29 2:=uA
instance:iA ktab 224 (zj .i64) 3 7:=uA
instance:iA ktab 265 (zj .i64) 3 4:=uA
instance:iA ktab 278 (rFn ktab (Int×Int×Int) (Int) (λx=>[.val (zj .i64) (x.1),.val (zj .i64) (x.2.1),.val (zj .i64) (x.2.2)]) (λy=>[.val (zj .i64) (y)])) 177 4:=uA
instance:iA ktab 290 (rFn ktab (zaC×Int×Int) (Bool) (λx=>[.val zay (x.1),.val (zj .i64) (x.2.1),.val (zj .i64) (x.2.2)]) (λy=>[.val zaH (y)])) 289 7:=uA
instance:iE ktab 72 zp (λx y=>x==y):=⟨E72,rfl⟩
instance:iE ktab 123 z5 (λx y=>x==y):=⟨zAQ,rfl⟩
instance:iE ktab 152 zO (λx y=>x==y):=⟨zAR,rfl⟩
instance:iL ktab 3 (.int .i64 0) [vI (0)]:=uL
instance:iL ktab 4 (.bool false) [vB (false)]:=uL
instance:iL ktab 25 (.agg [.nilslice,.nilslice]) [.val (zf zbZ) ([]),.val (zf zdZ) ([])]:=uL
instance:iL ktab 26 (.nilslice) [.val (zf zO) ([])]:=uL
instance:iL ktab 29 (.agg [.nilslice,.nilslice,.nilslice]) [.val (zf zO) ([]),.val (zf (zj .i64)) ([]),.val (zf (zj .i64)) ([])]:=uL
instance:iL ktab 31 (.agg [.int .i64 0,.int .i64 0,.int .i64 0,.int .i64 0,.int .i64 0,.int .i64 0,.int .i64 0,.int .i64 0,.int .i64 0,.nilslice]) [vI (0),vI (0),vI (0),vI (0),vI (0),vI (0),vI (0),vI (0),vI (0),.val (zf (zj .i64)) ([])]:=uL
instance:iL ktab 33 (.agg [.nilslice,.nilslice,.nilslice,.nilslice,.nilslice,.nilslice,.int .i64 0,.int .i64 0,.int .i64 0,.int .i64 0,.int .i64 0,.int .i64 0,.int .i64 0,.int .i64 0,.int .i64 0,.nilslice,.int .i64 0,.int .i64 0]) [.val (zf zO) ([]),.val (zf (zj .i64)) ([]),.val (zf (zj .i64)) ([]),.val (zf zO) ([]),.val (zf (zj .i64)) ([]),.val (zf (zj .i64)) ([]),vI (0),vI (0),vI (0),vI (0),vI (0),vI (0),vI (0),vI (0),vI (0),.val (zf (zj .i64)) ([]),vI (0),vI (0)]:=uL
instance:iL ktab 50 (.agg [.nilslice,.nilslice,.nilslice]) [.val (zf zcs) ([]),.val (zf (zj .i64)) ([]),.val (zf (zj .i64)) ([])]:=uL
instance:iL ktab 72 (.agg [.int .i64 0,.bool false,.int .i64 0,.int .i64 0]) [vI (0),vB (false),vI (0),vI (0)]:=uL
instance:iL ktab 88 (.nilslice) [.raw .nilslice]:=uL
instance:iL ktab 98 (.agg [.int .i64 0,.int .i64 0]) [vI (0),vI (0)]:=uL
instance:iL ktab 102 (.agg [.int .i64 0,.int .i64 0,.int .i64 0,.nilslice,.int .i64 0]) [vI (0),vI (0),vI (0),.val (zf z5) ([]),vI (0)]:=uL
instance:iL ktab 105 (.agg [.int .i64 0,.int .i64 0,.nilslice,.int .i64 0,.int .i64 0]) [vI (0),vI (0),.val (zf zco) ([]),vI (0),vI (0)]:=uL
instance:iL ktab 108 (.nilptr) [.raw (.nilptr)]:=uL
instance:iL ktab 123 (.agg [.int .i64 0,.bool false]) [vI (0),vB (false)]:=uL
instance:iL ktab 152 (.agg [.int .i64 0,.bool false]) [vI (0),vB (false)]:=uL
instance:iL ktab 164 (.agg [.int .i64 0,.int .i64 0,.int .i64 0,.int .i64 0,.int .i64 0,.int .i64 0]) [vI (0),vI (0),vI (0),vI (0),vI (0),vI (0)]:=uL
instance:iL ktab 166 (.agg [.int .i64 0,.int .i64 0,.int .i64 0,.int .i64 0,.int .i64 0,.int .i64 0,.int .i64 0,.int .i64 0,.int .i64 0,.int .i64 0]) [vI (0),vI (0),vI (0),vI (0),vI (0),vI (0),vI (0),vI (0),vI (0),vI (0)]:=uL
instance:iL ktab 169 (.agg [.nilslice,.nilslice,.nilslice,.nilslice,.nilslice,.nilslice]) [.raw (.nilslice),.raw (.nilslice),.raw (.nilslice),.raw (.nilslice),.raw (.nilslice),.raw (.nilslice)]:=uL
instance:iL ktab 191 (.agg [.int .i64 0,.int .i64 0]) [vI (0),vI (0)]:=uL
instance:iL ktab 219 (.agg [.int .i64 0,.int .i64 0,.int .i64 0,.int .i64 0,.int .i64 0,.int .i64 0,.int .i64 0,.int .i64 0,.int .i64 0,.int .i64 0]) [vI (0),vI (0),vI (0),vI (0),vI (0),vI (0),vI (0),vI (0),vI (0),vI (0)]:=uL
instance:iL ktab 224 (.agg [.int .i64 0,.int .i64 0,.int .i64 0,.int .i64 0,.int .i64 0,.int .i64 0,.int .i64 0]) [.raw (.int .i64 0),.raw (.int .i64 0),.raw (.int .i64 0),.raw (.int .i64 0),.raw (.int .i64 0),.raw (.int .i64 0),.raw (.int .i64 0)]:=uL
instance:iL ktab 238 (.agg [.nilslice,.nilslice,.nilslice,.int .i64 0,.int .i64 0,.int .i64 0,.int .i64 0,.int .i64 0,.int .i64 0,.int .i64 0,.int .i64 0,.int .i64 0,.nilslice,.int .i64 0,.int .i64 0]) [.val (zf zbZ) ([]),.val (zf zdZ) ([]),.val (zf zO) ([]),vI (0),vI (0),vI (0),vI (0),vI (0),vI (0),vI (0),vI (0),vI (0),.val (zf (zj .i64)) ([]),vI (0),vI (0)]:=uL
instance:iL ktab 265 (.agg [.int .i64 0,.int .i64 0,.int .i64 0,.int .i64 0]) [.raw (.int .i64 0),.raw (.int .i64 0),.raw (.int .i64 0),.raw (.int .i64 0)]:=uL
instance:iL ktab 290 (.agg [.nilfunc,.nilfunc,.nilfunc,.nilfunc,.nilfunc,.nilfunc,.nilfunc]) [.raw (.nilfunc),.raw (.nilfunc),.raw (.nilfunc),.raw (.nilfunc),.raw (.nilfunc),.raw (.nilfunc),.raw (.nilfunc)]:=uL
end Go.Ai.TabYtppebpagcocogaaGreat
/- What the rows of this seat ask,of the abstract interpreter. -/
namespace Go.Ai.TabYtppebpagcocogaaGreat
open Go Go.Ai Go.Ai.Sx Go.Proofs Go.Proofs.YtppebpagcocogaaGreat
theorem own:ownKnob Tryz.prog.godebug=none:=by kernel_rfl
theorem zlR:laidOutB Tryz.prog=true:=by kernel_rfl
theorem begun:decide (Tryz.prog.globals.size<(begin Tryz.prog (λ_ _=>0) default).world.heap.size)=true:=by kernel_rfl
theorem zoY {W:World} (h:W.ShapedOpen Tryz.prog):0<W.heap.size:=by
 obtain ⟨o,_,ho,_⟩:=h.2 Tryz.prog.globals.size (Nat.le_refl _) (of_decide_eq_true begun);have:=(Array.getElem?_eq_some_iff.1 ho).1;omega
theorem zP {P:Program} {A B:Type} {f:Field} {fs:List Field} {o:Nat} {t:TypeId} {R:Rep A} {S:Rep B} (hf:f.offset=o) (ht:f.type=t) (ho:Opens P t R) (hs:zkR P fs (o+R.sz) S):zkR P (f::fs) o (zT R S):=by
 subst ht;exact znV hf ho hs
noncomputable def ztU:Array Field:=match Tryz.t97.desc with | .struct fs=>fs | _=>#[]
noncomputable def zwg:Field:=ztU[0]!
noncomputable def zwh:Field:=ztU[1]!
noncomputable def zoZ:Array Field:=match Tryz.t122.desc with | .struct fs=>fs | _=>#[]
noncomputable def ztV:Field:=zoZ[0]!
noncomputable def ztW:Field:=zoZ[1]!
noncomputable def zk1:Array Field:=match Tryz.t101.desc with | .struct fs=>fs | _=>#[]
noncomputable def ztX:Field:=zk1[0]!
noncomputable def ztY:Field:=zk1[1]!
noncomputable def ztZ:Field:=zk1[2]!
noncomputable def zt0:Field:=zk1[3]!
noncomputable def zjT:Array Field:=match Tryz.t104.desc with | .struct fs=>fs | _=>#[]
noncomputable def zt1:Field:=zjT[0]!
noncomputable def zt2:Field:=zjT[1]!
noncomputable def zt3:Field:=zjT[2]!
noncomputable def zt4:Field:=zjT[3]!
noncomputable def zt5:Field:=zjT[4]!
noncomputable def zt6:Array Field:=match Tryz.t24.desc with | .struct fs=>fs | _=>#[]
noncomputable def zwi:Field:=zt6[0]!
noncomputable def zwj:Field:=zt6[1]!
noncomputable def zo0:Array Field:=match Tryz.t151.desc with | .struct fs=>fs | _=>#[]
noncomputable def zt7:Field:=zo0[0]!
noncomputable def zt8:Field:=zo0[1]!
noncomputable def zrt:Array Field:=match Tryz.t28.desc with | .struct fs=>fs | _=>#[]
noncomputable def zwk:Field:=zrt[0]!
noncomputable def zwl:Field:=zrt[1]!
noncomputable def zwm:Field:=zrt[2]!
noncomputable def ziT:Array Field:=match Tryz.t30.desc with | .struct fs=>fs | _=>#[]
noncomputable def zwn:Field:=ziT[0]!
noncomputable def zwo:Field:=ziT[1]!
noncomputable def zwp:Field:=ziT[2]!
noncomputable def zwq:Field:=ziT[3]!
noncomputable def zwr:Field:=ziT[4]!
noncomputable def zws:Field:=ziT[5]!
noncomputable def zwt:Field:=ziT[6]!
noncomputable def zwu:Field:=ziT[7]!
noncomputable def zwv:Field:=ziT[8]!
noncomputable def zww:Field:=ziT[9]!
noncomputable def zof:Array Field:=match Tryz.t32.desc with | .struct fs=>fs | _=>#[]
noncomputable def zwx:Field:=zof[0]!
noncomputable def zwy:Field:=zof[1]!
noncomputable def zwz:Field:=zof[2]!
noncomputable def zwA:Field:=zof[3]!
noncomputable def zwB:Field:=zof[4]!
noncomputable def zru:Array Field:=match Tryz.t49.desc with | .struct fs=>fs | _=>#[]
noncomputable def zwC:Field:=zru[0]!
noncomputable def zwD:Field:=zru[1]!
noncomputable def zwE:Field:=zru[2]!
noncomputable def zrv:Array Field:=match Tryz.t69.desc with | .struct fs=>fs | _=>#[]
noncomputable def zwF:Field:=zrv[0]!
noncomputable def zwG:Field:=zrv[1]!
noncomputable def zwH:Field:=zrv[2]!
theorem o3:Opens Tryz.prog 3 (zj .i64):=zmM (by kernel_rfl) (by kernel_rfl)
theorem o98:Opens Tryz.prog 98 zco:=zbI (fs:=ztU) (by kernel_rfl) (by kernel_rfl) rfl (by
 rw [show ztU.toList=[zwg,zwh] by kernel_rfl];exact (zP (by kernel_rfl) (by kernel_rfl) o3 (zP (by kernel_rfl) (by kernel_rfl) o3 (zcA _))))
theorem o99:Opens Tryz.prog 99 (zj .i64):=zmM (by kernel_rfl) (by kernel_rfl)
theorem o4:Opens Tryz.prog 4 zaH:=zpO (by kernel_rfl) (by kernel_rfl)
theorem zAH:Opens Tryz.prog 123 z5:=zbI (fs:=zoZ) (by kernel_rfl) (by kernel_rfl) rfl (by
 rw [show zoZ.toList=[ztV,ztW] by kernel_rfl];exact (zP (by kernel_rfl) (by kernel_rfl) o3 (zP (by kernel_rfl) (by kernel_rfl) o4 (zcA _))))
theorem zAI:Opens Tryz.prog 100 (zf z5):=zc5 (by kernel_rfl) (by kernel_rfl) zAH (by decide)
theorem zAJ:Opens Tryz.prog 102 zbZ:=zbI (fs:=zk1) (by kernel_rfl) (by kernel_rfl) rfl (by
 rw [show zk1.toList=[ztX,ztY,ztZ,zt0] by kernel_rfl];exact (zP (by kernel_rfl) (by kernel_rfl) o98 (zP (by kernel_rfl) (by kernel_rfl) o99 (zP (by kernel_rfl) (by kernel_rfl) zAI (zP (by kernel_rfl) (by kernel_rfl) o3 (zcA _))))))
theorem o22:Opens Tryz.prog 22 (zf zbZ):=zc5 (by kernel_rfl) (by kernel_rfl) zAJ (by decide)
theorem zAK:Opens Tryz.prog 103 (zf zco):=zc5 (by kernel_rfl) (by kernel_rfl) o98 (by decide)
theorem zAL:Opens Tryz.prog 105 zdZ:=zbI (fs:=zjT) (by kernel_rfl) (by kernel_rfl) rfl (by
 rw [show zjT.toList=[zt1,zt2,zt3,zt4,zt5] by kernel_rfl];exact (zP (by kernel_rfl) (by kernel_rfl) o3 (zP (by kernel_rfl) (by kernel_rfl) o3 (zP (by kernel_rfl) (by kernel_rfl) zAK (zP (by kernel_rfl) (by kernel_rfl) o3 (zP (by kernel_rfl) (by kernel_rfl) o3 (zcA _)))))))
theorem o23:Opens Tryz.prog 23 (zf zdZ):=zc5 (by kernel_rfl) (by kernel_rfl) zAL (by decide)
theorem o25:Opens Tryz.prog 25 zaZ:=zbI (fs:=zt6) (by kernel_rfl) (by kernel_rfl) rfl (by
 rw [show zt6.toList=[zwi,zwj] by kernel_rfl];exact (zP (by kernel_rfl) (by kernel_rfl) o22 (zP (by kernel_rfl) (by kernel_rfl) o23 (zcA _))))
theorem zAM:Opens Tryz.prog 152 zO:=zbI (fs:=zo0) (by kernel_rfl) (by kernel_rfl) rfl (by
 rw [show zo0.toList=[zt7,zt8] by kernel_rfl];exact (zP (by kernel_rfl) (by kernel_rfl) o3 (zP (by kernel_rfl) (by kernel_rfl) o4 (zcA _))))
theorem o26:Opens Tryz.prog 26 (zf zO):=zc5 (by kernel_rfl) (by kernel_rfl) zAM (by decide)
theorem o27:Opens Tryz.prog 27 (zf (zj .i64)):=zc5 (by kernel_rfl) (by kernel_rfl) o3 (by decide)
theorem o29:Opens Tryz.prog 29 zcB:=zbI (fs:=zrt) (by kernel_rfl) (by kernel_rfl) rfl (by
 rw [show zrt.toList=[zwk,zwl,zwm] by kernel_rfl];exact (zP (by kernel_rfl) (by kernel_rfl) o26 (zP (by kernel_rfl) (by kernel_rfl) o27 (zP (by kernel_rfl) (by kernel_rfl) o27 (zcA _)))))
theorem o31:Opens Tryz.prog 31 zbJ:=zbI (fs:=ziT) (by kernel_rfl) (by kernel_rfl) rfl (by
 rw [show ziT.toList=[zwn,zwo,zwp,zwq,zwr,zws,zwt,zwu,zwv,zww] by kernel_rfl];exact (zP (by kernel_rfl) (by kernel_rfl) o3 (zP (by kernel_rfl) (by kernel_rfl) o3 (zP (by kernel_rfl) (by kernel_rfl) o3 (zP (by kernel_rfl) (by kernel_rfl) o3 (zP (by kernel_rfl) (by kernel_rfl) o3 (zP (by kernel_rfl) (by kernel_rfl) o3 (zP (by kernel_rfl) (by kernel_rfl) o3 (zP (by kernel_rfl) (by kernel_rfl) o3 (zP (by kernel_rfl) (by kernel_rfl) o3 (zP (by kernel_rfl) (by kernel_rfl) o27 (zcA _))))))))))))
theorem o33:Opens Tryz.prog 33 zcs:=zbI (fs:=zof) (by kernel_rfl) (by kernel_rfl) rfl (by
 rw [show zof.toList=[zwx,zwy,zwz,zwA,zwB] by kernel_rfl];exact (zP (by kernel_rfl) (by kernel_rfl) o29 (zP (by kernel_rfl) (by kernel_rfl) o29 (zP (by kernel_rfl) (by kernel_rfl) o31 (zP (by kernel_rfl) (by kernel_rfl) o3 (zP (by kernel_rfl) (by kernel_rfl) o3 (zcA _)))))))
theorem o48:Opens Tryz.prog 48 (zf zcs):=zc5 (by kernel_rfl) (by kernel_rfl) o33 (by decide)
theorem o50:Opens Tryz.prog 50 zcb:=zbI (fs:=zru) (by kernel_rfl) (by kernel_rfl) rfl (by
 rw [show zru.toList=[zwC,zwD,zwE] by kernel_rfl];exact (zP (by kernel_rfl) (by kernel_rfl) o48 (zP (by kernel_rfl) (by kernel_rfl) o27 (zP (by kernel_rfl) (by kernel_rfl) o27 (zcA _)))))
theorem o70:Opens Tryz.prog 70 zbs:=zbI (fs:=zrv) (by kernel_rfl) (by kernel_rfl) rfl (by
 rw [show zrv.toList=[zwF,zwG,zwH] by kernel_rfl];exact (zP (by kernel_rfl) (by kernel_rfl) o3 (zP (by kernel_rfl) (by kernel_rfl) o3 (zP (by kernel_rfl) (by kernel_rfl) o3 (zcA _)))))
theorem o68:Opens Tryz.prog 68 (zf zbs):=zc5 (by kernel_rfl) (by kernel_rfl) o70 (by decide)
theorem zdY {a b:Bool} (h:a=true) (k:b=true):(a&&b)=true:=by rw [h,k]; rfl
set_option maxRecDepth 100000 in
theorem zvb:mapsRowed Tryz.prog=true:=by kernel_rfl
set_option maxRecDepth 100000 in
theorem zrw:(Tryz.prog.stops==[])=true:=by kernel_rfl
set_option maxRecDepth 100000 in
theorem zrx:(Tryz.prog.stopKnobs==[])=true:=by kernel_rfl
set_option maxRecDepth 100000 in
theorem zry:(Rows.serviceOffsetsRow.plainKeys==Tryz.prog.plainKeys)=true:=by kernel_rfl
set_option maxRecDepth 100000 in
theorem zrz:Tryz.prog.stopsHeard=true:=by kernel_rfl
set_option maxRecDepth 100000 in
theorem zrA:Tryz.prog.mayEnter=true:=by kernel_rfl
set_option maxRecDepth 100000 in
theorem zvc:(Rows.serviceOffsetsRow.lifted==Tryz.prog.liftsFinal)=true:=by kernel_rfl
set_option maxRecDepth 100000 in
theorem zvd:(Tryz.prog.make==some Rows.serviceOffsetsRow.make)=true:=by kernel_rfl
end Go.Ai.TabYtppebpagcocogaaGreat