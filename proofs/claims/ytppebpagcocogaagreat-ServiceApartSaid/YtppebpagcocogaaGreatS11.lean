/- Written by program: the facts of the tables,and the walks through the functions. -/
import Derived.Test.YtppebpagcocogaaGreatS8
import Derived.Test.YtppebpagcocogaaGreatS9
import Derived.KernelRfl
import Derived.Test.YtppebpagcocogaaGreatS10
import Derived.Test.YtppebpagcocogaaGreatS5
import Derived.Test.YtppebpagcocogaaGreatRows
import Derived.WalkKit
import Derived.ProofKit
import Derived.JoinedOf
set_option linter.unusedSimpArgs false
set_option linter.unusedVariables false
set_option linter.unusedSectionVars false
namespace Go.Ai.TabYtppebpagcocogaaGreat
open Go Go.Ai Go.Ai.Sx Go.Proofs
attribute [local irreducible] zq
noncomputable def zoC:Array Field:=match Tryz.t122.desc with | .struct fs=>fs | _=>#[]
noncomputable def zBb:Array Field:=match Tryz.t112.desc with | .struct fs=>fs | _=>#[]
noncomputable def zBc:Array Field:=match Tryz.t253.desc with | .struct fs=>fs | _=>#[]
noncomputable def zBd:Array Field:=match Tryz.t214.desc with | .struct fs=>fs | _=>#[]
noncomputable def zyG:Array Field:=match Tryz.t71.desc with | .struct fs=>fs | _=>#[]
noncomputable def zwB:Array Field:=match Tryz.t151.desc with | .struct fs=>fs | _=>#[]
noncomputable def zoD:Field:=zoC[0]!
noncomputable def zoE:Field:=zoC[1]!
noncomputable def zyH:Field:=zyG[3]!
noncomputable def zyI:Field:=zyG[2]!
noncomputable def zyJ:Field:=zyG[1]!
noncomputable def zyK:Field:=zyG[0]!
noncomputable def zwC:Field:=zwB[1]!
noncomputable def zwD:Field:=zwB[0]!
theorem U27:Und ktab 27 (zf (zj .i64)):=⟨by kernel_rfl,by kernel_rfl⟩
theorem zwE:Mp ktab 199 zU 4:=⟨⟨123,by kernel_rfl,zvz (fs:=zoC) (by kernel_rfl) (by kernel_rfl) rfl (by rw [show zoC.toList=[zoD,zoE] by kernel_rfl]; exact (zvy (by kernel_rfl) (by kernel_rfl) (by kernel_rfl) (zrH (by kernel_rfl) (by kernel_rfl) (by kernel_rfl) zvx)))⟩⟩
theorem zwF:Mp ktab 252 zU 3:=⟨⟨123,by kernel_rfl,zvz (fs:=zoC) (by kernel_rfl) (by kernel_rfl) rfl (by rw [show zoC.toList=[zoD,zoE] by kernel_rfl]; exact (zvy (by kernel_rfl) (by kernel_rfl) (by kernel_rfl) (zrH (by kernel_rfl) (by kernel_rfl) (by kernel_rfl) zvx)))⟩⟩
theorem zBe:Stt ktab 113 [.nilslice,.nilslice,.nilslice,.nilslice,.nilslice,.nilslice,.int .i64 0,.int .i64 0,.int .i64 0,.int .i64 0,.int .i64 0,.int .i64 0,.int .i64 0,.int .i64 0,.int .i64 0,.nilslice,.int .i64 0,.int .i64 0,.nilslice,.nilslice,.nilslice,.nilslice] [(0,18),(18,2),(20,2)]:=⟨by kernel_rfl,⟨zBb,by kernel_rfl,by kernel_rfl⟩⟩
theorem zz8:Stt ktab 254 [.nilslice,.nilslice,.nilslice,.nilmap] [(0,2),(2,1),(3,1)]:=⟨by kernel_rfl,⟨zBc,by kernel_rfl,by kernel_rfl⟩⟩
theorem zz9:Stt ktab 215 [.nilptr,.nilslice,.nilslice,.nilslice,.nilslice,.nilslice] [(0,1),(1,1),(2,1),(3,1),(4,1),(5,1)]:=⟨by kernel_rfl,⟨zBd,by kernel_rfl,by kernel_rfl⟩⟩
theorem E72:SEq ktab 72 zhE (fun x y=>x==y):=⟨⟨zyG,by kernel_rfl,by rw [show zyG.toList=[zyK,zyJ,zyI,zyH] by kernel_rfl]; exact (.i (of_decide_eq_true (by kernel_rfl)) (by kernel_rfl) (by kernel_rfl) (.b (of_decide_eq_true (by kernel_rfl)) (by kernel_rfl) (by kernel_rfl) (.i (of_decide_eq_true (by kernel_rfl)) (by kernel_rfl) (by kernel_rfl) (.i (of_decide_eq_true (by kernel_rfl)) (by kernel_rfl) (by kernel_rfl) .n))))⟩,by kernel_rfl,by kernel_rfl⟩
theorem zBq:SEq ktab 123 zU (fun x y=>x==y):=⟨⟨zoC,by kernel_rfl,by rw [show zoC.toList=[zoD,zoE] by kernel_rfl]; exact (.i (of_decide_eq_true (by kernel_rfl)) (by kernel_rfl) (by kernel_rfl) (.b (of_decide_eq_true (by kernel_rfl)) (by kernel_rfl) (by kernel_rfl) .n))⟩,by kernel_rfl,by kernel_rfl⟩
theorem zBr:SEq ktab 152 zJ (fun x y=>x==y):=⟨⟨zwB,by kernel_rfl,by rw [show zwB.toList=[zwD,zwC] by kernel_rfl]; exact (.i (of_decide_eq_true (by kernel_rfl)) (by kernel_rfl) (by kernel_rfl) (.b (of_decide_eq_true (by kernel_rfl)) (by kernel_rfl) (by kernel_rfl) .n))⟩,by kernel_rfl,by kernel_rfl⟩
instance:iK ktab 3 (.int .i64):=uK
instance:iK ktab 4 .bool:=uK
instance:iK ktab 5 (.int .u8):=uK
instance:iK ktab 263 (.int .u64):=uK
instance:iK ktab 303 (.int .u64):=uK
instance:iU ktab 100 (zf zU):=uU
instance:iU ktab 102 zb7:=uU
instance:iU ktab 103 (zf zcE):=uU
instance:iU ktab 105 zd4:=uU
instance:iU ktab 108 (zaQ zg):=uU
instance:iU ktab 123 zU:=uU
instance:iU ktab 129 (zf (zaQ zg)):=uU
instance:iU ktab 152 zJ:=uU
instance:iU ktab 164 zw:=uU
instance:iU ktab 166 zge:=uU
instance:iU ktab 187 (zaQ zaD):=uU
instance:iU ktab 191 zr:=uU
instance:iU ktab 211 (zaQ zM):=uU
instance:iU ktab 217 (rFn ktab (zb) (Int) (fun x=>[.val zr (x)]) (fun y=>[.val (zj .i64) (y)])):=uU
instance:iU ktab 219 zaR:=uU
instance:iU ktab 22 (zf zb7):=uU
instance:iU ktab 228 (zaQ zag):=uU
instance:iU ktab 23 (zf zd4):=uU
instance:iU ktab 238 zam:=uU
instance:iU ktab 25 zaf:=uU
instance:iU ktab 252 (zqJ zU (zj .i64)):=uU
instance:iU ktab 26 (zf zJ):=uU
instance:iU ktab 27 (zf (zj .i64)):=uU
instance:iU ktab 281 zaw:=uU
instance:iU ktab 289 (rFn ktab (zaC×Int×Int) (Bool) (fun x=>[.val zaw (x.1),.val (zj .i64) (x.2.1),.val (zj .i64) (x.2.2)]) (fun y=>[.val zab (y)])):=uU
instance:iU ktab 29 zcF:=uU
instance:iU ktab 3 (zj .i64):=uU
instance:iU ktab 31 zbR:=uU
instance:iU ktab 33 zbK:=uU
instance:iU ktab 4 zab:=uU
instance:iU ktab 48 (zf zbK):=uU
instance:iU ktab 50 zac:=uU
instance:iU ktab 56 zL:=uU
instance:iU ktab 68 (zf zcu):=uU
instance:iU ktab 70 zcu:=uU
instance:iU ktab 72 zhE:=uU
instance:iU ktab 98 zcE:=uU
instance:iU ktab 99 (zj .i64):=uU
instance:iS ktab 22 zb7 102:=uS
instance:iS ktab 23 zd4 105:=uS
instance:iS ktab 26 zJ 152:=uS
instance:iS ktab 27 (zj .i64) 3:=uS
instance:iS ktab 48 zbK 33:=uS
instance:iS ktab 53 zL 56:=uS
instance:iS ktab 68 zcu 70:=uS
instance:iS ktab 100 zU 123:=uS
instance:iS ktab 103 zcE 98:=uS
instance:iS ktab 129 (zaQ zg) 108:=uS
instance:iS ktab 159 zge 166:=uS
instance:iS ktab 257 zw 164:=uS
instance:iS ktab 270 (zf zcE) 103:=uS
instance:iS ktab 285 zgQ 288:=uS
instance:iY ktab 3 (zj .i64) 8:=uY
instance:iY ktab 56 zL 64:=uY
instance:iY ktab 70 zcu 24:=uY
instance:iY ktab 98 zcE 16:=uY
instance:iY ktab 102 zb7 56:=uY
instance:iY ktab 103 (zf zcE) 24:=uY
instance:iY ktab 105 zd4 56:=uY
instance:iY ktab 108 (zaQ zg) 8:=uY
instance:iY ktab 123 zU 16:=uY
instance:iY ktab 152 zJ 16:=uY
instance:iY ktab 164 zw 48:=uY
instance:iY ktab 166 zge 80:=uY
instance:iY ktab 288 zgQ 24:=uY
instance:iZ ktab 3 (zj .i64) 0:=uZ (zv:=.int .i64 0) (fun _=>⟨zint,rfl⟩)
instance:iZ ktab 4 zab false:=uZ (zv:=.bool false) (fun _=>⟨zbool,rfl⟩)
instance:iZ ktab 72 zhE (0,false,0,0,()):=uZ (zv:=.agg [.int .i64 0,.bool false,.int .i64 0,.int .i64 0]) (fun _=>⟨(zpair zint (zpair zbool (zpair zint (zpair zint zunit rfl) rfl) rfl) rfl),rfl⟩)
instance:iZ ktab 98 zcE (0,0,()):=uZ (zv:=.agg [.int .i64 0,.int .i64 0]) (fun _=>⟨(zpair zint (zpair zint zunit rfl) rfl),rfl⟩)
instance:iB ktab 25 zaf [.nilslice,.nilslice] [(0,1),(1,1)]:=uB
instance:iB ktab 29 zcF [.nilslice,.nilslice,.nilslice] [(0,1),(1,1),(2,1)]:=uB
instance:iB ktab 31 zbR [.int .i64 0,.int .i64 0,.int .i64 0,.int .i64 0,.int .i64 0,.int .i64 0,.int .i64 0,.int .i64 0,.int .i64 0,.nilslice] [(0,1),(1,1),(2,1),(3,1),(4,1),(5,1),(6,1),(7,1),(8,1),(9,1)]:=uB
instance:iB ktab 33 zbK [.nilslice,.nilslice,.nilslice,.nilslice,.nilslice,.nilslice,.int .i64 0,.int .i64 0,.int .i64 0,.int .i64 0,.int .i64 0,.int .i64 0,.int .i64 0,.int .i64 0,.int .i64 0,.nilslice,.int .i64 0,.int .i64 0] [(0,3),(3,3),(6,10),(16,1),(17,1)]:=uB
instance:iB ktab 72 zhE [.int .i64 0,.bool false,.int .i64 0,.int .i64 0] [(0,1),(1,1),(2,1),(3,1)]:=uB
instance:iB ktab 98 zcE [.int .i64 0,.int .i64 0] [(0,1),(1,1)]:=uB
instance:iB ktab 102 zb7 [.int .i64 0,.int .i64 0,.int .i64 0,.nilslice,.int .i64 0] [(0,2),(2,1),(3,1),(4,1)]:=uB
instance:iB ktab 105 zd4 [.int .i64 0,.int .i64 0,.nilslice,.int .i64 0,.int .i64 0] [(0,1),(1,1),(2,1),(3,1),(4,1)]:=uB
instance:iB ktab 123 zU [.int .i64 0,.bool false] [(0,1),(1,1)]:=uB
instance:iB ktab 152 zJ [.int .i64 0,.bool false] [(0,1),(1,1)]:=uB
instance:iB ktab 164 zw [.int .i64 0,.int .i64 0,.int .i64 0,.int .i64 0,.int .i64 0,.int .i64 0] [(0,1),(1,1),(2,1),(3,1),(4,1),(5,1)]:=uB
instance:iB ktab 191 zr [.int .i64 0,.int .i64 0] [(0,1),(1,1)]:=uB
instance:iB ktab 238 zam [.nilslice,.nilslice,.nilslice,.int .i64 0,.int .i64 0,.int .i64 0,.int .i64 0,.int .i64 0,.int .i64 0,.int .i64 0,.int .i64 0,.int .i64 0,.nilslice,.int .i64 0,.int .i64 0] [(0,2),(2,1),(3,10),(13,1),(14,1)]:=uB
instance:iB ktab 251 zM [.int .i64 0,.int .i64 0,.int .i64 0,.int .i64 0,.int .i64 0,.int .i64 0,.int .i64 0,.int .i64 0,.int .i64 0,.nilslice,.int .i64 0] [(0,10),(10,1)]:=uB
instance:iB ktab 281 zaw [.int .i64 0,.int .i64 0,.int .i64 0,.nilslice,.int .i64 0] [(0,5)]:=uB
instance:iB ktab 288 zgQ [.int .i64 0,.int .i64 0,.int .i64 0] [(0,1),(1,1),(2,1)]:=uB
instance:iF ktab 25 0 zaf (zf zb7) 22 0 (fun x=>x.1) wh:=uF fh
instance:iF ktab 25 1 zaf (zf zd4) 23 1 (fun x=>x.2.1) (wt wh):=uF (ft' fh)
instance:iF ktab 29 0 zcF (zf zJ) 26 0 (fun x=>x.1) wh:=uF fh
instance:iF ktab 29 1 zcF (zf (zj .i64)) 27 1 (fun x=>x.2.1) (wt wh):=uF (ft' fh)
instance:iF ktab 29 2 zcF (zf (zj .i64)) 27 2 (fun x=>x.2.2.1) (wt (wt wh)):=uF (ft' (ft' fh))
instance:iF ktab 31 0 zbR (zj .i64) 3 0 (fun x=>x.1) wh:=uF fh
instance:iF ktab 31 1 zbR (zj .i64) 3 1 (fun x=>x.2.1) (wt wh):=uF (ft' fh)
instance:iF ktab 31 2 zbR (zj .i64) 3 2 (fun x=>x.2.2.1) (wt (wt wh)):=uF (ft' (ft' fh))
instance:iF ktab 31 3 zbR (zj .i64) 3 3 (fun x=>x.2.2.2.1) (wt (wt (wt wh))):=uF (ft' (ft' (ft' fh)))
instance:iF ktab 31 4 zbR (zj .i64) 3 4 (fun x=>x.2.2.2.2.1) (wt (wt (wt (wt wh)))):=uF (ft' (ft' (ft' (ft' fh))))
instance:iF ktab 31 5 zbR (zj .i64) 3 5 (fun x=>x.2.2.2.2.2.1) (wt (wt (wt (wt (wt wh))))):=uF (ft' (ft' (ft' (ft' (ft' fh)))))
instance:iF ktab 31 6 zbR (zj .i64) 3 6 (fun x=>x.2.2.2.2.2.2.1) (wt (wt (wt (wt (wt (wt wh)))))):=uF (ft' (ft' (ft' (ft' (ft' (ft' fh))))))
instance:iF ktab 31 7 zbR (zj .i64) 3 7 (fun x=>x.2.2.2.2.2.2.2.1) (wt (wt (wt (wt (wt (wt (wt wh))))))):=uF (ft' (ft' (ft' (ft' (ft' (ft' (ft' fh)))))))
instance:iF ktab 31 8 zbR (zj .i64) 3 8 (fun x=>x.2.2.2.2.2.2.2.2.1) (wt (wt (wt (wt (wt (wt (wt (wt wh)))))))):=uF (ft' (ft' (ft' (ft' (ft' (ft' (ft' (ft' fh))))))))
instance:iF ktab 31 9 zbR (zf (zj .i64)) 27 9 (fun x=>x.2.2.2.2.2.2.2.2.2.1) (wt (wt (wt (wt (wt (wt (wt (wt (wt wh))))))))):=uF (ft' (ft' (ft' (ft' (ft' (ft' (ft' (ft' (ft' fh)))))))))
instance:iF ktab 33 0 zbK zcF 29 0 (fun x=>x.1) wh:=uF fh
instance:iF ktab 33 1 zbK zcF 29 3 (fun x=>x.2.1) (wt wh):=uF (ft' fh)
instance:iF ktab 33 2 zbK zbR 31 6 (fun x=>x.2.2.1) (wt (wt wh)):=uF (ft' (ft' fh))
instance:iF ktab 33 3 zbK (zj .i64) 3 16 (fun x=>x.2.2.2.1) (wt (wt (wt wh))):=uF (ft' (ft' (ft' fh)))
instance:iF ktab 33 4 zbK (zj .i64) 3 17 (fun x=>x.2.2.2.2.1) (wt (wt (wt (wt wh)))):=uF (ft' (ft' (ft' (ft' fh))))
instance:iF ktab 50 0 zac (zf zbK) 48 0 (fun x=>x.1) wh:=uF fh
instance:iF ktab 50 1 zac (zf (zj .i64)) 27 1 (fun x=>x.2.1) (wt wh):=uF (ft' fh)
instance:iF ktab 50 2 zac (zf (zj .i64)) 27 2 (fun x=>x.2.2.1) (wt (wt wh)):=uF (ft' (ft' fh))
instance:iF ktab 56 0 zL (zj .i64) 3 0 (fun x=>x.1) wh:=uF fh
instance:iF ktab 56 1 zL zab 4 1 (fun x=>x.2.1) (wt wh):=uF (ft' fh)
instance:iF ktab 56 2 zL (zj .i64) 3 2 (fun x=>x.2.2.1) (wt (wt wh)):=uF (ft' (ft' fh))
instance:iF ktab 56 3 zL (zj .i64) 3 3 (fun x=>x.2.2.2.1) (wt (wt (wt wh))):=uF (ft' (ft' (ft' fh)))
instance:iF ktab 56 4 zL zab 4 4 (fun x=>x.2.2.2.2.1) (wt (wt (wt (wt wh)))):=uF (ft' (ft' (ft' (ft' fh))))
instance:iF ktab 56 5 zL (zj .i64) 3 5 (fun x=>x.2.2.2.2.2.1) (wt (wt (wt (wt (wt wh))))):=uF (ft' (ft' (ft' (ft' (ft' fh)))))
instance:iF ktab 56 6 zL (zj .i64) 3 6 (fun x=>x.2.2.2.2.2.2.1) (wt (wt (wt (wt (wt (wt wh)))))):=uF (ft' (ft' (ft' (ft' (ft' (ft' fh))))))
instance:iF ktab 56 7 zL (zj .i64) 3 7 (fun x=>x.2.2.2.2.2.2.2.1) (wt (wt (wt (wt (wt (wt (wt wh))))))):=uF (ft' (ft' (ft' (ft' (ft' (ft' (ft' fh)))))))
instance:iF ktab 70 0 zcu (zj .i64) 3 0 (fun x=>x.1) wh:=uF fh
instance:iF ktab 70 1 zcu (zj .i64) 3 1 (fun x=>x.2.1) (wt wh):=uF (ft' fh)
instance:iF ktab 70 2 zcu (zj .i64) 3 2 (fun x=>x.2.2.1) (wt (wt wh)):=uF (ft' (ft' fh))
instance:iF ktab 72 0 zhE (zj .i64) 3 0 (fun x=>x.1) wh:=uF fh
instance:iF ktab 72 1 zhE zab 4 1 (fun x=>x.2.1) (wt wh):=uF (ft' fh)
instance:iF ktab 72 3 zhE (zj .i64) 3 3 (fun x=>x.2.2.2.1) (wt (wt (wt wh))):=uF (ft' (ft' (ft' fh)))
instance:iF ktab 98 0 zcE (zj .i64) 3 0 (fun x=>x.1) wh:=uF fh
instance:iF ktab 98 1 zcE (zj .i64) 3 1 (fun x=>x.2.1) (wt wh):=uF (ft' fh)
instance:iF ktab 102 0 zb7 zcE 98 0 (fun x=>x.1) wh:=uF fh
instance:iF ktab 102 1 zb7 (zj .i64) 99 2 (fun x=>x.2.1) (wt wh):=uF (ft' fh)
instance:iF ktab 102 2 zb7 (zf zU) 100 3 (fun x=>x.2.2.1) (wt (wt wh)):=uF (ft' (ft' fh))
instance:iF ktab 102 3 zb7 (zj .i64) 3 4 (fun x=>x.2.2.2.1) (wt (wt (wt wh))):=uF (ft' (ft' (ft' fh)))
instance:iF ktab 105 0 zd4 (zj .i64) 3 0 (fun x=>x.1) wh:=uF fh
instance:iF ktab 105 1 zd4 (zj .i64) 3 1 (fun x=>x.2.1) (wt wh):=uF (ft' fh)
instance:iF ktab 105 2 zd4 (zf zcE) 103 2 (fun x=>x.2.2.1) (wt (wt wh)):=uF (ft' (ft' fh))
instance:iF ktab 105 3 zd4 (zj .i64) 3 3 (fun x=>x.2.2.2.1) (wt (wt (wt wh))):=uF (ft' (ft' (ft' fh)))
instance:iF ktab 105 4 zd4 (zj .i64) 3 4 (fun x=>x.2.2.2.2.1) (wt (wt (wt (wt wh)))):=uF (ft' (ft' (ft' (ft' fh))))
instance:iF ktab 113 0 zg zbK 33 0 (fun x=>x.1) wh:=uF fh
instance:iF ktab 113 1 zg (zjX 2 (zf (zj .i64))) 111 18 (fun x=>x.2.1) (wt wh):=uF (ft' fh)
instance:iF ktab 113 2 zg (zjX 2 (zf (zj .i64))) 111 20 (fun x=>x.2.2.1) (wt (wt wh)):=uF (ft' (ft' fh))
instance:iF ktab 123 0 zU (zj .i64) 3 0 (fun x=>x.1) wh:=uF fh
instance:iF ktab 123 1 zU zab 4 1 (fun x=>x.2.1) (wt wh):=uF (ft' fh)
instance:iF ktab 152 0 zJ (zj .i64) 3 0 (fun x=>x.1) wh:=uF fh
instance:iF ktab 152 1 zJ zab 4 1 (fun x=>x.2.1) (wt wh):=uF (ft' fh)
instance:iF ktab 164 0 zw (zj .i64) 3 0 (fun x=>x.1) wh:=uF fh
instance:iF ktab 164 1 zw (zj .i64) 3 1 (fun x=>x.2.1) (wt wh):=uF (ft' fh)
instance:iF ktab 164 2 zw (zj .i64) 3 2 (fun x=>x.2.2.1) (wt (wt wh)):=uF (ft' (ft' fh))
instance:iF ktab 164 3 zw (zj .i64) 3 3 (fun x=>x.2.2.2.1) (wt (wt (wt wh))):=uF (ft' (ft' (ft' fh)))
instance:iF ktab 164 4 zw (zj .i64) 3 4 (fun x=>x.2.2.2.2.1) (wt (wt (wt (wt wh)))):=uF (ft' (ft' (ft' (ft' fh))))
instance:iF ktab 164 5 zw (zj .i64) 3 5 (fun x=>x.2.2.2.2.2.1) (wt (wt (wt (wt (wt wh))))):=uF (ft' (ft' (ft' (ft' (ft' fh)))))
instance:iF ktab 166 0 zge (zj .i64) 3 0 (fun x=>x.1) wh:=uF fh
instance:iF ktab 166 1 zge (zj .i64) 3 1 (fun x=>x.2.1) (wt wh):=uF (ft' fh)
instance:iF ktab 166 2 zge zw 164 2 (fun x=>x.2.2.1) (wt (wt wh)):=uF (ft' (ft' fh))
instance:iF ktab 166 3 zge (zj .i64) 3 8 (fun x=>x.2.2.2.1) (wt (wt (wt wh))):=uF (ft' (ft' (ft' fh)))
instance:iF ktab 166 4 zge (zj .i64) 3 9 (fun x=>x.2.2.2.2.1) (wt (wt (wt (wt wh)))):=uF (ft' (ft' (ft' (ft' fh))))
instance:iF ktab 191 0 zr (zj .i64) 3 0 (fun x=>x.1) wh:=uF fh
instance:iF ktab 191 1 zr (zj .i64) 3 1 (fun x=>x.2.1) (wt wh):=uF (ft' fh)
instance:iF ktab 215 0 zaD (zaQ zM) 211 0 (fun x=>x.1) wh:=uF fh
instance:iF ktab 215 2 zaD (zf (zj .i64)) 27 2 (fun x=>x.2.2.1) (wt (wt wh)):=uF (ft' (ft' fh))
instance:iF ktab 215 3 zaD (zf (zj .i64)) 27 3 (fun x=>x.2.2.2.1) (wt (wt (wt wh))):=uF (ft' (ft' (ft' fh)))
instance:iF ktab 215 4 zaD (zf (zj .i64)) 27 4 (fun x=>x.2.2.2.2.1) (wt (wt (wt (wt wh)))):=uF (ft' (ft' (ft' (ft' fh))))
instance:iF ktab 219 0 zaR zr 191 0 (fun x=>x.1) wh:=uF fh
instance:iF ktab 219 1 zaR zw 164 2 (fun x=>x.2.1) (wt wh):=uF (ft' fh)
instance:iF ktab 219 2 zaR (zj .i64) 3 8 (fun x=>x.2.2.1) (wt (wt wh)):=uF (ft' (ft' fh))
instance:iF ktab 219 3 zaR (zj .i64) 3 9 (fun x=>x.2.2.2.1) (wt (wt (wt wh))):=uF (ft' (ft' (ft' fh)))
instance:iF ktab 238 0 zam zaf 25 0 (fun x=>x.1) wh:=uF fh
instance:iF ktab 238 1 zam (zf zJ) 26 2 (fun x=>x.2.1) (wt wh):=uF (ft' fh)
instance:iF ktab 238 2 zam zbR 31 3 (fun x=>x.2.2.1) (wt (wt wh)):=uF (ft' (ft' fh))
instance:iF ktab 238 3 zam (zj .i64) 3 13 (fun x=>x.2.2.2.1) (wt (wt (wt wh))):=uF (ft' (ft' (ft' fh)))
instance:iF ktab 238 4 zam (zj .i64) 3 14 (fun x=>x.2.2.2.2.1) (wt (wt (wt (wt wh)))):=uF (ft' (ft' (ft' (ft' fh))))
instance:iF ktab 251 0 zM zbR 31 0 (fun x=>x.1) wh:=uF fh
instance:iF ktab 251 1 zM (zj .i64) 3 10 (fun x=>x.2.1) (wt wh):=uF (ft' fh)
instance:iF ktab 254 0 zag zaf 25 0 (fun x=>x.1) wh:=uF fh
instance:iF ktab 254 1 zag (zf (zj .i64)) 27 2 (fun x=>x.2.1) (wt wh):=uF (ft' fh)
instance:iF ktab 254 2 zag (zqJ zU (zj .i64)) 252 3 (fun x=>x.2.2.1) (wt (wt wh)):=uF (ft' (ft' fh))
instance:iF ktab 281 0 zaw zb7 102 0 (fun x=>x.1) wh:=uF fh
instance:iF ktab 288 0 zgQ (zj .i64) 3 0 (fun x=>x.1) wh:=uF fh
instance:iA ktab 111 (zf (zj .i64)) 27 2:=uA
instance:iA ktab 169 zcF 29 2:=uA
instance:iA ktab 224 (zj .i64) 3 7:=uA
instance:iA ktab 265 (zj .i64) 3 4:=uA
instance:iA ktab 278 (rFn ktab (Int×Int×Int) (Int) (fun x=>[.val (zj .i64) (x.1),.val (zj .i64) (x.2.1),.val (zj .i64) (x.2.2)]) (fun y=>[.val (zj .i64) (y)])) 177 4:=uA
instance:iA ktab 290 (rFn ktab (zaC×Int×Int) (Bool) (fun x=>[.val zaw (x.1),.val (zj .i64) (x.2.1),.val (zj .i64) (x.2.2)]) (fun y=>[.val zab (y)])) 289 7:=uA
instance:iE ktab 72 zhE (fun x y=>x==y):=⟨E72,rfl⟩
instance:iE ktab 123 zU (fun x y=>x==y):=⟨zBq,rfl⟩
instance:iE ktab 152 zJ (fun x y=>x==y):=⟨zBr,rfl⟩
instance:iL ktab 4 (.bool false) [vB (false)]:=uL
instance:iL ktab 25 (.agg [.nilslice,.nilslice]) [.val (zf zb7) ([]),.val (zf zd4) ([])]:=uL
instance:iL ktab 26 (.nilslice) [.val (zf zJ) ([])]:=uL
instance:iL ktab 29 (.agg [.nilslice,.nilslice,.nilslice]) [.val (zf zJ) ([]),.val (zf (zj .i64)) ([]),.val (zf (zj .i64)) ([])]:=uL
instance:iL ktab 31 (.agg [.int .i64 0,.int .i64 0,.int .i64 0,.int .i64 0,.int .i64 0,.int .i64 0,.int .i64 0,.int .i64 0,.int .i64 0,.nilslice]) [vI (0),vI (0),vI (0),vI (0),vI (0),vI (0),vI (0),vI (0),vI (0),.val (zf (zj .i64)) ([])]:=uL
instance:iL ktab 33 (.agg [.nilslice,.nilslice,.nilslice,.nilslice,.nilslice,.nilslice,.int .i64 0,.int .i64 0,.int .i64 0,.int .i64 0,.int .i64 0,.int .i64 0,.int .i64 0,.int .i64 0,.int .i64 0,.nilslice,.int .i64 0,.int .i64 0]) [.val (zf zJ) ([]),.val (zf (zj .i64)) ([]),.val (zf (zj .i64)) ([]),.val (zf zJ) ([]),.val (zf (zj .i64)) ([]),.val (zf (zj .i64)) ([]),vI (0),vI (0),vI (0),vI (0),vI (0),vI (0),vI (0),vI (0),vI (0),.val (zf (zj .i64)) ([]),vI (0),vI (0)]:=uL
instance:iL ktab 56 (.agg [.int .i64 0,.bool false,.int .i64 0,.int .i64 0,.bool false,.int .i64 0,.int .i64 0,.int .i64 0]) [vI (0),vB (false),vI (0),vI (0),vB (false),vI (0),vI (0),vI (0)]:=uL
instance:iL ktab 72 (.agg [.int .i64 0,.bool false,.int .i64 0,.int .i64 0]) [vI (0),vB (false),vI (0),vI (0)]:=uL
instance:iL ktab 98 (.agg [.int .i64 0,.int .i64 0]) [vI (0),vI (0)]:=uL
instance:iL ktab 102 (.agg [.int .i64 0,.int .i64 0,.int .i64 0,.nilslice,.int .i64 0]) [vI (0),vI (0),vI (0),.val (zf zU) ([]),vI (0)]:=uL
instance:iL ktab 105 (.agg [.int .i64 0,.int .i64 0,.nilslice,.int .i64 0,.int .i64 0]) [vI (0),vI (0),.val (zf zcE) ([]),vI (0),vI (0)]:=uL
instance:iL ktab 108 (.nilptr) [.raw (.nilptr)]:=uL
instance:iL ktab 123 (.agg [.int .i64 0,.bool false]) [vI (0),vB (false)]:=uL
instance:iL ktab 129 (.nilslice) [.val (zf (zaQ zg)) ([])]:=uL
instance:iL ktab 152 (.agg [.int .i64 0,.bool false]) [vI (0),vB (false)]:=uL
instance:iL ktab 164 (.agg [.int .i64 0,.int .i64 0,.int .i64 0,.int .i64 0,.int .i64 0,.int .i64 0]) [vI (0),vI (0),vI (0),vI (0),vI (0),vI (0)]:=uL
instance:iL ktab 166 (.agg [.int .i64 0,.int .i64 0,.int .i64 0,.int .i64 0,.int .i64 0,.int .i64 0,.int .i64 0,.int .i64 0,.int .i64 0,.int .i64 0]) [vI (0),vI (0),vI (0),vI (0),vI (0),vI (0),vI (0),vI (0),vI (0),vI (0)]:=uL
instance:iL ktab 169 (.agg [.nilslice,.nilslice,.nilslice,.nilslice,.nilslice,.nilslice]) [.raw (.nilslice),.raw (.nilslice),.raw (.nilslice),.raw (.nilslice),.raw (.nilslice),.raw (.nilslice)]:=uL
instance:iL ktab 191 (.agg [.int .i64 0,.int .i64 0]) [vI (0),vI (0)]:=uL
instance:iL ktab 219 (.agg [.int .i64 0,.int .i64 0,.int .i64 0,.int .i64 0,.int .i64 0,.int .i64 0,.int .i64 0,.int .i64 0,.int .i64 0,.int .i64 0]) [vI (0),vI (0),vI (0),vI (0),vI (0),vI (0),vI (0),vI (0),vI (0),vI (0)]:=uL
instance:iL ktab 224 (.agg [.int .i64 0,.int .i64 0,.int .i64 0,.int .i64 0,.int .i64 0,.int .i64 0,.int .i64 0]) [.raw (.int .i64 0),.raw (.int .i64 0),.raw (.int .i64 0),.raw (.int .i64 0),.raw (.int .i64 0),.raw (.int .i64 0),.raw (.int .i64 0)]:=uL
instance:iL ktab 238 (.agg [.nilslice,.nilslice,.nilslice,.int .i64 0,.int .i64 0,.int .i64 0,.int .i64 0,.int .i64 0,.int .i64 0,.int .i64 0,.int .i64 0,.int .i64 0,.nilslice,.int .i64 0,.int .i64 0]) [.val (zf zb7) ([]),.val (zf zd4) ([]),.val (zf zJ) ([]),vI (0),vI (0),vI (0),vI (0),vI (0),vI (0),vI (0),vI (0),vI (0),.val (zf (zj .i64)) ([]),vI (0),vI (0)]:=uL
instance:iL ktab 265 (.agg [.int .i64 0,.int .i64 0,.int .i64 0,.int .i64 0]) [.raw (.int .i64 0),.raw (.int .i64 0),.raw (.int .i64 0),.raw (.int .i64 0)]:=uL
instance:iL ktab 290 (.agg [.nilfunc,.nilfunc,.nilfunc,.nilfunc,.nilfunc,.nilfunc,.nilfunc]) [.raw (.nilfunc),.raw (.nilfunc),.raw (.nilfunc),.raw (.nilfunc),.raw (.nilfunc),.raw (.nilfunc),.raw (.nilfunc)]:=uL
end Go.Ai.TabYtppebpagcocogaaGreat

/- What the rows of this seat ask,of the abstract interpreter. -/
namespace Go.Ai.TabYtppebpagcocogaaGreat
open Go Go.Ai Go.Ai.Sx Go.Proofs Go.Proofs.YtppebpagcocogaaGreat
theorem own:ownKnob Tryz.prog.godebug=none:=by kernel_rfl
theorem zgR:laidOutB Tryz.prog=true:=by kernel_rfl
theorem begun:decide (Tryz.prog.globals.size<(begin Tryz.prog (fun _ _=>0) default).world.heap.size)=true:=by kernel_rfl
theorem zjp {W:World} (h:W.ShapedOpen Tryz.prog):0<W.heap.size:=by
 obtain ⟨o,_,ho,_⟩:=h.2 Tryz.prog.globals.size (Nat.le_refl _) (of_decide_eq_true begun);have:=(Array.getElem?_eq_some_iff.1 ho).1;omega
theorem zz {P:Program} {A B:Type} {f:Field} {fs:List Field} {o:Nat} {t:TypeId} {R:Rep A} {S:Rep B} (hf:f.offset=o) (ht:f.type=t) (ho:Opens P t R) (hs:zld P fs (o+R.sz) S):zld P (f::fs) o (zK R S):=by
 subst ht;exact zol hf ho hs
noncomputable def zuj:Array Field:=match Tryz.t97.desc with | .struct fs=>fs | _=>#[]
noncomputable def zwG:Field:=zuj[0]!
noncomputable def zwH:Field:=zuj[1]!
noncomputable def zpm:Array Field:=match Tryz.t122.desc with | .struct fs=>fs | _=>#[]
noncomputable def zuk:Field:=zpm[0]!
noncomputable def zul:Field:=zpm[1]!
noncomputable def zlm:Array Field:=match Tryz.t101.desc with | .struct fs=>fs | _=>#[]
noncomputable def zum:Field:=zlm[0]!
noncomputable def zun:Field:=zlm[1]!
noncomputable def zuo:Field:=zlm[2]!
noncomputable def zup:Field:=zlm[3]!
noncomputable def zkg:Array Field:=match Tryz.t104.desc with | .struct fs=>fs | _=>#[]
noncomputable def zuq:Field:=zkg[0]!
noncomputable def zur:Field:=zkg[1]!
noncomputable def zus:Field:=zkg[2]!
noncomputable def zut:Field:=zkg[3]!
noncomputable def zuu:Field:=zkg[4]!
noncomputable def zuv:Array Field:=match Tryz.t24.desc with | .struct fs=>fs | _=>#[]
noncomputable def zwI:Field:=zuv[0]!
noncomputable def zwJ:Field:=zuv[1]!
noncomputable def zpn:Array Field:=match Tryz.t151.desc with | .struct fs=>fs | _=>#[]
noncomputable def zuw:Field:=zpn[0]!
noncomputable def zux:Field:=zpn[1]!
noncomputable def zrU:Array Field:=match Tryz.t28.desc with | .struct fs=>fs | _=>#[]
noncomputable def zwK:Field:=zrU[0]!
noncomputable def zwL:Field:=zrU[1]!
noncomputable def zwM:Field:=zrU[2]!
noncomputable def zja:Array Field:=match Tryz.t30.desc with | .struct fs=>fs | _=>#[]
noncomputable def zwN:Field:=zja[0]!
noncomputable def zwO:Field:=zja[1]!
noncomputable def zwP:Field:=zja[2]!
noncomputable def zwQ:Field:=zja[3]!
noncomputable def zwR:Field:=zja[4]!
noncomputable def zwS:Field:=zja[5]!
noncomputable def zwT:Field:=zja[6]!
noncomputable def zwU:Field:=zja[7]!
noncomputable def zwV:Field:=zja[8]!
noncomputable def zwW:Field:=zja[9]!
noncomputable def zoF:Array Field:=match Tryz.t32.desc with | .struct fs=>fs | _=>#[]
noncomputable def zwX:Field:=zoF[0]!
noncomputable def zwY:Field:=zoF[1]!
noncomputable def zwZ:Field:=zoF[2]!
noncomputable def zw0:Field:=zoF[3]!
noncomputable def zw1:Field:=zoF[4]!
noncomputable def zrV:Array Field:=match Tryz.t49.desc with | .struct fs=>fs | _=>#[]
noncomputable def zw2:Field:=zrV[0]!
noncomputable def zw3:Field:=zrV[1]!
noncomputable def zw4:Field:=zrV[2]!
noncomputable def zkK:Array Field:=match Tryz.t55.desc with | .struct fs=>fs | _=>#[]
noncomputable def zw5:Field:=zkK[0]!
noncomputable def zw6:Field:=zkK[1]!
noncomputable def zw7:Field:=zkK[2]!
noncomputable def zw8:Field:=zkK[3]!
noncomputable def zw9:Field:=zkK[4]!
noncomputable def zxa:Field:=zkK[5]!
noncomputable def zxb:Field:=zkK[6]!
noncomputable def zxc:Field:=zkK[7]!
noncomputable def zrW:Array Field:=match Tryz.t69.desc with | .struct fs=>fs | _=>#[]
noncomputable def zxd:Field:=zrW[0]!
noncomputable def zxe:Field:=zrW[1]!
noncomputable def zxf:Field:=zrW[2]!
theorem o3:Opens Tryz.prog 3 (zj .i64):=znd (by kernel_rfl) (by kernel_rfl)
theorem o98:Opens Tryz.prog 98 zcE:=zbr (fs:=zuj) (by kernel_rfl) (by kernel_rfl) rfl (by
 rw [show zuj.toList=[zwG,zwH] by kernel_rfl];exact (zz (by kernel_rfl) (by kernel_rfl) o3 (zz (by kernel_rfl) (by kernel_rfl) o3 (zcr _))))
theorem o99:Opens Tryz.prog 99 (zj .i64):=znd (by kernel_rfl) (by kernel_rfl)
theorem o4:Opens Tryz.prog 4 zab:=zqe (by kernel_rfl) (by kernel_rfl)
theorem zBf:Opens Tryz.prog 123 zU:=zbr (fs:=zpm) (by kernel_rfl) (by kernel_rfl) rfl (by
 rw [show zpm.toList=[zuk,zul] by kernel_rfl];exact (zz (by kernel_rfl) (by kernel_rfl) o3 (zz (by kernel_rfl) (by kernel_rfl) o4 (zcr _))))
theorem zBg:Opens Tryz.prog 100 (zf zU):=zc0 (by kernel_rfl) (by kernel_rfl) zBf (by decide)
theorem zBh:Opens Tryz.prog 102 zb7:=zbr (fs:=zlm) (by kernel_rfl) (by kernel_rfl) rfl (by
 rw [show zlm.toList=[zum,zun,zuo,zup] by kernel_rfl];exact (zz (by kernel_rfl) (by kernel_rfl) o98 (zz (by kernel_rfl) (by kernel_rfl) o99 (zz (by kernel_rfl) (by kernel_rfl) zBg (zz (by kernel_rfl) (by kernel_rfl) o3 (zcr _))))))
theorem o22:Opens Tryz.prog 22 (zf zb7):=zc0 (by kernel_rfl) (by kernel_rfl) zBh (by decide)
theorem zBi:Opens Tryz.prog 103 (zf zcE):=zc0 (by kernel_rfl) (by kernel_rfl) o98 (by decide)
theorem zBj:Opens Tryz.prog 105 zd4:=zbr (fs:=zkg) (by kernel_rfl) (by kernel_rfl) rfl (by
 rw [show zkg.toList=[zuq,zur,zus,zut,zuu] by kernel_rfl];exact (zz (by kernel_rfl) (by kernel_rfl) o3 (zz (by kernel_rfl) (by kernel_rfl) o3 (zz (by kernel_rfl) (by kernel_rfl) zBi (zz (by kernel_rfl) (by kernel_rfl) o3 (zz (by kernel_rfl) (by kernel_rfl) o3 (zcr _)))))))
theorem o23:Opens Tryz.prog 23 (zf zd4):=zc0 (by kernel_rfl) (by kernel_rfl) zBj (by decide)
theorem o25:Opens Tryz.prog 25 zaf:=zbr (fs:=zuv) (by kernel_rfl) (by kernel_rfl) rfl (by
 rw [show zuv.toList=[zwI,zwJ] by kernel_rfl];exact (zz (by kernel_rfl) (by kernel_rfl) o22 (zz (by kernel_rfl) (by kernel_rfl) o23 (zcr _))))
theorem zBk:Opens Tryz.prog 152 zJ:=zbr (fs:=zpn) (by kernel_rfl) (by kernel_rfl) rfl (by
 rw [show zpn.toList=[zuw,zux] by kernel_rfl];exact (zz (by kernel_rfl) (by kernel_rfl) o3 (zz (by kernel_rfl) (by kernel_rfl) o4 (zcr _))))
theorem o26:Opens Tryz.prog 26 (zf zJ):=zc0 (by kernel_rfl) (by kernel_rfl) zBk (by decide)
theorem o27:Opens Tryz.prog 27 (zf (zj .i64)):=zc0 (by kernel_rfl) (by kernel_rfl) o3 (by decide)
theorem o29:Opens Tryz.prog 29 zcF:=zbr (fs:=zrU) (by kernel_rfl) (by kernel_rfl) rfl (by
 rw [show zrU.toList=[zwK,zwL,zwM] by kernel_rfl];exact (zz (by kernel_rfl) (by kernel_rfl) o26 (zz (by kernel_rfl) (by kernel_rfl) o27 (zz (by kernel_rfl) (by kernel_rfl) o27 (zcr _)))))
theorem o31:Opens Tryz.prog 31 zbR:=zbr (fs:=zja) (by kernel_rfl) (by kernel_rfl) rfl (by
 rw [show zja.toList=[zwN,zwO,zwP,zwQ,zwR,zwS,zwT,zwU,zwV,zwW] by kernel_rfl];exact (zz (by kernel_rfl) (by kernel_rfl) o3 (zz (by kernel_rfl) (by kernel_rfl) o3 (zz (by kernel_rfl) (by kernel_rfl) o3 (zz (by kernel_rfl) (by kernel_rfl) o3 (zz (by kernel_rfl) (by kernel_rfl) o3 (zz (by kernel_rfl) (by kernel_rfl) o3 (zz (by kernel_rfl) (by kernel_rfl) o3 (zz (by kernel_rfl) (by kernel_rfl) o3 (zz (by kernel_rfl) (by kernel_rfl) o3 (zz (by kernel_rfl) (by kernel_rfl) o27 (zcr _))))))))))))
theorem o33:Opens Tryz.prog 33 zbK:=zbr (fs:=zoF) (by kernel_rfl) (by kernel_rfl) rfl (by
 rw [show zoF.toList=[zwX,zwY,zwZ,zw0,zw1] by kernel_rfl];exact (zz (by kernel_rfl) (by kernel_rfl) o29 (zz (by kernel_rfl) (by kernel_rfl) o29 (zz (by kernel_rfl) (by kernel_rfl) o31 (zz (by kernel_rfl) (by kernel_rfl) o3 (zz (by kernel_rfl) (by kernel_rfl) o3 (zcr _)))))))
theorem o48:Opens Tryz.prog 48 (zf zbK):=zc0 (by kernel_rfl) (by kernel_rfl) o33 (by decide)
theorem o50:Opens Tryz.prog 50 zac:=zbr (fs:=zrV) (by kernel_rfl) (by kernel_rfl) rfl (by
 rw [show zrV.toList=[zw2,zw3,zw4] by kernel_rfl];exact (zz (by kernel_rfl) (by kernel_rfl) o48 (zz (by kernel_rfl) (by kernel_rfl) o27 (zz (by kernel_rfl) (by kernel_rfl) o27 (zcr _)))))
theorem o56:Opens Tryz.prog 56 zL:=zbr (fs:=zkK) (by kernel_rfl) (by kernel_rfl) rfl (by
 rw [show zkK.toList=[zw5,zw6,zw7,zw8,zw9,zxa,zxb,zxc] by kernel_rfl];exact (zz (by kernel_rfl) (by kernel_rfl) o3 (zz (by kernel_rfl) (by kernel_rfl) o4 (zz (by kernel_rfl) (by kernel_rfl) o3 (zz (by kernel_rfl) (by kernel_rfl) o3 (zz (by kernel_rfl) (by kernel_rfl) o4 (zz (by kernel_rfl) (by kernel_rfl) o3 (zz (by kernel_rfl) (by kernel_rfl) o3 (zz (by kernel_rfl) (by kernel_rfl) o3 (zcr _))))))))))
theorem o53:Opens Tryz.prog 53 (zf zL):=zc0 (by kernel_rfl) (by kernel_rfl) o56 (by decide)
theorem o70:Opens Tryz.prog 70 zcu:=zbr (fs:=zrW) (by kernel_rfl) (by kernel_rfl) rfl (by
 rw [show zrW.toList=[zxd,zxe,zxf] by kernel_rfl];exact (zz (by kernel_rfl) (by kernel_rfl) o3 (zz (by kernel_rfl) (by kernel_rfl) o3 (zz (by kernel_rfl) (by kernel_rfl) o3 (zcr _)))))
theorem o68:Opens Tryz.prog 68 (zf zcu):=zc0 (by kernel_rfl) (by kernel_rfl) o70 (by decide)
theorem zbe {a b:Bool} (h:a=true) (k:b=true):(a&&b)=true:=by rw [h,k]; rfl
set_option maxRecDepth 100000 in
theorem zpo:mapsRowed Tryz.prog=true:=by kernel_rfl
set_option maxRecDepth 100000 in
theorem zma:(Tryz.prog.stops==[])=true:=by kernel_rfl
set_option maxRecDepth 100000 in
theorem zmb:(Tryz.prog.stopKnobs==[])=true:=by kernel_rfl
set_option maxRecDepth 100000 in
theorem zmc:(Rows.serviceOffsetsRow.plainKeys==Tryz.prog.plainKeys)=true:=by kernel_rfl
set_option maxRecDepth 100000 in
theorem zmd:Tryz.prog.stopsHeard=true:=by kernel_rfl
set_option maxRecDepth 100000 in
theorem zme:Tryz.prog.mayEnter=true:=by kernel_rfl
set_option maxRecDepth 100000 in
theorem zpp:(Rows.serviceOffsetsRow.lifted==Tryz.prog.liftsFinal)=true:=by kernel_rfl
set_option maxRecDepth 100000 in
theorem zpq:(Tryz.prog.make==some Rows.serviceOffsetsRow.make)=true:=by kernel_rfl
end Go.Ai.TabYtppebpagcocogaaGreat
