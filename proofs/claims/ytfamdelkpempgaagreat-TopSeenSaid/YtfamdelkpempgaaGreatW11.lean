/- Written by program: the facts of the tables,and the walks through the functions. -/
import Derived.Test.YtfamdelkpempgaaGreatW8
import Derived.Test.YtfamdelkpempgaaGreatW9
import Derived.KernelRfl
import Derived.Test.YtfamdelkpempgaaGreatW10
import Derived.Test.YtfamdelkpempgaaGreatW5
import Derived.Test.YtfamdelkpempgaaGreatRows
import Derived.WalkKit
import Derived.ProofKit
import Derived.JoinedOf
set_option linter.unusedSimpArgs false
set_option linter.unusedVariables false
set_option linter.unusedSectionVars false
noncomputable section
open Option renaming some→Ob,none→Oe
open Bool renaming false→Oc,true→Od
namespace Go.Ai.TabYtfamdelkpempgaaGreat
open Go Go.Ai Go.Ai.Sx Go.Proofs
attribute [local irreducible] zr
def zva:=FL Tryz.t186.desc
def zpc:=FL Tryz.t214.desc
def zCi:=FL Tryz.t142.desc
def zCj:=FL Tryz.t137.desc
def zCk:=FL Tryz.t279.desc
def zCl:=FL Tryz.t110.desc
def zAL:=FL Tryz.t43.desc
def zxw:=FL Tryz.t134.desc
def zxx:Field:=zva[0]!
def zxy:Field:=zva[1]!
def zpd:Field:=zpc[0]!
def zpe:Field:=zpc[1]!
def zzZ:Field:=zAL[2]!
def zz0:Field:=zAL[1]!
def zz1:Field:=zAL[0]!
def zxz:Field:=zxw[1]!
def zxA:Field:=zxw[0]!
theorem zCm:Und ktab 108 (ze (zhG 2 zE)):=⟨by kernel_rfl,by kernel_rfl⟩
theorem U27:Und ktab 27 (ze (zi .i64)):=⟨by kernel_rfl,by kernel_rfl⟩
theorem U36:Und ktab 36 (ze z8):=⟨by kernel_rfl,by kernel_rfl⟩
theorem U40:Und ktab 40 (ze zjJ):=⟨by kernel_rfl,by kernel_rfl⟩
theorem zz2:Mp ktab 109 zbi 27:=⟨⟨187,by kernel_rfl,zsx (fs:=zva) Z Z rfl (by rw [show zva.toList=[zxx,zxy] by kernel_rfl]; exact (zp3 Z Z Z (zp3 Z Z Z zsv)))⟩⟩
theorem zxB:Mp ktab 136 zZ 3:=⟨⟨215,by kernel_rfl,zsx (fs:=zpc) Z Z rfl (by rw [show zpc.toList=[zpd,zpe] by kernel_rfl]; exact (zp3 Z Z Z (zsw Z Z Z zsv)))⟩⟩
theorem zxC:Mp ktab 264 zZ 4:=⟨⟨215,by kernel_rfl,zsx (fs:=zpc) Z Z rfl (by rw [show zpc.toList=[zpd,zpe] by kernel_rfl]; exact (zp3 Z Z Z (zsw Z Z Z zsv)))⟩⟩
theorem zCn:Stt ktab 143 [.nsz,.nsz,.nsz,.nsz,.nsz,.nsz,.int .i64 0,.int .i64 0,.int .i64 0,.int .i64 0,.int .i64 0,.int .i64 0,.int .i64 0,.int .i64 0,.int .i64 0,.nsz,.int .i64 0,.int .i64 0,.nsz,.nsz,.nsz,.nsz] [(0,18),(18,2),(20,2)]:=⟨by kernel_rfl,⟨zCi,by kernel_rfl,by kernel_rfl⟩⟩
theorem zBs:Stt ktab 138 [.nsz,.nsz,.nsz,.nm] [(0,2),(2,1),(3,1)]:=⟨by kernel_rfl,⟨zCj,by kernel_rfl,by kernel_rfl⟩⟩
theorem zBt:Stt ktab 280 [.nq,.nsz,.nsz,.nsz,.nsz,.nsz] [(0,1),(1,1),(2,1),(3,1),(4,1),(5,1)]:=⟨by kernel_rfl,⟨zCk,by kernel_rfl,by kernel_rfl⟩⟩
theorem zBu:Stt ktab 111 [.nsz,.nsz,.nsz,.nsz,.nsz,.nsz,.int .i64 0,.int .i64 0,.nsz,.nsz,.nsz,.nm] [(0,9),(9,1),(10,1),(11,1)]:=⟨by kernel_rfl,⟨zCl,by kernel_rfl,by kernel_rfl⟩⟩
theorem E44:SEq ktab 44 zjJ (λx y=>x==y):=⟨⟨zAL,by kernel_rfl,by rw [show zAL.toList=[zz1,zz0,zzZ] by kernel_rfl]; exact (.i (of_decide_eq_true Z) Z Z (.i (of_decide_eq_true Z) Z Z (.i (of_decide_eq_true Z) Z Z .n)))⟩,by kernel_rfl,by kernel_rfl⟩
theorem zCy:SEq ktab 135 zT (λx y=>x==y):=⟨⟨zxw,by kernel_rfl,by rw [show zxw.toList=[zxA,zxz] by kernel_rfl]; exact (.i (of_decide_eq_true Z) Z Z (.b (of_decide_eq_true Z) Z Z .n))⟩,by kernel_rfl,by kernel_rfl⟩
theorem zCz:SEq ktab 215 zZ (λx y=>x==y):=⟨⟨zpc,by kernel_rfl,by rw [show zpc.toList=[zpd,zpe] by kernel_rfl]; exact (.i (of_decide_eq_true Z) Z Z (.b (of_decide_eq_true Z) Z Z .n))⟩,by kernel_rfl,by kernel_rfl⟩
instance:iK ktab 3 (.int .i64):=uK
instance:iK ktab 5 (.int .u8):=uK
instance:iK ktab 317 (.int .u64):=uK
instance:iK ktab 351 (.int .u64):=uK
instance:iU ktab 105 (zaO z7):=uU
instance:iU ktab 108 (ze (zhG 2 zE)):=uU
instance:iU ktab 109 (zoC zbi (ze (zi .i64))):=uU
instance:iU ktab 122 (zaO zk):=uU
instance:iU ktab 129 (zaO zai):=uU
instance:iU ktab 135 zT:=uU
instance:iU ktab 136 (zoC zZ (zi .i64)):=uU
instance:iU ktab 160 zC:=uU
instance:iU ktab 162 zgE:=uU
instance:iU ktab 183 zE:=uU
instance:iU ktab 184 (zhG 2 zE):=uU
instance:iU ktab 187 zbi:=uU
instance:iU ktab 203 (ze zcP):=uU
instance:iU ktab 205 zdO:=uU
instance:iU ktab 209 zcP:=uU
instance:iU ktab 210 (zi .i64):=uU
instance:iU ktab 211 (ze zZ):=uU
instance:iU ktab 213 zbZ:=uU
instance:iU ktab 215 zZ:=uU
instance:iU ktab 22 (ze zbZ):=uU
instance:iU ktab 23 (ze zdO):=uU
instance:iU ktab 237 (zaO zaH):=uU
instance:iU ktab 241 zx:=uU
instance:iU ktab 25 zbI:=uU
instance:iU ktab 26 (ze zdP):=uU
instance:iU ktab 27 (ze (zi .i64)):=uU
instance:iU ktab 276 (zaO zR):=uU
instance:iU ktab 281 (rFn ktab zd Int (λx=>[.val zx x]) (λy=>[.val (zi .i64) y])):=uU
instance:iU ktab 283 zaX:=uU
instance:iU ktab 29 zd6:=uU
instance:iU ktab 3 (zi .i64):=uU
instance:iU ktab 30 (ze zc6):=uU
instance:iU ktab 301 zay:=uU
instance:iU ktab 31 (ze za5):=uU
instance:iU ktab 318 (rFn ktab (zaG×Int×Int) Bool (λx=>[.val zay x.1,.val (zi .i64) x.2.1,.val (zi .i64) x.2.2]) (λy=>[.val zaS y])):=uU
instance:iU ktab 326 zam:=uU
instance:iU ktab 33 zlR:=uU
instance:iU ktab 36 (ze z8):=uU
instance:iU ktab 4 zaS:=uU
instance:iU ktab 40 (ze zjJ):=uU
instance:iU ktab 44 zjJ:=uU
instance:iU ktab 45 zc6:=uU
instance:iU ktab 48 z8:=uU
instance:iU ktab 49 (ze zT):=uU
instance:iU ktab 51 zb0:=uU
instance:iU ktab 59 zb1:=uU
instance:iU ktab 61 zdP:=uU
instance:iU ktab 86 za5:=uU
instance:iS ktab 22 zbZ 213:=uS
instance:iS ktab 23 zdO 205:=uS
instance:iS ktab 26 zdP 61:=uS
instance:iS ktab 27 (zi .i64) 3:=uS
instance:iS ktab 30 zc6 45:=uS
instance:iS ktab 31 za5 86:=uS
instance:iS ktab 36 z8 48:=uS
instance:iS ktab 40 zjJ 44:=uS
instance:iS ktab 49 zT 135:=uS
instance:iS ktab 53 ze7 63:=uS
instance:iS ktab 108 (zhG 2 zE) 184:=uS
instance:iS ktab 117 (zaO zk) 122:=uS
instance:iS ktab 121 (ze z8) 36:=uS
instance:iS ktab 155 zgE 162:=uS
instance:iS ktab 203 zcP 209:=uS
instance:iS ktab 211 zZ 215:=uS
instance:iS ktab 295 (ze zcP) 203:=uS
instance:iS ktab 316 zC 160:=uS
instance:iY ktab 3 (zi .i64) 8:=uY
instance:iY ktab 36 (ze z8) 24:=uY
instance:iY ktab 44 zjJ 24:=uY
instance:iY ktab 48 z8 32:=uY
instance:iY ktab 63 ze7 24:=uY
instance:iY ktab 122 (zaO zk) 8:=uY
instance:iY ktab 135 zT 16:=uY
instance:iY ktab 160 zC 48:=uY
instance:iY ktab 162 zgE 80:=uY
instance:iY ktab 184 (zhG 2 zE) 192:=uY
instance:iY ktab 203 (ze zcP) 24:=uY
instance:iY ktab 205 zdO 56:=uY
instance:iY ktab 209 zcP 16:=uY
instance:iY ktab 213 zbZ 56:=uY
instance:iY ktab 215 zZ 16:=uY
instance:iZ ktab 3 (zi .i64) 0:=uZ (zv:=.int .i64 0) (λ_=>⟨zint,rfl⟩)
instance:iZ ktab 4 zaS Oc:=uZ (zv:=.bool Oc) (λ_=>⟨zbool,rfl⟩)
instance:iZ ktab 48 z8 (0,Oc,0,0,()):=uZ (zv:=.agg [.int .i64 0,.bool Oc,.int .i64 0,.int .i64 0]) (λ_=>⟨zpair zint (zpair zbool (zpair zint (zpair zint zunit rfl) rfl) rfl) rfl,rfl⟩)
instance:iZ ktab 209 zcP (0,0,()):=uZ (zv:=.agg [.int .i64 0,.int .i64 0]) (λ_=>⟨zpair zint (zpair zint zunit rfl) rfl,rfl⟩)
instance:iB ktab 25 zbI [.nsz,.nsz] [(0,1),(1,1)]:=uB
instance:iB ktab 44 zjJ [.int .i64 0,.int .i64 0,.int .i64 0] [(0,1),(1,1),(2,1)]:=uB
instance:iB ktab 48 z8 [.int .i64 0,.bool Oc,.int .i64 0,.int .i64 0] [(0,1),(1,1),(2,1),(3,1)]:=uB
instance:iB ktab 51 zb0 [.nsz,.nsz,.nsz] [(0,1),(1,1),(2,1)]:=uB
instance:iB ktab 59 zb1 [.int .i64 0,.int .i64 0,.int .i64 0,.int .i64 0,.int .i64 0,.int .i64 0,.int .i64 0,.int .i64 0,.int .i64 0,.nsz] [(0,1),(1,1),(2,1),(3,1),(4,1),(5,1),(6,1),(7,1),(8,1),(9,1)]:=uB
instance:iB ktab 61 zdP [.nsz,.nsz,.nsz,.nsz,.nsz,.nsz,.int .i64 0,.int .i64 0,.int .i64 0,.int .i64 0,.int .i64 0,.int .i64 0,.int .i64 0,.int .i64 0,.int .i64 0,.nsz,.int .i64 0,.int .i64 0] [(0,3),(3,3),(6,10),(16,1),(17,1)]:=uB
instance:iB ktab 63 ze7 [.int .i64 0,.int .i64 0,.int .i64 0] [(0,1),(1,1),(2,1)]:=uB
instance:iB ktab 135 zT [.int .i64 0,.bool Oc] [(0,1),(1,1)]:=uB
instance:iB ktab 160 zC [.int .i64 0,.int .i64 0,.int .i64 0,.int .i64 0,.int .i64 0,.int .i64 0] [(0,1),(1,1),(2,1),(3,1),(4,1),(5,1)]:=uB
instance:iB ktab 183 zE [.nsz,.nsz,.nsz,.nsz] [(0,3),(3,1)]:=uB
instance:iB ktab 187 zbi [.int .i64 0,.int .i64 0] [(0,1),(1,1)]:=uB
instance:iB ktab 205 zdO [.int .i64 0,.int .i64 0,.nsz,.int .i64 0,.int .i64 0] [(0,1),(1,1),(2,1),(3,1),(4,1)]:=uB
instance:iB ktab 209 zcP [.int .i64 0,.int .i64 0] [(0,1),(1,1)]:=uB
instance:iB ktab 213 zbZ [.int .i64 0,.int .i64 0,.int .i64 0,.nsz,.int .i64 0] [(0,2),(2,1),(3,1),(4,1)]:=uB
instance:iB ktab 215 zZ [.int .i64 0,.bool Oc] [(0,1),(1,1)]:=uB
instance:iB ktab 241 zx [.int .i64 0,.int .i64 0] [(0,1),(1,1)]:=uB
instance:iB ktab 301 zay [.int .i64 0,.int .i64 0,.int .i64 0,.nsz,.int .i64 0] [(0,5)]:=uB
instance:iB ktab 313 zR [.int .i64 0,.int .i64 0,.int .i64 0,.int .i64 0,.int .i64 0,.int .i64 0,.int .i64 0,.int .i64 0,.int .i64 0,.nsz,.int .i64 0] [(0,10),(10,1)]:=uB
instance:iB ktab 326 zam [.nsz,.nsz,.nsz,.int .i64 0,.int .i64 0,.int .i64 0,.int .i64 0,.int .i64 0,.int .i64 0,.int .i64 0,.int .i64 0,.int .i64 0,.nsz,.int .i64 0,.int .i64 0] [(0,2),(2,1),(3,10),(13,1),(14,1)]:=uB
instance:iF ktab 25 0 zbI (ze zbZ) 22 0 (λx=>x.1) wh:=uF fh
instance:iF ktab 25 1 zbI (ze zdO) 23 1 (λx=>x.2.1) (wt wh):=uF (ft' fh)
instance:iF ktab 29 0 zd6 (ze zdP) 26 0 (λx=>x.1) wh:=uF fh
instance:iF ktab 29 1 zd6 (ze (zi .i64)) 27 1 (λx=>x.2.1) (wt wh):=uF (ft' fh)
instance:iF ktab 29 2 zd6 (ze (zi .i64)) 27 2 (λx=>x.2.2.1) (wt (wt wh)):=uF (ft' (ft' fh))
instance:iF ktab 33 0 zlR zbI 25 0 (λx=>x.1) wh:=uF fh
instance:iF ktab 33 1 zlR zd6 29 2 (λx=>x.2.1) (wt wh):=uF (ft' fh)
instance:iF ktab 33 2 zlR (ze zc6) 30 5 (λx=>x.2.2.1) (wt (wt wh)):=uF (ft' (ft' fh))
instance:iF ktab 33 3 zlR (zi .i64) 3 6 (λx=>x.2.2.2.1) (wt (wt (wt wh))):=uF (ft' (ft' (ft' fh)))
instance:iF ktab 33 4 zlR (zi .i64) 3 7 (λx=>x.2.2.2.2.1) (wt (wt (wt (wt wh)))):=uF (ft' (ft' (ft' (ft' fh))))
instance:iF ktab 33 5 zlR (ze za5) 31 8 (λx=>x.2.2.2.2.2.1) (wt (wt (wt (wt (wt wh))))):=uF (ft' (ft' (ft' (ft' (ft' fh)))))
instance:iF ktab 45 0 zc6 (zi .i64) 3 0 (λx=>x.1) wh:=uF fh
instance:iF ktab 45 1 zc6 (zi .i64) 3 1 (λx=>x.2.1) (wt wh):=uF (ft' fh)
instance:iF ktab 45 2 zc6 (zi .i64) 3 2 (λx=>x.2.2.1) (wt (wt wh)):=uF (ft' (ft' fh))
instance:iF ktab 48 0 z8 (zi .i64) 3 0 (λx=>x.1) wh:=uF fh
instance:iF ktab 48 1 z8 zaS 4 1 (λx=>x.2.1) (wt wh):=uF (ft' fh)
instance:iF ktab 48 2 z8 (zi .i64) 3 2 (λx=>x.2.2.1) (wt (wt wh)):=uF (ft' (ft' fh))
instance:iF ktab 48 3 z8 (zi .i64) 3 3 (λx=>x.2.2.2.1) (wt (wt (wt wh))):=uF (ft' (ft' (ft' fh)))
instance:iF ktab 51 0 zb0 (ze zT) 49 0 (λx=>x.1) wh:=uF fh
instance:iF ktab 51 1 zb0 (ze (zi .i64)) 27 1 (λx=>x.2.1) (wt wh):=uF (ft' fh)
instance:iF ktab 51 2 zb0 (ze (zi .i64)) 27 2 (λx=>x.2.2.1) (wt (wt wh)):=uF (ft' (ft' fh))
instance:iF ktab 59 0 zb1 (zi .i64) 3 0 (λx=>x.1) wh:=uF fh
instance:iF ktab 59 1 zb1 (zi .i64) 3 1 (λx=>x.2.1) (wt wh):=uF (ft' fh)
instance:iF ktab 59 2 zb1 (zi .i64) 3 2 (λx=>x.2.2.1) (wt (wt wh)):=uF (ft' (ft' fh))
instance:iF ktab 59 3 zb1 (zi .i64) 3 3 (λx=>x.2.2.2.1) (wt (wt (wt wh))):=uF (ft' (ft' (ft' fh)))
instance:iF ktab 59 4 zb1 (zi .i64) 3 4 (λx=>x.2.2.2.2.1) (wt (wt (wt (wt wh)))):=uF (ft' (ft' (ft' (ft' fh))))
instance:iF ktab 59 5 zb1 (zi .i64) 3 5 (λx=>x.2.2.2.2.2.1) (wt (wt (wt (wt (wt wh))))):=uF (ft' (ft' (ft' (ft' (ft' fh)))))
instance:iF ktab 59 6 zb1 (zi .i64) 3 6 (λx=>x.2.2.2.2.2.2.1) (wt (wt (wt (wt (wt (wt wh)))))):=uF (ft' (ft' (ft' (ft' (ft' (ft' fh))))))
instance:iF ktab 59 7 zb1 (zi .i64) 3 7 (λx=>x.2.2.2.2.2.2.2.1) (wt (wt (wt (wt (wt (wt (wt wh))))))):=uF (ft' (ft' (ft' (ft' (ft' (ft' (ft' fh)))))))
instance:iF ktab 59 8 zb1 (zi .i64) 3 8 (λx=>x.2.2.2.2.2.2.2.2.1) (wt (wt (wt (wt (wt (wt (wt (wt wh)))))))):=uF (ft' (ft' (ft' (ft' (ft' (ft' (ft' (ft' fh))))))))
instance:iF ktab 59 9 zb1 (ze (zi .i64)) 27 9 (λx=>x.2.2.2.2.2.2.2.2.2.1) (wt (wt (wt (wt (wt (wt (wt (wt (wt wh))))))))):=uF (ft' (ft' (ft' (ft' (ft' (ft' (ft' (ft' (ft' fh)))))))))
instance:iF ktab 61 0 zdP zb0 51 0 (λx=>x.1) wh:=uF fh
instance:iF ktab 61 1 zdP zb0 51 3 (λx=>x.2.1) (wt wh):=uF (ft' fh)
instance:iF ktab 61 2 zdP zb1 59 6 (λx=>x.2.2.1) (wt (wt wh)):=uF (ft' (ft' fh))
instance:iF ktab 61 3 zdP (zi .i64) 3 16 (λx=>x.2.2.2.1) (wt (wt (wt wh))):=uF (ft' (ft' (ft' fh)))
instance:iF ktab 61 4 zdP (zi .i64) 3 17 (λx=>x.2.2.2.2.1) (wt (wt (wt (wt wh)))):=uF (ft' (ft' (ft' (ft' fh))))
instance:iF ktab 63 0 ze7 (zi .i64) 3 0 (λx=>x.1) wh:=uF fh
instance:iF ktab 86 0 za5 (zi .i64) 3 0 (λx=>x.1) wh:=uF fh
instance:iF ktab 86 1 za5 zaS 4 1 (λx=>x.2.1) (wt wh):=uF (ft' fh)
instance:iF ktab 86 2 za5 (zi .i64) 3 2 (λx=>x.2.2.1) (wt (wt wh)):=uF (ft' (ft' fh))
instance:iF ktab 86 3 za5 (zi .i64) 3 3 (λx=>x.2.2.2.1) (wt (wt (wt wh))):=uF (ft' (ft' (ft' fh)))
instance:iF ktab 86 4 za5 (zi .i64) 3 4 (λx=>x.2.2.2.2.1) (wt (wt (wt (wt wh)))):=uF (ft' (ft' (ft' (ft' fh))))
instance:iF ktab 111 0 z7 zlR 33 0 (λx=>x.1) wh:=uF fh
instance:iF ktab 111 1 z7 (ze (zhG 2 zE)) 108 9 (λx=>x.2.1) (wt wh):=uF (ft' fh)
instance:iF ktab 111 2 z7 (ze z8) 36 10 (λx=>x.2.2.1) (wt (wt wh)):=uF (ft' (ft' fh))
instance:iF ktab 111 3 z7 (zoC zbi (ze (zi .i64))) 109 11 (λx=>x.2.2.2.1) (wt (wt (wt wh))):=uF (ft' (ft' (ft' fh)))
instance:iF ktab 135 0 zT (zi .i64) 3 0 (λx=>x.1) wh:=uF fh
instance:iF ktab 135 1 zT zaS 4 1 (λx=>x.2.1) (wt wh):=uF (ft' fh)
instance:iF ktab 138 0 zai zbI 25 0 (λx=>x.1) wh:=uF fh
instance:iF ktab 138 1 zai (ze (zi .i64)) 27 2 (λx=>x.2.1) (wt wh):=uF (ft' fh)
instance:iF ktab 138 2 zai (zoC zZ (zi .i64)) 136 3 (λx=>x.2.2.1) (wt (wt wh)):=uF (ft' (ft' fh))
instance:iF ktab 143 0 zk zdP 61 0 (λx=>x.1) wh:=uF fh
instance:iF ktab 143 1 zk (zhG 2 (ze (zi .i64))) 141 18 (λx=>x.2.1) (wt wh):=uF (ft' fh)
instance:iF ktab 143 2 zk (zhG 2 (ze (zi .i64))) 141 20 (λx=>x.2.2.1) (wt (wt wh)):=uF (ft' (ft' fh))
instance:iF ktab 160 0 zC (zi .i64) 3 0 (λx=>x.1) wh:=uF fh
instance:iF ktab 160 1 zC (zi .i64) 3 1 (λx=>x.2.1) (wt wh):=uF (ft' fh)
instance:iF ktab 160 2 zC (zi .i64) 3 2 (λx=>x.2.2.1) (wt (wt wh)):=uF (ft' (ft' fh))
instance:iF ktab 160 3 zC (zi .i64) 3 3 (λx=>x.2.2.2.1) (wt (wt (wt wh))):=uF (ft' (ft' (ft' fh)))
instance:iF ktab 160 4 zC (zi .i64) 3 4 (λx=>x.2.2.2.2.1) (wt (wt (wt (wt wh)))):=uF (ft' (ft' (ft' (ft' fh))))
instance:iF ktab 160 5 zC (zi .i64) 3 5 (λx=>x.2.2.2.2.2.1) (wt (wt (wt (wt (wt wh))))):=uF (ft' (ft' (ft' (ft' (ft' fh)))))
instance:iF ktab 162 0 zgE (zi .i64) 3 0 (λx=>x.1) wh:=uF fh
instance:iF ktab 162 1 zgE (zi .i64) 3 1 (λx=>x.2.1) (wt wh):=uF (ft' fh)
instance:iF ktab 162 2 zgE zC 160 2 (λx=>x.2.2.1) (wt (wt wh)):=uF (ft' (ft' fh))
instance:iF ktab 162 3 zgE (zi .i64) 3 8 (λx=>x.2.2.2.1) (wt (wt (wt wh))):=uF (ft' (ft' (ft' fh)))
instance:iF ktab 162 4 zgE (zi .i64) 3 9 (λx=>x.2.2.2.2.1) (wt (wt (wt (wt wh)))):=uF (ft' (ft' (ft' (ft' fh))))
instance:iF ktab 183 0 zE zb0 51 0 (λx=>x.1) wh:=uF fh
instance:iF ktab 183 1 zE (ze (zi .i64)) 27 3 (λx=>x.2.1) (wt wh):=uF (ft' fh)
instance:iF ktab 205 0 zdO (zi .i64) 3 0 (λx=>x.1) wh:=uF fh
instance:iF ktab 205 1 zdO (zi .i64) 3 1 (λx=>x.2.1) (wt wh):=uF (ft' fh)
instance:iF ktab 205 2 zdO (ze zcP) 203 2 (λx=>x.2.2.1) (wt (wt wh)):=uF (ft' (ft' fh))
instance:iF ktab 205 3 zdO (zi .i64) 3 3 (λx=>x.2.2.2.1) (wt (wt (wt wh))):=uF (ft' (ft' (ft' fh)))
instance:iF ktab 205 4 zdO (zi .i64) 3 4 (λx=>x.2.2.2.2.1) (wt (wt (wt (wt wh)))):=uF (ft' (ft' (ft' (ft' fh))))
instance:iF ktab 209 0 zcP (zi .i64) 3 0 (λx=>x.1) wh:=uF fh
instance:iF ktab 209 1 zcP (zi .i64) 3 1 (λx=>x.2.1) (wt wh):=uF (ft' fh)
instance:iF ktab 213 0 zbZ zcP 209 0 (λx=>x.1) wh:=uF fh
instance:iF ktab 213 1 zbZ (zi .i64) 210 2 (λx=>x.2.1) (wt wh):=uF (ft' fh)
instance:iF ktab 213 2 zbZ (ze zZ) 211 3 (λx=>x.2.2.1) (wt (wt wh)):=uF (ft' (ft' fh))
instance:iF ktab 213 3 zbZ (zi .i64) 3 4 (λx=>x.2.2.2.1) (wt (wt (wt wh))):=uF (ft' (ft' (ft' fh)))
instance:iF ktab 215 0 zZ (zi .i64) 3 0 (λx=>x.1) wh:=uF fh
instance:iF ktab 215 1 zZ zaS 4 1 (λx=>x.2.1) (wt wh):=uF (ft' fh)
instance:iF ktab 241 0 zx (zi .i64) 3 0 (λx=>x.1) wh:=uF fh
instance:iF ktab 241 1 zx (zi .i64) 3 1 (λx=>x.2.1) (wt wh):=uF (ft' fh)
instance:iF ktab 280 0 zaH (zaO zR) 276 0 (λx=>x.1) wh:=uF fh
instance:iF ktab 280 2 zaH (ze (zi .i64)) 27 2 (λx=>x.2.2.1) (wt (wt wh)):=uF (ft' (ft' fh))
instance:iF ktab 280 3 zaH (ze (zi .i64)) 27 3 (λx=>x.2.2.2.1) (wt (wt (wt wh))):=uF (ft' (ft' (ft' fh)))
instance:iF ktab 280 4 zaH (ze (zi .i64)) 27 4 (λx=>x.2.2.2.2.1) (wt (wt (wt (wt wh)))):=uF (ft' (ft' (ft' (ft' fh))))
instance:iF ktab 283 0 zaX zx 241 0 (λx=>x.1) wh:=uF fh
instance:iF ktab 283 1 zaX zC 160 2 (λx=>x.2.1) (wt wh):=uF (ft' fh)
instance:iF ktab 283 2 zaX (zi .i64) 3 8 (λx=>x.2.2.1) (wt (wt wh)):=uF (ft' (ft' fh))
instance:iF ktab 283 3 zaX (zi .i64) 3 9 (λx=>x.2.2.2.1) (wt (wt (wt wh))):=uF (ft' (ft' (ft' fh)))
instance:iF ktab 301 0 zay zbZ 213 0 (λx=>x.1) wh:=uF fh
instance:iF ktab 313 0 zR zb1 59 0 (λx=>x.1) wh:=uF fh
instance:iF ktab 313 1 zR (zi .i64) 3 10 (λx=>x.2.1) (wt wh):=uF (ft' fh)
instance:iF ktab 326 0 zam zbI 25 0 (λx=>x.1) wh:=uF fh
instance:iF ktab 326 1 zam (ze zT) 49 2 (λx=>x.2.1) (wt wh):=uF (ft' fh)
instance:iF ktab 326 2 zam zb1 59 3 (λx=>x.2.2.1) (wt (wt wh)):=uF (ft' (ft' fh))
instance:iF ktab 326 3 zam (zi .i64) 3 13 (λx=>x.2.2.2.1) (wt (wt (wt wh))):=uF (ft' (ft' (ft' fh)))
instance:iF ktab 326 4 zam (zi .i64) 3 14 (λx=>x.2.2.2.2.1) (wt (wt (wt (wt wh)))):=uF (ft' (ft' (ft' (ft' fh))))
instance:iA ktab 141 (ze (zi .i64)) 27 2:=uA
instance:iA ktab 184 zE 183 2:=uA
instance:iA ktab 185 zb0 51 2:=uA
instance:iA ktab 292 (zi .i64) 3 7:=uA
instance:iA ktab 319 (rFn ktab (zaG×Int×Int) Bool (λx=>[.val zay x.1,.val (zi .i64) x.2.1,.val (zi .i64) x.2.2]) (λy=>[.val zaS y])) 318 7:=uA
instance:iA ktab 336 (zi .i64) 3 4:=uA
instance:iA ktab 355 (rFn ktab (Int×Int×Int) Int (λx=>[.val (zi .i64) x.1,.val (zi .i64) x.2.1,.val (zi .i64) x.2.2]) (λy=>[.val (zi .i64) y])) 195 4:=uA
instance:iE ktab 44 zjJ (λx y=>x==y):=⟨E44,rfl⟩
instance:iE ktab 135 zT (λx y=>x==y):=⟨zCy,rfl⟩
instance:iE ktab 215 zZ (λx y=>x==y):=⟨zCz,rfl⟩
instance:iL ktab 3 (.int .i64 0) [vI 0]:=uL
instance:iL ktab 4 (.bool Oc) [vB Oc]:=uL
instance:iL ktab 25 (.agg [.nsz,.nsz]) [.val (ze zbZ) ([]),.val (ze zdO) ([])]:=uL
instance:iL ktab 36 (.nsz) [.raw .nsz]:=uL
instance:iL ktab 44 (.agg [.int .i64 0,.int .i64 0,.int .i64 0]) [vI 0,vI 0,vI 0]:=uL
instance:iL ktab 48 (.agg [.int .i64 0,.bool Oc,.int .i64 0,.int .i64 0]) [vI 0,vB Oc,vI 0,vI 0]:=uL
instance:iL ktab 49 (.nsz) [.val (ze zT) ([])]:=uL
instance:iL ktab 51 (.agg [.nsz,.nsz,.nsz]) [.val (ze zT) ([]),.val (ze (zi .i64)) ([]),.val (ze (zi .i64)) ([])]:=uL
instance:iL ktab 59 (.agg [.int .i64 0,.int .i64 0,.int .i64 0,.int .i64 0,.int .i64 0,.int .i64 0,.int .i64 0,.int .i64 0,.int .i64 0,.nsz]) [vI 0,vI 0,vI 0,vI 0,vI 0,vI 0,vI 0,vI 0,vI 0,.val (ze (zi .i64)) ([])]:=uL
instance:iL ktab 61 (.agg [.nsz,.nsz,.nsz,.nsz,.nsz,.nsz,.int .i64 0,.int .i64 0,.int .i64 0,.int .i64 0,.int .i64 0,.int .i64 0,.int .i64 0,.int .i64 0,.int .i64 0,.nsz,.int .i64 0,.int .i64 0]) [.val (ze zT) ([]),.val (ze (zi .i64)) ([]),.val (ze (zi .i64)) ([]),.val (ze zT) ([]),.val (ze (zi .i64)) ([]),.val (ze (zi .i64)) ([]),vI 0,vI 0,vI 0,vI 0,vI 0,vI 0,vI 0,vI 0,vI 0,.val (ze (zi .i64)) ([]),vI 0,vI 0]:=uL
instance:iL ktab 86 (.agg [.int .i64 0,.bool Oc,.int .i64 0,.int .i64 0,.int .i64 0]) [vI 0,vB Oc,vI 0,vI 0,vI 0]:=uL
instance:iL ktab 122 (.nq) [.raw (.nq)]:=uL
instance:iL ktab 135 (.agg [.int .i64 0,.bool Oc]) [vI 0,vB Oc]:=uL
instance:iL ktab 160 (.agg [.int .i64 0,.int .i64 0,.int .i64 0,.int .i64 0,.int .i64 0,.int .i64 0]) [vI 0,vI 0,vI 0,vI 0,vI 0,vI 0]:=uL
instance:iL ktab 162 (.agg [.int .i64 0,.int .i64 0,.int .i64 0,.int .i64 0,.int .i64 0,.int .i64 0,.int .i64 0,.int .i64 0,.int .i64 0,.int .i64 0]) [vI 0,vI 0,vI 0,vI 0,vI 0,vI 0,vI 0,vI 0,vI 0,vI 0]:=uL
instance:iL ktab 183 (.agg [.nsz,.nsz,.nsz,.nsz]) [.val (ze zT) ([]),.val (ze (zi .i64)) ([]),.val (ze (zi .i64)) ([]),.val (ze (zi .i64)) ([])]:=uL
instance:iL ktab 184 (.agg [.nsz,.nsz,.nsz,.nsz,.nsz,.nsz,.nsz,.nsz]) [.raw (.nsz),.raw (.nsz),.raw (.nsz),.raw (.nsz),.raw (.nsz),.raw (.nsz),.raw (.nsz),.raw (.nsz)]:=uL
instance:iL ktab 185 (.agg [.nsz,.nsz,.nsz,.nsz,.nsz,.nsz]) [.raw (.nsz),.raw (.nsz),.raw (.nsz),.raw (.nsz),.raw (.nsz),.raw (.nsz)]:=uL
instance:iL ktab 187 (.agg [.int .i64 0,.int .i64 0]) [vI 0,vI 0]:=uL
instance:iL ktab 205 (.agg [.int .i64 0,.int .i64 0,.nsz,.int .i64 0,.int .i64 0]) [vI 0,vI 0,.val (ze zcP) ([]),vI 0,vI 0]:=uL
instance:iL ktab 209 (.agg [.int .i64 0,.int .i64 0]) [vI 0,vI 0]:=uL
instance:iL ktab 213 (.agg [.int .i64 0,.int .i64 0,.int .i64 0,.nsz,.int .i64 0]) [vI 0,vI 0,vI 0,.val (ze zZ) ([]),vI 0]:=uL
instance:iL ktab 215 (.agg [.int .i64 0,.bool Oc]) [vI 0,vB Oc]:=uL
instance:iL ktab 241 (.agg [.int .i64 0,.int .i64 0]) [vI 0,vI 0]:=uL
instance:iL ktab 283 (.agg [.int .i64 0,.int .i64 0,.int .i64 0,.int .i64 0,.int .i64 0,.int .i64 0,.int .i64 0,.int .i64 0,.int .i64 0,.int .i64 0]) [vI 0,vI 0,vI 0,vI 0,vI 0,vI 0,vI 0,vI 0,vI 0,vI 0]:=uL
instance:iL ktab 292 (.agg [.int .i64 0,.int .i64 0,.int .i64 0,.int .i64 0,.int .i64 0,.int .i64 0,.int .i64 0]) [.raw (.int .i64 0),.raw (.int .i64 0),.raw (.int .i64 0),.raw (.int .i64 0),.raw (.int .i64 0),.raw (.int .i64 0),.raw (.int .i64 0)]:=uL
instance:iL ktab 319 (.agg [.nfz,.nfz,.nfz,.nfz,.nfz,.nfz,.nfz]) [.raw (.nfz),.raw (.nfz),.raw (.nfz),.raw (.nfz),.raw (.nfz),.raw (.nfz),.raw (.nfz)]:=uL
instance:iL ktab 326 (.agg [.nsz,.nsz,.nsz,.int .i64 0,.int .i64 0,.int .i64 0,.int .i64 0,.int .i64 0,.int .i64 0,.int .i64 0,.int .i64 0,.int .i64 0,.nsz,.int .i64 0,.int .i64 0]) [.val (ze zbZ) ([]),.val (ze zdO) ([]),.val (ze zT) ([]),vI 0,vI 0,vI 0,vI 0,vI 0,vI 0,vI 0,vI 0,vI 0,.val (ze (zi .i64)) ([]),vI 0,vI 0]:=uL
instance:iL ktab 336 (.agg [.int .i64 0,.int .i64 0,.int .i64 0,.int .i64 0]) [.raw (.int .i64 0),.raw (.int .i64 0),.raw (.int .i64 0),.raw (.int .i64 0)]:=uL
end Go.Ai.TabYtfamdelkpempgaaGreat
namespace Go.Ai.TabYtfamdelkpempgaaGreat
open Go Go.Ai Go.Ai.Sx Go.Proofs Go.Proofs.YtfamdelkpempgaaGreat
theorem own:ownKnob Tryz.prog.godebug=Oe:=Z
theorem zsL:laidOutB Tryz.prog=Od:=Z
theorem begun:decide (Tryz.prog.globals.size<(begin Tryz.prog (λ_ _=>0) default).world.heap.size)=Od:=Z
theorem zvb {W:World} (h:W.ShapedOpen Tryz.prog):0<W.heap.size:=by
 obtain ⟨o,_,ho,_⟩:=h.2 Tryz.prog.globals.size (Nat.le_refl _) (of_decide_eq_true begun);have:=(Array.getElem?_eq_some_iff.1 ho).1;omega
theorem zB {P:Program} {A B:Type} {f:Field} {fs:List Field} {o:Nat} {t:TypeId} {R:Rep A} {S:Rep B} (hf:f.offset=o) (ht:f.type=t) (ho:Opens P t R) (hs:zlF P fs (o+R.sz) S):zlF P (f::fs) o (zI R S):=by
 subst ht;exact zoY hf ho hs
def zp7:=FL Tryz.t208.desc
def zvc:Field:=zp7[0]!
def zvd:Field:=zp7[1]!
def zp8:=FL Tryz.t214.desc
def zve:Field:=zp8[0]!
def zvf:Field:=zp8[1]!
def zlS:=FL Tryz.t212.desc
def zvg:Field:=zlS[0]!
def zvh:Field:=zlS[1]!
def zvi:Field:=zlS[2]!
def zvj:Field:=zlS[3]!
def zkI:=FL Tryz.t204.desc
def zvk:Field:=zkI[0]!
def zvl:Field:=zkI[1]!
def zvm:Field:=zkI[2]!
def zvn:Field:=zkI[3]!
def zvo:Field:=zkI[4]!
def zvp:=FL Tryz.t24.desc
def zxD:Field:=zvp[0]!
def zxE:Field:=zvp[1]!
def zp9:=FL Tryz.t134.desc
def zvq:Field:=zp9[0]!
def zvr:Field:=zp9[1]!
def zsM:=FL Tryz.t50.desc
def zxF:Field:=zsM[0]!
def zxG:Field:=zsM[1]!
def zxH:Field:=zsM[2]!
def zjK:=FL Tryz.t58.desc
def zxI:Field:=zjK[0]!
def zxJ:Field:=zjK[1]!
def zxK:Field:=zjK[2]!
def zxL:Field:=zjK[3]!
def zxM:Field:=zjK[4]!
def zxN:Field:=zjK[5]!
def zxO:Field:=zjK[6]!
def zxP:Field:=zjK[7]!
def zxQ:Field:=zjK[8]!
def zxR:Field:=zjK[9]!
def zpf:=FL Tryz.t60.desc
def zxS:Field:=zpf[0]!
def zxT:Field:=zpf[1]!
def zxU:Field:=zpf[2]!
def zxV:Field:=zpf[3]!
def zxW:Field:=zpf[4]!
def zsN:=FL Tryz.t28.desc
def zxX:Field:=zsN[0]!
def zxY:Field:=zsN[1]!
def zxZ:Field:=zsN[2]!
def zsO:=FL Tryz.t43.desc
def zx0:Field:=zsO[0]!
def zx1:Field:=zsO[1]!
def zx2:Field:=zsO[2]!
def zpg:=FL Tryz.t85.desc
def zx3:Field:=zpg[0]!
def zx4:Field:=zpg[1]!
def zx5:Field:=zpg[2]!
def zx6:Field:=zpg[3]!
def zx7:Field:=zpg[4]!
def zn4:=FL Tryz.t32.desc
def zx8:Field:=zn4[0]!
def zx9:Field:=zn4[1]!
def zya:Field:=zn4[2]!
def zyb:Field:=zn4[3]!
def zyc:Field:=zn4[4]!
def zyd:Field:=zn4[5]!
theorem o3:Opens Tryz.prog 3 (zi .i64):=znI Z Z
theorem zB6:Opens Tryz.prog 209 zcP:=zbh (fs:=zp7) Z Z rfl (by
 rw [show zp7.toList=[zvc,zvd] by kernel_rfl];exact (zB Z Z o3 (zB Z Z o3 (zck _))))
theorem zCo:Opens Tryz.prog 210 (zi .i64):=znI Z Z
theorem o4:Opens Tryz.prog 4 zaS:=zq0 Z Z
theorem zCp:Opens Tryz.prog 215 zZ:=zbh (fs:=zp8) Z Z rfl (by
 rw [show zp8.toList=[zve,zvf] by kernel_rfl];exact (zB Z Z o3 (zB Z Z o4 (zck _))))
theorem zCq:Opens Tryz.prog 211 (ze zZ):=zdc Z Z zCp Oa
theorem zCr:Opens Tryz.prog 213 zbZ:=zbh (fs:=zlS) Z Z rfl (by
 rw [show zlS.toList=[zvg,zvh,zvi,zvj] by kernel_rfl];exact (zB Z Z zB6 (zB Z Z zCo (zB Z Z zCq (zB Z Z o3 (zck _))))))
theorem o22:Opens Tryz.prog 22 (ze zbZ):=zdc Z Z zCr Oa
theorem zCs:Opens Tryz.prog 203 (ze zcP):=zdc Z Z zB6 Oa
theorem zCt:Opens Tryz.prog 205 zdO:=zbh (fs:=zkI) Z Z rfl (by
 rw [show zkI.toList=[zvk,zvl,zvm,zvn,zvo] by kernel_rfl];exact (zB Z Z o3 (zB Z Z o3 (zB Z Z zCs (zB Z Z o3 (zB Z Z o3 (zck _)))))))
theorem o23:Opens Tryz.prog 23 (ze zdO):=zdc Z Z zCt Oa
theorem o25:Opens Tryz.prog 25 zbI:=zbh (fs:=zvp) Z Z rfl (by
 rw [show zvp.toList=[zxD,zxE] by kernel_rfl];exact (zB Z Z o22 (zB Z Z o23 (zck _))))
theorem zCu:Opens Tryz.prog 135 zT:=zbh (fs:=zp9) Z Z rfl (by
 rw [show zp9.toList=[zvq,zvr] by kernel_rfl];exact (zB Z Z o3 (zB Z Z o4 (zck _))))
theorem o49:Opens Tryz.prog 49 (ze zT):=zdc Z Z zCu Oa
theorem o27:Opens Tryz.prog 27 (ze (zi .i64)):=zdc Z Z o3 Oa
theorem o51:Opens Tryz.prog 51 zb0:=zbh (fs:=zsM) Z Z rfl (by
 rw [show zsM.toList=[zxF,zxG,zxH] by kernel_rfl];exact (zB Z Z o49 (zB Z Z o27 (zB Z Z o27 (zck _)))))
theorem o59:Opens Tryz.prog 59 zb1:=zbh (fs:=zjK) Z Z rfl (by
 rw [show zjK.toList=[zxI,zxJ,zxK,zxL,zxM,zxN,zxO,zxP,zxQ,zxR] by kernel_rfl];exact (zB Z Z o3 (zB Z Z o3 (zB Z Z o3 (zB Z Z o3 (zB Z Z o3 (zB Z Z o3 (zB Z Z o3 (zB Z Z o3 (zB Z Z o3 (zB Z Z o27 (zck _))))))))))))
theorem o61:Opens Tryz.prog 61 zdP:=zbh (fs:=zpf) Z Z rfl (by
 rw [show zpf.toList=[zxS,zxT,zxU,zxV,zxW] by kernel_rfl];exact (zB Z Z o51 (zB Z Z o51 (zB Z Z o59 (zB Z Z o3 (zB Z Z o3 (zck _)))))))
theorem o26:Opens Tryz.prog 26 (ze zdP):=zdc Z Z o61 Oa
theorem o29:Opens Tryz.prog 29 zd6:=zbh (fs:=zsN) Z Z rfl (by
 rw [show zsN.toList=[zxX,zxY,zxZ] by kernel_rfl];exact (zB Z Z o26 (zB Z Z o27 (zB Z Z o27 (zck _)))))
theorem o45:Opens Tryz.prog 45 zc6:=zbh (fs:=zsO) Z Z rfl (by
 rw [show zsO.toList=[zx0,zx1,zx2] by kernel_rfl];exact (zB Z Z o3 (zB Z Z o3 (zB Z Z o3 (zck _)))))
theorem o30:Opens Tryz.prog 30 (ze zc6):=zdc Z Z o45 Oa
theorem o86:Opens Tryz.prog 86 za5:=zbh (fs:=zpg) Z Z rfl (by
 rw [show zpg.toList=[zx3,zx4,zx5,zx6,zx7] by kernel_rfl];exact (zB Z Z o3 (zB Z Z o4 (zB Z Z o3 (zB Z Z o3 (zB Z Z o3 (zck _)))))))
theorem o31:Opens Tryz.prog 31 (ze za5):=zdc Z Z o86 Oa
theorem o33:Opens Tryz.prog 33 zlR:=zbh (fs:=zn4) Z Z rfl (by
 rw [show zn4.toList=[zx8,zx9,zya,zyb,zyc,zyd] by kernel_rfl];exact (zB Z Z o25 (zB Z Z o29 (zB Z Z o30 (zB Z Z o3 (zB Z Z o3 (zB Z Z o31 (zck _))))))))
theorem zh3 {a b:Bool} (h:a=Od) (k:b=Od):(a&&b)=Od:=by rw [h,k]; rfl
set_option maxRecDepth 100000 in
theorem zz3:mapsRowed Tryz.prog=Od:=Z
set_option maxRecDepth 100000 in
theorem zye:(Tryz.prog.stops==[])=Od:=Z
set_option maxRecDepth 100000 in
theorem zyf:(Tryz.prog.stopKnobs==[])=Od:=Z
set_option maxRecDepth 100000 in
theorem zyg:(Rows.topNightRow.plainKeys==Tryz.prog.plainKeys)=Od:=Z
set_option maxRecDepth 100000 in
theorem zyh:Tryz.prog.stopsHeard=Od:=Z
set_option maxRecDepth 100000 in
theorem zyi:Tryz.prog.mayEnter=Od:=Z
set_option maxRecDepth 100000 in
theorem zz4:(Rows.topNightRow.lifted==Tryz.prog.liftsFinal)=Od:=Z
set_option maxRecDepth 100000 in
theorem zz5:(Tryz.prog.make==Ob Rows.topNightRow.make)=Od:=Z
end Go.Ai.TabYtfamdelkpempgaaGreat