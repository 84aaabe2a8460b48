/- Written by program: the facts of the tables,and the walks through the functions. -/
import Derived.Test.YtfamdelkpempgaaGreatV8
import Derived.Test.YtfamdelkpempgaaGreatV9
import Derived.KernelRfl
import Derived.Test.YtfamdelkpempgaaGreatV10
import Derived.Test.YtfamdelkpempgaaGreatV5
import Derived.Test.YtfamdelkpempgaaGreatRows
import Derived.WalkKit
import Derived.ProofKit
import Derived.JoinedOf
set_option linter.unusedSimpArgs false
set_option linter.unusedVariables false
set_option linter.unusedSectionVars false
noncomputable section
open Option renaming some→Ob,none→Oe
open Bool renaming false→Oc,true→Od
namespace Go.Ai.TabYtfamdelkpempgaaGreat
open Go Go.Ai Go.Ai.Sx Go.Proofs
attribute [local irreducible] zp
def zvb:=FL Tryz.t186.desc
def zpa:=FL Tryz.t214.desc
def zCp:=FL Tryz.t142.desc
def zCq:=FL Tryz.t137.desc
def zCr:=FL Tryz.t279.desc
def zCs:=FL Tryz.t110.desc
def zz2:=FL Tryz.t47.desc
def zxw:=FL Tryz.t134.desc
def zxx:Field:=zvb[0]!
def zxy:Field:=zvb[1]!
def zpb:Field:=zpa[0]!
def zpc:Field:=zpa[1]!
def zz3:Field:=zz2[3]!
def zz4:Field:=zz2[2]!
def zz5:Field:=zz2[1]!
def zz6:Field:=zz2[0]!
def zxz:Field:=zxw[1]!
def zxA:Field:=zxw[0]!
theorem zCt:Und ktab 108 (zb (zhF 2 zE)):=⟨by kernel_rfl,by kernel_rfl⟩
theorem U27:Und ktab 27 (zb (zi .i64)):=⟨by kernel_rfl,by kernel_rfl⟩
theorem U30:Und ktab 30 (zb zb7):=⟨by kernel_rfl,by kernel_rfl⟩
theorem U36:Und ktab 36 (zb z7):=⟨by kernel_rfl,by kernel_rfl⟩
theorem U40:Und ktab 40 (zb zh2):=⟨by kernel_rfl,by kernel_rfl⟩
theorem zz7:Mp ktab 109 zbk 27:=⟨⟨187,by kernel_rfl,zst (fs:=zvb) Z Z rfl (by rw [show zvb.toList=[zxx,zxy] by kernel_rfl]; exact (zpX Z Z Z (zpX Z Z Z zsr)))⟩⟩
theorem zxB:Mp ktab 136 zZ 3:=⟨⟨215,by kernel_rfl,zst (fs:=zpa) Z Z rfl (by rw [show zpa.toList=[zpb,zpc] by kernel_rfl]; exact (zpX Z Z Z (zss Z Z Z zsr)))⟩⟩
theorem zxC:Mp ktab 264 zZ 4:=⟨⟨215,by kernel_rfl,zst (fs:=zpa) Z Z rfl (by rw [show zpa.toList=[zpb,zpc] by kernel_rfl]; exact (zpX Z Z Z (zss Z Z Z zsr)))⟩⟩
theorem zCu:Stt ktab 143 [.nsz,.nsz,.nsz,.nsz,.nsz,.nsz,.int .i64 0,.int .i64 0,.int .i64 0,.int .i64 0,.int .i64 0,.int .i64 0,.int .i64 0,.int .i64 0,.int .i64 0,.nsz,.int .i64 0,.int .i64 0,.nsz,.nsz,.nsz,.nsz] [(0,18),(18,2),(20,2)]:=⟨by kernel_rfl,⟨zCp,by kernel_rfl,by kernel_rfl⟩⟩
theorem zBD:Stt ktab 138 [.nsz,.nsz,.nsz,.nm] [(0,2),(2,1),(3,1)]:=⟨by kernel_rfl,⟨zCq,by kernel_rfl,by kernel_rfl⟩⟩
theorem zBE:Stt ktab 280 [.nq,.nsz,.nsz,.nsz,.nsz,.nsz] [(0,1),(1,1),(2,1),(3,1),(4,1),(5,1)]:=⟨by kernel_rfl,⟨zCr,by kernel_rfl,by kernel_rfl⟩⟩
theorem zBF:Stt ktab 111 [.nsz,.nsz,.nsz,.nsz,.nsz,.nsz,.int .i64 0,.int .i64 0,.nsz,.nsz,.nsz,.nm] [(0,9),(9,1),(10,1),(11,1)]:=⟨by kernel_rfl,⟨zCs,by kernel_rfl,by kernel_rfl⟩⟩
theorem E48:SEq ktab 48 z7 (λx y=>x==y):=⟨⟨zz2,by kernel_rfl,by rw [show zz2.toList=[zz6,zz5,zz4,zz3] by kernel_rfl]; exact (.i (of_decide_eq_true Z) Z Z (.b (of_decide_eq_true Z) Z Z (.i (of_decide_eq_true Z) Z Z (.i (of_decide_eq_true Z) Z Z .n))))⟩,by kernel_rfl,by kernel_rfl⟩
theorem zCF:SEq ktab 135 zU (λx y=>x==y):=⟨⟨zxw,by kernel_rfl,by rw [show zxw.toList=[zxA,zxz] by kernel_rfl]; exact (.i (of_decide_eq_true Z) Z Z (.b (of_decide_eq_true Z) Z Z .n))⟩,by kernel_rfl,by kernel_rfl⟩
theorem zCG:SEq ktab 215 zZ (λx y=>x==y):=⟨⟨zpa,by kernel_rfl,by rw [show zpa.toList=[zpb,zpc] by kernel_rfl]; exact (.i (of_decide_eq_true Z) Z Z (.b (of_decide_eq_true Z) Z Z .n))⟩,by kernel_rfl,by kernel_rfl⟩
instance:iK ktab 3 (.int .i64):=uK
instance:iK ktab 5 (.int .u8):=uK
instance:iK ktab 317 (.int .u64):=uK
instance:iK ktab 351 (.int .u64):=uK
instance:iU ktab 105 (zaP z8):=uU
instance:iU ktab 108 (zb (zhF 2 zE)):=uU
instance:iU ktab 109 (zoz zbk (zb (zi .i64))):=uU
instance:iU ktab 122 (zaP zk):=uU
instance:iU ktab 129 (zaP zai):=uU
instance:iU ktab 135 zU:=uU
instance:iU ktab 136 (zoz zZ (zi .i64)):=uU
instance:iU ktab 160 zC:=uU
instance:iU ktab 162 zgB:=uU
instance:iU ktab 183 zE:=uU
instance:iU ktab 184 (zhF 2 zE):=uU
instance:iU ktab 187 zbk:=uU
instance:iU ktab 203 (zb zcP):=uU
instance:iU ktab 205 zc4:=uU
instance:iU ktab 209 zcP:=uU
instance:iU ktab 210 (zi .i64):=uU
instance:iU ktab 211 (zb zZ):=uU
instance:iU ktab 213 zbh:=uU
instance:iU ktab 215 zZ:=uU
instance:iU ktab 22 (zb zbh):=uU
instance:iU ktab 23 (zb zc4):=uU
instance:iU ktab 237 (zaP zaH):=uU
instance:iU ktab 241 zy:=uU
instance:iU ktab 25 zbG:=uU
instance:iU ktab 26 (zb zc5):=uU
instance:iU ktab 27 (zb (zi .i64)):=uU
instance:iU ktab 276 (zaP zS):=uU
instance:iU ktab 281 (rFn ktab ze Int (λx=>[.val zy x]) (λy=>[.val (zi .i64) y])):=uU
instance:iU ktab 283 zaW:=uU
instance:iU ktab 29 zdn:=uU
instance:iU ktab 3 (zi .i64):=uU
instance:iU ktab 30 (zb zb7):=uU
instance:iU ktab 301 zay:=uU
instance:iU ktab 31 (zb zat):=uU
instance:iU ktab 318 (rFn ktab (zaG×Int×Int) Bool (λx=>[.val zay x.1,.val (zi .i64) x.2.1,.val (zi .i64) x.2.2]) (λy=>[.val zaM y])):=uU
instance:iU ktab 326 zal:=uU
instance:iU ktab 33 zlQ:=uU
instance:iU ktab 36 (zb z7):=uU
instance:iU ktab 4 zaM:=uU
instance:iU ktab 40 (zb zh2):=uU
instance:iU ktab 44 zh2:=uU
instance:iU ktab 45 zb7:=uU
instance:iU ktab 48 z7:=uU
instance:iU ktab 49 (zb zU):=uU
instance:iU ktab 51 zcb:=uU
instance:iU ktab 59 zb0:=uU
instance:iU ktab 61 zc5:=uU
instance:iU ktab 86 zat:=uU
instance:iS ktab 22 zbh 213:=uS
instance:iS ktab 23 zc4 205:=uS
instance:iS ktab 26 zc5 61:=uS
instance:iS ktab 27 (zi .i64) 3:=uS
instance:iS ktab 30 zb7 45:=uS
instance:iS ktab 31 zat 86:=uS
instance:iS ktab 36 z7 48:=uS
instance:iS ktab 40 zh2 44:=uS
instance:iS ktab 49 zU 135:=uS
instance:iS ktab 53 zhi 63:=uS
instance:iS ktab 108 (zhF 2 zE) 184:=uS
instance:iS ktab 117 (zaP zk) 122:=uS
instance:iS ktab 121 (zb z7) 36:=uS
instance:iS ktab 155 zgB 162:=uS
instance:iS ktab 203 zcP 209:=uS
instance:iS ktab 211 zZ 215:=uS
instance:iS ktab 295 (zb zcP) 203:=uS
instance:iS ktab 316 zC 160:=uS
instance:iY ktab 3 (zi .i64) 8:=uY
instance:iY ktab 36 (zb z7) 24:=uY
instance:iY ktab 44 zh2 24:=uY
instance:iY ktab 48 z7 32:=uY
instance:iY ktab 63 zhi 24:=uY
instance:iY ktab 122 (zaP zk) 8:=uY
instance:iY ktab 135 zU 16:=uY
instance:iY ktab 160 zC 48:=uY
instance:iY ktab 162 zgB 80:=uY
instance:iY ktab 184 (zhF 2 zE) 192:=uY
instance:iY ktab 203 (zb zcP) 24:=uY
instance:iY ktab 205 zc4 56:=uY
instance:iY ktab 209 zcP 16:=uY
instance:iY ktab 213 zbh 56:=uY
instance:iY ktab 215 zZ 16:=uY
instance:iZ ktab 3 (zi .i64) 0:=uZ (zv:=.int .i64 0) (λ_=>⟨zint,rfl⟩)
instance:iZ ktab 4 zaM Oc:=uZ (zv:=.bool Oc) (λ_=>⟨zbool,rfl⟩)
instance:iZ ktab 48 z7 (0,Oc,0,0,()):=uZ (zv:=.agg [.int .i64 0,.bool Oc,.int .i64 0,.int .i64 0]) (λ_=>⟨zpair zint (zpair zbool (zpair zint (zpair zint zunit rfl) rfl) rfl) rfl,rfl⟩)
instance:iZ ktab 209 zcP (0,0,()):=uZ (zv:=.agg [.int .i64 0,.int .i64 0]) (λ_=>⟨zpair zint (zpair zint zunit rfl) rfl,rfl⟩)
instance:iB ktab 25 zbG [.nsz,.nsz] [(0,1),(1,1)]:=uB
instance:iB ktab 44 zh2 [.int .i64 0,.int .i64 0,.int .i64 0] [(0,1),(1,1),(2,1)]:=uB
instance:iB ktab 48 z7 [.int .i64 0,.bool Oc,.int .i64 0,.int .i64 0] [(0,1),(1,1),(2,1),(3,1)]:=uB
instance:iB ktab 51 zcb [.nsz,.nsz,.nsz] [(0,1),(1,1),(2,1)]:=uB
instance:iB ktab 59 zb0 [.int .i64 0,.int .i64 0,.int .i64 0,.int .i64 0,.int .i64 0,.int .i64 0,.int .i64 0,.int .i64 0,.int .i64 0,.nsz] [(0,1),(1,1),(2,1),(3,1),(4,1),(5,1),(6,1),(7,1),(8,1),(9,1)]:=uB
instance:iB ktab 61 zc5 [.nsz,.nsz,.nsz,.nsz,.nsz,.nsz,.int .i64 0,.int .i64 0,.int .i64 0,.int .i64 0,.int .i64 0,.int .i64 0,.int .i64 0,.int .i64 0,.int .i64 0,.nsz,.int .i64 0,.int .i64 0] [(0,3),(3,3),(6,10),(16,1),(17,1)]:=uB
instance:iB ktab 63 zhi [.int .i64 0,.int .i64 0,.int .i64 0] [(0,1),(1,1),(2,1)]:=uB
instance:iB ktab 135 zU [.int .i64 0,.bool Oc] [(0,1),(1,1)]:=uB
instance:iB ktab 160 zC [.int .i64 0,.int .i64 0,.int .i64 0,.int .i64 0,.int .i64 0,.int .i64 0] [(0,1),(1,1),(2,1),(3,1),(4,1),(5,1)]:=uB
instance:iB ktab 183 zE [.nsz,.nsz,.nsz,.nsz] [(0,3),(3,1)]:=uB
instance:iB ktab 187 zbk [.int .i64 0,.int .i64 0] [(0,1),(1,1)]:=uB
instance:iB ktab 205 zc4 [.int .i64 0,.int .i64 0,.nsz,.int .i64 0,.int .i64 0] [(0,1),(1,1),(2,1),(3,1),(4,1)]:=uB
instance:iB ktab 209 zcP [.int .i64 0,.int .i64 0] [(0,1),(1,1)]:=uB
instance:iB ktab 213 zbh [.int .i64 0,.int .i64 0,.int .i64 0,.nsz,.int .i64 0] [(0,2),(2,1),(3,1),(4,1)]:=uB
instance:iB ktab 215 zZ [.int .i64 0,.bool Oc] [(0,1),(1,1)]:=uB
instance:iB ktab 241 zy [.int .i64 0,.int .i64 0] [(0,1),(1,1)]:=uB
instance:iB ktab 301 zay [.int .i64 0,.int .i64 0,.int .i64 0,.nsz,.int .i64 0] [(0,5)]:=uB
instance:iB ktab 313 zS [.int .i64 0,.int .i64 0,.int .i64 0,.int .i64 0,.int .i64 0,.int .i64 0,.int .i64 0,.int .i64 0,.int .i64 0,.nsz,.int .i64 0] [(0,10),(10,1)]:=uB
instance:iB ktab 326 zal [.nsz,.nsz,.nsz,.int .i64 0,.int .i64 0,.int .i64 0,.int .i64 0,.int .i64 0,.int .i64 0,.int .i64 0,.int .i64 0,.int .i64 0,.nsz,.int .i64 0,.int .i64 0] [(0,2),(2,1),(3,10),(13,1),(14,1)]:=uB
instance:iF ktab 25 0 zbG (zb zbh) 22 0 (λx=>x.1) wh:=uF fh
instance:iF ktab 25 1 zbG (zb zc4) 23 1 (λx=>x.2.1) (wt wh):=uF (ft' fh)
instance:iF ktab 29 0 zdn (zb zc5) 26 0 (λx=>x.1) wh:=uF fh
instance:iF ktab 29 1 zdn (zb (zi .i64)) 27 1 (λx=>x.2.1) (wt wh):=uF (ft' fh)
instance:iF ktab 29 2 zdn (zb (zi .i64)) 27 2 (λx=>x.2.2.1) (wt (wt wh)):=uF (ft' (ft' fh))
instance:iF ktab 33 0 zlQ zbG 25 0 (λx=>x.1) wh:=uF fh
instance:iF ktab 33 1 zlQ zdn 29 2 (λx=>x.2.1) (wt wh):=uF (ft' fh)
instance:iF ktab 33 2 zlQ (zb zb7) 30 5 (λx=>x.2.2.1) (wt (wt wh)):=uF (ft' (ft' fh))
instance:iF ktab 33 3 zlQ (zi .i64) 3 6 (λx=>x.2.2.2.1) (wt (wt (wt wh))):=uF (ft' (ft' (ft' fh)))
instance:iF ktab 33 4 zlQ (zi .i64) 3 7 (λx=>x.2.2.2.2.1) (wt (wt (wt (wt wh)))):=uF (ft' (ft' (ft' (ft' fh))))
instance:iF ktab 33 5 zlQ (zb zat) 31 8 (λx=>x.2.2.2.2.2.1) (wt (wt (wt (wt (wt wh))))):=uF (ft' (ft' (ft' (ft' (ft' fh)))))
instance:iF ktab 44 0 zh2 (zi .i64) 3 0 (λx=>x.1) wh:=uF fh
instance:iF ktab 44 1 zh2 (zi .i64) 3 1 (λx=>x.2.1) (wt wh):=uF (ft' fh)
instance:iF ktab 44 2 zh2 (zi .i64) 3 2 (λx=>x.2.2.1) (wt (wt wh)):=uF (ft' (ft' fh))
instance:iF ktab 45 0 zb7 (zi .i64) 3 0 (λx=>x.1) wh:=uF fh
instance:iF ktab 45 1 zb7 (zi .i64) 3 1 (λx=>x.2.1) (wt wh):=uF (ft' fh)
instance:iF ktab 45 2 zb7 (zi .i64) 3 2 (λx=>x.2.2.1) (wt (wt wh)):=uF (ft' (ft' fh))
instance:iF ktab 48 0 z7 (zi .i64) 3 0 (λx=>x.1) wh:=uF fh
instance:iF ktab 48 1 z7 zaM 4 1 (λx=>x.2.1) (wt wh):=uF (ft' fh)
instance:iF ktab 48 2 z7 (zi .i64) 3 2 (λx=>x.2.2.1) (wt (wt wh)):=uF (ft' (ft' fh))
instance:iF ktab 48 3 z7 (zi .i64) 3 3 (λx=>x.2.2.2.1) (wt (wt (wt wh))):=uF (ft' (ft' (ft' fh)))
instance:iF ktab 51 0 zcb (zb zU) 49 0 (λx=>x.1) wh:=uF fh
instance:iF ktab 51 1 zcb (zb (zi .i64)) 27 1 (λx=>x.2.1) (wt wh):=uF (ft' fh)
instance:iF ktab 51 2 zcb (zb (zi .i64)) 27 2 (λx=>x.2.2.1) (wt (wt wh)):=uF (ft' (ft' fh))
instance:iF ktab 59 0 zb0 (zi .i64) 3 0 (λx=>x.1) wh:=uF fh
instance:iF ktab 59 1 zb0 (zi .i64) 3 1 (λx=>x.2.1) (wt wh):=uF (ft' fh)
instance:iF ktab 59 2 zb0 (zi .i64) 3 2 (λx=>x.2.2.1) (wt (wt wh)):=uF (ft' (ft' fh))
instance:iF ktab 59 3 zb0 (zi .i64) 3 3 (λx=>x.2.2.2.1) (wt (wt (wt wh))):=uF (ft' (ft' (ft' fh)))
instance:iF ktab 59 4 zb0 (zi .i64) 3 4 (λx=>x.2.2.2.2.1) (wt (wt (wt (wt wh)))):=uF (ft' (ft' (ft' (ft' fh))))
instance:iF ktab 59 5 zb0 (zi .i64) 3 5 (λx=>x.2.2.2.2.2.1) (wt (wt (wt (wt (wt wh))))):=uF (ft' (ft' (ft' (ft' (ft' fh)))))
instance:iF ktab 59 6 zb0 (zi .i64) 3 6 (λx=>x.2.2.2.2.2.2.1) (wt (wt (wt (wt (wt (wt wh)))))):=uF (ft' (ft' (ft' (ft' (ft' (ft' fh))))))
instance:iF ktab 59 7 zb0 (zi .i64) 3 7 (λx=>x.2.2.2.2.2.2.2.1) (wt (wt (wt (wt (wt (wt (wt wh))))))):=uF (ft' (ft' (ft' (ft' (ft' (ft' (ft' fh)))))))
instance:iF ktab 59 8 zb0 (zi .i64) 3 8 (λx=>x.2.2.2.2.2.2.2.2.1) (wt (wt (wt (wt (wt (wt (wt (wt wh)))))))):=uF (ft' (ft' (ft' (ft' (ft' (ft' (ft' (ft' fh))))))))
instance:iF ktab 59 9 zb0 (zb (zi .i64)) 27 9 (λx=>x.2.2.2.2.2.2.2.2.2.1) (wt (wt (wt (wt (wt (wt (wt (wt (wt wh))))))))):=uF (ft' (ft' (ft' (ft' (ft' (ft' (ft' (ft' (ft' fh)))))))))
instance:iF ktab 61 0 zc5 zcb 51 0 (λx=>x.1) wh:=uF fh
instance:iF ktab 61 1 zc5 zcb 51 3 (λx=>x.2.1) (wt wh):=uF (ft' fh)
instance:iF ktab 61 2 zc5 zb0 59 6 (λx=>x.2.2.1) (wt (wt wh)):=uF (ft' (ft' fh))
instance:iF ktab 61 3 zc5 (zi .i64) 3 16 (λx=>x.2.2.2.1) (wt (wt (wt wh))):=uF (ft' (ft' (ft' fh)))
instance:iF ktab 61 4 zc5 (zi .i64) 3 17 (λx=>x.2.2.2.2.1) (wt (wt (wt (wt wh)))):=uF (ft' (ft' (ft' (ft' fh))))
instance:iF ktab 63 0 zhi (zi .i64) 3 0 (λx=>x.1) wh:=uF fh
instance:iF ktab 86 0 zat (zi .i64) 3 0 (λx=>x.1) wh:=uF fh
instance:iF ktab 86 1 zat zaM 4 1 (λx=>x.2.1) (wt wh):=uF (ft' fh)
instance:iF ktab 86 2 zat (zi .i64) 3 2 (λx=>x.2.2.1) (wt (wt wh)):=uF (ft' (ft' fh))
instance:iF ktab 86 3 zat (zi .i64) 3 3 (λx=>x.2.2.2.1) (wt (wt (wt wh))):=uF (ft' (ft' (ft' fh)))
instance:iF ktab 86 4 zat (zi .i64) 3 4 (λx=>x.2.2.2.2.1) (wt (wt (wt (wt wh)))):=uF (ft' (ft' (ft' (ft' fh))))
instance:iF ktab 111 0 z8 zlQ 33 0 (λx=>x.1) wh:=uF fh
instance:iF ktab 111 1 z8 (zb (zhF 2 zE)) 108 9 (λx=>x.2.1) (wt wh):=uF (ft' fh)
instance:iF ktab 111 2 z8 (zb z7) 36 10 (λx=>x.2.2.1) (wt (wt wh)):=uF (ft' (ft' fh))
instance:iF ktab 111 3 z8 (zoz zbk (zb (zi .i64))) 109 11 (λx=>x.2.2.2.1) (wt (wt (wt wh))):=uF (ft' (ft' (ft' fh)))
instance:iF ktab 135 0 zU (zi .i64) 3 0 (λx=>x.1) wh:=uF fh
instance:iF ktab 135 1 zU zaM 4 1 (λx=>x.2.1) (wt wh):=uF (ft' fh)
instance:iF ktab 138 0 zai zbG 25 0 (λx=>x.1) wh:=uF fh
instance:iF ktab 138 1 zai (zb (zi .i64)) 27 2 (λx=>x.2.1) (wt wh):=uF (ft' fh)
instance:iF ktab 138 2 zai (zoz zZ (zi .i64)) 136 3 (λx=>x.2.2.1) (wt (wt wh)):=uF (ft' (ft' fh))
instance:iF ktab 143 0 zk zc5 61 0 (λx=>x.1) wh:=uF fh
instance:iF ktab 143 1 zk (zhF 2 (zb (zi .i64))) 141 18 (λx=>x.2.1) (wt wh):=uF (ft' fh)
instance:iF ktab 143 2 zk (zhF 2 (zb (zi .i64))) 141 20 (λx=>x.2.2.1) (wt (wt wh)):=uF (ft' (ft' fh))
instance:iF ktab 160 0 zC (zi .i64) 3 0 (λx=>x.1) wh:=uF fh
instance:iF ktab 160 1 zC (zi .i64) 3 1 (λx=>x.2.1) (wt wh):=uF (ft' fh)
instance:iF ktab 160 2 zC (zi .i64) 3 2 (λx=>x.2.2.1) (wt (wt wh)):=uF (ft' (ft' fh))
instance:iF ktab 160 3 zC (zi .i64) 3 3 (λx=>x.2.2.2.1) (wt (wt (wt wh))):=uF (ft' (ft' (ft' fh)))
instance:iF ktab 160 4 zC (zi .i64) 3 4 (λx=>x.2.2.2.2.1) (wt (wt (wt (wt wh)))):=uF (ft' (ft' (ft' (ft' fh))))
instance:iF ktab 160 5 zC (zi .i64) 3 5 (λx=>x.2.2.2.2.2.1) (wt (wt (wt (wt (wt wh))))):=uF (ft' (ft' (ft' (ft' (ft' fh)))))
instance:iF ktab 162 0 zgB (zi .i64) 3 0 (λx=>x.1) wh:=uF fh
instance:iF ktab 162 1 zgB (zi .i64) 3 1 (λx=>x.2.1) (wt wh):=uF (ft' fh)
instance:iF ktab 162 2 zgB zC 160 2 (λx=>x.2.2.1) (wt (wt wh)):=uF (ft' (ft' fh))
instance:iF ktab 162 3 zgB (zi .i64) 3 8 (λx=>x.2.2.2.1) (wt (wt (wt wh))):=uF (ft' (ft' (ft' fh)))
instance:iF ktab 162 4 zgB (zi .i64) 3 9 (λx=>x.2.2.2.2.1) (wt (wt (wt (wt wh)))):=uF (ft' (ft' (ft' (ft' fh))))
instance:iF ktab 183 0 zE zcb 51 0 (λx=>x.1) wh:=uF fh
instance:iF ktab 183 1 zE (zb (zi .i64)) 27 3 (λx=>x.2.1) (wt wh):=uF (ft' fh)
instance:iF ktab 205 0 zc4 (zi .i64) 3 0 (λx=>x.1) wh:=uF fh
instance:iF ktab 205 1 zc4 (zi .i64) 3 1 (λx=>x.2.1) (wt wh):=uF (ft' fh)
instance:iF ktab 205 2 zc4 (zb zcP) 203 2 (λx=>x.2.2.1) (wt (wt wh)):=uF (ft' (ft' fh))
instance:iF ktab 205 3 zc4 (zi .i64) 3 3 (λx=>x.2.2.2.1) (wt (wt (wt wh))):=uF (ft' (ft' (ft' fh)))
instance:iF ktab 205 4 zc4 (zi .i64) 3 4 (λx=>x.2.2.2.2.1) (wt (wt (wt (wt wh)))):=uF (ft' (ft' (ft' (ft' fh))))
instance:iF ktab 209 0 zcP (zi .i64) 3 0 (λx=>x.1) wh:=uF fh
instance:iF ktab 209 1 zcP (zi .i64) 3 1 (λx=>x.2.1) (wt wh):=uF (ft' fh)
instance:iF ktab 213 0 zbh zcP 209 0 (λx=>x.1) wh:=uF fh
instance:iF ktab 213 1 zbh (zi .i64) 210 2 (λx=>x.2.1) (wt wh):=uF (ft' fh)
instance:iF ktab 213 2 zbh (zb zZ) 211 3 (λx=>x.2.2.1) (wt (wt wh)):=uF (ft' (ft' fh))
instance:iF ktab 213 3 zbh (zi .i64) 3 4 (λx=>x.2.2.2.1) (wt (wt (wt wh))):=uF (ft' (ft' (ft' fh)))
instance:iF ktab 215 0 zZ (zi .i64) 3 0 (λx=>x.1) wh:=uF fh
instance:iF ktab 215 1 zZ zaM 4 1 (λx=>x.2.1) (wt wh):=uF (ft' fh)
instance:iF ktab 241 0 zy (zi .i64) 3 0 (λx=>x.1) wh:=uF fh
instance:iF ktab 241 1 zy (zi .i64) 3 1 (λx=>x.2.1) (wt wh):=uF (ft' fh)
instance:iF ktab 280 0 zaH (zaP zS) 276 0 (λx=>x.1) wh:=uF fh
instance:iF ktab 280 2 zaH (zb (zi .i64)) 27 2 (λx=>x.2.2.1) (wt (wt wh)):=uF (ft' (ft' fh))
instance:iF ktab 280 3 zaH (zb (zi .i64)) 27 3 (λx=>x.2.2.2.1) (wt (wt (wt wh))):=uF (ft' (ft' (ft' fh)))
instance:iF ktab 280 4 zaH (zb (zi .i64)) 27 4 (λx=>x.2.2.2.2.1) (wt (wt (wt (wt wh)))):=uF (ft' (ft' (ft' (ft' fh))))
instance:iF ktab 283 0 zaW zy 241 0 (λx=>x.1) wh:=uF fh
instance:iF ktab 283 1 zaW zC 160 2 (λx=>x.2.1) (wt wh):=uF (ft' fh)
instance:iF ktab 283 2 zaW (zi .i64) 3 8 (λx=>x.2.2.1) (wt (wt wh)):=uF (ft' (ft' fh))
instance:iF ktab 283 3 zaW (zi .i64) 3 9 (λx=>x.2.2.2.1) (wt (wt (wt wh))):=uF (ft' (ft' (ft' fh)))
instance:iF ktab 301 0 zay zbh 213 0 (λx=>x.1) wh:=uF fh
instance:iF ktab 313 0 zS zb0 59 0 (λx=>x.1) wh:=uF fh
instance:iF ktab 313 1 zS (zi .i64) 3 10 (λx=>x.2.1) (wt wh):=uF (ft' fh)
instance:iF ktab 326 0 zal zbG 25 0 (λx=>x.1) wh:=uF fh
instance:iF ktab 326 1 zal (zb zU) 49 2 (λx=>x.2.1) (wt wh):=uF (ft' fh)
instance:iF ktab 326 2 zal zb0 59 3 (λx=>x.2.2.1) (wt (wt wh)):=uF (ft' (ft' fh))
instance:iF ktab 326 3 zal (zi .i64) 3 13 (λx=>x.2.2.2.1) (wt (wt (wt wh))):=uF (ft' (ft' (ft' fh)))
instance:iF ktab 326 4 zal (zi .i64) 3 14 (λx=>x.2.2.2.2.1) (wt (wt (wt (wt wh)))):=uF (ft' (ft' (ft' (ft' fh))))
instance:iA ktab 141 (zb (zi .i64)) 27 2:=uA
instance:iA ktab 184 zE 183 2:=uA
instance:iA ktab 185 zcb 51 2:=uA
instance:iA ktab 292 (zi .i64) 3 7:=uA
instance:iA ktab 319 (rFn ktab (zaG×Int×Int) Bool (λx=>[.val zay x.1,.val (zi .i64) x.2.1,.val (zi .i64) x.2.2]) (λy=>[.val zaM y])) 318 7:=uA
instance:iA ktab 336 (zi .i64) 3 4:=uA
instance:iA ktab 355 (rFn ktab (Int×Int×Int) Int (λx=>[.val (zi .i64) x.1,.val (zi .i64) x.2.1,.val (zi .i64) x.2.2]) (λy=>[.val (zi .i64) y])) 195 4:=uA
instance:iE ktab 48 z7 (λx y=>x==y):=⟨E48,rfl⟩
instance:iE ktab 135 zU (λx y=>x==y):=⟨zCF,rfl⟩
instance:iE ktab 215 zZ (λx y=>x==y):=⟨zCG,rfl⟩
instance:iL ktab 3 (.int .i64 0) [vI 0]:=uL
instance:iL ktab 4 (.bool Oc) [vB Oc]:=uL
instance:iL ktab 25 (.agg [.nsz,.nsz]) [.val (zb zbh) ([]),.val (zb zc4) ([])]:=uL
instance:iL ktab 36 (.nsz) [.raw .nsz]:=uL
instance:iL ktab 44 (.agg [.int .i64 0,.int .i64 0,.int .i64 0]) [vI 0,vI 0,vI 0]:=uL
instance:iL ktab 48 (.agg [.int .i64 0,.bool Oc,.int .i64 0,.int .i64 0]) [vI 0,vB Oc,vI 0,vI 0]:=uL
instance:iL ktab 49 (.nsz) [.val (zb zU) ([])]:=uL
instance:iL ktab 51 (.agg [.nsz,.nsz,.nsz]) [.val (zb zU) ([]),.val (zb (zi .i64)) ([]),.val (zb (zi .i64)) ([])]:=uL
instance:iL ktab 59 (.agg [.int .i64 0,.int .i64 0,.int .i64 0,.int .i64 0,.int .i64 0,.int .i64 0,.int .i64 0,.int .i64 0,.int .i64 0,.nsz]) [vI 0,vI 0,vI 0,vI 0,vI 0,vI 0,vI 0,vI 0,vI 0,.val (zb (zi .i64)) ([])]:=uL
instance:iL ktab 61 (.agg [.nsz,.nsz,.nsz,.nsz,.nsz,.nsz,.int .i64 0,.int .i64 0,.int .i64 0,.int .i64 0,.int .i64 0,.int .i64 0,.int .i64 0,.int .i64 0,.int .i64 0,.nsz,.int .i64 0,.int .i64 0]) [.val (zb zU) ([]),.val (zb (zi .i64)) ([]),.val (zb (zi .i64)) ([]),.val (zb zU) ([]),.val (zb (zi .i64)) ([]),.val (zb (zi .i64)) ([]),vI 0,vI 0,vI 0,vI 0,vI 0,vI 0,vI 0,vI 0,vI 0,.val (zb (zi .i64)) ([]),vI 0,vI 0]:=uL
instance:iL ktab 86 (.agg [.int .i64 0,.bool Oc,.int .i64 0,.int .i64 0,.int .i64 0]) [vI 0,vB Oc,vI 0,vI 0,vI 0]:=uL
instance:iL ktab 122 (.nq) [.raw (.nq)]:=uL
instance:iL ktab 135 (.agg [.int .i64 0,.bool Oc]) [vI 0,vB Oc]:=uL
instance:iL ktab 160 (.agg [.int .i64 0,.int .i64 0,.int .i64 0,.int .i64 0,.int .i64 0,.int .i64 0]) [vI 0,vI 0,vI 0,vI 0,vI 0,vI 0]:=uL
instance:iL ktab 162 (.agg [.int .i64 0,.int .i64 0,.int .i64 0,.int .i64 0,.int .i64 0,.int .i64 0,.int .i64 0,.int .i64 0,.int .i64 0,.int .i64 0]) [vI 0,vI 0,vI 0,vI 0,vI 0,vI 0,vI 0,vI 0,vI 0,vI 0]:=uL
instance:iL ktab 183 (.agg [.nsz,.nsz,.nsz,.nsz]) [.val (zb zU) ([]),.val (zb (zi .i64)) ([]),.val (zb (zi .i64)) ([]),.val (zb (zi .i64)) ([])]:=uL
instance:iL ktab 184 (.agg [.nsz,.nsz,.nsz,.nsz,.nsz,.nsz,.nsz,.nsz]) [.raw (.nsz),.raw (.nsz),.raw (.nsz),.raw (.nsz),.raw (.nsz),.raw (.nsz),.raw (.nsz),.raw (.nsz)]:=uL
instance:iL ktab 185 (.agg [.nsz,.nsz,.nsz,.nsz,.nsz,.nsz]) [.raw (.nsz),.raw (.nsz),.raw (.nsz),.raw (.nsz),.raw (.nsz),.raw (.nsz)]:=uL
instance:iL ktab 187 (.agg [.int .i64 0,.int .i64 0]) [vI 0,vI 0]:=uL
instance:iL ktab 205 (.agg [.int .i64 0,.int .i64 0,.nsz,.int .i64 0,.int .i64 0]) [vI 0,vI 0,.val (zb zcP) ([]),vI 0,vI 0]:=uL
instance:iL ktab 209 (.agg [.int .i64 0,.int .i64 0]) [vI 0,vI 0]:=uL
instance:iL ktab 213 (.agg [.int .i64 0,.int .i64 0,.int .i64 0,.nsz,.int .i64 0]) [vI 0,vI 0,vI 0,.val (zb zZ) ([]),vI 0]:=uL
instance:iL ktab 215 (.agg [.int .i64 0,.bool Oc]) [vI 0,vB Oc]:=uL
instance:iL ktab 241 (.agg [.int .i64 0,.int .i64 0]) [vI 0,vI 0]:=uL
instance:iL ktab 283 (.agg [.int .i64 0,.int .i64 0,.int .i64 0,.int .i64 0,.int .i64 0,.int .i64 0,.int .i64 0,.int .i64 0,.int .i64 0,.int .i64 0]) [vI 0,vI 0,vI 0,vI 0,vI 0,vI 0,vI 0,vI 0,vI 0,vI 0]:=uL
instance:iL ktab 292 (.agg [.int .i64 0,.int .i64 0,.int .i64 0,.int .i64 0,.int .i64 0,.int .i64 0,.int .i64 0]) [.raw (.int .i64 0),.raw (.int .i64 0),.raw (.int .i64 0),.raw (.int .i64 0),.raw (.int .i64 0),.raw (.int .i64 0),.raw (.int .i64 0)]:=uL
instance:iL ktab 319 (.agg [.nfz,.nfz,.nfz,.nfz,.nfz,.nfz,.nfz]) [.raw (.nfz),.raw (.nfz),.raw (.nfz),.raw (.nfz),.raw (.nfz),.raw (.nfz),.raw (.nfz)]:=uL
instance:iL ktab 326 (.agg [.nsz,.nsz,.nsz,.int .i64 0,.int .i64 0,.int .i64 0,.int .i64 0,.int .i64 0,.int .i64 0,.int .i64 0,.int .i64 0,.int .i64 0,.nsz,.int .i64 0,.int .i64 0]) [.val (zb zbh) ([]),.val (zb zc4) ([]),.val (zb zU) ([]),vI 0,vI 0,vI 0,vI 0,vI 0,vI 0,vI 0,vI 0,vI 0,.val (zb (zi .i64)) ([]),vI 0,vI 0]:=uL
instance:iL ktab 336 (.agg [.int .i64 0,.int .i64 0,.int .i64 0,.int .i64 0]) [.raw (.int .i64 0),.raw (.int .i64 0),.raw (.int .i64 0),.raw (.int .i64 0)]:=uL
end Go.Ai.TabYtfamdelkpempgaaGreat
namespace Go.Ai.TabYtfamdelkpempgaaGreat
open Go Go.Ai Go.Ai.Sx Go.Proofs Go.Proofs.YtfamdelkpempgaaGreat
theorem own:ownKnob Tryz.prog.godebug=Oe:=Z
theorem zsG:laidOutB Tryz.prog=Od:=Z
theorem begun:decide (Tryz.prog.globals.size<(begin Tryz.prog (λ_ _=>0) default).world.heap.size)=Od:=Z
theorem zvc {W:World} (h:W.ShapedOpen Tryz.prog):0<W.heap.size:=by
 obtain ⟨o,_,ho,_⟩:=h.2 Tryz.prog.globals.size (Nat.le_refl _) (of_decide_eq_true begun);have:=(Array.getElem?_eq_some_iff.1 ho).1;omega
theorem zB {P:Program} {A B:Type} {f:Field} {fs:List Field} {o:Nat} {t:TypeId} {R:Rep A} {S:Rep B} (hf:f.offset=o) (ht:f.type=t) (ho:Opens P t R) (hs:zlF P fs (o+R.sz) S):zlF P (f::fs) o (zI R S):=by
 subst ht;exact zoV hf ho hs
def zp1:=FL Tryz.t208.desc
def zvd:Field:=zp1[0]!
def zve:Field:=zp1[1]!
def zp2:=FL Tryz.t214.desc
def zvf:Field:=zp2[0]!
def zvg:Field:=zp2[1]!
def zlR:=FL Tryz.t212.desc
def zvh:Field:=zlR[0]!
def zvi:Field:=zlR[1]!
def zvj:Field:=zlR[2]!
def zvk:Field:=zlR[3]!
def zkI:=FL Tryz.t204.desc
def zvl:Field:=zkI[0]!
def zvm:Field:=zkI[1]!
def zvn:Field:=zkI[2]!
def zvo:Field:=zkI[3]!
def zvp:Field:=zkI[4]!
def zvq:=FL Tryz.t24.desc
def zxD:Field:=zvq[0]!
def zxE:Field:=zvq[1]!
def zp3:=FL Tryz.t134.desc
def zvr:Field:=zp3[0]!
def zvs:Field:=zp3[1]!
def zsH:=FL Tryz.t50.desc
def zxF:Field:=zsH[0]!
def zxG:Field:=zsH[1]!
def zxH:Field:=zsH[2]!
def zjK:=FL Tryz.t58.desc
def zxI:Field:=zjK[0]!
def zxJ:Field:=zjK[1]!
def zxK:Field:=zjK[2]!
def zxL:Field:=zjK[3]!
def zxM:Field:=zjK[4]!
def zxN:Field:=zjK[5]!
def zxO:Field:=zjK[6]!
def zxP:Field:=zjK[7]!
def zxQ:Field:=zjK[8]!
def zxR:Field:=zjK[9]!
def zpd:=FL Tryz.t60.desc
def zxS:Field:=zpd[0]!
def zxT:Field:=zpd[1]!
def zxU:Field:=zpd[2]!
def zxV:Field:=zpd[3]!
def zxW:Field:=zpd[4]!
def zsI:=FL Tryz.t28.desc
def zxX:Field:=zsI[0]!
def zxY:Field:=zsI[1]!
def zxZ:Field:=zsI[2]!
def zsJ:=FL Tryz.t43.desc
def zx0:Field:=zsJ[0]!
def zx1:Field:=zsJ[1]!
def zx2:Field:=zsJ[2]!
def zpe:=FL Tryz.t85.desc
def zx3:Field:=zpe[0]!
def zx4:Field:=zpe[1]!
def zx5:Field:=zpe[2]!
def zx6:Field:=zpe[3]!
def zx7:Field:=zpe[4]!
def zn3:=FL Tryz.t32.desc
def zx8:Field:=zn3[0]!
def zx9:Field:=zn3[1]!
def zya:Field:=zn3[2]!
def zyb:Field:=zn3[3]!
def zyc:Field:=zn3[4]!
def zyd:Field:=zn3[5]!
theorem o3:Opens Tryz.prog 3 (zi .i64):=znH Z Z
theorem zCd:Opens Tryz.prog 209 zcP:=zbj (fs:=zp1) Z Z rfl (by
 rw [show zp1.toList=[zvd,zve] by kernel_rfl];exact (zB Z Z o3 (zB Z Z o3 (zck _))))
theorem zCv:Opens Tryz.prog 210 (zi .i64):=znH Z Z
theorem o4:Opens Tryz.prog 4 zaM:=zqU Z Z
theorem zCw:Opens Tryz.prog 215 zZ:=zbj (fs:=zp2) Z Z rfl (by
 rw [show zp2.toList=[zvf,zvg] by kernel_rfl];exact (zB Z Z o3 (zB Z Z o4 (zck _))))
theorem zCx:Opens Tryz.prog 211 (zb zZ):=zde Z Z zCw Oa
theorem zCy:Opens Tryz.prog 213 zbh:=zbj (fs:=zlR) Z Z rfl (by
 rw [show zlR.toList=[zvh,zvi,zvj,zvk] by kernel_rfl];exact (zB Z Z zCd (zB Z Z zCv (zB Z Z zCx (zB Z Z o3 (zck _))))))
theorem o22:Opens Tryz.prog 22 (zb zbh):=zde Z Z zCy Oa
theorem zCz:Opens Tryz.prog 203 (zb zcP):=zde Z Z zCd Oa
theorem zCA:Opens Tryz.prog 205 zc4:=zbj (fs:=zkI) Z Z rfl (by
 rw [show zkI.toList=[zvl,zvm,zvn,zvo,zvp] by kernel_rfl];exact (zB Z Z o3 (zB Z Z o3 (zB Z Z zCz (zB Z Z o3 (zB Z Z o3 (zck _)))))))
theorem o23:Opens Tryz.prog 23 (zb zc4):=zde Z Z zCA Oa
theorem o25:Opens Tryz.prog 25 zbG:=zbj (fs:=zvq) Z Z rfl (by
 rw [show zvq.toList=[zxD,zxE] by kernel_rfl];exact (zB Z Z o22 (zB Z Z o23 (zck _))))
theorem zCB:Opens Tryz.prog 135 zU:=zbj (fs:=zp3) Z Z rfl (by
 rw [show zp3.toList=[zvr,zvs] by kernel_rfl];exact (zB Z Z o3 (zB Z Z o4 (zck _))))
theorem o49:Opens Tryz.prog 49 (zb zU):=zde Z Z zCB Oa
theorem o27:Opens Tryz.prog 27 (zb (zi .i64)):=zde Z Z o3 Oa
theorem o51:Opens Tryz.prog 51 zcb:=zbj (fs:=zsH) Z Z rfl (by
 rw [show zsH.toList=[zxF,zxG,zxH] by kernel_rfl];exact (zB Z Z o49 (zB Z Z o27 (zB Z Z o27 (zck _)))))
theorem o59:Opens Tryz.prog 59 zb0:=zbj (fs:=zjK) Z Z rfl (by
 rw [show zjK.toList=[zxI,zxJ,zxK,zxL,zxM,zxN,zxO,zxP,zxQ,zxR] by kernel_rfl];exact (zB Z Z o3 (zB Z Z o3 (zB Z Z o3 (zB Z Z o3 (zB Z Z o3 (zB Z Z o3 (zB Z Z o3 (zB Z Z o3 (zB Z Z o3 (zB Z Z o27 (zck _))))))))))))
theorem o61:Opens Tryz.prog 61 zc5:=zbj (fs:=zpd) Z Z rfl (by
 rw [show zpd.toList=[zxS,zxT,zxU,zxV,zxW] by kernel_rfl];exact (zB Z Z o51 (zB Z Z o51 (zB Z Z o59 (zB Z Z o3 (zB Z Z o3 (zck _)))))))
theorem o26:Opens Tryz.prog 26 (zb zc5):=zde Z Z o61 Oa
theorem o29:Opens Tryz.prog 29 zdn:=zbj (fs:=zsI) Z Z rfl (by
 rw [show zsI.toList=[zxX,zxY,zxZ] by kernel_rfl];exact (zB Z Z o26 (zB Z Z o27 (zB Z Z o27 (zck _)))))
theorem o45:Opens Tryz.prog 45 zb7:=zbj (fs:=zsJ) Z Z rfl (by
 rw [show zsJ.toList=[zx0,zx1,zx2] by kernel_rfl];exact (zB Z Z o3 (zB Z Z o3 (zB Z Z o3 (zck _)))))
theorem o30:Opens Tryz.prog 30 (zb zb7):=zde Z Z o45 Oa
theorem o86:Opens Tryz.prog 86 zat:=zbj (fs:=zpe) Z Z rfl (by
 rw [show zpe.toList=[zx3,zx4,zx5,zx6,zx7] by kernel_rfl];exact (zB Z Z o3 (zB Z Z o4 (zB Z Z o3 (zB Z Z o3 (zB Z Z o3 (zck _)))))))
theorem o31:Opens Tryz.prog 31 (zb zat):=zde Z Z o86 Oa
theorem o33:Opens Tryz.prog 33 zlQ:=zbj (fs:=zn3) Z Z rfl (by
 rw [show zn3.toList=[zx8,zx9,zya,zyb,zyc,zyd] by kernel_rfl];exact (zB Z Z o25 (zB Z Z o29 (zB Z Z o30 (zB Z Z o3 (zB Z Z o3 (zB Z Z o31 (zck _))))))))
theorem zh3 {a b:Bool} (h:a=Od) (k:b=Od):(a&&b)=Od:=by rw [h,k]; rfl
set_option maxRecDepth 100000 in
theorem zz8:mapsRowed Tryz.prog=Od:=Z
set_option maxRecDepth 100000 in
theorem zye:(Tryz.prog.stops==[])=Od:=Z
set_option maxRecDepth 100000 in
theorem zyf:(Tryz.prog.stopKnobs==[])=Od:=Z
set_option maxRecDepth 100000 in
theorem zyg:(Rows.topNightRow.plainKeys==Tryz.prog.plainKeys)=Od:=Z
set_option maxRecDepth 100000 in
theorem zyh:Tryz.prog.stopsHeard=Od:=Z
set_option maxRecDepth 100000 in
theorem zyi:Tryz.prog.mayEnter=Od:=Z
set_option maxRecDepth 100000 in
theorem zz9:(Rows.topNightRow.lifted==Tryz.prog.liftsFinal)=Od:=Z
set_option maxRecDepth 100000 in
theorem zAa:(Tryz.prog.make==Ob Rows.topNightRow.make)=Od:=Z
end Go.Ai.TabYtfamdelkpempgaaGreat