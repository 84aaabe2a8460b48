/- Written by program: the facts of the tables,and the walks through the functions. -/
import Derived.Test.YtnngmijajnldlaaGreatX8
import Derived.Test.YtnngmijajnldlaaGreatX9
import Derived.KernelRfl
import Derived.Test.YtnngmijajnldlaaGreatX10
import Derived.Test.YtnngmijajnldlaaGreatX5
import Derived.Test.YtnngmijajnldlaaGreatRows
import Derived.WalkKit
import Derived.ProofKit
import Derived.JoinedOf
set_option linter.unusedSimpArgs false
set_option linter.unusedVariables false
set_option linter.unusedSectionVars false
noncomputable section
open Option renaming some→Ob,none→Oe
open Bool renaming false→Oc,true→Od
namespace Go.Ai.TabYtnngmijajnldlaaGreat
open Go Go.Ai Go.Ai.Sx Go.Proofs
def zCR:=tI Tryz.t27 Tryz.t27 27
attribute [local irreducible] zm
def zqR:=FQ Tryz.t182.desc
def zCs:=FQ Tryz.t130.desc
def zCt:=FQ Tryz.t223.desc
def zCu:=FQ Tryz.t245.desc
def zCS:=FQ Tryz.t50.desc
def zAK:=FQ Tryz.t73.desc
def zxe:=FQ Tryz.t113.desc
def zxf:=FQ Tryz.t135.desc
def zsu:Field:=zqR[0]!
def zsv:Field:=zqR[1]!
def zzI:Field:=zAK[2]!
def zzJ:Field:=zAK[1]!
def zzK:Field:=zAK[0]!
def zxg:Field:=zxe[1]!
def zxh:Field:=zxe[0]!
def zxi:Field:=zxf[1]!
def zxj:Field:=zxf[0]!
theorem zCv:Und ktab 110 (zb zg):=⟨by kernel_rfl,by kernel_rfl⟩
theorem U27:Und ktab 27 (zb (zh .i64)):=⟨by kernel_rfl,by kernel_rfl⟩
theorem U32:Und ktab 32 (zb z9):=⟨by kernel_rfl,by kernel_rfl⟩
theorem zBC:Und ktab 51 zsr:=⟨by kernel_rfl,by kernel_rfl⟩
theorem U49:Und ktab 49 (zb zw):=⟨by kernel_rfl,by kernel_rfl⟩
theorem zBD:Sl ktab 48 27 zhH:=⟨by kernel_rfl,by kernel_rfl,by kernel_rfl,by decide⟩
theorem zCh:Und ktab 27 zhH:=⟨by kernel_rfl,by kernel_rfl⟩
theorem zxk:Und ktab 106 zhH:=⟨by kernel_rfl,by kernel_rfl⟩
theorem zxl:Und ktab 140 zhH:=⟨by kernel_rfl,by kernel_rfl⟩
theorem zCw:Ty ktab 27 zhH 24:=⟨⟨zCR,by kernel_rfl,by kernel_rfl,by kernel_rfl⟩,⟨.nsz,by kernel_rfl,rfl⟩,by decide⟩
theorem zmG:Mp ktab 115 (zh .u64) 114:=⟨⟨112,by kernel_rfl,zw5 Z⟩⟩
theorem zxm:Mp ktab 181 zaR 4:=⟨⟨183,by kernel_rfl,zv4 (fs:=zqR) Z Z rfl (by rw [show zqR.toList=[zsu,zsv] by kernel_rfl]; exact (zv3 Z Z Z (zsg Z Z Z zv2)))⟩⟩
theorem zxn:Mp ktab 222 zaR 3:=⟨⟨183,by kernel_rfl,zv4 (fs:=zqR) Z Z rfl (by rw [show zqR.toList=[zsu,zsv] by kernel_rfl]; exact (zv3 Z Z Z (zsg Z Z Z zv2)))⟩⟩
theorem zCx:Stt ktab 131 [.nsz,.nsz,.nsz,.nsz,.nsz,.nsz,.int .i64 0,.int .i64 0,.int .i64 0,.int .i64 0,.int .i64 0,.int .i64 0,.int .i64 0,.int .i64 0,.int .i64 0,.nsz,.int .i64 0,.int .i64 0,.nsz,.nsz,.nsz,.nsz] [(0,18),(18,2),(20,2)]:=⟨by kernel_rfl,⟨zCs,by kernel_rfl,by kernel_rfl⟩⟩
theorem zBE:Stt ktab 224 [.nsz,.nsz,.nsz,.nm] [(0,2),(2,1),(3,1)]:=⟨by kernel_rfl,⟨zCt,by kernel_rfl,by kernel_rfl⟩⟩
theorem zBF:Stt ktab 246 [.nq,.nsz,.nsz,.nsz,.nsz,.nsz] [(0,1),(1,1),(2,1),(3,1),(4,1),(5,1)]:=⟨by kernel_rfl,⟨zCu,by kernel_rfl,by kernel_rfl⟩⟩
theorem zBG:Stt ktab 51 [.nsz,.int .i64 0,.nsz] [(0,1),(1,1),(2,1)]:=⟨by kernel_rfl,⟨zCS,by kernel_rfl,by kernel_rfl⟩⟩
theorem E74:SEq ktab 74 zy (λx y=>x==y):=⟨⟨zAK,by kernel_rfl,by rw [show zAK.toList=[zzK,zzJ,zzI] by kernel_rfl]; exact (.i (of_decide_eq_true Z) Z Z (.i (of_decide_eq_true Z) Z Z (.i (of_decide_eq_true Z) Z Z .n)))⟩,by kernel_rfl,by kernel_rfl⟩
theorem zCT:SEq ktab 114 zaN (λx y=>x==y):=⟨⟨zxe,by kernel_rfl,by rw [show zxe.toList=[zxh,zxg] by kernel_rfl]; exact (.i (of_decide_eq_true Z) Z Z (.i (of_decide_eq_true Z) Z Z .n))⟩,by kernel_rfl,by kernel_rfl⟩
theorem zCU:SEq ktab 136 zam (λx y=>x==y):=⟨⟨zxf,by kernel_rfl,by rw [show zxf.toList=[zxj,zxi] by kernel_rfl]; exact (.i (of_decide_eq_true Z) Z Z (.b (of_decide_eq_true Z) Z Z .n))⟩,by kernel_rfl,by kernel_rfl⟩
instance:iK ktab 3 (.int .i64):=uK
instance:iK ktab 5 (.int .u8):=uK
instance:iK ktab 112 (.int .u64):=uK
instance:iK ktab 287 (.int .u64):=uK
instance:iU ktab 101 (zL zQ):=uU
instance:iU ktab 107 (zL z8):=uU
instance:iU ktab 110 (zb zg):=uU
instance:iU ktab 112 (zh .u64):=uU
instance:iU ktab 114 zaN:=uU
instance:iU ktab 117 zg:=uU
instance:iU ktab 126 zeC:=uU
instance:iU ktab 136 zam:=uU
instance:iU ktab 161 (zjJ 6 (rFn ktab Duty Bool (λx=>[.val zcJ x]) (λy=>[.val zw y]))):=uU
instance:iU ktab 169 zdF:=uU
instance:iU ktab 170 (zh .i64):=uU
instance:iU ktab 171 (zb zaR):=uU
instance:iU ktab 173 zdm:=uU
instance:iU ktab 176 (zb zdF):=uU
instance:iU ktab 178 zfk:=uU
instance:iU ktab 183 zaR:=uU
instance:iU ktab 205 (zL zai):=uU
instance:iU ktab 215 zag:=uU
instance:iU ktab 217 zkE:=uU
instance:iU ktab 22 (zb zdm):=uU
instance:iU ktab 222 (zrj zaR (zh .i64)):=uU
instance:iU ktab 226 (zL zaH):=uU
instance:iU ktab 23 (zb zfk):=uU
instance:iU ktab 230 zM:=uU
instance:iU ktab 242 (zL zO):=uU
instance:iU ktab 248 (rFn ktab ze Int (λx=>[.val zM x]) (λy=>[.val (zh .i64) y])):=uU
instance:iU ktab 25 zdS:=uU
instance:iU ktab 250 zaX:=uU
instance:iU ktab 256 zaz:=uU
instance:iU ktab 26 (zb zfN):=uU
instance:iU ktab 266 (rFn ktab (zaG×Int×Int) Bool (λx=>[.val zaz x.1,.val (zh .i64) x.2.1,.val (zh .i64) x.2.2]) (λy=>[.val zw y])):=uU
instance:iU ktab 27 (zb (zh .i64)):=uU
instance:iU ktab 29 zd0:=uU
instance:iU ktab 3 (zh .i64):=uU
instance:iU ktab 32 (zb z9):=uU
instance:iU ktab 38 (zb zam):=uU
instance:iU ktab 4 zw:=uU
instance:iU ktab 40 zd6:=uU
instance:iU ktab 42 zdT:=uU
instance:iU ktab 44 zfN:=uU
instance:iU ktab 45 (zb zcp):=uU
instance:iU ktab 48 (zb (zb (zh .i64))):=uU
instance:iU ktab 49 (zb zw):=uU
instance:iU ktab 51 zhV:=uU
instance:iU ktab 53 z9:=uU
instance:iU ktab 57 zeK:=uU
instance:iU ktab 62 zbT:=uU
instance:iU ktab 74 zy:=uU
instance:iU ktab 75 (zb zy):=uU
instance:iU ktab 77 zcJ:=uU
instance:iU ktab 78 (zb zeC):=uU
instance:iU ktab 85 (zL zl):=uU
instance:iU ktab 99 zcp:=uU
instance:iS ktab 22 zdm 173:=uS
instance:iS ktab 23 zfk 178:=uS
instance:iS ktab 26 zfN 44:=uS
instance:iS ktab 27 (zh .i64) 3:=uS
instance:iS ktab 32 z9 53:=uS
instance:iS ktab 38 zam 136:=uS
instance:iS ktab 45 zcp 99:=uS
instance:iS ktab 48 (zb (zh .i64)) 27:=uS
instance:iS ktab 49 zw 4:=uS
instance:iS ktab 65 zcJ 77:=uS
instance:iS ktab 75 zy 74:=uS
instance:iS ktab 78 zeC 126:=uS
instance:iS ktab 79 (zL zl) 85:=uS
instance:iS ktab 84 (zb z9) 32:=uS
instance:iS ktab 110 zg 117:=uS
instance:iS ktab 120 (zh .i64) 162:=uS
instance:iS ktab 171 zaR 183:=uS
instance:iS ktab 176 zdF 169:=uS
instance:iS ktab 210 zkE 217:=uS
instance:iS ktab 235 (zb zdF) 176:=uS
instance:iS ktab 265 zag 215:=uS
instance:iY ktab 3 (zh .i64) 8:=uY
instance:iY ktab 4 zw 1:=uY
instance:iY ktab 27 (zb (zh .i64)) 24:=uY
instance:iY ktab 32 (zb z9) 24:=uY
instance:iY ktab 53 z9 32:=uY
instance:iY ktab 74 zy 24:=uY
instance:iY ktab 77 zcJ 24:=uY
instance:iY ktab 85 (zL zl) 8:=uY
instance:iY ktab 99 zcp 32:=uY
instance:iY ktab 117 zg 40:=uY
instance:iY ktab 162 (zh .i64) 8:=uY
instance:iY ktab 169 zdF 16:=uY
instance:iY ktab 176 (zb zdF) 24:=uY
instance:iY ktab 215 zag 48:=uY
instance:iY ktab 217 zkE 80:=uY
instance:iZ ktab 3 (zh .i64) 0:=uZ (zv:=.int .i64 0) (λ_=>⟨zint,rfl⟩)
instance:iZ ktab 4 zw Oc:=uZ (zv:=.bool Oc) (λ_=>⟨zbool,rfl⟩)
instance:iZ ktab 53 z9 (0,Oc,0,0,()):=uZ (zv:=.agg [.int .i64 0,.bool Oc,.int .i64 0,.int .i64 0]) (λ_=>⟨zpair zint (zpair zbool (zpair zint (zpair zint zunit rfl) rfl) rfl) rfl,rfl⟩)
instance:iZ ktab 114 zaN (0,0,()):=uZ (zv:=.agg [.int .i64 0,.int .i64 0]) (λ_=>⟨zpair zint (zpair zint zunit rfl) rfl,rfl⟩)
instance:iZ ktab 169 zdF (0,0,()):=uZ (zv:=.agg [.int .i64 0,.int .i64 0]) (λ_=>⟨zpair zint (zpair zint zunit rfl) rfl,rfl⟩)
instance:iB ktab 51 zhV [.nsz,.int .i64 0,.nsz] [(0,1),(1,1),(2,1)]:=uB
instance:iB ktab 53 z9 [.int .i64 0,.bool Oc,.int .i64 0,.int .i64 0] [(0,1),(1,1),(2,1),(3,1)]:=uB
instance:iB ktab 57 zeK [.nsz,.nsz] [(0,1),(1,1)]:=uB
instance:iB ktab 62 zbT [.int .i64 0,.int .i64 0,.int .i64 0,.int .i64 0,.int .i64 0,.int .i64 0] [(0,1),(1,1),(2,1),(3,1),(4,1),(5,1)]:=uB
instance:iB ktab 74 zy [.int .i64 0,.int .i64 0,.int .i64 0] [(0,1),(1,1),(2,1)]:=uB
instance:iB ktab 77 zcJ [.nsz] [(0,1)]:=uB
instance:iB ktab 99 zcp [.int .i64 0,.int .i64 0,.int .i64 0,.int .i64 0] [(0,1),(1,1),(2,1),(3,1)]:=uB
instance:iB ktab 103 zQ [.nsz,.nsz,.int .i64 0,.nsz] [(0,1),(1,3)]:=uB
instance:iB ktab 114 zaN [.int .i64 0,.int .i64 0] [(0,1),(1,1)]:=uB
instance:iB ktab 117 zg [.nsz,.int .u64 0,.int .i64 0] [(0,1),(1,1),(2,1)]:=uB
instance:iB ktab 136 zam [.int .i64 0,.bool Oc] [(0,1),(1,1)]:=uB
instance:iB ktab 151 z8 [.nq,.nsz,.int .i64 0,.int .i64 0,.int .i64 0,.int .i64 0,.int .i64 0,.int .i64 0] [(0,1),(1,1),(2,6)]:=uB
instance:iB ktab 183 zaR [.int .i64 0,.bool Oc] [(0,1),(1,1)]:=uB
instance:iB ktab 230 zM [.int .i64 0,.int .i64 0] [(0,1),(1,1)]:=uB
instance:iB ktab 256 zaz [.int .i64 0,.int .i64 0,.int .i64 0,.nsz,.int .i64 0] [(0,5)]:=uB
instance:iB ktab 262 zO [.int .i64 0,.int .i64 0,.int .i64 0,.int .i64 0,.int .i64 0,.int .i64 0,.int .i64 0,.int .i64 0,.int .i64 0,.nsz,.int .i64 0] [(0,10),(10,1)]:=uB
instance:iF ktab 25 0 zdS (zb zdm) 22 0 (λx=>x.1) wh:=uF fh
instance:iF ktab 25 1 zdS (zb zfk) 23 1 (λx=>x.2.1) (wt wh):=uF (ft' fh)
instance:iF ktab 29 0 zd0 (zb zfN) 26 0 (λx=>x.1) wh:=uF fh
instance:iF ktab 29 1 zd0 (zb (zh .i64)) 27 1 (λx=>x.2.1) (wt wh):=uF (ft' fh)
instance:iF ktab 29 2 zd0 (zb (zh .i64)) 27 2 (λx=>x.2.2.1) (wt (wt wh)):=uF (ft' (ft' fh))
instance:iF ktab 40 0 zd6 (zb zam) 38 0 (λx=>x.1) wh:=uF fh
instance:iF ktab 40 1 zd6 (zb (zh .i64)) 27 1 (λx=>x.2.1) (wt wh):=uF (ft' fh)
instance:iF ktab 40 2 zd6 (zb (zh .i64)) 27 2 (λx=>x.2.2.1) (wt (wt wh)):=uF (ft' (ft' fh))
instance:iF ktab 42 0 zdT (zh .i64) 3 0 (λx=>x.1) wh:=uF fh
instance:iF ktab 42 1 zdT (zh .i64) 3 1 (λx=>x.2.1) (wt wh):=uF (ft' fh)
instance:iF ktab 42 2 zdT (zh .i64) 3 2 (λx=>x.2.2.1) (wt (wt wh)):=uF (ft' (ft' fh))
instance:iF ktab 42 3 zdT (zh .i64) 3 3 (λx=>x.2.2.2.1) (wt (wt (wt wh))):=uF (ft' (ft' (ft' fh)))
instance:iF ktab 42 4 zdT (zh .i64) 3 4 (λx=>x.2.2.2.2.1) (wt (wt (wt (wt wh)))):=uF (ft' (ft' (ft' (ft' fh))))
instance:iF ktab 42 5 zdT (zh .i64) 3 5 (λx=>x.2.2.2.2.2.1) (wt (wt (wt (wt (wt wh))))):=uF (ft' (ft' (ft' (ft' (ft' fh)))))
instance:iF ktab 42 6 zdT (zh .i64) 3 6 (λx=>x.2.2.2.2.2.2.1) (wt (wt (wt (wt (wt (wt wh)))))):=uF (ft' (ft' (ft' (ft' (ft' (ft' fh))))))
instance:iF ktab 42 7 zdT (zh .i64) 3 7 (λx=>x.2.2.2.2.2.2.2.1) (wt (wt (wt (wt (wt (wt (wt wh))))))):=uF (ft' (ft' (ft' (ft' (ft' (ft' (ft' fh)))))))
instance:iF ktab 42 8 zdT (zh .i64) 3 8 (λx=>x.2.2.2.2.2.2.2.2.1) (wt (wt (wt (wt (wt (wt (wt (wt wh)))))))):=uF (ft' (ft' (ft' (ft' (ft' (ft' (ft' (ft' fh))))))))
instance:iF ktab 42 9 zdT (zb (zh .i64)) 27 9 (λx=>x.2.2.2.2.2.2.2.2.2.1) (wt (wt (wt (wt (wt (wt (wt (wt (wt wh))))))))):=uF (ft' (ft' (ft' (ft' (ft' (ft' (ft' (ft' (ft' fh)))))))))
instance:iF ktab 44 0 zfN zd6 40 0 (λx=>x.1) wh:=uF fh
instance:iF ktab 44 1 zfN zd6 40 3 (λx=>x.2.1) (wt wh):=uF (ft' fh)
instance:iF ktab 44 2 zfN zdT 42 6 (λx=>x.2.2.1) (wt (wt wh)):=uF (ft' (ft' fh))
instance:iF ktab 44 3 zfN (zh .i64) 3 16 (λx=>x.2.2.2.1) (wt (wt (wt wh))):=uF (ft' (ft' (ft' fh)))
instance:iF ktab 44 4 zfN (zh .i64) 3 17 (λx=>x.2.2.2.2.1) (wt (wt (wt (wt wh)))):=uF (ft' (ft' (ft' (ft' fh))))
instance:iF ktab 51 0 zhV (zb (zb (zh .i64))) 48 0 (λx=>x.1) wh:=uF fh
instance:iF ktab 51 1 zhV (zh .i64) 3 1 (λx=>x.2.1) (wt wh):=uF (ft' fh)
instance:iF ktab 51 2 zhV (zb zw) 49 2 (λx=>x.2.2.1) (wt (wt wh)):=uF (ft' (ft' fh))
instance:iF ktab 53 0 z9 (zh .i64) 3 0 (λx=>x.1) wh:=uF fh
instance:iF ktab 53 1 z9 zw 4 1 (λx=>x.2.1) (wt wh):=uF (ft' fh)
instance:iF ktab 53 2 z9 (zh .i64) 3 2 (λx=>x.2.2.1) (wt (wt wh)):=uF (ft' (ft' fh))
instance:iF ktab 53 3 z9 (zh .i64) 3 3 (λx=>x.2.2.2.1) (wt (wt (wt wh))):=uF (ft' (ft' (ft' fh)))
instance:iF ktab 57 0 zeK (zb (zh .i64)) 27 0 (λx=>x.1) wh:=uF fh
instance:iF ktab 57 1 zeK (zb (zh .i64)) 27 1 (λx=>x.2.1) (wt wh):=uF (ft' fh)
instance:iF ktab 62 0 zbT (zh .i64) 3 0 (λx=>x.1) wh:=uF fh
instance:iF ktab 62 1 zbT (zh .i64) 3 1 (λx=>x.2.1) (wt wh):=uF (ft' fh)
instance:iF ktab 62 2 zbT (zh .i64) 3 2 (λx=>x.2.2.1) (wt (wt wh)):=uF (ft' (ft' fh))
instance:iF ktab 62 3 zbT (zh .i64) 3 3 (λx=>x.2.2.2.1) (wt (wt (wt wh))):=uF (ft' (ft' (ft' fh)))
instance:iF ktab 62 4 zbT (zh .i64) 3 4 (λx=>x.2.2.2.2.1) (wt (wt (wt (wt wh)))):=uF (ft' (ft' (ft' (ft' fh))))
instance:iF ktab 62 5 zbT (zh .i64) 3 5 (λx=>x.2.2.2.2.2.1) (wt (wt (wt (wt (wt wh))))):=uF (ft' (ft' (ft' (ft' (ft' fh)))))
instance:iF ktab 74 0 zy (zh .i64) 3 0 (λx=>x.1) wh:=uF fh
instance:iF ktab 74 1 zy (zh .i64) 3 1 (λx=>x.2.1) (wt wh):=uF (ft' fh)
instance:iF ktab 74 2 zy (zh .i64) 3 2 (λx=>x.2.2.1) (wt (wt wh)):=uF (ft' (ft' fh))
instance:iF ktab 77 0 zcJ (zb zy) 75 0 (λx=>x.1) wh:=uF fh
instance:iF ktab 99 0 zcp (zh .i64) 3 0 (λx=>x.1) wh:=uF fh
instance:iF ktab 99 1 zcp (zh .i64) 3 1 (λx=>x.2.1) (wt wh):=uF (ft' fh)
instance:iF ktab 99 2 zcp (zh .i64) 3 2 (λx=>x.2.2.1) (wt (wt wh)):=uF (ft' (ft' fh))
instance:iF ktab 99 3 zcp (zh .i64) 3 3 (λx=>x.2.2.2.1) (wt (wt (wt wh))):=uF (ft' (ft' (ft' fh)))
instance:iF ktab 103 0 zQ (zb zcp) 45 0 (λx=>x.1) wh:=uF fh
instance:iF ktab 103 1 zQ zhV 51 1 (λx=>x.2.1) (wt wh):=uF (ft' fh)
instance:iF ktab 114 0 zaN (zh .i64) 3 0 (λx=>x.1) wh:=uF fh
instance:iF ktab 114 1 zaN (zh .i64) 3 1 (λx=>x.2.1) (wt wh):=uF (ft' fh)
instance:iF ktab 117 0 zg zcJ 77 0 (λx=>x.1) wh:=uF fh
instance:iF ktab 117 1 zg (zh .u64) 112 1 (λx=>x.2.1) (wt wh):=uF (ft' fh)
instance:iF ktab 117 2 zg (zh .i64) 3 2 (λx=>x.2.2.1) (wt (wt wh)):=uF (ft' (ft' fh))
instance:iF ktab 126 0 zeC (zh .i64) 3 0 (λx=>x.1) wh:=uF fh
instance:iF ktab 126 1 zeC (zh .i64) 3 1 (λx=>x.2.1) (wt wh):=uF (ft' fh)
instance:iF ktab 126 2 zeC (zh .i64) 3 2 (λx=>x.2.2.1) (wt (wt wh)):=uF (ft' (ft' fh))
instance:iF ktab 131 0 zl zfN 44 0 (λx=>x.1) wh:=uF fh
instance:iF ktab 131 1 zl (zjJ 2 (zb (zh .i64))) 129 18 (λx=>x.2.1) (wt wh):=uF (ft' fh)
instance:iF ktab 131 2 zl (zjJ 2 (zb (zh .i64))) 129 20 (λx=>x.2.2.1) (wt (wt wh)):=uF (ft' (ft' fh))
instance:iF ktab 136 0 zam (zh .i64) 3 0 (λx=>x.1) wh:=uF fh
instance:iF ktab 136 1 zam zw 4 1 (λx=>x.2.1) (wt wh):=uF (ft' fh)
instance:iF ktab 151 0 z8 (zL zQ) 101 0 (λx=>x.1) wh:=uF fh
instance:iF ktab 151 1 z8 (zb (zb (zh .i64))) 48 1 (λx=>x.2.1) (wt wh):=uF (ft' fh)
instance:iF ktab 151 2 z8 zbT 62 2 (λx=>x.2.2.1) (wt (wt wh)):=uF (ft' (ft' fh))
instance:iF ktab 169 0 zdF (zh .i64) 3 0 (λx=>x.1) wh:=uF fh
instance:iF ktab 169 1 zdF (zh .i64) 3 1 (λx=>x.2.1) (wt wh):=uF (ft' fh)
instance:iF ktab 173 0 zdm zdF 169 0 (λx=>x.1) wh:=uF fh
instance:iF ktab 173 1 zdm (zh .i64) 170 2 (λx=>x.2.1) (wt wh):=uF (ft' fh)
instance:iF ktab 173 2 zdm (zb zaR) 171 3 (λx=>x.2.2.1) (wt (wt wh)):=uF (ft' (ft' fh))
instance:iF ktab 173 3 zdm (zh .i64) 3 4 (λx=>x.2.2.2.1) (wt (wt (wt wh))):=uF (ft' (ft' (ft' fh)))
instance:iF ktab 178 0 zfk (zh .i64) 3 0 (λx=>x.1) wh:=uF fh
instance:iF ktab 178 1 zfk (zh .i64) 3 1 (λx=>x.2.1) (wt wh):=uF (ft' fh)
instance:iF ktab 178 2 zfk (zb zdF) 176 2 (λx=>x.2.2.1) (wt (wt wh)):=uF (ft' (ft' fh))
instance:iF ktab 178 3 zfk (zh .i64) 3 3 (λx=>x.2.2.2.1) (wt (wt (wt wh))):=uF (ft' (ft' (ft' fh)))
instance:iF ktab 178 4 zfk (zh .i64) 3 4 (λx=>x.2.2.2.2.1) (wt (wt (wt (wt wh)))):=uF (ft' (ft' (ft' (ft' fh))))
instance:iF ktab 183 0 zaR (zh .i64) 3 0 (λx=>x.1) wh:=uF fh
instance:iF ktab 183 1 zaR zw 4 1 (λx=>x.2.1) (wt wh):=uF (ft' fh)
instance:iF ktab 215 0 zag (zh .i64) 3 0 (λx=>x.1) wh:=uF fh
instance:iF ktab 215 1 zag (zh .i64) 3 1 (λx=>x.2.1) (wt wh):=uF (ft' fh)
instance:iF ktab 215 2 zag (zh .i64) 3 2 (λx=>x.2.2.1) (wt (wt wh)):=uF (ft' (ft' fh))
instance:iF ktab 215 3 zag (zh .i64) 3 3 (λx=>x.2.2.2.1) (wt (wt (wt wh))):=uF (ft' (ft' (ft' fh)))
instance:iF ktab 215 4 zag (zh .i64) 3 4 (λx=>x.2.2.2.2.1) (wt (wt (wt (wt wh)))):=uF (ft' (ft' (ft' (ft' fh))))
instance:iF ktab 215 5 zag (zh .i64) 3 5 (λx=>x.2.2.2.2.2.1) (wt (wt (wt (wt (wt wh))))):=uF (ft' (ft' (ft' (ft' (ft' fh)))))
instance:iF ktab 217 0 zkE (zh .i64) 3 0 (λx=>x.1) wh:=uF fh
instance:iF ktab 217 1 zkE (zh .i64) 3 1 (λx=>x.2.1) (wt wh):=uF (ft' fh)
instance:iF ktab 217 2 zkE zag 215 2 (λx=>x.2.2.1) (wt (wt wh)):=uF (ft' (ft' fh))
instance:iF ktab 217 3 zkE (zh .i64) 3 8 (λx=>x.2.2.2.1) (wt (wt (wt wh))):=uF (ft' (ft' (ft' fh)))
instance:iF ktab 217 4 zkE (zh .i64) 3 9 (λx=>x.2.2.2.2.1) (wt (wt (wt (wt wh)))):=uF (ft' (ft' (ft' (ft' fh))))
instance:iF ktab 224 0 zai zdS 25 0 (λx=>x.1) wh:=uF fh
instance:iF ktab 224 1 zai (zb (zh .i64)) 27 2 (λx=>x.2.1) (wt wh):=uF (ft' fh)
instance:iF ktab 224 2 zai (zrj zaR (zh .i64)) 222 3 (λx=>x.2.2.1) (wt (wt wh)):=uF (ft' (ft' fh))
instance:iF ktab 230 0 zM (zh .i64) 3 0 (λx=>x.1) wh:=uF fh
instance:iF ktab 230 1 zM (zh .i64) 3 1 (λx=>x.2.1) (wt wh):=uF (ft' fh)
instance:iF ktab 246 0 zaH (zL zO) 242 0 (λx=>x.1) wh:=uF fh
instance:iF ktab 246 2 zaH (zb (zh .i64)) 27 2 (λx=>x.2.2.1) (wt (wt wh)):=uF (ft' (ft' fh))
instance:iF ktab 246 3 zaH (zb (zh .i64)) 27 3 (λx=>x.2.2.2.1) (wt (wt (wt wh))):=uF (ft' (ft' (ft' fh)))
instance:iF ktab 246 4 zaH (zb (zh .i64)) 27 4 (λx=>x.2.2.2.2.1) (wt (wt (wt (wt wh)))):=uF (ft' (ft' (ft' (ft' fh))))
instance:iF ktab 250 0 zaX zM 230 0 (λx=>x.1) wh:=uF fh
instance:iF ktab 250 1 zaX zag 215 2 (λx=>x.2.1) (wt wh):=uF (ft' fh)
instance:iF ktab 250 2 zaX (zh .i64) 3 8 (λx=>x.2.2.1) (wt (wt wh)):=uF (ft' (ft' fh))
instance:iF ktab 250 3 zaX (zh .i64) 3 9 (λx=>x.2.2.2.1) (wt (wt (wt wh))):=uF (ft' (ft' (ft' fh)))
instance:iF ktab 256 0 zaz zdm 173 0 (λx=>x.1) wh:=uF fh
instance:iF ktab 262 0 zO zdT 42 0 (λx=>x.1) wh:=uF fh
instance:iF ktab 262 1 zO (zh .i64) 3 10 (λx=>x.2.1) (wt wh):=uF (ft' fh)
instance:iA ktab 129 (zb (zh .i64)) 27 2:=uA
instance:iA ktab 132 zd6 40 2:=uA
instance:iA ktab 161 (rFn ktab Duty Bool (λx=>[.val zcJ x]) (λy=>[.val zw y])) 160 6:=uA
instance:iA ktab 200 (zh .i64) 3 7:=uA
instance:iA ktab 267 (rFn ktab (zaG×Int×Int) Bool (λx=>[.val zaz x.1,.val (zh .i64) x.2.1,.val (zh .i64) x.2.2]) (λy=>[.val zw y])) 266 7:=uA
instance:iA ktab 272 (zh .i64) 3 4:=uA
instance:iA ktab 288 (rFn ktab (Int×Int×Int) Int (λx=>[.val (zh .i64) x.1,.val (zh .i64) x.2.1,.val (zh .i64) x.2.2]) (λy=>[.val (zh .i64) y])) 128 4:=uA
instance:iE ktab 74 zy (λx y=>x==y):=⟨E74,rfl⟩
instance:iE ktab 114 zaN (λx y=>x==y):=⟨zCT,rfl⟩
instance:iE ktab 136 zam (λx y=>x==y):=⟨zCU,rfl⟩
instance:iL ktab 3 (.int .i64 0) [vI 0]:=uL
instance:iL ktab 4 (.bool Oc) [vB Oc]:=uL
instance:iL ktab 27 (.nsz) [.raw .nsz]:=uL
instance:iL ktab 32 (.nsz) [.raw .nsz]:=uL
instance:iL ktab 38 (.nsz) [.val (zb zam) ([])]:=uL
instance:iL ktab 40 (.agg [.nsz,.nsz,.nsz]) [.val (zb zam) ([]),.val (zb (zh .i64)) ([]),.val (zb (zh .i64)) ([])]:=uL
instance:iL ktab 44 (.agg [.nsz,.nsz,.nsz,.nsz,.nsz,.nsz,.int .i64 0,.int .i64 0,.int .i64 0,.int .i64 0,.int .i64 0,.int .i64 0,.int .i64 0,.int .i64 0,.int .i64 0,.nsz,.int .i64 0,.int .i64 0]) [.val (zb zam) ([]),.val (zb (zh .i64)) ([]),.val (zb (zh .i64)) ([]),.val (zb zam) ([]),.val (zb (zh .i64)) ([]),.val (zb (zh .i64)) ([]),vI 0,vI 0,vI 0,vI 0,vI 0,vI 0,vI 0,vI 0,vI 0,.val (zb (zh .i64)) ([]),vI 0,vI 0]:=uL
instance:iL ktab 49 (.nsz) [.raw .nsz]:=uL
instance:iL ktab 51 (.agg [.nsz,.int .i64 0,.nsz]) [.val (zb (zb (zh .i64))) ([]),vI 0,.val (zb zw) ([])]:=uL
instance:iL ktab 53 (.agg [.int .i64 0,.bool Oc,.int .i64 0,.int .i64 0]) [vI 0,vB Oc,vI 0,vI 0]:=uL
instance:iL ktab 57 (.agg [.nsz,.nsz]) [.val (zb (zh .i64)) ([]),.val (zb (zh .i64)) ([])]:=uL
instance:iL ktab 62 (.agg [.int .i64 0,.int .i64 0,.int .i64 0,.int .i64 0,.int .i64 0,.int .i64 0]) [vI 0,vI 0,vI 0,vI 0,vI 0,vI 0]:=uL
instance:iL ktab 74 (.agg [.int .i64 0,.int .i64 0,.int .i64 0]) [vI 0,vI 0,vI 0]:=uL
instance:iL ktab 77 (.agg [.nsz]) [.val (zb zy) ([])]:=uL
instance:iL ktab 85 (.nq) [.raw (.nq)]:=uL
instance:iL ktab 99 (.agg [.int .i64 0,.int .i64 0,.int .i64 0,.int .i64 0]) [vI 0,vI 0,vI 0,vI 0]:=uL
instance:iL ktab 101 (.nq) [.raw (.nq)]:=uL
instance:iL ktab 106 (.nfz) [.raw (.nfz)]:=uL
instance:iL ktab 110 (.nsz) [.raw .nsz]:=uL
instance:iL ktab 114 (.agg [.int .i64 0,.int .i64 0]) [vI 0,vI 0]:=uL
instance:iL ktab 117 (.agg [.nsz,.int .u64 0,.int .i64 0]) [.val (zb zy) ([]),.val (zh .u64) 0,vI 0]:=uL
instance:iL ktab 132 (.agg [.nsz,.nsz,.nsz,.nsz,.nsz,.nsz]) [.raw (.nsz),.raw (.nsz),.raw (.nsz),.raw (.nsz),.raw (.nsz),.raw (.nsz)]:=uL
instance:iL ktab 136 (.agg [.int .i64 0,.bool Oc]) [vI 0,vB Oc]:=uL
instance:iL ktab 140 (.nfz) [.raw (.nfz)]:=uL
instance:iL ktab 161 (.agg [.nfz,.nfz,.nfz,.nfz,.nfz,.nfz]) [.raw (.nfz),.raw (.nfz),.raw (.nfz),.raw (.nfz),.raw (.nfz),.raw (.nfz)]:=uL
instance:iL ktab 169 (.agg [.int .i64 0,.int .i64 0]) [vI 0,vI 0]:=uL
instance:iL ktab 173 (.agg [.int .i64 0,.int .i64 0,.int .i64 0,.nsz,.int .i64 0]) [vI 0,vI 0,vI 0,.val (zb zaR) ([]),vI 0]:=uL
instance:iL ktab 178 (.agg [.int .i64 0,.int .i64 0,.nsz,.int .i64 0,.int .i64 0]) [vI 0,vI 0,.val (zb zdF) ([]),vI 0,vI 0]:=uL
instance:iL ktab 183 (.agg [.int .i64 0,.bool Oc]) [vI 0,vB Oc]:=uL
instance:iL ktab 200 (.agg [.int .i64 0,.int .i64 0,.int .i64 0,.int .i64 0,.int .i64 0,.int .i64 0,.int .i64 0]) [.raw (.int .i64 0),.raw (.int .i64 0),.raw (.int .i64 0),.raw (.int .i64 0),.raw (.int .i64 0),.raw (.int .i64 0),.raw (.int .i64 0)]:=uL
instance:iL ktab 215 (.agg [.int .i64 0,.int .i64 0,.int .i64 0,.int .i64 0,.int .i64 0,.int .i64 0]) [vI 0,vI 0,vI 0,vI 0,vI 0,vI 0]:=uL
instance:iL ktab 217 (.agg [.int .i64 0,.int .i64 0,.int .i64 0,.int .i64 0,.int .i64 0,.int .i64 0,.int .i64 0,.int .i64 0,.int .i64 0,.int .i64 0]) [vI 0,vI 0,vI 0,vI 0,vI 0,vI 0,vI 0,vI 0,vI 0,vI 0]:=uL
instance:iL ktab 230 (.agg [.int .i64 0,.int .i64 0]) [vI 0,vI 0]:=uL
instance:iL ktab 250 (.agg [.int .i64 0,.int .i64 0,.int .i64 0,.int .i64 0,.int .i64 0,.int .i64 0,.int .i64 0,.int .i64 0,.int .i64 0,.int .i64 0]) [vI 0,vI 0,vI 0,vI 0,vI 0,vI 0,vI 0,vI 0,vI 0,vI 0]:=uL
instance:iL ktab 267 (.agg [.nfz,.nfz,.nfz,.nfz,.nfz,.nfz,.nfz]) [.raw (.nfz),.raw (.nfz),.raw (.nfz),.raw (.nfz),.raw (.nfz),.raw (.nfz),.raw (.nfz)]:=uL
instance:iL ktab 272 (.agg [.int .i64 0,.int .i64 0,.int .i64 0,.int .i64 0]) [.raw (.int .i64 0),.raw (.int .i64 0),.raw (.int .i64 0),.raw (.int .i64 0)]:=uL
end Go.Ai.TabYtnngmijajnldlaaGreat
namespace Go.Ai.TabYtnngmijajnldlaaGreat
open Go Go.Ai Go.Ai.Sx Go.Proofs Go.Proofs.YtnngmijajnldlaaGreat
theorem own:ownKnob Tryz.prog.godebug=Oe:=Z
theorem zsw:laidOutB Tryz.prog=Od:=Z
theorem begun:decide (Tryz.prog.globals.size<(begin Tryz.prog (λ_ _=>0) default).world.heap.size)=Od:=Z
theorem zuP {W:World} (h:W.ShapedOpen Tryz.prog):0<W.heap.size:=by
 obtain ⟨o,_,ho,_⟩:=h.2 Tryz.prog.globals.size (Nat.le_refl _) (of_decide_eq_true begun);have:=(Array.getElem?_eq_some_iff.1 ho).1;omega
theorem zU {P:Program} {A B:Type} {f:Field} {fs:List Field} {o:Nat} {t:TypeId} {R:Rep A} {S:Rep B} (hf:f.offset=o) (ht:f.type=t) (ho:Opens P t R) (hs:zlI P fs (o+R.sz) S):zlI P (f::fs) o (zC R S):=by
 subst ht;exact zoE hf ho hs
def zpL:=FQ Tryz.t168.desc
def zuQ:Field:=zpL[0]!
def zuR:Field:=zpL[1]!
def zpM:=FQ Tryz.t182.desc
def zuS:Field:=zpM[0]!
def zuT:Field:=zpM[1]!
def zlR:=FQ Tryz.t172.desc
def zuU:Field:=zlR[0]!
def zuV:Field:=zlR[1]!
def zuW:Field:=zlR[2]!
def zuX:Field:=zlR[3]!
def zkF:=FQ Tryz.t177.desc
def zuY:Field:=zkF[0]!
def zuZ:Field:=zkF[1]!
def zu0:Field:=zkF[2]!
def zu1:Field:=zkF[3]!
def zu2:Field:=zkF[4]!
def zu3:=FQ Tryz.t24.desc
def zxo:Field:=zu3[0]!
def zxp:Field:=zu3[1]!
def zpN:=FQ Tryz.t135.desc
def zu4:Field:=zpN[0]!
def zu5:Field:=zpN[1]!
def zsx:=FQ Tryz.t39.desc
def zxq:Field:=zsx[0]!
def zxr:Field:=zsx[1]!
def zxs:Field:=zsx[2]!
def zjA:=FQ Tryz.t41.desc
def zxt:Field:=zjA[0]!
def zxu:Field:=zjA[1]!
def zxv:Field:=zjA[2]!
def zxw:Field:=zjA[3]!
def zxx:Field:=zjA[4]!
def zxy:Field:=zjA[5]!
def zxz:Field:=zjA[6]!
def zxA:Field:=zjA[7]!
def zxB:Field:=zjA[8]!
def zxC:Field:=zjA[9]!
def zoZ:=FQ Tryz.t43.desc
def zxD:Field:=zoZ[0]!
def zxE:Field:=zoZ[1]!
def zxF:Field:=zoZ[2]!
def zxG:Field:=zoZ[3]!
def zxH:Field:=zoZ[4]!
def zsy:=FQ Tryz.t28.desc
def zxI:Field:=zsy[0]!
def zxJ:Field:=zsy[1]!
def zxK:Field:=zsy[2]!
theorem o3:Opens Tryz.prog 3 (zh .i64):=znw Z Z
theorem zCi:Opens Tryz.prog 169 zdF:=zb2 (fs:=zpL) Z Z rfl (by
 rw [show zpL.toList=[zuQ,zuR] by kernel_rfl];exact (zU Z Z o3 (zU Z Z o3 (zde _))))
theorem zCy:Opens Tryz.prog 170 (zh .i64):=znw Z Z
theorem o4:Opens Tryz.prog 4 zw:=zqD Z Z
theorem zCz:Opens Tryz.prog 183 zaR:=zb2 (fs:=zpM) Z Z rfl (by
 rw [show zpM.toList=[zuS,zuT] by kernel_rfl];exact (zU Z Z o3 (zU Z Z o4 (zde _))))
theorem zCA:Opens Tryz.prog 171 (zb zaR):=zd4 Z Z zCz Oa
theorem zCB:Opens Tryz.prog 173 zdm:=zb2 (fs:=zlR) Z Z rfl (by
 rw [show zlR.toList=[zuU,zuV,zuW,zuX] by kernel_rfl];exact (zU Z Z zCi (zU Z Z zCy (zU Z Z zCA (zU Z Z o3 (zde _))))))
theorem o22:Opens Tryz.prog 22 (zb zdm):=zd4 Z Z zCB Oa
theorem zCC:Opens Tryz.prog 176 (zb zdF):=zd4 Z Z zCi Oa
theorem zCD:Opens Tryz.prog 178 zfk:=zb2 (fs:=zkF) Z Z rfl (by
 rw [show zkF.toList=[zuY,zuZ,zu0,zu1,zu2] by kernel_rfl];exact (zU Z Z o3 (zU Z Z o3 (zU Z Z zCC (zU Z Z o3 (zU Z Z o3 (zde _)))))))
theorem o23:Opens Tryz.prog 23 (zb zfk):=zd4 Z Z zCD Oa
theorem o25:Opens Tryz.prog 25 zdS:=zb2 (fs:=zu3) Z Z rfl (by
 rw [show zu3.toList=[zxo,zxp] by kernel_rfl];exact (zU Z Z o22 (zU Z Z o23 (zde _))))
theorem zCE:Opens Tryz.prog 136 zam:=zb2 (fs:=zpN) Z Z rfl (by
 rw [show zpN.toList=[zu4,zu5] by kernel_rfl];exact (zU Z Z o3 (zU Z Z o4 (zde _))))
theorem o38:Opens Tryz.prog 38 (zb zam):=zd4 Z Z zCE Oa
theorem o27:Opens Tryz.prog 27 (zb (zh .i64)):=zd4 Z Z o3 Oa
theorem o40:Opens Tryz.prog 40 zd6:=zb2 (fs:=zsx) Z Z rfl (by
 rw [show zsx.toList=[zxq,zxr,zxs] by kernel_rfl];exact (zU Z Z o38 (zU Z Z o27 (zU Z Z o27 (zde _)))))
theorem o42:Opens Tryz.prog 42 zdT:=zb2 (fs:=zjA) Z Z rfl (by
 rw [show zjA.toList=[zxt,zxu,zxv,zxw,zxx,zxy,zxz,zxA,zxB,zxC] by kernel_rfl];exact (zU Z Z o3 (zU Z Z o3 (zU Z Z o3 (zU Z Z o3 (zU Z Z o3 (zU Z Z o3 (zU Z Z o3 (zU Z Z o3 (zU Z Z o3 (zU Z Z o27 (zde _))))))))))))
theorem o44:Opens Tryz.prog 44 zfN:=zb2 (fs:=zoZ) Z Z rfl (by
 rw [show zoZ.toList=[zxD,zxE,zxF,zxG,zxH] by kernel_rfl];exact (zU Z Z o40 (zU Z Z o40 (zU Z Z o42 (zU Z Z o3 (zU Z Z o3 (zde _)))))))
theorem o26:Opens Tryz.prog 26 (zb zfN):=zd4 Z Z o44 Oa
theorem o29:Opens Tryz.prog 29 zd0:=zb2 (fs:=zsy) Z Z rfl (by
 rw [show zsy.toList=[zxI,zxJ,zxK] by kernel_rfl];exact (zU Z Z o26 (zU Z Z o27 (zU Z Z o27 (zde _)))))
theorem zhX {a b:Bool} (h:a=Od) (k:b=Od):(a&&b)=Od:=by rw [h,k]; rfl
set_option maxRecDepth 100000 in
theorem zzL:mapsRowed Tryz.prog=Od:=Z
set_option maxRecDepth 100000 in
theorem zxL:(Tryz.prog.stops==[])=Od:=Z
set_option maxRecDepth 100000 in
theorem zxM:(Tryz.prog.stopKnobs==[])=Od:=Z
set_option maxRecDepth 100000 in
theorem zxN:(Rows.dutyRoundsRow.plainKeys==Tryz.prog.plainKeys)=Od:=Z
set_option maxRecDepth 100000 in
theorem zxO:Tryz.prog.stopsHeard=Od:=Z
set_option maxRecDepth 100000 in
theorem zxP:Tryz.prog.mayEnter=Od:=Z
set_option maxRecDepth 100000 in
theorem zzM:(Rows.dutyRoundsRow.lifted==Tryz.prog.liftsFinal)=Od:=Z
set_option maxRecDepth 100000 in
theorem zzN:(Tryz.prog.make==Ob Rows.dutyRoundsRow.make)=Od:=Z
end Go.Ai.TabYtnngmijajnldlaaGreat