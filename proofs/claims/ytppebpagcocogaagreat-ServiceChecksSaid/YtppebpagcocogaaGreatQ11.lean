/- Written by program: the facts of the tables,and the walks through the functions. -/
import Derived.Test.YtppebpagcocogaaGreatQ8
import Derived.Test.YtppebpagcocogaaGreatQ9
import Derived.KernelRfl
import Derived.Test.YtppebpagcocogaaGreatQ10
import Derived.Test.YtppebpagcocogaaGreatQ5
import Derived.Test.YtppebpagcocogaaGreatRows
import Derived.WalkKit
import Derived.ProofKit
import Derived.JoinedOf
set_option linter.unusedSimpArgs false
set_option linter.unusedVariables false
set_option linter.unusedSectionVars false
namespace Go.Ai.TabYtppebpagcocogaaGreat
open Go Go.Ai Go.Ai.Sx Go.Proofs
noncomputable def ti3:=tI Tryz.t3 Tryz.t3 3
noncomputable def ti4:=tI Tryz.t4 Tryz.t4 4
noncomputable def zCS:=tI Tryz.t32 Tryz.t33 33
noncomputable def zCT:=tI Tryz.t55 Tryz.t56 56
noncomputable def zCU:=tI Tryz.t69 Tryz.t70 70
noncomputable def zCV:=tI Tryz.t71 Tryz.t72 72
noncomputable def zCW:=tI Tryz.t88 Tryz.t88 88
noncomputable def zCX:=tI Tryz.t97 Tryz.t98 98
noncomputable def zBT:=tI Tryz.t101 Tryz.t102 102
noncomputable def zBU:=tI Tryz.t103 Tryz.t103 103
noncomputable def zBV:=tI Tryz.t104 Tryz.t105 105
noncomputable def zBW:=tI Tryz.t108 Tryz.t108 108
noncomputable def zBX:=tI Tryz.t122 Tryz.t123 123
noncomputable def zBY:=tI Tryz.t151 Tryz.t152 152
noncomputable def zBZ:=tI Tryz.t163 Tryz.t164 164
noncomputable def zB0:=tI Tryz.t165 Tryz.t166 166
noncomputable def zB1:=tI Tryz.t287 Tryz.t288 288
attribute [local irreducible] zo
noncomputable def zmB:Array Field:=match Tryz.t122.desc with | .struct fs=>fs | _=>#[]
noncomputable def zAW:Array Field:=match Tryz.t24.desc with | .struct fs=>fs | _=>#[]
noncomputable def zAb:Array Field:=match Tryz.t28.desc with | .struct fs=>fs | _=>#[]
noncomputable def zsy:Array Field:=match Tryz.t30.desc with | .struct fs=>fs | _=>#[]
noncomputable def zys:Array Field:=match Tryz.t32.desc with | .struct fs=>fs | _=>#[]
noncomputable def zAc:Array Field:=match Tryz.t49.desc with | .struct fs=>fs | _=>#[]
noncomputable def zuL:Array Field:=match Tryz.t55.desc with | .struct fs=>fs | _=>#[]
noncomputable def zxE:Array Field:=match Tryz.t71.desc with | .struct fs=>fs | _=>#[]
noncomputable def zAX:Array Field:=match Tryz.t97.desc with | .struct fs=>fs | _=>#[]
noncomputable def ztx:Array Field:=match Tryz.t101.desc with | .struct fs=>fs | _=>#[]
noncomputable def zrn:Array Field:=match Tryz.t104.desc with | .struct fs=>fs | _=>#[]
noncomputable def zvJ:Array Field:=match Tryz.t112.desc with | .struct fs=>fs | _=>#[]
noncomputable def zB2:Array Field:=match Tryz.t147.desc with | .struct fs=>fs | _=>#[]
noncomputable def zty:Array Field:=match Tryz.t151.desc with | .struct fs=>fs | _=>#[]
noncomputable def zpD:Array Field:=match Tryz.t163.desc with | .struct fs=>fs | _=>#[]
noncomputable def zyt:Array Field:=match Tryz.t190.desc with | .struct fs=>fs | _=>#[]
noncomputable def zro:Array Field:=match Tryz.t237.desc with | .struct fs=>fs | _=>#[]
noncomputable def zyu:Array Field:=match Tryz.t250.desc with | .struct fs=>fs | _=>#[]
noncomputable def zAd:Array Field:=match Tryz.t280.desc with | .struct fs=>fs | _=>#[]
noncomputable def zAe:Array Field:=match Tryz.t287.desc with | .struct fs=>fs | _=>#[]
noncomputable def zvK:Array Field:=match Tryz.t253.desc with | .struct fs=>fs | _=>#[]
noncomputable def ztz:Array Field:=match Tryz.t214.desc with | .struct fs=>fs | _=>#[]
noncomputable def zAf:Array Field:=match Tryz.t69.desc with | .struct fs=>fs | _=>#[]
noncomputable def zrp:Array Field:=match Tryz.t165.desc with | .struct fs=>fs | _=>#[]
noncomputable def ztA:Array Field:=match Tryz.t218.desc with | .struct fs=>fs | _=>#[]
noncomputable def zjy:Field:=zmB[0]!
noncomputable def zjz:Field:=zmB[1]!
noncomputable def zyv:Field:=zAW[0]!
noncomputable def zyw:Field:=zAW[1]!
noncomputable def zyx:Field:=zAb[0]!
noncomputable def zyy:Field:=zAb[1]!
noncomputable def zyz:Field:=zAb[2]!
noncomputable def zyA:Field:=zsy[0]!
noncomputable def zyB:Field:=zsy[1]!
noncomputable def zyC:Field:=zsy[2]!
noncomputable def zyD:Field:=zsy[3]!
noncomputable def zyE:Field:=zsy[4]!
noncomputable def zyF:Field:=zsy[5]!
noncomputable def zyG:Field:=zsy[6]!
noncomputable def zyH:Field:=zsy[7]!
noncomputable def zyI:Field:=zsy[8]!
noncomputable def zyJ:Field:=zsy[9]!
noncomputable def zyK:Field:=zys[0]!
noncomputable def zyL:Field:=zys[1]!
noncomputable def zyM:Field:=zys[2]!
noncomputable def zyN:Field:=zys[3]!
noncomputable def zyO:Field:=zys[4]!
noncomputable def zyP:Field:=zAc[0]!
noncomputable def zyQ:Field:=zAc[1]!
noncomputable def zyR:Field:=zAc[2]!
noncomputable def zyS:Field:=zuL[0]!
noncomputable def zyT:Field:=zuL[1]!
noncomputable def zyU:Field:=zuL[2]!
noncomputable def zyV:Field:=zuL[3]!
noncomputable def zyW:Field:=zuL[4]!
noncomputable def zyX:Field:=zuL[5]!
noncomputable def zyY:Field:=zuL[6]!
noncomputable def zyZ:Field:=zuL[7]!
noncomputable def zy0:Field:=zAf[0]!
noncomputable def zy1:Field:=zAf[1]!
noncomputable def zy2:Field:=zAf[2]!
noncomputable def zrq:Field:=zxE[0]!
noncomputable def zrr:Field:=zxE[1]!
noncomputable def zrs:Field:=zxE[2]!
noncomputable def zrt:Field:=zxE[3]!
noncomputable def zy3:Field:=zAX[0]!
noncomputable def zy4:Field:=zAX[1]!
noncomputable def zvL:Field:=ztx[0]!
noncomputable def zvM:Field:=ztx[1]!
noncomputable def zvN:Field:=ztx[2]!
noncomputable def zvO:Field:=ztx[3]!
noncomputable def zvP:Field:=zrn[0]!
noncomputable def zvQ:Field:=zrn[1]!
noncomputable def zvR:Field:=zrn[2]!
noncomputable def zvS:Field:=zrn[3]!
noncomputable def zvT:Field:=zrn[4]!
noncomputable def zvU:Field:=zvJ[0]!
noncomputable def zvV:Field:=zvJ[1]!
noncomputable def zvW:Field:=zvJ[2]!
noncomputable def znB:Field:=zty[0]!
noncomputable def znC:Field:=zty[1]!
noncomputable def zvX:Field:=zpD[0]!
noncomputable def zvY:Field:=zpD[1]!
noncomputable def zvZ:Field:=zpD[2]!
noncomputable def zv0:Field:=zpD[3]!
noncomputable def zv1:Field:=zpD[4]!
noncomputable def zv2:Field:=zpD[5]!
noncomputable def zv3:Field:=zrp[0]!
noncomputable def zv4:Field:=zrp[1]!
noncomputable def zv5:Field:=zrp[2]!
noncomputable def zv6:Field:=zrp[3]!
noncomputable def zv7:Field:=zrp[4]!
noncomputable def zv8:Field:=zyt[0]!
noncomputable def zv9:Field:=zyt[1]!
noncomputable def zwa:Field:=ztz[0]!
noncomputable def zwb:Field:=ztz[2]!
noncomputable def zwc:Field:=ztz[3]!
noncomputable def zwd:Field:=ztz[4]!
noncomputable def zwe:Field:=ztA[0]!
noncomputable def zwf:Field:=ztA[1]!
noncomputable def zwg:Field:=ztA[2]!
noncomputable def zwh:Field:=ztA[3]!
noncomputable def zwi:Field:=zro[0]!
noncomputable def zwj:Field:=zro[1]!
noncomputable def zwk:Field:=zro[2]!
noncomputable def zwl:Field:=zro[3]!
noncomputable def zwm:Field:=zro[4]!
noncomputable def zwn:Field:=zyu[0]!
noncomputable def zwo:Field:=zyu[1]!
noncomputable def zwp:Field:=zvK[0]!
noncomputable def zwq:Field:=zvK[1]!
noncomputable def zwr:Field:=zvK[2]!
noncomputable def zws:Field:=zAd[0]!
noncomputable def zwt:Field:=zAe[0]!
theorem K3:ktab.und 3=some (.int .i64):=by kernel_rfl
theorem K4:ktab.und 4=some .bool:=by kernel_rfl
theorem K5:ktab.und 5=some (.int .u8):=by kernel_rfl
theorem zCY:ktab.und 263=some (.int .u64):=by kernel_rfl
theorem zCZ:ktab.und 301=some (.int .u32):=by kernel_rfl
theorem zC0:ktab.und 303=some (.int .u64):=by kernel_rfl
theorem zC1:ktab.und 304=some (.int .u64):=by kernel_rfl
theorem zC2:Und ktab 100 (zg zA):=⟨by kernel_rfl,by kernel_rfl⟩
theorem zC3:Und ktab 102 zax:=⟨by kernel_rfl,by kernel_rfl⟩
theorem zC4:Und ktab 103 (zg zbc):=⟨by kernel_rfl,by kernel_rfl⟩
theorem zC5:Und ktab 105 zbJ:=⟨by kernel_rfl,by kernel_rfl⟩
theorem zC6:Und ktab 108 (zad zn):=⟨by kernel_rfl,by kernel_rfl⟩
theorem zAg:Und ktab 123 zA:=⟨by kernel_rfl,by kernel_rfl⟩
theorem zC7:Und ktab 129 (zg (zad zn)):=⟨by kernel_rfl,by kernel_rfl⟩
theorem zB3:Und ktab 152 zy:=⟨by kernel_rfl,by kernel_rfl⟩
theorem znD:Und ktab 164 zp:=⟨by kernel_rfl,by kernel_rfl⟩
theorem ztB:Und ktab 166 zdW:=⟨by kernel_rfl,by kernel_rfl⟩
theorem zC8:Und ktab 187 (zad zr):=⟨by kernel_rfl,by kernel_rfl⟩
theorem zgp:Und ktab 191 zh:=⟨by kernel_rfl,by kernel_rfl⟩
theorem zC9:Und ktab 211 (zad zt):=⟨by kernel_rfl,by kernel_rfl⟩
theorem zDa:Und ktab 217 (rFn ktab (zf) (Int) (fun x=>[.val zh (x)]) (fun y=>[.val (zj .i64) (y)])):=⟨by kernel_rfl,by kernel_rfl⟩
theorem zxF:Und ktab 219 zQ:=⟨by kernel_rfl,by kernel_rfl⟩
theorem U22:Und ktab 22 (zg zax):=⟨by kernel_rfl,by kernel_rfl⟩
theorem zDb:Und ktab 228 (zad zu):=⟨by kernel_rfl,by kernel_rfl⟩
theorem U23:Und ktab 23 (zg zbJ):=⟨by kernel_rfl,by kernel_rfl⟩
theorem zDc:Und ktab 238 zK:=⟨by kernel_rfl,by kernel_rfl⟩
theorem U25:Und ktab 25 zaJ:=⟨by kernel_rfl,by kernel_rfl⟩
theorem zDd:Und ktab 252 (znv zA (zj .i64)):=⟨by kernel_rfl,by kernel_rfl⟩
theorem U26:Und ktab 26 (zg zy):=⟨by kernel_rfl,by kernel_rfl⟩
theorem U27:Und ktab 27 (zg (zj .i64)):=⟨by kernel_rfl,by kernel_rfl⟩
theorem zDe:Und ktab 281 z8:=⟨by kernel_rfl,by kernel_rfl⟩
theorem zDf:Und ktab 289 (rFn ktab (zaf×Int×Int) (Bool) (fun x=>[.val z8 (x.1),.val (zj .i64) (x.2.1),.val (zj .i64) (x.2.2)]) (fun y=>[.val zB (y)])):=⟨by kernel_rfl,by kernel_rfl⟩
theorem U29:Und ktab 29 zbo:=⟨by kernel_rfl,by kernel_rfl⟩
theorem U3:Und ktab 3 (zj .i64):=⟨by kernel_rfl,by kernel_rfl⟩
theorem zDg:Und ktab 304 (zj .u64):=⟨by kernel_rfl,by kernel_rfl⟩
theorem U31:Und ktab 31 zaB:=⟨by kernel_rfl,by kernel_rfl⟩
theorem U33:Und ktab 33 zbO:=⟨by kernel_rfl,by kernel_rfl⟩
theorem U37:Und ktab 37 (zj .i64):=⟨by kernel_rfl,by kernel_rfl⟩
theorem U4:Und ktab 4 zB:=⟨by kernel_rfl,by kernel_rfl⟩
theorem U48:Und ktab 48 (zg zbO):=⟨by kernel_rfl,by kernel_rfl⟩
theorem U50:Und ktab 50 zcb:=⟨by kernel_rfl,by kernel_rfl⟩
theorem U53:Und ktab 53 (zg z9):=⟨by kernel_rfl,by kernel_rfl⟩
theorem U56:Und ktab 56 z9:=⟨by kernel_rfl,by kernel_rfl⟩
theorem U68:Und ktab 68 (zg zeW):=⟨by kernel_rfl,by kernel_rfl⟩
theorem U70:Und ktab 70 zeW:=⟨by kernel_rfl,by kernel_rfl⟩
theorem U72:Und ktab 72 zdX:=⟨by kernel_rfl,by kernel_rfl⟩
theorem U88:Und ktab 88 (zg zdX):=⟨by kernel_rfl,by kernel_rfl⟩
theorem U98:Und ktab 98 zbc:=⟨by kernel_rfl,by kernel_rfl⟩
theorem U99:Und ktab 99 (zj .i64):=⟨by kernel_rfl,by kernel_rfl⟩
theorem S22:Sl ktab 22 102 zax:=⟨by kernel_rfl,by kernel_rfl,by kernel_rfl,by decide⟩
theorem S23:Sl ktab 23 105 zbJ:=⟨by kernel_rfl,by kernel_rfl,by kernel_rfl,by decide⟩
theorem S26:Sl ktab 26 152 zy:=⟨by kernel_rfl,by kernel_rfl,by kernel_rfl,by decide⟩
theorem S27:Sl ktab 27 3 (zj .i64):=⟨by kernel_rfl,by kernel_rfl,by kernel_rfl,by decide⟩
theorem S48:Sl ktab 48 33 zbO:=⟨by kernel_rfl,by kernel_rfl,by kernel_rfl,by decide⟩
theorem S53:Sl ktab 53 56 z9:=⟨by kernel_rfl,by kernel_rfl,by kernel_rfl,by decide⟩
theorem S68:Sl ktab 68 70 zeW:=⟨by kernel_rfl,by kernel_rfl,by kernel_rfl,by decide⟩
theorem S88:Sl ktab 88 72 zdX:=⟨by kernel_rfl,by kernel_rfl,by kernel_rfl,by decide⟩
theorem S95:Sl ktab 95 4 zB:=⟨by kernel_rfl,by kernel_rfl,by kernel_rfl,by decide⟩
theorem zDh:Sl ktab 100 123 zA:=⟨by kernel_rfl,by kernel_rfl,by kernel_rfl,by decide⟩
theorem zAh:Sl ktab 103 98 zbc:=⟨by kernel_rfl,by kernel_rfl,by kernel_rfl,by decide⟩
theorem zDi:Sl ktab 129 108 (zad zn):=⟨by kernel_rfl,by kernel_rfl,by kernel_rfl,by decide⟩
theorem zDj:Sl ktab 155 88 (zg zdX):=⟨by kernel_rfl,by kernel_rfl,by kernel_rfl,by decide⟩
theorem zDk:Sl ktab 159 166 zdW:=⟨by kernel_rfl,by kernel_rfl,by kernel_rfl,by decide⟩
theorem zDl:Sl ktab 257 164 zp:=⟨by kernel_rfl,by kernel_rfl,by kernel_rfl,by decide⟩
theorem zDm:Sl ktab 270 103 (zg zbc):=⟨by kernel_rfl,by kernel_rfl,by kernel_rfl,by decide⟩
theorem zDn:Sl ktab 285 288 zfh:=⟨by kernel_rfl,by kernel_rfl,by kernel_rfl,by decide⟩
theorem Y3:Ty ktab 3 (zj .i64) 8:=⟨⟨ti3,by kernel_rfl,by kernel_rfl,by kernel_rfl⟩,⟨.int .i64 0,by kernel_rfl,rfl⟩,by decide⟩
theorem Y4:Ty ktab 4 zB 1:=⟨⟨ti4,by kernel_rfl,by kernel_rfl,by kernel_rfl⟩,⟨.bool false,by kernel_rfl,rfl⟩,by decide⟩
theorem Y33:Ty ktab 33 zbO 256:=⟨⟨zCS,by kernel_rfl,by kernel_rfl,by kernel_rfl⟩,⟨.agg [.nilslice,.nilslice,.nilslice,.nilslice,.nilslice,.nilslice,.int .i64 0,.int .i64 0,.int .i64 0,.int .i64 0,.int .i64 0,.int .i64 0,.int .i64 0,.int .i64 0,.int .i64 0,.nilslice,.int .i64 0,.int .i64 0],by kernel_rfl,rfl⟩,by decide⟩
theorem Y56:Ty ktab 56 z9 64:=⟨⟨zCT,by kernel_rfl,by kernel_rfl,by kernel_rfl⟩,⟨.agg [.int .i64 0,.bool false,.int .i64 0,.int .i64 0,.bool false,.int .i64 0,.int .i64 0,.int .i64 0],by kernel_rfl,rfl⟩,by decide⟩
theorem Y70:Ty ktab 70 zeW 24:=⟨⟨zCU,by kernel_rfl,by kernel_rfl,by kernel_rfl⟩,⟨.agg [.int .i64 0,.int .i64 0,.int .i64 0],by kernel_rfl,rfl⟩,by decide⟩
theorem Y72:Ty ktab 72 zdX 32:=⟨⟨zCV,by kernel_rfl,by kernel_rfl,by kernel_rfl⟩,⟨.agg [.int .i64 0,.bool false,.int .i64 0,.int .i64 0],by kernel_rfl,rfl⟩,by decide⟩
theorem Y88:Ty ktab 88 (zg zdX) 24:=⟨⟨zCW,by kernel_rfl,by kernel_rfl,by kernel_rfl⟩,⟨.nilslice,by kernel_rfl,rfl⟩,by decide⟩
theorem Y98:Ty ktab 98 zbc 16:=⟨⟨zCX,by kernel_rfl,by kernel_rfl,by kernel_rfl⟩,⟨.agg [.int .i64 0,.int .i64 0],by kernel_rfl,rfl⟩,by decide⟩
theorem zDo:Ty ktab 102 zax 56:=⟨⟨zBT,by kernel_rfl,by kernel_rfl,by kernel_rfl⟩,⟨.agg [.int .i64 0,.int .i64 0,.int .i64 0,.nilslice,.int .i64 0],by kernel_rfl,rfl⟩,by decide⟩
theorem zDp:Ty ktab 103 (zg zbc) 24:=⟨⟨zBU,by kernel_rfl,by kernel_rfl,by kernel_rfl⟩,⟨.nilslice,by kernel_rfl,rfl⟩,by decide⟩
theorem zDq:Ty ktab 105 zbJ 56:=⟨⟨zBV,by kernel_rfl,by kernel_rfl,by kernel_rfl⟩,⟨.agg [.int .i64 0,.int .i64 0,.nilslice,.int .i64 0,.int .i64 0],by kernel_rfl,rfl⟩,by decide⟩
theorem zDr:Ty ktab 108 (zad zn) 8:=⟨⟨zBW,by kernel_rfl,by kernel_rfl,by kernel_rfl⟩,⟨.nilptr,by kernel_rfl,rfl⟩,by decide⟩
theorem zDs:Ty ktab 123 zA 16:=⟨⟨zBX,by kernel_rfl,by kernel_rfl,by kernel_rfl⟩,⟨.agg [.int .i64 0,.bool false],by kernel_rfl,rfl⟩,by decide⟩
theorem zDt:Ty ktab 152 zy 16:=⟨⟨zBY,by kernel_rfl,by kernel_rfl,by kernel_rfl⟩,⟨.agg [.int .i64 0,.bool false],by kernel_rfl,rfl⟩,by decide⟩
theorem zDu:Ty ktab 164 zp 48:=⟨⟨zBZ,by kernel_rfl,by kernel_rfl,by kernel_rfl⟩,⟨.agg [.int .i64 0,.int .i64 0,.int .i64 0,.int .i64 0,.int .i64 0,.int .i64 0],by kernel_rfl,rfl⟩,by decide⟩
theorem zDv:Ty ktab 166 zdW 80:=⟨⟨zB0,by kernel_rfl,by kernel_rfl,by kernel_rfl⟩,⟨.agg [.int .i64 0,.int .i64 0,.int .i64 0,.int .i64 0,.int .i64 0,.int .i64 0,.int .i64 0,.int .i64 0,.int .i64 0,.int .i64 0],by kernel_rfl,rfl⟩,by decide⟩
theorem zDw:Ty ktab 288 zfh 24:=⟨⟨zB1,by kernel_rfl,by kernel_rfl,by kernel_rfl⟩,⟨.agg [.int .i64 0,.int .i64 0,.int .i64 0],by kernel_rfl,rfl⟩,by decide⟩
theorem Z3:Zr ktab 3 (zj .i64) 0:=⟨⟨.int .i64 0,by kernel_rfl,fun _=>⟨zint,rfl⟩⟩⟩
theorem Z4:Zr ktab 4 zB false:=⟨⟨.bool false,by kernel_rfl,fun _=>⟨zbool,rfl⟩⟩⟩
theorem Z72:Zr ktab 72 zdX (0,false,0,0,()):=⟨⟨.agg [.int .i64 0,.bool false,.int .i64 0,.int .i64 0],by kernel_rfl,fun _=>⟨(zpair zint (zpair zbool (zpair zint (zpair zint zunit rfl) rfl) rfl) rfl),rfl⟩⟩⟩
theorem Z98:Zr ktab 98 zbc (0,0,()):=⟨⟨.agg [.int .i64 0,.int .i64 0],by kernel_rfl,fun _=>⟨(zpair zint (zpair zint zunit rfl) rfl),rfl⟩⟩⟩
theorem zwu:Mp ktab 199 zA 4:=⟨⟨123,by kernel_rfl,zuG (fs:=zmB) (by kernel_rfl) (by kernel_rfl) rfl (by rw [show zmB.toList=[zjy,zjz] by kernel_rfl]; exact (zuF (by kernel_rfl) (by kernel_rfl) (by kernel_rfl) (zqN (by kernel_rfl) (by kernel_rfl) (by kernel_rfl) zuE)))⟩⟩
theorem zwv:Mp ktab 252 zA 3:=⟨⟨123,by kernel_rfl,zuG (fs:=zmB) (by kernel_rfl) (by kernel_rfl) rfl (by rw [show zmB.toList=[zjy,zjz] by kernel_rfl]; exact (zuF (by kernel_rfl) (by kernel_rfl) (by kernel_rfl) (zqN (by kernel_rfl) (by kernel_rfl) (by kernel_rfl) zuE)))⟩⟩
theorem B25:Stt ktab 25 [.nilslice,.nilslice] [(0,1),(1,1)]:=⟨by kernel_rfl,⟨zAW,by kernel_rfl,by kernel_rfl⟩⟩
theorem B29:Stt ktab 29 [.nilslice,.nilslice,.nilslice] [(0,1),(1,1),(2,1)]:=⟨by kernel_rfl,⟨zAb,by kernel_rfl,by kernel_rfl⟩⟩
theorem B31:Stt ktab 31 [.int .i64 0,.int .i64 0,.int .i64 0,.int .i64 0,.int .i64 0,.int .i64 0,.int .i64 0,.int .i64 0,.int .i64 0,.nilslice] [(0,1),(1,1),(2,1),(3,1),(4,1),(5,1),(6,1),(7,1),(8,1),(9,1)]:=⟨by kernel_rfl,⟨zsy,by kernel_rfl,by kernel_rfl⟩⟩
theorem B33:Stt ktab 33 [.nilslice,.nilslice,.nilslice,.nilslice,.nilslice,.nilslice,.int .i64 0,.int .i64 0,.int .i64 0,.int .i64 0,.int .i64 0,.int .i64 0,.int .i64 0,.int .i64 0,.int .i64 0,.nilslice,.int .i64 0,.int .i64 0] [(0,3),(3,3),(6,10),(16,1),(17,1)]:=⟨by kernel_rfl,⟨zys,by kernel_rfl,by kernel_rfl⟩⟩
theorem B50:Stt ktab 50 [.nilslice,.nilslice,.nilslice] [(0,1),(1,1),(2,1)]:=⟨by kernel_rfl,⟨zAc,by kernel_rfl,by kernel_rfl⟩⟩
theorem B56:Stt ktab 56 [.int .i64 0,.bool false,.int .i64 0,.int .i64 0,.bool false,.int .i64 0,.int .i64 0,.int .i64 0] [(0,1),(1,1),(2,1),(3,1),(4,1),(5,1),(6,1),(7,1)]:=⟨by kernel_rfl,⟨zuL,by kernel_rfl,by kernel_rfl⟩⟩
theorem B72:Stt ktab 72 [.int .i64 0,.bool false,.int .i64 0,.int .i64 0] [(0,1),(1,1),(2,1),(3,1)]:=⟨by kernel_rfl,⟨zxE,by kernel_rfl,by kernel_rfl⟩⟩
theorem B98:Stt ktab 98 [.int .i64 0,.int .i64 0] [(0,1),(1,1)]:=⟨by kernel_rfl,⟨zAX,by kernel_rfl,by kernel_rfl⟩⟩
theorem zDx:Stt ktab 102 [.int .i64 0,.int .i64 0,.int .i64 0,.nilslice,.int .i64 0] [(0,2),(2,1),(3,1),(4,1)]:=⟨by kernel_rfl,⟨ztx,by kernel_rfl,by kernel_rfl⟩⟩
theorem zDy:Stt ktab 105 [.int .i64 0,.int .i64 0,.nilslice,.int .i64 0,.int .i64 0] [(0,1),(1,1),(2,1),(3,1),(4,1)]:=⟨by kernel_rfl,⟨zrn,by kernel_rfl,by kernel_rfl⟩⟩
theorem zB4:Stt ktab 113 [.nilslice,.nilslice,.nilslice,.nilslice,.nilslice,.nilslice,.int .i64 0,.int .i64 0,.int .i64 0,.int .i64 0,.int .i64 0,.int .i64 0,.int .i64 0,.int .i64 0,.int .i64 0,.nilslice,.int .i64 0,.int .i64 0,.nilslice,.nilslice,.nilslice,.nilslice] [(0,18),(18,2),(20,2)]:=⟨by kernel_rfl,⟨zvJ,by kernel_rfl,by kernel_rfl⟩⟩
theorem zDz:Stt ktab 123 [.int .i64 0,.bool false] [(0,1),(1,1)]:=⟨by kernel_rfl,⟨zmB,by kernel_rfl,by kernel_rfl⟩⟩
theorem zDA:Stt ktab 148 [] []:=⟨by kernel_rfl,⟨zB2,by kernel_rfl,by kernel_rfl⟩⟩
theorem zDB:Stt ktab 152 [.int .i64 0,.bool false] [(0,1),(1,1)]:=⟨by kernel_rfl,⟨zty,by kernel_rfl,by kernel_rfl⟩⟩
theorem zDC:Stt ktab 164 [.int .i64 0,.int .i64 0,.int .i64 0,.int .i64 0,.int .i64 0,.int .i64 0] [(0,1),(1,1),(2,1),(3,1),(4,1),(5,1)]:=⟨by kernel_rfl,⟨zpD,by kernel_rfl,by kernel_rfl⟩⟩
theorem zDD:Stt ktab 191 [.int .i64 0,.int .i64 0] [(0,1),(1,1)]:=⟨by kernel_rfl,⟨zyt,by kernel_rfl,by kernel_rfl⟩⟩
theorem zDE:Stt ktab 238 [.nilslice,.nilslice,.nilslice,.int .i64 0,.int .i64 0,.int .i64 0,.int .i64 0,.int .i64 0,.int .i64 0,.int .i64 0,.int .i64 0,.int .i64 0,.nilslice,.int .i64 0,.int .i64 0] [(0,2),(2,1),(3,10),(13,1),(14,1)]:=⟨by kernel_rfl,⟨zro,by kernel_rfl,by kernel_rfl⟩⟩
theorem zDF:Stt ktab 251 [.int .i64 0,.int .i64 0,.int .i64 0,.int .i64 0,.int .i64 0,.int .i64 0,.int .i64 0,.int .i64 0,.int .i64 0,.nilslice,.int .i64 0] [(0,10),(10,1)]:=⟨by kernel_rfl,⟨zyu,by kernel_rfl,by kernel_rfl⟩⟩
theorem zDG:Stt ktab 281 [.int .i64 0,.int .i64 0,.int .i64 0,.nilslice,.int .i64 0] [(0,5)]:=⟨by kernel_rfl,⟨zAd,by kernel_rfl,by kernel_rfl⟩⟩
theorem zDH:Stt ktab 288 [.int .i64 0,.int .i64 0,.int .i64 0] [(0,1),(1,1),(2,1)]:=⟨by kernel_rfl,⟨zAe,by kernel_rfl,by kernel_rfl⟩⟩
theorem zAi:Stt ktab 254 [.nilslice,.nilslice,.nilslice,.nilmap] [(0,2),(2,1),(3,1)]:=⟨by kernel_rfl,⟨zvK,by kernel_rfl,by kernel_rfl⟩⟩
theorem zAj:Stt ktab 215 [.nilptr,.nilslice,.nilslice,.nilslice,.nilslice,.nilslice] [(0,1),(1,1),(2,1),(3,1),(4,1),(5,1)]:=⟨by kernel_rfl,⟨ztz,by kernel_rfl,by kernel_rfl⟩⟩
theorem zB5:Fld ktab 25 0 22 0 1:=⟨⟨zAW,zyv,by kernel_rfl,by kernel_rfl,by kernel_rfl,by kernel_rfl⟩,by kernel_rfl⟩
theorem zB6:Fld ktab 25 1 23 1 1:=⟨⟨zAW,zyw,by kernel_rfl,by kernel_rfl,by kernel_rfl,by kernel_rfl⟩,by kernel_rfl⟩
theorem zB7:Fld ktab 29 0 26 0 1:=⟨⟨zAb,zyx,by kernel_rfl,by kernel_rfl,by kernel_rfl,by kernel_rfl⟩,by kernel_rfl⟩
theorem zB8:Fld ktab 29 1 27 1 1:=⟨⟨zAb,zyy,by kernel_rfl,by kernel_rfl,by kernel_rfl,by kernel_rfl⟩,by kernel_rfl⟩
theorem zB9:Fld ktab 29 2 27 2 1:=⟨⟨zAb,zyz,by kernel_rfl,by kernel_rfl,by kernel_rfl,by kernel_rfl⟩,by kernel_rfl⟩
theorem zCa:Fld ktab 31 0 3 0 1:=⟨⟨zsy,zyA,by kernel_rfl,by kernel_rfl,by kernel_rfl,by kernel_rfl⟩,by kernel_rfl⟩
theorem zCb:Fld ktab 31 1 3 1 1:=⟨⟨zsy,zyB,by kernel_rfl,by kernel_rfl,by kernel_rfl,by kernel_rfl⟩,by kernel_rfl⟩
theorem zCc:Fld ktab 31 2 3 2 1:=⟨⟨zsy,zyC,by kernel_rfl,by kernel_rfl,by kernel_rfl,by kernel_rfl⟩,by kernel_rfl⟩
theorem zCd:Fld ktab 31 3 3 3 1:=⟨⟨zsy,zyD,by kernel_rfl,by kernel_rfl,by kernel_rfl,by kernel_rfl⟩,by kernel_rfl⟩
theorem zCe:Fld ktab 31 4 3 4 1:=⟨⟨zsy,zyE,by kernel_rfl,by kernel_rfl,by kernel_rfl,by kernel_rfl⟩,by kernel_rfl⟩
theorem zCf:Fld ktab 31 5 3 5 1:=⟨⟨zsy,zyF,by kernel_rfl,by kernel_rfl,by kernel_rfl,by kernel_rfl⟩,by kernel_rfl⟩
theorem zCg:Fld ktab 31 6 3 6 1:=⟨⟨zsy,zyG,by kernel_rfl,by kernel_rfl,by kernel_rfl,by kernel_rfl⟩,by kernel_rfl⟩
theorem zCh:Fld ktab 31 7 3 7 1:=⟨⟨zsy,zyH,by kernel_rfl,by kernel_rfl,by kernel_rfl,by kernel_rfl⟩,by kernel_rfl⟩
theorem zCi:Fld ktab 31 8 3 8 1:=⟨⟨zsy,zyI,by kernel_rfl,by kernel_rfl,by kernel_rfl,by kernel_rfl⟩,by kernel_rfl⟩
theorem zCj:Fld ktab 31 9 27 9 1:=⟨⟨zsy,zyJ,by kernel_rfl,by kernel_rfl,by kernel_rfl,by kernel_rfl⟩,by kernel_rfl⟩
theorem zCk:Fld ktab 33 0 29 0 3:=⟨⟨zys,zyK,by kernel_rfl,by kernel_rfl,by kernel_rfl,by kernel_rfl⟩,by kernel_rfl⟩
theorem zCl:Fld ktab 33 1 29 3 3:=⟨⟨zys,zyL,by kernel_rfl,by kernel_rfl,by kernel_rfl,by kernel_rfl⟩,by kernel_rfl⟩
theorem zCm:Fld ktab 33 2 31 6 10:=⟨⟨zys,zyM,by kernel_rfl,by kernel_rfl,by kernel_rfl,by kernel_rfl⟩,by kernel_rfl⟩
theorem zCn:Fld ktab 33 3 3 16 1:=⟨⟨zys,zyN,by kernel_rfl,by kernel_rfl,by kernel_rfl,by kernel_rfl⟩,by kernel_rfl⟩
theorem zCo:Fld ktab 33 4 3 17 1:=⟨⟨zys,zyO,by kernel_rfl,by kernel_rfl,by kernel_rfl,by kernel_rfl⟩,by kernel_rfl⟩
theorem zCp:Fld ktab 50 0 48 0 1:=⟨⟨zAc,zyP,by kernel_rfl,by kernel_rfl,by kernel_rfl,by kernel_rfl⟩,by kernel_rfl⟩
theorem zCq:Fld ktab 50 1 27 1 1:=⟨⟨zAc,zyQ,by kernel_rfl,by kernel_rfl,by kernel_rfl,by kernel_rfl⟩,by kernel_rfl⟩
theorem zCr:Fld ktab 50 2 27 2 1:=⟨⟨zAc,zyR,by kernel_rfl,by kernel_rfl,by kernel_rfl,by kernel_rfl⟩,by kernel_rfl⟩
theorem zCs:Fld ktab 56 0 3 0 1:=⟨⟨zuL,zyS,by kernel_rfl,by kernel_rfl,by kernel_rfl,by kernel_rfl⟩,by kernel_rfl⟩
theorem zCt:Fld ktab 56 1 4 1 1:=⟨⟨zuL,zyT,by kernel_rfl,by kernel_rfl,by kernel_rfl,by kernel_rfl⟩,by kernel_rfl⟩
theorem zCu:Fld ktab 56 2 3 2 1:=⟨⟨zuL,zyU,by kernel_rfl,by kernel_rfl,by kernel_rfl,by kernel_rfl⟩,by kernel_rfl⟩
theorem zCv:Fld ktab 56 3 3 3 1:=⟨⟨zuL,zyV,by kernel_rfl,by kernel_rfl,by kernel_rfl,by kernel_rfl⟩,by kernel_rfl⟩
theorem zCw:Fld ktab 56 4 4 4 1:=⟨⟨zuL,zyW,by kernel_rfl,by kernel_rfl,by kernel_rfl,by kernel_rfl⟩,by kernel_rfl⟩
theorem zCx:Fld ktab 56 5 3 5 1:=⟨⟨zuL,zyX,by kernel_rfl,by kernel_rfl,by kernel_rfl,by kernel_rfl⟩,by kernel_rfl⟩
theorem zCy:Fld ktab 56 6 3 6 1:=⟨⟨zuL,zyY,by kernel_rfl,by kernel_rfl,by kernel_rfl,by kernel_rfl⟩,by kernel_rfl⟩
theorem zCz:Fld ktab 56 7 3 7 1:=⟨⟨zuL,zyZ,by kernel_rfl,by kernel_rfl,by kernel_rfl,by kernel_rfl⟩,by kernel_rfl⟩
theorem zCA:Fld ktab 70 0 3 0 1:=⟨⟨zAf,zy0,by kernel_rfl,by kernel_rfl,by kernel_rfl,by kernel_rfl⟩,by kernel_rfl⟩
theorem zCB:Fld ktab 70 1 3 1 1:=⟨⟨zAf,zy1,by kernel_rfl,by kernel_rfl,by kernel_rfl,by kernel_rfl⟩,by kernel_rfl⟩
theorem zCC:Fld ktab 70 2 3 2 1:=⟨⟨zAf,zy2,by kernel_rfl,by kernel_rfl,by kernel_rfl,by kernel_rfl⟩,by kernel_rfl⟩
theorem zCD:Fld ktab 72 0 3 0 1:=⟨⟨zxE,zrq,by kernel_rfl,by kernel_rfl,by kernel_rfl,by kernel_rfl⟩,by kernel_rfl⟩
theorem zCE:Fld ktab 72 1 4 1 1:=⟨⟨zxE,zrr,by kernel_rfl,by kernel_rfl,by kernel_rfl,by kernel_rfl⟩,by kernel_rfl⟩
theorem zCF:Fld ktab 72 2 3 2 1:=⟨⟨zxE,zrs,by kernel_rfl,by kernel_rfl,by kernel_rfl,by kernel_rfl⟩,by kernel_rfl⟩
theorem zCG:Fld ktab 72 3 3 3 1:=⟨⟨zxE,zrt,by kernel_rfl,by kernel_rfl,by kernel_rfl,by kernel_rfl⟩,by kernel_rfl⟩
theorem zCH:Fld ktab 98 0 3 0 1:=⟨⟨zAX,zy3,by kernel_rfl,by kernel_rfl,by kernel_rfl,by kernel_rfl⟩,by kernel_rfl⟩
theorem zCI:Fld ktab 98 1 3 1 1:=⟨⟨zAX,zy4,by kernel_rfl,by kernel_rfl,by kernel_rfl,by kernel_rfl⟩,by kernel_rfl⟩
theorem zAY:Fld ktab 102 0 98 0 2:=⟨⟨ztx,zvL,by kernel_rfl,by kernel_rfl,by kernel_rfl,by kernel_rfl⟩,by kernel_rfl⟩
theorem zAZ:Fld ktab 102 1 99 2 1:=⟨⟨ztx,zvM,by kernel_rfl,by kernel_rfl,by kernel_rfl,by kernel_rfl⟩,by kernel_rfl⟩
theorem zA0:Fld ktab 102 2 100 3 1:=⟨⟨ztx,zvN,by kernel_rfl,by kernel_rfl,by kernel_rfl,by kernel_rfl⟩,by kernel_rfl⟩
theorem zA1:Fld ktab 102 3 3 4 1:=⟨⟨ztx,zvO,by kernel_rfl,by kernel_rfl,by kernel_rfl,by kernel_rfl⟩,by kernel_rfl⟩
theorem zA2:Fld ktab 105 0 3 0 1:=⟨⟨zrn,zvP,by kernel_rfl,by kernel_rfl,by kernel_rfl,by kernel_rfl⟩,by kernel_rfl⟩
theorem zA3:Fld ktab 105 1 3 1 1:=⟨⟨zrn,zvQ,by kernel_rfl,by kernel_rfl,by kernel_rfl,by kernel_rfl⟩,by kernel_rfl⟩
theorem zA4:Fld ktab 105 2 103 2 1:=⟨⟨zrn,zvR,by kernel_rfl,by kernel_rfl,by kernel_rfl,by kernel_rfl⟩,by kernel_rfl⟩
theorem zA5:Fld ktab 105 3 3 3 1:=⟨⟨zrn,zvS,by kernel_rfl,by kernel_rfl,by kernel_rfl,by kernel_rfl⟩,by kernel_rfl⟩
theorem zA6:Fld ktab 105 4 3 4 1:=⟨⟨zrn,zvT,by kernel_rfl,by kernel_rfl,by kernel_rfl,by kernel_rfl⟩,by kernel_rfl⟩
theorem zA7:Fld ktab 113 0 33 0 18:=⟨⟨zvJ,zvU,by kernel_rfl,by kernel_rfl,by kernel_rfl,by kernel_rfl⟩,by kernel_rfl⟩
theorem zA8:Fld ktab 113 1 111 18 2:=⟨⟨zvJ,zvV,by kernel_rfl,by kernel_rfl,by kernel_rfl,by kernel_rfl⟩,by kernel_rfl⟩
theorem zA9:Fld ktab 113 2 111 20 2:=⟨⟨zvJ,zvW,by kernel_rfl,by kernel_rfl,by kernel_rfl,by kernel_rfl⟩,by kernel_rfl⟩
theorem zBa:Fld ktab 123 0 3 0 1:=⟨⟨zmB,zjy,by kernel_rfl,by kernel_rfl,by kernel_rfl,by kernel_rfl⟩,by kernel_rfl⟩
theorem zBb:Fld ktab 123 1 4 1 1:=⟨⟨zmB,zjz,by kernel_rfl,by kernel_rfl,by kernel_rfl,by kernel_rfl⟩,by kernel_rfl⟩
theorem zBc:Fld ktab 152 0 3 0 1:=⟨⟨zty,znB,by kernel_rfl,by kernel_rfl,by kernel_rfl,by kernel_rfl⟩,by kernel_rfl⟩
theorem zBd:Fld ktab 152 1 4 1 1:=⟨⟨zty,znC,by kernel_rfl,by kernel_rfl,by kernel_rfl,by kernel_rfl⟩,by kernel_rfl⟩
theorem zBe:Fld ktab 164 0 3 0 1:=⟨⟨zpD,zvX,by kernel_rfl,by kernel_rfl,by kernel_rfl,by kernel_rfl⟩,by kernel_rfl⟩
theorem zBf:Fld ktab 164 1 3 1 1:=⟨⟨zpD,zvY,by kernel_rfl,by kernel_rfl,by kernel_rfl,by kernel_rfl⟩,by kernel_rfl⟩
theorem zBg:Fld ktab 164 2 3 2 1:=⟨⟨zpD,zvZ,by kernel_rfl,by kernel_rfl,by kernel_rfl,by kernel_rfl⟩,by kernel_rfl⟩
theorem zBh:Fld ktab 164 3 3 3 1:=⟨⟨zpD,zv0,by kernel_rfl,by kernel_rfl,by kernel_rfl,by kernel_rfl⟩,by kernel_rfl⟩
theorem zBi:Fld ktab 164 4 3 4 1:=⟨⟨zpD,zv1,by kernel_rfl,by kernel_rfl,by kernel_rfl,by kernel_rfl⟩,by kernel_rfl⟩
theorem zBj:Fld ktab 164 5 3 5 1:=⟨⟨zpD,zv2,by kernel_rfl,by kernel_rfl,by kernel_rfl,by kernel_rfl⟩,by kernel_rfl⟩
theorem zBk:Fld ktab 166 0 3 0 1:=⟨⟨zrp,zv3,by kernel_rfl,by kernel_rfl,by kernel_rfl,by kernel_rfl⟩,by kernel_rfl⟩
theorem zBl:Fld ktab 166 1 3 1 1:=⟨⟨zrp,zv4,by kernel_rfl,by kernel_rfl,by kernel_rfl,by kernel_rfl⟩,by kernel_rfl⟩
theorem zBm:Fld ktab 166 2 164 2 6:=⟨⟨zrp,zv5,by kernel_rfl,by kernel_rfl,by kernel_rfl,by kernel_rfl⟩,by kernel_rfl⟩
theorem zBn:Fld ktab 166 3 3 8 1:=⟨⟨zrp,zv6,by kernel_rfl,by kernel_rfl,by kernel_rfl,by kernel_rfl⟩,by kernel_rfl⟩
theorem zBo:Fld ktab 166 4 3 9 1:=⟨⟨zrp,zv7,by kernel_rfl,by kernel_rfl,by kernel_rfl,by kernel_rfl⟩,by kernel_rfl⟩
theorem zBp:Fld ktab 191 0 3 0 1:=⟨⟨zyt,zv8,by kernel_rfl,by kernel_rfl,by kernel_rfl,by kernel_rfl⟩,by kernel_rfl⟩
theorem zBq:Fld ktab 191 1 3 1 1:=⟨⟨zyt,zv9,by kernel_rfl,by kernel_rfl,by kernel_rfl,by kernel_rfl⟩,by kernel_rfl⟩
theorem zBr:Fld ktab 215 0 211 0 1:=⟨⟨ztz,zwa,by kernel_rfl,by kernel_rfl,by kernel_rfl,by kernel_rfl⟩,by kernel_rfl⟩
theorem zBs:Fld ktab 215 2 27 2 1:=⟨⟨ztz,zwb,by kernel_rfl,by kernel_rfl,by kernel_rfl,by kernel_rfl⟩,by kernel_rfl⟩
theorem zBt:Fld ktab 215 3 27 3 1:=⟨⟨ztz,zwc,by kernel_rfl,by kernel_rfl,by kernel_rfl,by kernel_rfl⟩,by kernel_rfl⟩
theorem zBu:Fld ktab 215 4 27 4 1:=⟨⟨ztz,zwd,by kernel_rfl,by kernel_rfl,by kernel_rfl,by kernel_rfl⟩,by kernel_rfl⟩
theorem zBv:Fld ktab 219 0 191 0 2:=⟨⟨ztA,zwe,by kernel_rfl,by kernel_rfl,by kernel_rfl,by kernel_rfl⟩,by kernel_rfl⟩
theorem zBw:Fld ktab 219 1 164 2 6:=⟨⟨ztA,zwf,by kernel_rfl,by kernel_rfl,by kernel_rfl,by kernel_rfl⟩,by kernel_rfl⟩
theorem zBx:Fld ktab 219 2 3 8 1:=⟨⟨ztA,zwg,by kernel_rfl,by kernel_rfl,by kernel_rfl,by kernel_rfl⟩,by kernel_rfl⟩
theorem zBy:Fld ktab 219 3 3 9 1:=⟨⟨ztA,zwh,by kernel_rfl,by kernel_rfl,by kernel_rfl,by kernel_rfl⟩,by kernel_rfl⟩
theorem zBz:Fld ktab 238 0 25 0 2:=⟨⟨zro,zwi,by kernel_rfl,by kernel_rfl,by kernel_rfl,by kernel_rfl⟩,by kernel_rfl⟩
theorem zBA:Fld ktab 238 1 26 2 1:=⟨⟨zro,zwj,by kernel_rfl,by kernel_rfl,by kernel_rfl,by kernel_rfl⟩,by kernel_rfl⟩
theorem zBB:Fld ktab 238 2 31 3 10:=⟨⟨zro,zwk,by kernel_rfl,by kernel_rfl,by kernel_rfl,by kernel_rfl⟩,by kernel_rfl⟩
theorem zBC:Fld ktab 238 3 3 13 1:=⟨⟨zro,zwl,by kernel_rfl,by kernel_rfl,by kernel_rfl,by kernel_rfl⟩,by kernel_rfl⟩
theorem zBD:Fld ktab 238 4 3 14 1:=⟨⟨zro,zwm,by kernel_rfl,by kernel_rfl,by kernel_rfl,by kernel_rfl⟩,by kernel_rfl⟩
theorem zBE:Fld ktab 251 0 31 0 10:=⟨⟨zyu,zwn,by kernel_rfl,by kernel_rfl,by kernel_rfl,by kernel_rfl⟩,by kernel_rfl⟩
theorem zBF:Fld ktab 251 1 3 10 1:=⟨⟨zyu,zwo,by kernel_rfl,by kernel_rfl,by kernel_rfl,by kernel_rfl⟩,by kernel_rfl⟩
theorem zBG:Fld ktab 254 0 25 0 2:=⟨⟨zvK,zwp,by kernel_rfl,by kernel_rfl,by kernel_rfl,by kernel_rfl⟩,by kernel_rfl⟩
theorem zBH:Fld ktab 254 1 27 2 1:=⟨⟨zvK,zwq,by kernel_rfl,by kernel_rfl,by kernel_rfl,by kernel_rfl⟩,by kernel_rfl⟩
theorem zBI:Fld ktab 254 2 252 3 1:=⟨⟨zvK,zwr,by kernel_rfl,by kernel_rfl,by kernel_rfl,by kernel_rfl⟩,by kernel_rfl⟩
theorem zBJ:Fld ktab 281 0 102 0 5:=⟨⟨zAd,zws,by kernel_rfl,by kernel_rfl,by kernel_rfl,by kernel_rfl⟩,by kernel_rfl⟩
theorem zBK:Fld ktab 288 0 3 0 1:=⟨⟨zAe,zwt,by kernel_rfl,by kernel_rfl,by kernel_rfl,by kernel_rfl⟩,by kernel_rfl⟩
theorem zru:Ar1 ktab 111 27 2 (zg (zj .i64)):=⟨by kernel_rfl,by kernel_rfl,by kernel_rfl,by kernel_rfl,by kernel_rfl,by decide⟩
theorem zww:Ar1 ktab 169 29 2 zbo:=⟨by kernel_rfl,by kernel_rfl,by kernel_rfl,by kernel_rfl,by kernel_rfl,by decide⟩
theorem zwx:Ar1 ktab 224 3 7 (zj .i64):=⟨by kernel_rfl,by kernel_rfl,by kernel_rfl,by kernel_rfl,by kernel_rfl,by decide⟩
theorem ze2:Ar1 ktab 265 3 4 (zj .i64):=⟨by kernel_rfl,by kernel_rfl,by kernel_rfl,by kernel_rfl,by kernel_rfl,by decide⟩
theorem zAk:Ar1 ktab 278 177 4 (rFn ktab (Int×Int×Int) (Int) (fun x=>[.val (zj .i64) (x.1),.val (zj .i64) (x.2.1),.val (zj .i64) (x.2.2)]) (fun y=>[.val (zj .i64) (y)])):=⟨by kernel_rfl,by kernel_rfl,by kernel_rfl,by kernel_rfl,by kernel_rfl,by decide⟩
theorem zwy:Ar1 ktab 290 289 7 (rFn ktab (zaf×Int×Int) (Bool) (fun x=>[.val z8 (x.1),.val (zj .i64) (x.2.1),.val (zj .i64) (x.2.2)]) (fun y=>[.val zB (y)])):=⟨by kernel_rfl,by kernel_rfl,by kernel_rfl,by kernel_rfl,by kernel_rfl,by decide⟩
theorem E71:SEq ktab 71 zdX (fun x y=>x==y):=⟨⟨zxE,by kernel_rfl,by rw [show zxE.toList=[zrq,zrr,zrs,zrt] by kernel_rfl]; exact (.i (of_decide_eq_true (by kernel_rfl)) (by kernel_rfl) (by kernel_rfl) (.b (of_decide_eq_true (by kernel_rfl)) (by kernel_rfl) (by kernel_rfl) (.i (of_decide_eq_true (by kernel_rfl)) (by kernel_rfl) (by kernel_rfl) (.i (of_decide_eq_true (by kernel_rfl)) (by kernel_rfl) (by kernel_rfl) .n))))⟩,by kernel_rfl,by kernel_rfl⟩
theorem E72:SEq ktab 72 zdX (fun x y=>x==y):=⟨⟨zxE,by kernel_rfl,by rw [show zxE.toList=[zrq,zrr,zrs,zrt] by kernel_rfl]; exact (.i (of_decide_eq_true (by kernel_rfl)) (by kernel_rfl) (by kernel_rfl) (.b (of_decide_eq_true (by kernel_rfl)) (by kernel_rfl) (by kernel_rfl) (.i (of_decide_eq_true (by kernel_rfl)) (by kernel_rfl) (by kernel_rfl) (.i (of_decide_eq_true (by kernel_rfl)) (by kernel_rfl) (by kernel_rfl) .n))))⟩,by kernel_rfl,by kernel_rfl⟩
theorem zDI:SEq ktab 122 zA (fun x y=>x==y):=⟨⟨zmB,by kernel_rfl,by rw [show zmB.toList=[zjy,zjz] by kernel_rfl]; exact (.i (of_decide_eq_true (by kernel_rfl)) (by kernel_rfl) (by kernel_rfl) (.b (of_decide_eq_true (by kernel_rfl)) (by kernel_rfl) (by kernel_rfl) .n))⟩,by kernel_rfl,by kernel_rfl⟩
theorem zDJ:SEq ktab 123 zA (fun x y=>x==y):=⟨⟨zmB,by kernel_rfl,by rw [show zmB.toList=[zjy,zjz] by kernel_rfl]; exact (.i (of_decide_eq_true (by kernel_rfl)) (by kernel_rfl) (by kernel_rfl) (.b (of_decide_eq_true (by kernel_rfl)) (by kernel_rfl) (by kernel_rfl) .n))⟩,by kernel_rfl,by kernel_rfl⟩
theorem zDK:SEq ktab 151 zy (fun x y=>x==y):=⟨⟨zty,by kernel_rfl,by rw [show zty.toList=[znB,znC] by kernel_rfl]; exact (.i (of_decide_eq_true (by kernel_rfl)) (by kernel_rfl) (by kernel_rfl) (.b (of_decide_eq_true (by kernel_rfl)) (by kernel_rfl) (by kernel_rfl) .n))⟩,by kernel_rfl,by kernel_rfl⟩
theorem zDL:SEq ktab 152 zy (fun x y=>x==y):=⟨⟨zty,by kernel_rfl,by rw [show zty.toList=[znB,znC] by kernel_rfl]; exact (.i (of_decide_eq_true (by kernel_rfl)) (by kernel_rfl) (by kernel_rfl) (.b (of_decide_eq_true (by kernel_rfl)) (by kernel_rfl) (by kernel_rfl) .n))⟩,by kernel_rfl,by kernel_rfl⟩
instance:iK ktab 3 (.int .i64):=⟨K3⟩
instance:iK ktab 4 .bool:=⟨K4⟩
instance:iK ktab 5 (.int .u8):=⟨K5⟩
instance:iK ktab 263 (.int .u64):=⟨zCY⟩
instance:iK ktab 301 (.int .u32):=⟨zCZ⟩
instance:iK ktab 303 (.int .u64):=⟨zC0⟩
instance:iK ktab 304 (.int .u64):=⟨zC1⟩
instance:iU ktab 100 (zg zA):=⟨zC2⟩
instance:iU ktab 102 zax:=⟨zC3⟩
instance:iU ktab 103 (zg zbc):=⟨zC4⟩
instance:iU ktab 105 zbJ:=⟨zC5⟩
instance:iU ktab 108 (zad zn):=⟨zC6⟩
instance:iU ktab 123 zA:=⟨zAg⟩
instance:iU ktab 129 (zg (zad zn)):=⟨zC7⟩
instance:iU ktab 152 zy:=⟨zB3⟩
instance:iU ktab 164 zp:=⟨znD⟩
instance:iU ktab 166 zdW:=⟨ztB⟩
instance:iU ktab 187 (zad zr):=⟨zC8⟩
instance:iU ktab 191 zh:=⟨zgp⟩
instance:iU ktab 211 (zad zt):=⟨zC9⟩
instance:iU ktab 217 (rFn ktab (zf) (Int) (fun x=>[.val zh (x)]) (fun y=>[.val (zj .i64) (y)])):=⟨zDa⟩
instance:iU ktab 219 zQ:=⟨zxF⟩
instance:iU ktab 22 (zg zax):=⟨U22⟩
instance:iU ktab 228 (zad zu):=⟨zDb⟩
instance:iU ktab 23 (zg zbJ):=⟨U23⟩
instance:iU ktab 238 zK:=⟨zDc⟩
instance:iU ktab 25 zaJ:=⟨U25⟩
instance:iU ktab 252 (znv zA (zj .i64)):=⟨zDd⟩
instance:iU ktab 26 (zg zy):=⟨U26⟩
instance:iU ktab 27 (zg (zj .i64)):=⟨U27⟩
instance:iU ktab 281 z8:=⟨zDe⟩
instance:iU ktab 289 (rFn ktab (zaf×Int×Int) (Bool) (fun x=>[.val z8 (x.1),.val (zj .i64) (x.2.1),.val (zj .i64) (x.2.2)]) (fun y=>[.val zB (y)])):=⟨zDf⟩
instance:iU ktab 29 zbo:=⟨U29⟩
instance:iU ktab 3 (zj .i64):=⟨U3⟩
instance:iU ktab 304 (zj .u64):=⟨zDg⟩
instance:iU ktab 31 zaB:=⟨U31⟩
instance:iU ktab 33 zbO:=⟨U33⟩
instance:iU ktab 37 (zj .i64):=⟨U37⟩
instance:iU ktab 4 zB:=⟨U4⟩
instance:iU ktab 48 (zg zbO):=⟨U48⟩
instance:iU ktab 50 zcb:=⟨U50⟩
instance:iU ktab 53 (zg z9):=⟨U53⟩
instance:iU ktab 56 z9:=⟨U56⟩
instance:iU ktab 68 (zg zeW):=⟨U68⟩
instance:iU ktab 70 zeW:=⟨U70⟩
instance:iU ktab 72 zdX:=⟨U72⟩
instance:iU ktab 88 (zg zdX):=⟨U88⟩
instance:iU ktab 98 zbc:=⟨U98⟩
instance:iU ktab 99 (zj .i64):=⟨U99⟩
instance:iS ktab 22 zax 102:=⟨S22⟩
instance:iS ktab 23 zbJ 105:=⟨S23⟩
instance:iS ktab 26 zy 152:=⟨S26⟩
instance:iS ktab 27 (zj .i64) 3:=⟨S27⟩
instance:iS ktab 48 zbO 33:=⟨S48⟩
instance:iS ktab 53 z9 56:=⟨S53⟩
instance:iS ktab 68 zeW 70:=⟨S68⟩
instance:iS ktab 88 zdX 72:=⟨S88⟩
instance:iS ktab 95 zB 4:=⟨S95⟩
instance:iS ktab 100 zA 123:=⟨zDh⟩
instance:iS ktab 103 zbc 98:=⟨zAh⟩
instance:iS ktab 129 (zad zn) 108:=⟨zDi⟩
instance:iS ktab 155 (zg zdX) 88:=⟨zDj⟩
instance:iS ktab 159 zdW 166:=⟨zDk⟩
instance:iS ktab 257 zp 164:=⟨zDl⟩
instance:iS ktab 270 (zg zbc) 103:=⟨zDm⟩
instance:iS ktab 285 zfh 288:=⟨zDn⟩
instance:iY ktab 3 (zj .i64) 8:=⟨Y3⟩
instance:iY ktab 4 zB 1:=⟨Y4⟩
instance:iY ktab 33 zbO 256:=⟨Y33⟩
instance:iY ktab 56 z9 64:=⟨Y56⟩
instance:iY ktab 70 zeW 24:=⟨Y70⟩
instance:iY ktab 72 zdX 32:=⟨Y72⟩
instance:iY ktab 88 (zg zdX) 24:=⟨Y88⟩
instance:iY ktab 98 zbc 16:=⟨Y98⟩
instance:iY ktab 102 zax 56:=⟨zDo⟩
instance:iY ktab 103 (zg zbc) 24:=⟨zDp⟩
instance:iY ktab 105 zbJ 56:=⟨zDq⟩
instance:iY ktab 108 (zad zn) 8:=⟨zDr⟩
instance:iY ktab 123 zA 16:=⟨zDs⟩
instance:iY ktab 152 zy 16:=⟨zDt⟩
instance:iY ktab 164 zp 48:=⟨zDu⟩
instance:iY ktab 166 zdW 80:=⟨zDv⟩
instance:iY ktab 288 zfh 24:=⟨zDw⟩
instance:iZ ktab 3 (zj .i64) 0:=⟨Z3⟩
instance:iZ ktab 4 zB false:=⟨Z4⟩
instance:iZ ktab 72 zdX (0,false,0,0,()):=⟨Z72⟩
instance:iZ ktab 98 zbc (0,0,()):=⟨Z98⟩
instance:iB ktab 25 zaJ [.nilslice,.nilslice] [(0,1),(1,1)]:=⟨B25,rfl⟩
instance:iB ktab 29 zbo [.nilslice,.nilslice,.nilslice] [(0,1),(1,1),(2,1)]:=⟨B29,rfl⟩
instance:iB ktab 31 zaB [.int .i64 0,.int .i64 0,.int .i64 0,.int .i64 0,.int .i64 0,.int .i64 0,.int .i64 0,.int .i64 0,.int .i64 0,.nilslice] [(0,1),(1,1),(2,1),(3,1),(4,1),(5,1),(6,1),(7,1),(8,1),(9,1)]:=⟨B31,rfl⟩
instance:iB ktab 33 zbO [.nilslice,.nilslice,.nilslice,.nilslice,.nilslice,.nilslice,.int .i64 0,.int .i64 0,.int .i64 0,.int .i64 0,.int .i64 0,.int .i64 0,.int .i64 0,.int .i64 0,.int .i64 0,.nilslice,.int .i64 0,.int .i64 0] [(0,3),(3,3),(6,10),(16,1),(17,1)]:=⟨B33,rfl⟩
instance:iB ktab 50 zcb [.nilslice,.nilslice,.nilslice] [(0,1),(1,1),(2,1)]:=⟨B50,rfl⟩
instance:iB ktab 56 z9 [.int .i64 0,.bool false,.int .i64 0,.int .i64 0,.bool false,.int .i64 0,.int .i64 0,.int .i64 0] [(0,1),(1,1),(2,1),(3,1),(4,1),(5,1),(6,1),(7,1)]:=⟨B56,rfl⟩
instance:iB ktab 72 zdX [.int .i64 0,.bool false,.int .i64 0,.int .i64 0] [(0,1),(1,1),(2,1),(3,1)]:=⟨B72,rfl⟩
instance:iB ktab 98 zbc [.int .i64 0,.int .i64 0] [(0,1),(1,1)]:=⟨B98,rfl⟩
instance:iB ktab 102 zax [.int .i64 0,.int .i64 0,.int .i64 0,.nilslice,.int .i64 0] [(0,2),(2,1),(3,1),(4,1)]:=⟨zDx,rfl⟩
instance:iB ktab 105 zbJ [.int .i64 0,.int .i64 0,.nilslice,.int .i64 0,.int .i64 0] [(0,1),(1,1),(2,1),(3,1),(4,1)]:=⟨zDy,rfl⟩
instance:iB ktab 113 zn [.nilslice,.nilslice,.nilslice,.nilslice,.nilslice,.nilslice,.int .i64 0,.int .i64 0,.int .i64 0,.int .i64 0,.int .i64 0,.int .i64 0,.int .i64 0,.int .i64 0,.int .i64 0,.nilslice,.int .i64 0,.int .i64 0,.nilslice,.nilslice,.nilslice,.nilslice] [(0,18),(18,2),(20,2)]:=⟨zB4,rfl⟩
instance:iB ktab 123 zA [.int .i64 0,.bool false] [(0,1),(1,1)]:=⟨zDz,rfl⟩
instance:iB ktab 148 zik [] []:=⟨zDA,rfl⟩
instance:iB ktab 152 zy [.int .i64 0,.bool false] [(0,1),(1,1)]:=⟨zDB,rfl⟩
instance:iB ktab 164 zp [.int .i64 0,.int .i64 0,.int .i64 0,.int .i64 0,.int .i64 0,.int .i64 0] [(0,1),(1,1),(2,1),(3,1),(4,1),(5,1)]:=⟨zDC,rfl⟩
instance:iB ktab 191 zh [.int .i64 0,.int .i64 0] [(0,1),(1,1)]:=⟨zDD,rfl⟩
instance:iB ktab 238 zK [.nilslice,.nilslice,.nilslice,.int .i64 0,.int .i64 0,.int .i64 0,.int .i64 0,.int .i64 0,.int .i64 0,.int .i64 0,.int .i64 0,.int .i64 0,.nilslice,.int .i64 0,.int .i64 0] [(0,2),(2,1),(3,10),(13,1),(14,1)]:=⟨zDE,rfl⟩
instance:iB ktab 251 zt [.int .i64 0,.int .i64 0,.int .i64 0,.int .i64 0,.int .i64 0,.int .i64 0,.int .i64 0,.int .i64 0,.int .i64 0,.nilslice,.int .i64 0] [(0,10),(10,1)]:=⟨zDF,rfl⟩
instance:iB ktab 281 z8 [.int .i64 0,.int .i64 0,.int .i64 0,.nilslice,.int .i64 0] [(0,5)]:=⟨zDG,rfl⟩
instance:iB ktab 288 zfh [.int .i64 0,.int .i64 0,.int .i64 0] [(0,1),(1,1),(2,1)]:=⟨zDH,rfl⟩
instance:iF ktab 25 0 zaJ (zg zax) 22 0 (fun x=>x.1) (fun x y=>(y,x.2.1,())):=⟨zB5,zra,by decide⟩
instance:iF ktab 25 1 zaJ (zg zbJ) 23 1 (fun x=>x.2.1) (fun x y=>(x.1,y,())):=⟨zB6,zrb,by decide⟩
instance:iF ktab 29 0 zbo (zg zy) 26 0 (fun x=>x.1) (fun x y=>(y,x.2.1,x.2.2.1,())):=⟨zB7,znx,by decide⟩
instance:iF ktab 29 1 zbo (zg (zj .i64)) 27 1 (fun x=>x.2.1) (fun x y=>(x.1,y,x.2.2.1,())):=⟨zB8,zny,by decide⟩
instance:iF ktab 29 2 zbo (zg (zj .i64)) 27 2 (fun x=>x.2.2.1) (fun x y=>(x.1,x.2.1,y,())):=⟨zB9,znz,by decide⟩
instance:iF ktab 31 0 zaB (zj .i64) 3 0 (fun x=>x.1) (fun x y=>(y,x.2.1,x.2.2.1,x.2.2.2.1,x.2.2.2.2.1,x.2.2.2.2.2.1,x.2.2.2.2.2.2.1,x.2.2.2.2.2.2.2.1,x.2.2.2.2.2.2.2.2.1,x.2.2.2.2.2.2.2.2.2.1,())):=⟨zCa,zpq,by decide⟩
instance:iF ktab 31 1 zaB (zj .i64) 3 1 (fun x=>x.2.1) (fun x y=>(x.1,y,x.2.2.1,x.2.2.2.1,x.2.2.2.2.1,x.2.2.2.2.2.1,x.2.2.2.2.2.2.1,x.2.2.2.2.2.2.2.1,x.2.2.2.2.2.2.2.2.1,x.2.2.2.2.2.2.2.2.2.1,())):=⟨zCb,zpr,by decide⟩
instance:iF ktab 31 2 zaB (zj .i64) 3 2 (fun x=>x.2.2.1) (fun x y=>(x.1,x.2.1,y,x.2.2.2.1,x.2.2.2.2.1,x.2.2.2.2.2.1,x.2.2.2.2.2.2.1,x.2.2.2.2.2.2.2.1,x.2.2.2.2.2.2.2.2.1,x.2.2.2.2.2.2.2.2.2.1,())):=⟨zCc,zps,by decide⟩
instance:iF ktab 31 3 zaB (zj .i64) 3 3 (fun x=>x.2.2.2.1) (fun x y=>(x.1,x.2.1,x.2.2.1,y,x.2.2.2.2.1,x.2.2.2.2.2.1,x.2.2.2.2.2.2.1,x.2.2.2.2.2.2.2.1,x.2.2.2.2.2.2.2.2.1,x.2.2.2.2.2.2.2.2.2.1,())):=⟨zCd,zpt,by decide⟩
instance:iF ktab 31 4 zaB (zj .i64) 3 4 (fun x=>x.2.2.2.2.1) (fun x y=>(x.1,x.2.1,x.2.2.1,x.2.2.2.1,y,x.2.2.2.2.2.1,x.2.2.2.2.2.2.1,x.2.2.2.2.2.2.2.1,x.2.2.2.2.2.2.2.2.1,x.2.2.2.2.2.2.2.2.2.1,())):=⟨zCe,zpu,by decide⟩
instance:iF ktab 31 5 zaB (zj .i64) 3 5 (fun x=>x.2.2.2.2.2.1) (fun x y=>(x.1,x.2.1,x.2.2.1,x.2.2.2.1,x.2.2.2.2.1,y,x.2.2.2.2.2.2.1,x.2.2.2.2.2.2.2.1,x.2.2.2.2.2.2.2.2.1,x.2.2.2.2.2.2.2.2.2.1,())):=⟨zCf,zpv,by decide⟩
instance:iF ktab 31 6 zaB (zj .i64) 3 6 (fun x=>x.2.2.2.2.2.2.1) (fun x y=>(x.1,x.2.1,x.2.2.1,x.2.2.2.1,x.2.2.2.2.1,x.2.2.2.2.2.1,y,x.2.2.2.2.2.2.2.1,x.2.2.2.2.2.2.2.2.1,x.2.2.2.2.2.2.2.2.2.1,())):=⟨zCg,zpw,by decide⟩
instance:iF ktab 31 7 zaB (zj .i64) 3 7 (fun x=>x.2.2.2.2.2.2.2.1) (fun x y=>(x.1,x.2.1,x.2.2.1,x.2.2.2.1,x.2.2.2.2.1,x.2.2.2.2.2.1,x.2.2.2.2.2.2.1,y,x.2.2.2.2.2.2.2.2.1,x.2.2.2.2.2.2.2.2.2.1,())):=⟨zCh,zpx,by decide⟩
instance:iF ktab 31 8 zaB (zj .i64) 3 8 (fun x=>x.2.2.2.2.2.2.2.2.1) (fun x y=>(x.1,x.2.1,x.2.2.1,x.2.2.2.1,x.2.2.2.2.1,x.2.2.2.2.2.1,x.2.2.2.2.2.2.1,x.2.2.2.2.2.2.2.1,y,x.2.2.2.2.2.2.2.2.2.1,())):=⟨zCi,zpy,by decide⟩
instance:iF ktab 31 9 zaB (zg (zj .i64)) 27 9 (fun x=>x.2.2.2.2.2.2.2.2.2.1) (fun x y=>(x.1,x.2.1,x.2.2.1,x.2.2.2.1,x.2.2.2.2.1,x.2.2.2.2.2.1,x.2.2.2.2.2.2.1,x.2.2.2.2.2.2.2.1,x.2.2.2.2.2.2.2.2.1,y,())):=⟨zCj,zpz,by decide⟩
instance:iF ktab 33 0 zbO zbo 29 0 (fun x=>x.1) (fun x y=>(y,x.2.1,x.2.2.1,x.2.2.2.1,x.2.2.2.2.1,())):=⟨zCk,zrc,by decide⟩
instance:iF ktab 33 1 zbO zbo 29 3 (fun x=>x.2.1) (fun x y=>(x.1,y,x.2.2.1,x.2.2.2.1,x.2.2.2.2.1,())):=⟨zCl,zrd,by decide⟩
instance:iF ktab 33 2 zbO zaB 31 6 (fun x=>x.2.2.1) (fun x y=>(x.1,x.2.1,y,x.2.2.2.1,x.2.2.2.2.1,())):=⟨zCm,zre,by decide⟩
instance:iF ktab 33 3 zbO (zj .i64) 3 16 (fun x=>x.2.2.2.1) (fun x y=>(x.1,x.2.1,x.2.2.1,y,x.2.2.2.2.1,())):=⟨zCn,zrf,by decide⟩
instance:iF ktab 33 4 zbO (zj .i64) 3 17 (fun x=>x.2.2.2.2.1) (fun x y=>(x.1,x.2.1,x.2.2.1,x.2.2.2.1,y,())):=⟨zCo,zrg,by decide⟩
instance:iF ktab 50 0 zcb (zg zbO) 48 0 (fun x=>x.1) (fun x y=>(y,x.2.1,x.2.2.1,())):=⟨zCp,zmx,by decide⟩
instance:iF ktab 50 1 zcb (zg (zj .i64)) 27 1 (fun x=>x.2.1) (fun x y=>(x.1,y,x.2.2.1,())):=⟨zCq,zmy,by decide⟩
instance:iF ktab 50 2 zcb (zg (zj .i64)) 27 2 (fun x=>x.2.2.1) (fun x y=>(x.1,x.2.1,y,())):=⟨zCr,zmz,by decide⟩
instance:iF ktab 56 0 z9 (zj .i64) 3 0 (fun x=>x.1) (fun x y=>(y,x.2.1,x.2.2.1,x.2.2.2.1,x.2.2.2.2.1,x.2.2.2.2.2.1,x.2.2.2.2.2.2.1,x.2.2.2.2.2.2.2.1,())):=⟨zCs,zjq,by decide⟩
instance:iF ktab 56 1 z9 zB 4 1 (fun x=>x.2.1) (fun x y=>(x.1,y,x.2.2.1,x.2.2.2.1,x.2.2.2.2.1,x.2.2.2.2.2.1,x.2.2.2.2.2.2.1,x.2.2.2.2.2.2.2.1,())):=⟨zCt,zjr,by decide⟩
instance:iF ktab 56 2 z9 (zj .i64) 3 2 (fun x=>x.2.2.1) (fun x y=>(x.1,x.2.1,y,x.2.2.2.1,x.2.2.2.2.1,x.2.2.2.2.2.1,x.2.2.2.2.2.2.1,x.2.2.2.2.2.2.2.1,())):=⟨zCu,zjs,by decide⟩
instance:iF ktab 56 3 z9 (zj .i64) 3 3 (fun x=>x.2.2.2.1) (fun x y=>(x.1,x.2.1,x.2.2.1,y,x.2.2.2.2.1,x.2.2.2.2.2.1,x.2.2.2.2.2.2.1,x.2.2.2.2.2.2.2.1,())):=⟨zCv,zjt,by decide⟩
instance:iF ktab 56 4 z9 zB 4 4 (fun x=>x.2.2.2.2.1) (fun x y=>(x.1,x.2.1,x.2.2.1,x.2.2.2.1,y,x.2.2.2.2.2.1,x.2.2.2.2.2.2.1,x.2.2.2.2.2.2.2.1,())):=⟨zCw,zju,by decide⟩
instance:iF ktab 56 5 z9 (zj .i64) 3 5 (fun x=>x.2.2.2.2.2.1) (fun x y=>(x.1,x.2.1,x.2.2.1,x.2.2.2.1,x.2.2.2.2.1,y,x.2.2.2.2.2.2.1,x.2.2.2.2.2.2.2.1,())):=⟨zCx,zjv,by decide⟩
instance:iF ktab 56 6 z9 (zj .i64) 3 6 (fun x=>x.2.2.2.2.2.2.1) (fun x y=>(x.1,x.2.1,x.2.2.1,x.2.2.2.1,x.2.2.2.2.1,x.2.2.2.2.2.1,y,x.2.2.2.2.2.2.2.1,())):=⟨zCy,zjw,by decide⟩
instance:iF ktab 56 7 z9 (zj .i64) 3 7 (fun x=>x.2.2.2.2.2.2.2.1) (fun x y=>(x.1,x.2.1,x.2.2.1,x.2.2.2.1,x.2.2.2.2.1,x.2.2.2.2.2.1,x.2.2.2.2.2.2.1,y,())):=⟨zCz,zjx,by decide⟩
instance:iF ktab 70 0 zeW (zj .i64) 3 0 (fun x=>x.1) (fun x y=>(y,x.2.1,x.2.2.1,())):=⟨zCA,zpA,by decide⟩
instance:iF ktab 70 1 zeW (zj .i64) 3 1 (fun x=>x.2.1) (fun x y=>(x.1,y,x.2.2.1,())):=⟨zCB,zpB,by decide⟩
instance:iF ktab 70 2 zeW (zj .i64) 3 2 (fun x=>x.2.2.1) (fun x y=>(x.1,x.2.1,y,())):=⟨zCC,zpC,by decide⟩
instance:iF ktab 72 0 zdX (zj .i64) 3 0 (fun x=>x.1) (fun x y=>(y,x.2.1,x.2.2.1,x.2.2.2.1,())):=⟨zCD,zrh,by decide⟩
instance:iF ktab 72 1 zdX zB 4 1 (fun x=>x.2.1) (fun x y=>(x.1,y,x.2.2.1,x.2.2.2.1,())):=⟨zCE,zri,by decide⟩
instance:iF ktab 72 2 zdX (zj .i64) 3 2 (fun x=>x.2.2.1) (fun x y=>(x.1,x.2.1,y,x.2.2.2.1,())):=⟨zCF,zrj,by decide⟩
instance:iF ktab 72 3 zdX (zj .i64) 3 3 (fun x=>x.2.2.2.1) (fun x y=>(x.1,x.2.1,x.2.2.1,y,())):=⟨zCG,zrk,by decide⟩
instance:iF ktab 98 0 zbc (zj .i64) 3 0 (fun x=>x.1) (fun x y=>(y,x.2.1,())):=⟨zCH,zq3,by decide⟩
instance:iF ktab 98 1 zbc (zj .i64) 3 1 (fun x=>x.2.1) (fun x y=>(x.1,y,())):=⟨zCI,zq4,by decide⟩
instance:iF ktab 102 0 zax zbc 98 0 (fun x=>x.1) (fun x y=>(y,x.2.1,x.2.2.1,x.2.2.2.1,())):=⟨zAY,zpk,by decide⟩
instance:iF ktab 102 1 zax (zj .i64) 99 2 (fun x=>x.2.1) (fun x y=>(x.1,y,x.2.2.1,x.2.2.2.1,())):=⟨zAZ,zpl,by decide⟩
instance:iF ktab 102 2 zax (zg zA) 100 3 (fun x=>x.2.2.1) (fun x y=>(x.1,x.2.1,y,x.2.2.2.1,())):=⟨zA0,zpm,by decide⟩
instance:iF ktab 102 3 zax (zj .i64) 3 4 (fun x=>x.2.2.2.1) (fun x y=>(x.1,x.2.1,x.2.2.1,y,())):=⟨zA1,zpn,by decide⟩
instance:iF ktab 105 0 zbJ (zj .i64) 3 0 (fun x=>x.1) (fun x y=>(y,x.2.1,x.2.2.1,x.2.2.2.1,x.2.2.2.2.1,())):=⟨zA2,zq5,by decide⟩
instance:iF ktab 105 1 zbJ (zj .i64) 3 1 (fun x=>x.2.1) (fun x y=>(x.1,y,x.2.2.1,x.2.2.2.1,x.2.2.2.2.1,())):=⟨zA3,zq6,by decide⟩
instance:iF ktab 105 2 zbJ (zg zbc) 103 2 (fun x=>x.2.2.1) (fun x y=>(x.1,x.2.1,y,x.2.2.2.1,x.2.2.2.2.1,())):=⟨zA4,zq7,by decide⟩
instance:iF ktab 105 3 zbJ (zj .i64) 3 3 (fun x=>x.2.2.2.1) (fun x y=>(x.1,x.2.1,x.2.2.1,y,x.2.2.2.2.1,())):=⟨zA5,zq8,by decide⟩
instance:iF ktab 105 4 zbJ (zj .i64) 3 4 (fun x=>x.2.2.2.2.1) (fun x y=>(x.1,x.2.1,x.2.2.1,x.2.2.2.1,y,())):=⟨zA6,zq9,by decide⟩
instance:iF ktab 113 0 zn zbO 33 0 (fun x=>x.1) (fun x y=>(y,x.2.1,x.2.2.1,())):=⟨zA7,zgm,by decide⟩
instance:iF ktab 113 1 zn (ziw 2 (zg (zj .i64))) 111 18 (fun x=>x.2.1) (fun x y=>(x.1,y,x.2.2.1,())):=⟨zA8,zgn,by decide⟩
instance:iF ktab 113 2 zn (ziw 2 (zg (zj .i64))) 111 20 (fun x=>x.2.2.1) (fun x y=>(x.1,x.2.1,y,())):=⟨zA9,zgo,by decide⟩
instance:iF ktab 123 0 zA (zj .i64) 3 0 (fun x=>x.1) (fun x y=>(y,x.2.1,())):=⟨zBa,zmv,by decide⟩
instance:iF ktab 123 1 zA zB 4 1 (fun x=>x.2.1) (fun x y=>(x.1,y,())):=⟨zBb,zmw,by decide⟩
instance:iF ktab 152 0 zy (zj .i64) 3 0 (fun x=>x.1) (fun x y=>(y,x.2.1,())):=⟨zBc,zpo,by decide⟩
instance:iF ktab 152 1 zy zB 4 1 (fun x=>x.2.1) (fun x y=>(x.1,y,())):=⟨zBd,zpp,by decide⟩
instance:iF ktab 164 0 zp (zj .i64) 3 0 (fun x=>x.1) (fun x y=>(y,x.2.1,x.2.2.1,x.2.2.2.1,x.2.2.2.2.1,x.2.2.2.2.2.1,())):=⟨zBe,zhK,by decide⟩
instance:iF ktab 164 1 zp (zj .i64) 3 1 (fun x=>x.2.1) (fun x y=>(x.1,y,x.2.2.1,x.2.2.2.1,x.2.2.2.2.1,x.2.2.2.2.2.1,())):=⟨zBf,zhL,by decide⟩
instance:iF ktab 164 2 zp (zj .i64) 3 2 (fun x=>x.2.2.1) (fun x y=>(x.1,x.2.1,y,x.2.2.2.1,x.2.2.2.2.1,x.2.2.2.2.2.1,())):=⟨zBg,zhM,by decide⟩
instance:iF ktab 164 3 zp (zj .i64) 3 3 (fun x=>x.2.2.2.1) (fun x y=>(x.1,x.2.1,x.2.2.1,y,x.2.2.2.2.1,x.2.2.2.2.2.1,())):=⟨zBh,zhN,by decide⟩
instance:iF ktab 164 4 zp (zj .i64) 3 4 (fun x=>x.2.2.2.2.1) (fun x y=>(x.1,x.2.1,x.2.2.1,x.2.2.2.1,y,x.2.2.2.2.2.1,())):=⟨zBi,zhO,by decide⟩
instance:iF ktab 164 5 zp (zj .i64) 3 5 (fun x=>x.2.2.2.2.2.1) (fun x y=>(x.1,x.2.1,x.2.2.1,x.2.2.2.1,x.2.2.2.2.1,y,())):=⟨zBj,zhP,by decide⟩
instance:iF ktab 166 0 zdW (zj .i64) 3 0 (fun x=>x.1) (fun x y=>(y,x.2.1,x.2.2.1,x.2.2.2.1,x.2.2.2.2.1,())):=⟨zBk,zom,by decide⟩
instance:iF ktab 166 1 zdW (zj .i64) 3 1 (fun x=>x.2.1) (fun x y=>(x.1,y,x.2.2.1,x.2.2.2.1,x.2.2.2.2.1,())):=⟨zBl,zts,by decide⟩
instance:iF ktab 166 2 zdW zp 164 2 (fun x=>x.2.2.1) (fun x y=>(x.1,x.2.1,y,x.2.2.2.1,x.2.2.2.2.1,())):=⟨zBm,ztt,by decide⟩
instance:iF ktab 166 3 zdW (zj .i64) 3 8 (fun x=>x.2.2.2.1) (fun x y=>(x.1,x.2.1,x.2.2.1,y,x.2.2.2.2.1,())):=⟨zBn,ztu,by decide⟩
instance:iF ktab 166 4 zdW (zj .i64) 3 9 (fun x=>x.2.2.2.2.1) (fun x y=>(x.1,x.2.1,x.2.2.1,x.2.2.2.1,y,())):=⟨zBo,ztv,by decide⟩
instance:iF ktab 191 0 zh (zj .i64) 3 0 (fun x=>x.1) (fun x y=>(y,x.2.1,())):=⟨zBp,zii,by decide⟩
instance:iF ktab 191 1 zh (zj .i64) 3 1 (fun x=>x.2.1) (fun x y=>(x.1,y,())):=⟨zBq,zij,by decide⟩
instance:iF ktab 215 0 zr (zad zt) 211 0 (fun x=>x.1) (fun x y=>(y,x.2.1,x.2.2.1,x.2.2.2.1,x.2.2.2.2.1,x.2.2.2.2.2.1,())):=⟨zBr,zjl,by decide⟩
instance:iF ktab 215 2 zr (zg (zj .i64)) 27 2 (fun x=>x.2.2.1) (fun x y=>(x.1,x.2.1,y,x.2.2.2.1,x.2.2.2.2.1,x.2.2.2.2.2.1,())):=⟨zBs,zjm,by decide⟩
instance:iF ktab 215 3 zr (zg (zj .i64)) 27 3 (fun x=>x.2.2.2.1) (fun x y=>(x.1,x.2.1,x.2.2.1,y,x.2.2.2.2.1,x.2.2.2.2.2.1,())):=⟨zBt,zjn,by decide⟩
instance:iF ktab 215 4 zr (zg (zj .i64)) 27 4 (fun x=>x.2.2.2.2.1) (fun x y=>(x.1,x.2.1,x.2.2.1,x.2.2.2.1,y,x.2.2.2.2.2.1,())):=⟨zBu,zjo,by decide⟩
instance:iF ktab 219 0 zQ zh 191 0 (fun x=>x.1) (fun x y=>(y,x.2.1,x.2.2.1,x.2.2.2.1,())):=⟨zBv,zgI,by decide⟩
instance:iF ktab 219 1 zQ zp 164 2 (fun x=>x.2.1) (fun x y=>(x.1,y,x.2.2.1,x.2.2.2.1,())):=⟨zBw,zgJ,by decide⟩
instance:iF ktab 219 2 zQ (zj .i64) 3 8 (fun x=>x.2.2.1) (fun x y=>(x.1,x.2.1,y,x.2.2.2.1,())):=⟨zBx,zgK,by decide⟩
instance:iF ktab 219 3 zQ (zj .i64) 3 9 (fun x=>x.2.2.2.1) (fun x y=>(x.1,x.2.1,x.2.2.1,y,())):=⟨zBy,zgL,by decide⟩
instance:iF ktab 238 0 zK zaJ 25 0 (fun x=>x.1) (fun x y=>(y,x.2.1,x.2.2.1,x.2.2.2.1,x.2.2.2.2.1,())):=⟨zBz,zfI,by decide⟩
instance:iF ktab 238 1 zK (zg zy) 26 2 (fun x=>x.2.1) (fun x y=>(x.1,y,x.2.2.1,x.2.2.2.1,x.2.2.2.2.1,())):=⟨zBA,zfJ,by decide⟩
instance:iF ktab 238 2 zK zaB 31 3 (fun x=>x.2.2.1) (fun x y=>(x.1,x.2.1,y,x.2.2.2.1,x.2.2.2.2.1,())):=⟨zBB,zfK,by decide⟩
instance:iF ktab 238 3 zK (zj .i64) 3 13 (fun x=>x.2.2.2.1) (fun x y=>(x.1,x.2.1,x.2.2.1,y,x.2.2.2.2.1,())):=⟨zBC,zfL,by decide⟩
instance:iF ktab 238 4 zK (zj .i64) 3 14 (fun x=>x.2.2.2.2.1) (fun x y=>(x.1,x.2.1,x.2.2.1,x.2.2.2.1,y,())):=⟨zBD,zfM,by decide⟩
instance:iF ktab 251 0 zt zaB 31 0 (fun x=>x.1) (fun x y=>(y,x.2.1,())):=⟨zBE,zhI,by decide⟩
instance:iF ktab 251 1 zt (zj .i64) 3 10 (fun x=>x.2.1) (fun x y=>(x.1,y,())):=⟨zBF,zhJ,by decide⟩
instance:iF ktab 254 0 zu zaJ 25 0 (fun x=>x.1) (fun x y=>(y,x.2.1,x.2.2.1,())):=⟨zBG,zhc,by decide⟩
instance:iF ktab 254 1 zu (zg (zj .i64)) 27 2 (fun x=>x.2.1) (fun x y=>(x.1,y,x.2.2.1,())):=⟨zBH,zhd,by decide⟩
instance:iF ktab 254 2 zu (znv zA (zj .i64)) 252 3 (fun x=>x.2.2.1) (fun x y=>(x.1,x.2.1,y,())):=⟨zBI,zhe,by decide⟩
instance:iF ktab 281 0 z8 zax 102 0 (fun x=>x.1) (fun x y=>(y,())):=⟨zBJ,zhf,by decide⟩
instance:iF ktab 288 0 zfh (zj .i64) 3 0 (fun x=>x.1) (fun x y=>(y,x.2.1,x.2.2.1,())):=⟨zBK,zky,by decide⟩
instance:iA ktab 111 (zg (zj .i64)) 27 2:=⟨zru⟩
instance:iA ktab 169 zbo 29 2:=⟨zww⟩
instance:iA ktab 224 (zj .i64) 3 7:=⟨zwx⟩
instance:iA ktab 265 (zj .i64) 3 4:=⟨ze2⟩
instance:iA ktab 278 (rFn ktab (Int×Int×Int) (Int) (fun x=>[.val (zj .i64) (x.1),.val (zj .i64) (x.2.1),.val (zj .i64) (x.2.2)]) (fun y=>[.val (zj .i64) (y)])) 177 4:=⟨zAk⟩
instance:iA ktab 290 (rFn ktab (zaf×Int×Int) (Bool) (fun x=>[.val z8 (x.1),.val (zj .i64) (x.2.1),.val (zj .i64) (x.2.2)]) (fun y=>[.val zB (y)])) 289 7:=⟨zwy⟩
instance:iE ktab 71 zdX (fun x y=>x==y):=⟨E71,rfl⟩
instance:iE ktab 72 zdX (fun x y=>x==y):=⟨E72,rfl⟩
instance:iE ktab 122 zA (fun x y=>x==y):=⟨zDI,rfl⟩
instance:iE ktab 123 zA (fun x y=>x==y):=⟨zDJ,rfl⟩
instance:iE ktab 151 zy (fun x y=>x==y):=⟨zDK,rfl⟩
instance:iE ktab 152 zy (fun x y=>x==y):=⟨zDL,rfl⟩
end Go.Ai.TabYtppebpagcocogaaGreat

/- What the rows of this seat ask,of the abstract interpreter. -/
namespace Go.Ai.TabYtppebpagcocogaaGreat
open Go Go.Ai Go.Ai.Sx Go.Proofs Go.Proofs.YtppebpagcocogaaGreat
theorem own:ownKnob Tryz.prog.godebug=none:=by kernel_rfl
theorem zll:laidOutB Tryz.prog=true:=by kernel_rfl
theorem begun:decide (Tryz.prog.globals.size<(begin Tryz.prog (fun _ _=>0) default).world.heap.size)=true:=by kernel_rfl
theorem zon {W:World} (h:W.ShapedOpen Tryz.prog):0<W.heap.size:=by
 obtain ⟨o,_,ho,_⟩:=h.2 Tryz.prog.globals.size (Nat.le_refl _) (of_decide_eq_true begun);have:=(Array.getElem?_eq_some_iff.1 ho).1;omega
theorem zT {P:Program} {A B:Type} {f:Field} {fs:List Field} {o:Nat} {t:TypeId} {R:Rep A} {S:Rep B} (hf:f.offset=o) (ht:f.type=t) (ho:Opens P t R) (hs:zko P fs (o+R.sz) S):zko P (f::fs) o (zO R S):=by
 subst ht;exact znk hf ho hs
noncomputable def ztC:Array Field:=match Tryz.t97.desc with | .struct fs=>fs | _=>#[]
noncomputable def zwz:Field:=ztC[0]!
noncomputable def zwA:Field:=ztC[1]!
noncomputable def zoo:Array Field:=match Tryz.t122.desc with | .struct fs=>fs | _=>#[]
noncomputable def ztD:Field:=zoo[0]!
noncomputable def ztE:Field:=zoo[1]!
noncomputable def zkA:Array Field:=match Tryz.t101.desc with | .struct fs=>fs | _=>#[]
noncomputable def ztF:Field:=zkA[0]!
noncomputable def ztG:Field:=zkA[1]!
noncomputable def ztH:Field:=zkA[2]!
noncomputable def ztI:Field:=zkA[3]!
noncomputable def zjA:Array Field:=match Tryz.t104.desc with | .struct fs=>fs | _=>#[]
noncomputable def ztJ:Field:=zjA[0]!
noncomputable def ztK:Field:=zjA[1]!
noncomputable def ztL:Field:=zjA[2]!
noncomputable def ztM:Field:=zjA[3]!
noncomputable def ztN:Field:=zjA[4]!
noncomputable def ztO:Array Field:=match Tryz.t24.desc with | .struct fs=>fs | _=>#[]
noncomputable def zwB:Field:=ztO[0]!
noncomputable def zwC:Field:=ztO[1]!
noncomputable def zop:Array Field:=match Tryz.t151.desc with | .struct fs=>fs | _=>#[]
noncomputable def ztP:Field:=zop[0]!
noncomputable def ztQ:Field:=zop[1]!
noncomputable def zrv:Array Field:=match Tryz.t28.desc with | .struct fs=>fs | _=>#[]
noncomputable def zwD:Field:=zrv[0]!
noncomputable def zwE:Field:=zrv[1]!
noncomputable def zwF:Field:=zrv[2]!
noncomputable def zil:Array Field:=match Tryz.t30.desc with | .struct fs=>fs | _=>#[]
noncomputable def zwG:Field:=zil[0]!
noncomputable def zwH:Field:=zil[1]!
noncomputable def zwI:Field:=zil[2]!
noncomputable def zwJ:Field:=zil[3]!
noncomputable def zwK:Field:=zil[4]!
noncomputable def zwL:Field:=zil[5]!
noncomputable def zwM:Field:=zil[6]!
noncomputable def zwN:Field:=zil[7]!
noncomputable def zwO:Field:=zil[8]!
noncomputable def zwP:Field:=zil[9]!
noncomputable def znE:Array Field:=match Tryz.t32.desc with | .struct fs=>fs | _=>#[]
noncomputable def zwQ:Field:=znE[0]!
noncomputable def zwR:Field:=znE[1]!
noncomputable def zwS:Field:=znE[2]!
noncomputable def zwT:Field:=znE[3]!
noncomputable def zwU:Field:=znE[4]!
noncomputable def zrw:Array Field:=match Tryz.t49.desc with | .struct fs=>fs | _=>#[]
noncomputable def zwV:Field:=zrw[0]!
noncomputable def zwW:Field:=zrw[1]!
noncomputable def zwX:Field:=zrw[2]!
theorem o3:Opens Tryz.prog 3 (zj .i64):=zme (by kernel_rfl) (by kernel_rfl)
theorem o98:Opens Tryz.prog 98 zbc:=zbE (fs:=ztC) (by kernel_rfl) (by kernel_rfl) rfl (by
 rw [show ztC.toList=[zwz,zwA] by kernel_rfl];exact (zT (by kernel_rfl) (by kernel_rfl) o3 (zT (by kernel_rfl) (by kernel_rfl) o3 (zct _))))
theorem o99:Opens Tryz.prog 99 (zj .i64):=zme (by kernel_rfl) (by kernel_rfl)
theorem o4:Opens Tryz.prog 4 zB:=zo6 (by kernel_rfl) (by kernel_rfl)
theorem zCJ:Opens Tryz.prog 123 zA:=zbE (fs:=zoo) (by kernel_rfl) (by kernel_rfl) rfl (by
 rw [show zoo.toList=[ztD,ztE] by kernel_rfl];exact (zT (by kernel_rfl) (by kernel_rfl) o3 (zT (by kernel_rfl) (by kernel_rfl) o4 (zct _))))
theorem zCK:Opens Tryz.prog 100 (zg zA):=zdi (by kernel_rfl) (by kernel_rfl) zCJ (by decide)
theorem zCL:Opens Tryz.prog 102 zax:=zbE (fs:=zkA) (by kernel_rfl) (by kernel_rfl) rfl (by
 rw [show zkA.toList=[ztF,ztG,ztH,ztI] by kernel_rfl];exact (zT (by kernel_rfl) (by kernel_rfl) o98 (zT (by kernel_rfl) (by kernel_rfl) o99 (zT (by kernel_rfl) (by kernel_rfl) zCK (zT (by kernel_rfl) (by kernel_rfl) o3 (zct _))))))
theorem o22:Opens Tryz.prog 22 (zg zax):=zdi (by kernel_rfl) (by kernel_rfl) zCL (by decide)
theorem zCM:Opens Tryz.prog 103 (zg zbc):=zdi (by kernel_rfl) (by kernel_rfl) o98 (by decide)
theorem zCN:Opens Tryz.prog 105 zbJ:=zbE (fs:=zjA) (by kernel_rfl) (by kernel_rfl) rfl (by
 rw [show zjA.toList=[ztJ,ztK,ztL,ztM,ztN] by kernel_rfl];exact (zT (by kernel_rfl) (by kernel_rfl) o3 (zT (by kernel_rfl) (by kernel_rfl) o3 (zT (by kernel_rfl) (by kernel_rfl) zCM (zT (by kernel_rfl) (by kernel_rfl) o3 (zT (by kernel_rfl) (by kernel_rfl) o3 (zct _)))))))
theorem o23:Opens Tryz.prog 23 (zg zbJ):=zdi (by kernel_rfl) (by kernel_rfl) zCN (by decide)
theorem o25:Opens Tryz.prog 25 zaJ:=zbE (fs:=ztO) (by kernel_rfl) (by kernel_rfl) rfl (by
 rw [show ztO.toList=[zwB,zwC] by kernel_rfl];exact (zT (by kernel_rfl) (by kernel_rfl) o22 (zT (by kernel_rfl) (by kernel_rfl) o23 (zct _))))
theorem zCO:Opens Tryz.prog 152 zy:=zbE (fs:=zop) (by kernel_rfl) (by kernel_rfl) rfl (by
 rw [show zop.toList=[ztP,ztQ] by kernel_rfl];exact (zT (by kernel_rfl) (by kernel_rfl) o3 (zT (by kernel_rfl) (by kernel_rfl) o4 (zct _))))
theorem o26:Opens Tryz.prog 26 (zg zy):=zdi (by kernel_rfl) (by kernel_rfl) zCO (by decide)
theorem o27:Opens Tryz.prog 27 (zg (zj .i64)):=zdi (by kernel_rfl) (by kernel_rfl) o3 (by decide)
theorem o29:Opens Tryz.prog 29 zbo:=zbE (fs:=zrv) (by kernel_rfl) (by kernel_rfl) rfl (by
 rw [show zrv.toList=[zwD,zwE,zwF] by kernel_rfl];exact (zT (by kernel_rfl) (by kernel_rfl) o26 (zT (by kernel_rfl) (by kernel_rfl) o27 (zT (by kernel_rfl) (by kernel_rfl) o27 (zct _)))))
theorem o31:Opens Tryz.prog 31 zaB:=zbE (fs:=zil) (by kernel_rfl) (by kernel_rfl) rfl (by
 rw [show zil.toList=[zwG,zwH,zwI,zwJ,zwK,zwL,zwM,zwN,zwO,zwP] by kernel_rfl];exact (zT (by kernel_rfl) (by kernel_rfl) o3 (zT (by kernel_rfl) (by kernel_rfl) o3 (zT (by kernel_rfl) (by kernel_rfl) o3 (zT (by kernel_rfl) (by kernel_rfl) o3 (zT (by kernel_rfl) (by kernel_rfl) o3 (zT (by kernel_rfl) (by kernel_rfl) o3 (zT (by kernel_rfl) (by kernel_rfl) o3 (zT (by kernel_rfl) (by kernel_rfl) o3 (zT (by kernel_rfl) (by kernel_rfl) o3 (zT (by kernel_rfl) (by kernel_rfl) o27 (zct _))))))))))))
theorem o33:Opens Tryz.prog 33 zbO:=zbE (fs:=znE) (by kernel_rfl) (by kernel_rfl) rfl (by
 rw [show znE.toList=[zwQ,zwR,zwS,zwT,zwU] by kernel_rfl];exact (zT (by kernel_rfl) (by kernel_rfl) o29 (zT (by kernel_rfl) (by kernel_rfl) o29 (zT (by kernel_rfl) (by kernel_rfl) o31 (zT (by kernel_rfl) (by kernel_rfl) o3 (zT (by kernel_rfl) (by kernel_rfl) o3 (zct _)))))))
theorem o48:Opens Tryz.prog 48 (zg zbO):=zdi (by kernel_rfl) (by kernel_rfl) o33 (by decide)
theorem o50:Opens Tryz.prog 50 zcb:=zbE (fs:=zrw) (by kernel_rfl) (by kernel_rfl) rfl (by
 rw [show zrw.toList=[zwV,zwW,zwX] by kernel_rfl];exact (zT (by kernel_rfl) (by kernel_rfl) o48 (zT (by kernel_rfl) (by kernel_rfl) o27 (zT (by kernel_rfl) (by kernel_rfl) o27 (zct _)))))
theorem zdu {a b:Bool} (h:a=true) (k:b=true):(a&&b)=true:=by rw [h,k]; rfl
set_option maxRecDepth 100000 in
theorem zuM:mapsRowed Tryz.prog=true:=by kernel_rfl
set_option maxRecDepth 100000 in
theorem zrx:(Tryz.prog.stops==[])=true:=by kernel_rfl
set_option maxRecDepth 100000 in
theorem zry:(Tryz.prog.stopKnobs==[])=true:=by kernel_rfl
set_option maxRecDepth 100000 in
theorem zrz:(Rows.serviceOffsetsRow.plainKeys==Tryz.prog.plainKeys)=true:=by kernel_rfl
set_option maxRecDepth 100000 in
theorem zrA:Tryz.prog.stopsHeard=true:=by kernel_rfl
set_option maxRecDepth 100000 in
theorem zrB:Tryz.prog.mayEnter=true:=by kernel_rfl
set_option maxRecDepth 100000 in
theorem zuN:(Rows.serviceOffsetsRow.lifted==Tryz.prog.liftsFinal)=true:=by kernel_rfl
set_option maxRecDepth 100000 in
theorem zuO:(Tryz.prog.make==some Rows.serviceOffsetsRow.make)=true:=by kernel_rfl
end Go.Ai.TabYtppebpagcocogaaGreat
