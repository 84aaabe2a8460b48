/- Written by program: the facts of the tables,and the walks through the functions. -/
import Derived.Test.YtcokdbcdlaofbaaGreatQ8
import Derived.Test.YtcokdbcdlaofbaaGreatQ9
import Derived.KernelRfl
import Derived.Test.YtcokdbcdlaofbaaGreatQ10
import Derived.Test.YtcokdbcdlaofbaaGreatQ5
import Derived.Test.YtcokdbcdlaofbaaGreatRows
import Derived.WalkKit
import Derived.ProofKit
set_option linter.unusedSimpArgs false
set_option linter.unusedVariables false
set_option linter.unusedSectionVars false
namespace Go.Ai.TabYtcokdbcdlaofbaaGreat
open Go Go.Ai Go.Ai.Sx Go.Proofs
attribute [local irreducible] SOps
noncomputable def fl119:Array Field:=match Tryz.t119.desc with | .struct fs=>fs | _=>#[]
noncomputable def fl23:Array Field:=match Tryz.t23.desc with | .struct fs=>fs | _=>#[]
noncomputable def fl25:Array Field:=match Tryz.t25.desc with | .struct fs=>fs | _=>#[]
noncomputable def fl30:Array Field:=match Tryz.t30.desc with | .struct fs=>fs | _=>#[]
noncomputable def fl47:Array Field:=match Tryz.t47.desc with | .struct fs=>fs | _=>#[]
noncomputable def fl56:Array Field:=match Tryz.t56.desc with | .struct fs=>fs | _=>#[]
noncomputable def fl58:Array Field:=match Tryz.t58.desc with | .struct fs=>fs | _=>#[]
noncomputable def fl60:Array Field:=match Tryz.t60.desc with | .struct fs=>fs | _=>#[]
noncomputable def fl113:Array Field:=match Tryz.t113.desc with | .struct fs=>fs | _=>#[]
noncomputable def fl122:Array Field:=match Tryz.t122.desc with | .struct fs=>fs | _=>#[]
noncomputable def fl124:Array Field:=match Tryz.t124.desc with | .struct fs=>fs | _=>#[]
noncomputable def fl131:Array Field:=match Tryz.t131.desc with | .struct fs=>fs | _=>#[]
noncomputable def fl186:Array Field:=match Tryz.t186.desc with | .struct fs=>fs | _=>#[]
noncomputable def fl194:Array Field:=match Tryz.t194.desc with | .struct fs=>fs | _=>#[]
noncomputable def fl150:Array Field:=match Tryz.t150.desc with | .struct fs=>fs | _=>#[]
noncomputable def fl143:Array Field:=match Tryz.t143.desc with | .struct fs=>fs | _=>#[]
noncomputable def fl88:Array Field:=match Tryz.t88.desc with | .struct fs=>fs | _=>#[]
noncomputable def zf16:Field:=fl119[0]!
noncomputable def zg16:Field:=fl119[1]!
noncomputable def zt41:Field:=fl23[0]!
noncomputable def zu41:Field:=fl23[1]!
noncomputable def zv41:Field:=fl23[2]!
noncomputable def zw41:Field:=fl23[3]!
noncomputable def zx41:Field:=fl23[4]!
noncomputable def zy41:Field:=fl23[5]!
noncomputable def zz41:Field:=fl23[6]!
noncomputable def za42:Field:=fl23[7]!
noncomputable def zb42:Field:=fl23[8]!
noncomputable def zc42:Field:=fl23[9]!
noncomputable def zj30:Field:=fl25[0]!
noncomputable def zk30:Field:=fl25[1]!
noncomputable def zo21:Field:=fl30[0]!
noncomputable def zp21:Field:=fl30[1]!
noncomputable def zq21:Field:=fl30[2]!
noncomputable def zr21:Field:=fl30[3]!
noncomputable def zs21:Field:=fl30[4]!
noncomputable def zt21:Field:=fl30[5]!
noncomputable def zd42:Field:=fl47[0]!
noncomputable def ze42:Field:=fl47[1]!
noncomputable def zf42:Field:=fl56[0]!
noncomputable def zg42:Field:=fl56[1]!
noncomputable def zh42:Field:=fl56[2]!
noncomputable def zi42:Field:=fl56[3]!
noncomputable def zj42:Field:=fl56[4]!
noncomputable def zl30:Field:=fl58[0]!
noncomputable def zm30:Field:=fl58[1]!
noncomputable def zn30:Field:=fl60[0]!
noncomputable def zo30:Field:=fl60[1]!
noncomputable def zp30:Field:=fl60[2]!
noncomputable def zq30:Field:=fl60[3]!
noncomputable def zr30:Field:=fl60[4]!
noncomputable def zk42:Field:=fl88[0]!
noncomputable def zl42:Field:=fl88[1]!
noncomputable def zm42:Field:=fl88[2]!
noncomputable def zn42:Field:=fl88[3]!
noncomputable def zx37:Field:=fl113[0]!
noncomputable def zy37:Field:=fl113[1]!
noncomputable def zz37:Field:=fl113[2]!
noncomputable def za38:Field:=fl113[3]!
noncomputable def zb38:Field:=fl113[4]!
noncomputable def zc38:Field:=fl122[0]!
noncomputable def zd38:Field:=fl122[1]!
noncomputable def ze38:Field:=fl124[0]!
noncomputable def zf38:Field:=fl124[1]!
noncomputable def zg38:Field:=fl124[2]!
noncomputable def zh38:Field:=fl124[3]!
noncomputable def zi38:Field:=fl131[0]!
noncomputable def zj38:Field:=fl131[1]!
noncomputable def zk38:Field:=fl143[0]!
noncomputable def zl38:Field:=fl143[2]!
noncomputable def zm38:Field:=fl143[3]!
noncomputable def zn38:Field:=fl143[4]!
noncomputable def zo38:Field:=fl150[0]!
noncomputable def zp38:Field:=fl150[1]!
noncomputable def zq38:Field:=fl150[2]!
noncomputable def zr38:Field:=fl186[0]!
noncomputable def zs38:Field:=fl194[0]!
theorem K3:ktab.und 3 = some (.int .i64):=by kernel_rfl
theorem K4:ktab.und 4 = some .bool:=by kernel_rfl
theorem K5:ktab.und 5 = some (.int .u8):=by kernel_rfl
theorem K196:ktab.und 196 = some (.int .u64):=by kernel_rfl
theorem K209:ktab.und 209 = some (.int .u32):=by kernel_rfl
theorem K211:ktab.und 211 = some (.int .u64):=by kernel_rfl
theorem K212:ktab.und 212 = some (.int .u64):=by kernel_rfl
theorem U101:Und ktab 101 (rPtr zl):=⟨by kernel_rfl,by kernel_rfl⟩
theorem U114:Und ktab 114 zq:=⟨by kernel_rfl,by kernel_rfl⟩
theorem U118:Und ktab 118 (rInt .i64):=⟨by kernel_rfl,by kernel_rfl⟩
theorem U120:Und ktab 120 rRailEnd:=⟨by kernel_rfl,by kernel_rfl⟩
theorem U121:Und ktab 121 (rSlice rRailEnd):=⟨by kernel_rfl,by kernel_rfl⟩
theorem U123:Und ktab 123 rSpot:=⟨by kernel_rfl,by kernel_rfl⟩
theorem U125:Und ktab 125 rANode:=⟨by kernel_rfl,by kernel_rfl⟩
theorem U130:Und ktab 130 (rFn ktab (MotionState) (Int) (fun x=>[.val rMotionState (x)]) (fun y=>[.val (rInt .i64) (y)])):=⟨by kernel_rfl,by kernel_rfl⟩
theorem U149:Und ktab 149 (rMap rRailEnd (rInt .i64)):=⟨by kernel_rfl,by kernel_rfl⟩
theorem U187:Und ktab 187 ze1:=⟨by kernel_rfl,by kernel_rfl⟩
theorem U197:Und ktab 197 (rFn ktab (zk1 × Int × Int) (Bool) (fun x=>[.val ze1 (x.1),.val (rInt .i64) (x.2.1),.val (rInt .i64) (x.2.2)]) (fun y=>[.val rBool (y)])):=⟨by kernel_rfl,by kernel_rfl⟩
theorem U212:Und ktab 212 (rInt .u64):=⟨by kernel_rfl,by kernel_rfl⟩
theorem U22:Und ktab 22 (rSlice (rInt .i64)):=⟨by kernel_rfl,by kernel_rfl⟩
theorem U24:Und ktab 24 rTrain:=⟨by kernel_rfl,by kernel_rfl⟩
theorem U26:Und ktab 26 rMotionState:=⟨by kernel_rfl,by kernel_rfl⟩
theorem U3:Und ktab 3 (rInt .i64):=⟨by kernel_rfl,by kernel_rfl⟩
theorem U31:Und ktab 31 rMotionLedger:=⟨by kernel_rfl,by kernel_rfl⟩
theorem U4:Und ktab 4 rBool:=⟨by kernel_rfl,by kernel_rfl⟩
theorem U45:Und ktab 45 (rSlice rANode):=⟨by kernel_rfl,by kernel_rfl⟩
theorem U46:Und ktab 46 (rSlice rRail):=⟨by kernel_rfl,by kernel_rfl⟩
theorem U48:Und ktab 48 rPlan:=⟨by kernel_rfl,by kernel_rfl⟩
theorem U49:Und ktab 49 (rSlice rAMove):=⟨by kernel_rfl,by kernel_rfl⟩
theorem U55:Und ktab 55 (rSlice rSpot):=⟨by kernel_rfl,by kernel_rfl⟩
theorem U57:Und ktab 57 rRail:=⟨by kernel_rfl,by kernel_rfl⟩
theorem U59:Und ktab 59 rAMove:=⟨by kernel_rfl,by kernel_rfl⟩
theorem U61:Und ktab 61 rLeg:=⟨by kernel_rfl,by kernel_rfl⟩
theorem U85:Und ktab 85 (rPtr zi):=⟨by kernel_rfl,by kernel_rfl⟩
theorem U89:Und ktab 89 zt:=⟨by kernel_rfl,by kernel_rfl⟩
theorem U96:Und ktab 96 (rPtr zk):=⟨by kernel_rfl,by kernel_rfl⟩
theorem S22:Sl ktab 22 3 (rInt .i64):=⟨by kernel_rfl,by kernel_rfl,by kernel_rfl,by decide⟩
theorem S45:Sl ktab 45 125 rANode:=⟨by kernel_rfl,by kernel_rfl,by kernel_rfl,by decide⟩
theorem S46:Sl ktab 46 57 rRail:=⟨by kernel_rfl,by kernel_rfl,by kernel_rfl,by decide⟩
theorem S49:Sl ktab 49 59 rAMove:=⟨by kernel_rfl,by kernel_rfl,by kernel_rfl,by decide⟩
theorem S52:Sl ktab 52 61 rLeg:=⟨by kernel_rfl,by kernel_rfl,by kernel_rfl,by decide⟩
theorem S55:Sl ktab 55 123 rSpot:=⟨by kernel_rfl,by kernel_rfl,by kernel_rfl,by decide⟩
theorem S121:Sl ktab 121 120 rRailEnd:=⟨by kernel_rfl,by kernel_rfl,by kernel_rfl,by decide⟩
theorem S164:Sl ktab 164 31 rMotionLedger:=⟨by kernel_rfl,by kernel_rfl,by kernel_rfl,by decide⟩
theorem S182:Sl ktab 182 55 (rSlice rSpot):=⟨by kernel_rfl,by kernel_rfl,by kernel_rfl,by decide⟩
theorem S192:Sl ktab 192 195 rCover:=⟨by kernel_rfl,by kernel_rfl,by kernel_rfl,by decide⟩
theorem Y3:Ty ktab 3 (rInt .i64) 8:=⟨⟨ti3,by kernel_rfl,by kernel_rfl,by kernel_rfl⟩,⟨.int .i64 0,by kernel_rfl,rfl⟩,by decide⟩
theorem Y31:Ty ktab 31 rMotionLedger 48:=⟨⟨ti31,by kernel_rfl,by kernel_rfl,by kernel_rfl⟩,⟨.agg [.int .i64 0,.int .i64 0,.int .i64 0,.int .i64 0,.int .i64 0,.int .i64 0],by kernel_rfl,rfl⟩,by decide⟩
theorem Y55:Ty ktab 55 (rSlice rSpot) 24:=⟨⟨ti55,by kernel_rfl,by kernel_rfl,by kernel_rfl⟩,⟨.nilslice,by kernel_rfl,rfl⟩,by decide⟩
theorem Y57:Ty ktab 57 rRail 56:=⟨⟨ti57,by kernel_rfl,by kernel_rfl,by kernel_rfl⟩,⟨.agg [.int .i64 0,.int .i64 0,.nilslice,.int .i64 0,.int .i64 0],by kernel_rfl,rfl⟩,by decide⟩
theorem Y59:Ty ktab 59 rAMove 16:=⟨⟨ti59,by kernel_rfl,by kernel_rfl,by kernel_rfl⟩,⟨.agg [.int .i64 0,.bool false],by kernel_rfl,rfl⟩,by decide⟩
theorem Y61:Ty ktab 61 rLeg 80:=⟨⟨ti61,by kernel_rfl,by kernel_rfl,by kernel_rfl⟩,⟨.agg [.int .i64 0,.int .i64 0,.int .i64 0,.int .i64 0,.int .i64 0,.int .i64 0,.int .i64 0,.int .i64 0,.int .i64 0,.int .i64 0],by kernel_rfl,rfl⟩,by decide⟩
theorem Y120:Ty ktab 120 rRailEnd 16:=⟨⟨ti120,by kernel_rfl,by kernel_rfl,by kernel_rfl⟩,⟨.agg [.int .i64 0,.bool false],by kernel_rfl,rfl⟩,by decide⟩
theorem Y123:Ty ktab 123 rSpot 16:=⟨⟨ti123,by kernel_rfl,by kernel_rfl,by kernel_rfl⟩,⟨.agg [.int .i64 0,.int .i64 0],by kernel_rfl,rfl⟩,by decide⟩
theorem Y125:Ty ktab 125 rANode 56:=⟨⟨ti125,by kernel_rfl,by kernel_rfl,by kernel_rfl⟩,⟨.agg [.int .i64 0,.int .i64 0,.int .i64 0,.nilslice,.int .i64 0],by kernel_rfl,rfl⟩,by decide⟩
theorem Y195:Ty ktab 195 rCover 24:=⟨⟨ti195,by kernel_rfl,by kernel_rfl,by kernel_rfl⟩,⟨.agg [.int .i64 0,.int .i64 0,.int .i64 0],by kernel_rfl,rfl⟩,by decide⟩
theorem Z3:Zr ktab 3 (rInt .i64) 0:=⟨⟨.int .i64 0,by kernel_rfl,fun _=>⟨zint,rfl⟩⟩⟩
theorem Z4:Zr ktab 4 rBool false:=⟨⟨.bool false,by kernel_rfl,fun _=>⟨zbool,rfl⟩⟩⟩
theorem Z123:Zr ktab 123 rSpot (0,0,()):=⟨⟨.agg [.int .i64 0,.int .i64 0],by kernel_rfl,fun _=>⟨(zpair zint (zpair zint zunit rfl) rfl),rfl⟩⟩⟩
theorem MP149:Mp ktab 149 rRailEnd 3:=⟨⟨120,by kernel_rfl,ze36 (fs:=fl119) (by kernel_rfl) (by kernel_rfl) rfl (by rw [show fl119.toList = [zf16,zg16] by kernel_rfl]; exact (zd36 (by kernel_rfl) (by kernel_rfl) (by kernel_rfl) (zn29 (by kernel_rfl) (by kernel_rfl) (by kernel_rfl) zc36)))⟩⟩
theorem MP170:Mp ktab 170 rRailEnd 4:=⟨⟨120,by kernel_rfl,ze36 (fs:=fl119) (by kernel_rfl) (by kernel_rfl) rfl (by rw [show fl119.toList = [zf16,zg16] by kernel_rfl]; exact (zd36 (by kernel_rfl) (by kernel_rfl) (by kernel_rfl) (zn29 (by kernel_rfl) (by kernel_rfl) (by kernel_rfl) zc36)))⟩⟩
theorem B24:Stt ktab 24 [.int .i64 0,.int .i64 0,.int .i64 0,.int .i64 0,.int .i64 0,.int .i64 0,.int .i64 0,.int .i64 0,.int .i64 0,.nilslice] [(0,1),(1,1),(2,1),(3,1),(4,1),(5,1),(6,1),(7,1),(8,1),(9,1)]:=⟨by kernel_rfl,⟨fl23,by kernel_rfl,by kernel_rfl⟩⟩
theorem B26:Stt ktab 26 [.int .i64 0,.int .i64 0] [(0,1),(1,1)]:=⟨by kernel_rfl,⟨fl25,by kernel_rfl,by kernel_rfl⟩⟩
theorem B31:Stt ktab 31 [.int .i64 0,.int .i64 0,.int .i64 0,.int .i64 0,.int .i64 0,.int .i64 0] [(0,1),(1,1),(2,1),(3,1),(4,1),(5,1)]:=⟨by kernel_rfl,⟨fl30,by kernel_rfl,by kernel_rfl⟩⟩
theorem B48:Stt ktab 48 [.nilslice,.nilslice] [(0,1),(1,1)]:=⟨by kernel_rfl,⟨fl47,by kernel_rfl,by kernel_rfl⟩⟩
theorem B57:Stt ktab 57 [.int .i64 0,.int .i64 0,.nilslice,.int .i64 0,.int .i64 0] [(0,1),(1,1),(2,1),(3,1),(4,1)]:=⟨by kernel_rfl,⟨fl56,by kernel_rfl,by kernel_rfl⟩⟩
theorem B59:Stt ktab 59 [.int .i64 0,.bool false] [(0,1),(1,1)]:=⟨by kernel_rfl,⟨fl58,by kernel_rfl,by kernel_rfl⟩⟩
theorem B61:Stt ktab 61 [.int .i64 0,.int .i64 0,.int .i64 0,.int .i64 0,.int .i64 0,.int .i64 0,.int .i64 0,.int .i64 0,.int .i64 0,.int .i64 0] [(0,1),(1,1),(2,6),(8,1),(9,1)]:=⟨by kernel_rfl,⟨fl60,by kernel_rfl,by kernel_rfl⟩⟩
theorem B114:Stt ktab 114 [.nilslice,.nilslice,.nilslice,.int .i64 0,.int .i64 0,.int .i64 0,.int .i64 0,.int .i64 0,.int .i64 0,.int .i64 0,.int .i64 0,.int .i64 0,.nilslice,.int .i64 0,.int .i64 0] [(0,2),(2,1),(3,10),(13,1),(14,1)]:=⟨by kernel_rfl,⟨fl113,by kernel_rfl,by kernel_rfl⟩⟩
theorem B120:Stt ktab 120 [.int .i64 0,.bool false] [(0,1),(1,1)]:=⟨by kernel_rfl,⟨fl119,by kernel_rfl,by kernel_rfl⟩⟩
theorem B123:Stt ktab 123 [.int .i64 0,.int .i64 0] [(0,1),(1,1)]:=⟨by kernel_rfl,⟨fl122,by kernel_rfl,by kernel_rfl⟩⟩
theorem B125:Stt ktab 125 [.int .i64 0,.int .i64 0,.int .i64 0,.nilslice,.int .i64 0] [(0,2),(2,1),(3,1),(4,1)]:=⟨by kernel_rfl,⟨fl124,by kernel_rfl,by kernel_rfl⟩⟩
theorem B132:Stt ktab 132 [.int .i64 0,.int .i64 0,.int .i64 0,.int .i64 0,.int .i64 0,.int .i64 0,.int .i64 0,.int .i64 0,.int .i64 0,.nilslice,.int .i64 0] [(0,10),(10,1)]:=⟨by kernel_rfl,⟨fl131,by kernel_rfl,by kernel_rfl⟩⟩
theorem B187:Stt ktab 187 [.int .i64 0,.int .i64 0,.int .i64 0,.nilslice,.int .i64 0] [(0,5)]:=⟨by kernel_rfl,⟨fl186,by kernel_rfl,by kernel_rfl⟩⟩
theorem B195:Stt ktab 195 [.int .i64 0,.int .i64 0,.int .i64 0] [(0,1),(1,1),(2,1)]:=⟨by kernel_rfl,⟨fl194,by kernel_rfl,by kernel_rfl⟩⟩
theorem Bq240:Stt ktab 151 [.nilslice,.nilslice,.nilslice,.nilmap] [(0,2),(2,1),(3,1)]:=⟨by kernel_rfl,⟨fl150,by kernel_rfl,by kernel_rfl⟩⟩
theorem Bq241:Stt ktab 144 [.nilptr,.nilslice,.nilslice,.nilslice,.nilslice,.nilslice] [(0,1),(1,1),(2,1),(3,1),(4,1),(5,1)]:=⟨by kernel_rfl,⟨fl143,by kernel_rfl,by kernel_rfl⟩⟩
theorem F24_0:Fld ktab 24 0 3 0 1:=⟨⟨fl23,zt41,by kernel_rfl,by kernel_rfl,by kernel_rfl,by kernel_rfl⟩,by kernel_rfl⟩
theorem F24_1:Fld ktab 24 1 3 1 1:=⟨⟨fl23,zu41,by kernel_rfl,by kernel_rfl,by kernel_rfl,by kernel_rfl⟩,by kernel_rfl⟩
theorem F24_2:Fld ktab 24 2 3 2 1:=⟨⟨fl23,zv41,by kernel_rfl,by kernel_rfl,by kernel_rfl,by kernel_rfl⟩,by kernel_rfl⟩
theorem F24_3:Fld ktab 24 3 3 3 1:=⟨⟨fl23,zw41,by kernel_rfl,by kernel_rfl,by kernel_rfl,by kernel_rfl⟩,by kernel_rfl⟩
theorem F24_4:Fld ktab 24 4 3 4 1:=⟨⟨fl23,zx41,by kernel_rfl,by kernel_rfl,by kernel_rfl,by kernel_rfl⟩,by kernel_rfl⟩
theorem F24_5:Fld ktab 24 5 3 5 1:=⟨⟨fl23,zy41,by kernel_rfl,by kernel_rfl,by kernel_rfl,by kernel_rfl⟩,by kernel_rfl⟩
theorem F24_6:Fld ktab 24 6 3 6 1:=⟨⟨fl23,zz41,by kernel_rfl,by kernel_rfl,by kernel_rfl,by kernel_rfl⟩,by kernel_rfl⟩
theorem F24_7:Fld ktab 24 7 3 7 1:=⟨⟨fl23,za42,by kernel_rfl,by kernel_rfl,by kernel_rfl,by kernel_rfl⟩,by kernel_rfl⟩
theorem F24_8:Fld ktab 24 8 3 8 1:=⟨⟨fl23,zb42,by kernel_rfl,by kernel_rfl,by kernel_rfl,by kernel_rfl⟩,by kernel_rfl⟩
theorem F24_9:Fld ktab 24 9 22 9 1:=⟨⟨fl23,zc42,by kernel_rfl,by kernel_rfl,by kernel_rfl,by kernel_rfl⟩,by kernel_rfl⟩
theorem F26_0:Fld ktab 26 0 3 0 1:=⟨⟨fl25,zj30,by kernel_rfl,by kernel_rfl,by kernel_rfl,by kernel_rfl⟩,by kernel_rfl⟩
theorem F26_1:Fld ktab 26 1 3 1 1:=⟨⟨fl25,zk30,by kernel_rfl,by kernel_rfl,by kernel_rfl,by kernel_rfl⟩,by kernel_rfl⟩
theorem F31_0:Fld ktab 31 0 3 0 1:=⟨⟨fl30,zo21,by kernel_rfl,by kernel_rfl,by kernel_rfl,by kernel_rfl⟩,by kernel_rfl⟩
theorem F31_1:Fld ktab 31 1 3 1 1:=⟨⟨fl30,zp21,by kernel_rfl,by kernel_rfl,by kernel_rfl,by kernel_rfl⟩,by kernel_rfl⟩
theorem F31_2:Fld ktab 31 2 3 2 1:=⟨⟨fl30,zq21,by kernel_rfl,by kernel_rfl,by kernel_rfl,by kernel_rfl⟩,by kernel_rfl⟩
theorem F31_3:Fld ktab 31 3 3 3 1:=⟨⟨fl30,zr21,by kernel_rfl,by kernel_rfl,by kernel_rfl,by kernel_rfl⟩,by kernel_rfl⟩
theorem F31_4:Fld ktab 31 4 3 4 1:=⟨⟨fl30,zs21,by kernel_rfl,by kernel_rfl,by kernel_rfl,by kernel_rfl⟩,by kernel_rfl⟩
theorem F31_5:Fld ktab 31 5 3 5 1:=⟨⟨fl30,zt21,by kernel_rfl,by kernel_rfl,by kernel_rfl,by kernel_rfl⟩,by kernel_rfl⟩
theorem F48_0:Fld ktab 48 0 45 0 1:=⟨⟨fl47,zd42,by kernel_rfl,by kernel_rfl,by kernel_rfl,by kernel_rfl⟩,by kernel_rfl⟩
theorem F48_1:Fld ktab 48 1 46 1 1:=⟨⟨fl47,ze42,by kernel_rfl,by kernel_rfl,by kernel_rfl,by kernel_rfl⟩,by kernel_rfl⟩
theorem F57_0:Fld ktab 57 0 3 0 1:=⟨⟨fl56,zf42,by kernel_rfl,by kernel_rfl,by kernel_rfl,by kernel_rfl⟩,by kernel_rfl⟩
theorem F57_1:Fld ktab 57 1 3 1 1:=⟨⟨fl56,zg42,by kernel_rfl,by kernel_rfl,by kernel_rfl,by kernel_rfl⟩,by kernel_rfl⟩
theorem F57_2:Fld ktab 57 2 55 2 1:=⟨⟨fl56,zh42,by kernel_rfl,by kernel_rfl,by kernel_rfl,by kernel_rfl⟩,by kernel_rfl⟩
theorem F57_3:Fld ktab 57 3 3 3 1:=⟨⟨fl56,zi42,by kernel_rfl,by kernel_rfl,by kernel_rfl,by kernel_rfl⟩,by kernel_rfl⟩
theorem F57_4:Fld ktab 57 4 3 4 1:=⟨⟨fl56,zj42,by kernel_rfl,by kernel_rfl,by kernel_rfl,by kernel_rfl⟩,by kernel_rfl⟩
theorem F59_0:Fld ktab 59 0 3 0 1:=⟨⟨fl58,zl30,by kernel_rfl,by kernel_rfl,by kernel_rfl,by kernel_rfl⟩,by kernel_rfl⟩
theorem F59_1:Fld ktab 59 1 4 1 1:=⟨⟨fl58,zm30,by kernel_rfl,by kernel_rfl,by kernel_rfl,by kernel_rfl⟩,by kernel_rfl⟩
theorem F61_0:Fld ktab 61 0 3 0 1:=⟨⟨fl60,zn30,by kernel_rfl,by kernel_rfl,by kernel_rfl,by kernel_rfl⟩,by kernel_rfl⟩
theorem F61_1:Fld ktab 61 1 3 1 1:=⟨⟨fl60,zo30,by kernel_rfl,by kernel_rfl,by kernel_rfl,by kernel_rfl⟩,by kernel_rfl⟩
theorem F61_2:Fld ktab 61 2 31 2 6:=⟨⟨fl60,zp30,by kernel_rfl,by kernel_rfl,by kernel_rfl,by kernel_rfl⟩,by kernel_rfl⟩
theorem F61_3:Fld ktab 61 3 3 8 1:=⟨⟨fl60,zq30,by kernel_rfl,by kernel_rfl,by kernel_rfl,by kernel_rfl⟩,by kernel_rfl⟩
theorem F61_4:Fld ktab 61 4 3 9 1:=⟨⟨fl60,zr30,by kernel_rfl,by kernel_rfl,by kernel_rfl,by kernel_rfl⟩,by kernel_rfl⟩
theorem F89_0:Fld ktab 89 0 26 0 2:=⟨⟨fl88,zk42,by kernel_rfl,by kernel_rfl,by kernel_rfl,by kernel_rfl⟩,by kernel_rfl⟩
theorem F89_1:Fld ktab 89 1 31 2 6:=⟨⟨fl88,zl42,by kernel_rfl,by kernel_rfl,by kernel_rfl,by kernel_rfl⟩,by kernel_rfl⟩
theorem F89_2:Fld ktab 89 2 3 8 1:=⟨⟨fl88,zm42,by kernel_rfl,by kernel_rfl,by kernel_rfl,by kernel_rfl⟩,by kernel_rfl⟩
theorem F89_3:Fld ktab 89 3 3 9 1:=⟨⟨fl88,zn42,by kernel_rfl,by kernel_rfl,by kernel_rfl,by kernel_rfl⟩,by kernel_rfl⟩
theorem zb43:Fld ktab 114 0 48 0 2:=⟨⟨fl113,zx37,by kernel_rfl,by kernel_rfl,by kernel_rfl,by kernel_rfl⟩,by kernel_rfl⟩
theorem zc43:Fld ktab 114 1 49 2 1:=⟨⟨fl113,zy37,by kernel_rfl,by kernel_rfl,by kernel_rfl,by kernel_rfl⟩,by kernel_rfl⟩
theorem zd43:Fld ktab 114 2 24 3 10:=⟨⟨fl113,zz37,by kernel_rfl,by kernel_rfl,by kernel_rfl,by kernel_rfl⟩,by kernel_rfl⟩
theorem ze43:Fld ktab 114 3 3 13 1:=⟨⟨fl113,za38,by kernel_rfl,by kernel_rfl,by kernel_rfl,by kernel_rfl⟩,by kernel_rfl⟩
theorem zf43:Fld ktab 114 4 3 14 1:=⟨⟨fl113,zb38,by kernel_rfl,by kernel_rfl,by kernel_rfl,by kernel_rfl⟩,by kernel_rfl⟩
theorem zg43:Fld ktab 120 0 3 0 1:=⟨⟨fl119,zf16,by kernel_rfl,by kernel_rfl,by kernel_rfl,by kernel_rfl⟩,by kernel_rfl⟩
theorem zh43:Fld ktab 120 1 4 1 1:=⟨⟨fl119,zg16,by kernel_rfl,by kernel_rfl,by kernel_rfl,by kernel_rfl⟩,by kernel_rfl⟩
theorem zi43:Fld ktab 123 0 3 0 1:=⟨⟨fl122,zc38,by kernel_rfl,by kernel_rfl,by kernel_rfl,by kernel_rfl⟩,by kernel_rfl⟩
theorem zj43:Fld ktab 123 1 3 1 1:=⟨⟨fl122,zd38,by kernel_rfl,by kernel_rfl,by kernel_rfl,by kernel_rfl⟩,by kernel_rfl⟩
theorem zk43:Fld ktab 125 0 123 0 2:=⟨⟨fl124,ze38,by kernel_rfl,by kernel_rfl,by kernel_rfl,by kernel_rfl⟩,by kernel_rfl⟩
theorem zl43:Fld ktab 125 1 118 2 1:=⟨⟨fl124,zf38,by kernel_rfl,by kernel_rfl,by kernel_rfl,by kernel_rfl⟩,by kernel_rfl⟩
theorem zm43:Fld ktab 125 2 121 3 1:=⟨⟨fl124,zg38,by kernel_rfl,by kernel_rfl,by kernel_rfl,by kernel_rfl⟩,by kernel_rfl⟩
theorem zn43:Fld ktab 125 3 3 4 1:=⟨⟨fl124,zh38,by kernel_rfl,by kernel_rfl,by kernel_rfl,by kernel_rfl⟩,by kernel_rfl⟩
theorem zo43:Fld ktab 132 0 24 0 10:=⟨⟨fl131,zi38,by kernel_rfl,by kernel_rfl,by kernel_rfl,by kernel_rfl⟩,by kernel_rfl⟩
theorem zp43:Fld ktab 132 1 3 10 1:=⟨⟨fl131,zj38,by kernel_rfl,by kernel_rfl,by kernel_rfl,by kernel_rfl⟩,by kernel_rfl⟩
theorem zq43:Fld ktab 144 0 85 0 1:=⟨⟨fl143,zk38,by kernel_rfl,by kernel_rfl,by kernel_rfl,by kernel_rfl⟩,by kernel_rfl⟩
theorem zr43:Fld ktab 144 2 22 2 1:=⟨⟨fl143,zl38,by kernel_rfl,by kernel_rfl,by kernel_rfl,by kernel_rfl⟩,by kernel_rfl⟩
theorem zs43:Fld ktab 144 3 22 3 1:=⟨⟨fl143,zm38,by kernel_rfl,by kernel_rfl,by kernel_rfl,by kernel_rfl⟩,by kernel_rfl⟩
theorem zt43:Fld ktab 144 4 22 4 1:=⟨⟨fl143,zn38,by kernel_rfl,by kernel_rfl,by kernel_rfl,by kernel_rfl⟩,by kernel_rfl⟩
theorem zu43:Fld ktab 151 0 48 0 2:=⟨⟨fl150,zo38,by kernel_rfl,by kernel_rfl,by kernel_rfl,by kernel_rfl⟩,by kernel_rfl⟩
theorem zv43:Fld ktab 151 1 22 2 1:=⟨⟨fl150,zp38,by kernel_rfl,by kernel_rfl,by kernel_rfl,by kernel_rfl⟩,by kernel_rfl⟩
theorem zw43:Fld ktab 151 2 149 3 1:=⟨⟨fl150,zq38,by kernel_rfl,by kernel_rfl,by kernel_rfl,by kernel_rfl⟩,by kernel_rfl⟩
theorem zx43:Fld ktab 187 0 125 0 5:=⟨⟨fl186,zr38,by kernel_rfl,by kernel_rfl,by kernel_rfl,by kernel_rfl⟩,by kernel_rfl⟩
theorem zy43:Fld ktab 195 0 3 0 1:=⟨⟨fl194,zs38,by kernel_rfl,by kernel_rfl,by kernel_rfl,by kernel_rfl⟩,by kernel_rfl⟩
theorem AR128:Ar1 ktab 128 3 4 (rInt .i64):=⟨by kernel_rfl,by kernel_rfl,by kernel_rfl,by kernel_rfl,by kernel_rfl,by decide⟩
theorem AR158:Ar1 ktab 158 157 4 (rFn ktab (Int × Int × Int) (Int) (fun x=>[.val (rInt .i64) (x.1),.val (rInt .i64) (x.2.1),.val (rInt .i64) (x.2.2)]) (fun y=>[.val (rInt .i64) (y)])):=⟨by kernel_rfl,by kernel_rfl,by kernel_rfl,by kernel_rfl,by kernel_rfl,by decide⟩
theorem AR179:Ar1 ktab 179 3 7 (rInt .i64):=⟨by kernel_rfl,by kernel_rfl,by kernel_rfl,by kernel_rfl,by kernel_rfl,by decide⟩
theorem AR198:Ar1 ktab 198 197 7 (rFn ktab (zk1 × Int × Int) (Bool) (fun x=>[.val ze1 (x.1),.val (rInt .i64) (x.2.1),.val (rInt .i64) (x.2.2)]) (fun y=>[.val rBool (y)])):=⟨by kernel_rfl,by kernel_rfl,by kernel_rfl,by kernel_rfl,by kernel_rfl,by decide⟩
theorem E25:SEq ktab 25 rMotionState (fun x y=>x == y):=⟨⟨fl25,by kernel_rfl,by rw [show fl25.toList = [zj30,zk30] by kernel_rfl]; exact (.i (of_decide_eq_true (by kernel_rfl)) (by kernel_rfl) (by kernel_rfl) (.i (of_decide_eq_true (by kernel_rfl)) (by kernel_rfl) (by kernel_rfl) .n))⟩,by kernel_rfl,by kernel_rfl⟩
theorem E26:SEq ktab 26 rMotionState (fun x y=>x == y):=⟨⟨fl25,by kernel_rfl,by rw [show fl25.toList = [zj30,zk30] by kernel_rfl]; exact (.i (of_decide_eq_true (by kernel_rfl)) (by kernel_rfl) (by kernel_rfl) (.i (of_decide_eq_true (by kernel_rfl)) (by kernel_rfl) (by kernel_rfl) .n))⟩,by kernel_rfl,by kernel_rfl⟩
theorem E30:SEq ktab 30 rMotionLedger (fun x y=>x == y):=⟨⟨fl30,by kernel_rfl,by rw [show fl30.toList = [zo21,zp21,zq21,zr21,zs21,zt21] by kernel_rfl]; exact (.i (of_decide_eq_true (by kernel_rfl)) (by kernel_rfl) (by kernel_rfl) (.i (of_decide_eq_true (by kernel_rfl)) (by kernel_rfl) (by kernel_rfl) (.i (of_decide_eq_true (by kernel_rfl)) (by kernel_rfl) (by kernel_rfl) (.i (of_decide_eq_true (by kernel_rfl)) (by kernel_rfl) (by kernel_rfl) (.i (of_decide_eq_true (by kernel_rfl)) (by kernel_rfl) (by kernel_rfl) (.i (of_decide_eq_true (by kernel_rfl)) (by kernel_rfl) (by kernel_rfl) .n))))))⟩,by kernel_rfl,by kernel_rfl⟩
theorem E31:SEq ktab 31 rMotionLedger (fun x y=>x == y):=⟨⟨fl30,by kernel_rfl,by rw [show fl30.toList = [zo21,zp21,zq21,zr21,zs21,zt21] by kernel_rfl]; exact (.i (of_decide_eq_true (by kernel_rfl)) (by kernel_rfl) (by kernel_rfl) (.i (of_decide_eq_true (by kernel_rfl)) (by kernel_rfl) (by kernel_rfl) (.i (of_decide_eq_true (by kernel_rfl)) (by kernel_rfl) (by kernel_rfl) (.i (of_decide_eq_true (by kernel_rfl)) (by kernel_rfl) (by kernel_rfl) (.i (of_decide_eq_true (by kernel_rfl)) (by kernel_rfl) (by kernel_rfl) (.i (of_decide_eq_true (by kernel_rfl)) (by kernel_rfl) (by kernel_rfl) .n))))))⟩,by kernel_rfl,by kernel_rfl⟩
theorem E58:SEq ktab 58 rAMove (fun x y=>x == y):=⟨⟨fl58,by kernel_rfl,by rw [show fl58.toList = [zl30,zm30] by kernel_rfl]; exact (.i (of_decide_eq_true (by kernel_rfl)) (by kernel_rfl) (by kernel_rfl) (.b (of_decide_eq_true (by kernel_rfl)) (by kernel_rfl) (by kernel_rfl) .n))⟩,by kernel_rfl,by kernel_rfl⟩
theorem E59:SEq ktab 59 rAMove (fun x y=>x == y):=⟨⟨fl58,by kernel_rfl,by rw [show fl58.toList = [zl30,zm30] by kernel_rfl]; exact (.i (of_decide_eq_true (by kernel_rfl)) (by kernel_rfl) (by kernel_rfl) (.b (of_decide_eq_true (by kernel_rfl)) (by kernel_rfl) (by kernel_rfl) .n))⟩,by kernel_rfl,by kernel_rfl⟩
theorem E60:SEq ktab 60 rLeg (fun x y=>x == y):=⟨⟨fl60,by kernel_rfl,by rw [show fl60.toList = [zn30,zo30,zp30,zq30,zr30] by kernel_rfl]; exact (.i (of_decide_eq_true (by kernel_rfl)) (by kernel_rfl) (by kernel_rfl) (.i (of_decide_eq_true (by kernel_rfl)) (by kernel_rfl) (by kernel_rfl) (.s (gs:=fl30) (of_decide_eq_true (by kernel_rfl)) (by kernel_rfl) (by kernel_rfl) (by kernel_rfl) (by kernel_rfl) (by decide) (by kernel_rfl) (by rw [show fl30.toList = [zo21,zp21,zq21,zr21,zs21,zt21] by kernel_rfl]; exact (.i (of_decide_eq_true (by kernel_rfl)) (by kernel_rfl) (by kernel_rfl) (.i (of_decide_eq_true (by kernel_rfl)) (by kernel_rfl) (by kernel_rfl) (.i (of_decide_eq_true (by kernel_rfl)) (by kernel_rfl) (by kernel_rfl) (.i (of_decide_eq_true (by kernel_rfl)) (by kernel_rfl) (by kernel_rfl) (.i (of_decide_eq_true (by kernel_rfl)) (by kernel_rfl) (by kernel_rfl) (.i (of_decide_eq_true (by kernel_rfl)) (by kernel_rfl) (by kernel_rfl) .n))))))) (.i (of_decide_eq_true (by kernel_rfl)) (by kernel_rfl) (by kernel_rfl) (.i (of_decide_eq_true (by kernel_rfl)) (by kernel_rfl) (by kernel_rfl) .n)))))⟩,by kernel_rfl,by kernel_rfl⟩
theorem E61:SEq ktab 61 rLeg (fun x y=>x == y):=⟨⟨fl60,by kernel_rfl,by rw [show fl60.toList = [zn30,zo30,zp30,zq30,zr30] by kernel_rfl]; exact (.i (of_decide_eq_true (by kernel_rfl)) (by kernel_rfl) (by kernel_rfl) (.i (of_decide_eq_true (by kernel_rfl)) (by kernel_rfl) (by kernel_rfl) (.s (gs:=fl30) (of_decide_eq_true (by kernel_rfl)) (by kernel_rfl) (by kernel_rfl) (by kernel_rfl) (by kernel_rfl) (by decide) (by kernel_rfl) (by rw [show fl30.toList = [zo21,zp21,zq21,zr21,zs21,zt21] by kernel_rfl]; exact (.i (of_decide_eq_true (by kernel_rfl)) (by kernel_rfl) (by kernel_rfl) (.i (of_decide_eq_true (by kernel_rfl)) (by kernel_rfl) (by kernel_rfl) (.i (of_decide_eq_true (by kernel_rfl)) (by kernel_rfl) (by kernel_rfl) (.i (of_decide_eq_true (by kernel_rfl)) (by kernel_rfl) (by kernel_rfl) (.i (of_decide_eq_true (by kernel_rfl)) (by kernel_rfl) (by kernel_rfl) (.i (of_decide_eq_true (by kernel_rfl)) (by kernel_rfl) (by kernel_rfl) .n))))))) (.i (of_decide_eq_true (by kernel_rfl)) (by kernel_rfl) (by kernel_rfl) (.i (of_decide_eq_true (by kernel_rfl)) (by kernel_rfl) (by kernel_rfl) .n)))))⟩,by kernel_rfl,by kernel_rfl⟩
theorem E119:SEq ktab 119 rRailEnd (fun x y=>x == y):=⟨⟨fl119,by kernel_rfl,by rw [show fl119.toList = [zf16,zg16] by kernel_rfl]; exact (.i (of_decide_eq_true (by kernel_rfl)) (by kernel_rfl) (by kernel_rfl) (.b (of_decide_eq_true (by kernel_rfl)) (by kernel_rfl) (by kernel_rfl) .n))⟩,by kernel_rfl,by kernel_rfl⟩
theorem E120:SEq ktab 120 rRailEnd (fun x y=>x == y):=⟨⟨fl119,by kernel_rfl,by rw [show fl119.toList = [zf16,zg16] by kernel_rfl]; exact (.i (of_decide_eq_true (by kernel_rfl)) (by kernel_rfl) (by kernel_rfl) (.b (of_decide_eq_true (by kernel_rfl)) (by kernel_rfl) (by kernel_rfl) .n))⟩,by kernel_rfl,by kernel_rfl⟩
instance:iK ktab 3 (.int .i64):=⟨K3⟩
instance:iK ktab 4 .bool:=⟨K4⟩
instance:iK ktab 5 (.int .u8):=⟨K5⟩
instance:iK ktab 196 (.int .u64):=⟨K196⟩
instance:iK ktab 209 (.int .u32):=⟨K209⟩
instance:iK ktab 211 (.int .u64):=⟨K211⟩
instance:iK ktab 212 (.int .u64):=⟨K212⟩
instance:iU ktab 101 (rPtr zl):=⟨U101⟩
instance:iU ktab 114 zq:=⟨U114⟩
instance:iU ktab 118 (rInt .i64):=⟨U118⟩
instance:iU ktab 120 rRailEnd:=⟨U120⟩
instance:iU ktab 121 (rSlice rRailEnd):=⟨U121⟩
instance:iU ktab 123 rSpot:=⟨U123⟩
instance:iU ktab 125 rANode:=⟨U125⟩
instance:iU ktab 130 (rFn ktab (MotionState) (Int) (fun x=>[.val rMotionState (x)]) (fun y=>[.val (rInt .i64) (y)])):=⟨U130⟩
instance:iU ktab 149 (rMap rRailEnd (rInt .i64)):=⟨U149⟩
instance:iU ktab 187 ze1:=⟨U187⟩
instance:iU ktab 197 (rFn ktab (zk1 × Int × Int) (Bool) (fun x=>[.val ze1 (x.1),.val (rInt .i64) (x.2.1),.val (rInt .i64) (x.2.2)]) (fun y=>[.val rBool (y)])):=⟨U197⟩
instance:iU ktab 212 (rInt .u64):=⟨U212⟩
instance:iU ktab 22 (rSlice (rInt .i64)):=⟨U22⟩
instance:iU ktab 24 rTrain:=⟨U24⟩
instance:iU ktab 26 rMotionState:=⟨U26⟩
instance:iU ktab 3 (rInt .i64):=⟨U3⟩
instance:iU ktab 31 rMotionLedger:=⟨U31⟩
instance:iU ktab 4 rBool:=⟨U4⟩
instance:iU ktab 45 (rSlice rANode):=⟨U45⟩
instance:iU ktab 46 (rSlice rRail):=⟨U46⟩
instance:iU ktab 48 rPlan:=⟨U48⟩
instance:iU ktab 49 (rSlice rAMove):=⟨U49⟩
instance:iU ktab 55 (rSlice rSpot):=⟨U55⟩
instance:iU ktab 57 rRail:=⟨U57⟩
instance:iU ktab 59 rAMove:=⟨U59⟩
instance:iU ktab 61 rLeg:=⟨U61⟩
instance:iU ktab 85 (rPtr zi):=⟨U85⟩
instance:iU ktab 89 zt:=⟨U89⟩
instance:iU ktab 96 (rPtr zk):=⟨U96⟩
instance:iS ktab 22 (rInt .i64) 3:=⟨S22⟩
instance:iS ktab 45 rANode 125:=⟨S45⟩
instance:iS ktab 46 rRail 57:=⟨S46⟩
instance:iS ktab 49 rAMove 59:=⟨S49⟩
instance:iS ktab 52 rLeg 61:=⟨S52⟩
instance:iS ktab 55 rSpot 123:=⟨S55⟩
instance:iS ktab 121 rRailEnd 120:=⟨S121⟩
instance:iS ktab 164 rMotionLedger 31:=⟨S164⟩
instance:iS ktab 182 (rSlice rSpot) 55:=⟨S182⟩
instance:iS ktab 192 rCover 195:=⟨S192⟩
instance:iY ktab 3 (rInt .i64) 8:=⟨Y3⟩
instance:iY ktab 31 rMotionLedger 48:=⟨Y31⟩
instance:iY ktab 55 (rSlice rSpot) 24:=⟨Y55⟩
instance:iY ktab 57 rRail 56:=⟨Y57⟩
instance:iY ktab 59 rAMove 16:=⟨Y59⟩
instance:iY ktab 61 rLeg 80:=⟨Y61⟩
instance:iY ktab 120 rRailEnd 16:=⟨Y120⟩
instance:iY ktab 123 rSpot 16:=⟨Y123⟩
instance:iY ktab 125 rANode 56:=⟨Y125⟩
instance:iY ktab 195 rCover 24:=⟨Y195⟩
instance:iZ ktab 3 (rInt .i64) 0:=⟨Z3⟩
instance:iZ ktab 4 rBool false:=⟨Z4⟩
instance:iZ ktab 123 rSpot (0,0,()):=⟨Z123⟩
instance:iB ktab 24 rTrain [.int .i64 0,.int .i64 0,.int .i64 0,.int .i64 0,.int .i64 0,.int .i64 0,.int .i64 0,.int .i64 0,.int .i64 0,.nilslice] [(0,1),(1,1),(2,1),(3,1),(4,1),(5,1),(6,1),(7,1),(8,1),(9,1)]:=⟨B24,rfl⟩
instance:iB ktab 26 rMotionState [.int .i64 0,.int .i64 0] [(0,1),(1,1)]:=⟨B26,rfl⟩
instance:iB ktab 31 rMotionLedger [.int .i64 0,.int .i64 0,.int .i64 0,.int .i64 0,.int .i64 0,.int .i64 0] [(0,1),(1,1),(2,1),(3,1),(4,1),(5,1)]:=⟨B31,rfl⟩
instance:iB ktab 48 rPlan [.nilslice,.nilslice] [(0,1),(1,1)]:=⟨B48,rfl⟩
instance:iB ktab 57 rRail [.int .i64 0,.int .i64 0,.nilslice,.int .i64 0,.int .i64 0] [(0,1),(1,1),(2,1),(3,1),(4,1)]:=⟨B57,rfl⟩
instance:iB ktab 59 rAMove [.int .i64 0,.bool false] [(0,1),(1,1)]:=⟨B59,rfl⟩
instance:iB ktab 61 rLeg [.int .i64 0,.int .i64 0,.int .i64 0,.int .i64 0,.int .i64 0,.int .i64 0,.int .i64 0,.int .i64 0,.int .i64 0,.int .i64 0] [(0,1),(1,1),(2,6),(8,1),(9,1)]:=⟨B61,rfl⟩
instance:iB ktab 114 zq [.nilslice,.nilslice,.nilslice,.int .i64 0,.int .i64 0,.int .i64 0,.int .i64 0,.int .i64 0,.int .i64 0,.int .i64 0,.int .i64 0,.int .i64 0,.nilslice,.int .i64 0,.int .i64 0] [(0,2),(2,1),(3,10),(13,1),(14,1)]:=⟨B114,rfl⟩
instance:iB ktab 120 rRailEnd [.int .i64 0,.bool false] [(0,1),(1,1)]:=⟨B120,rfl⟩
instance:iB ktab 123 rSpot [.int .i64 0,.int .i64 0] [(0,1),(1,1)]:=⟨B123,rfl⟩
instance:iB ktab 125 rANode [.int .i64 0,.int .i64 0,.int .i64 0,.nilslice,.int .i64 0] [(0,2),(2,1),(3,1),(4,1)]:=⟨B125,rfl⟩
instance:iB ktab 132 zi [.int .i64 0,.int .i64 0,.int .i64 0,.int .i64 0,.int .i64 0,.int .i64 0,.int .i64 0,.int .i64 0,.int .i64 0,.nilslice,.int .i64 0] [(0,10),(10,1)]:=⟨B132,rfl⟩
instance:iB ktab 187 ze1 [.int .i64 0,.int .i64 0,.int .i64 0,.nilslice,.int .i64 0] [(0,5)]:=⟨B187,rfl⟩
instance:iB ktab 195 rCover [.int .i64 0,.int .i64 0,.int .i64 0] [(0,1),(1,1),(2,1)]:=⟨B195,rfl⟩
instance:iF ktab 24 0 rTrain (rInt .i64) 3 0 (fun x=>x.1) (fun x y=>(y,x.2.1,x.2.2.1,x.2.2.2.1,x.2.2.2.2.1,x.2.2.2.2.2.1,x.2.2.2.2.2.2.1,x.2.2.2.2.2.2.2.1,x.2.2.2.2.2.2.2.2.1,x.2.2.2.2.2.2.2.2.2.1,())):=⟨F24_0,zr26,by decide⟩
instance:iF ktab 24 1 rTrain (rInt .i64) 3 1 (fun x=>x.2.1) (fun x y=>(x.1,y,x.2.2.1,x.2.2.2.1,x.2.2.2.2.1,x.2.2.2.2.2.1,x.2.2.2.2.2.2.1,x.2.2.2.2.2.2.2.1,x.2.2.2.2.2.2.2.2.1,x.2.2.2.2.2.2.2.2.2.1,())):=⟨F24_1,zs26,by decide⟩
instance:iF ktab 24 2 rTrain (rInt .i64) 3 2 (fun x=>x.2.2.1) (fun x y=>(x.1,x.2.1,y,x.2.2.2.1,x.2.2.2.2.1,x.2.2.2.2.2.1,x.2.2.2.2.2.2.1,x.2.2.2.2.2.2.2.1,x.2.2.2.2.2.2.2.2.1,x.2.2.2.2.2.2.2.2.2.1,())):=⟨F24_2,zt26,by decide⟩
instance:iF ktab 24 3 rTrain (rInt .i64) 3 3 (fun x=>x.2.2.2.1) (fun x y=>(x.1,x.2.1,x.2.2.1,y,x.2.2.2.2.1,x.2.2.2.2.2.1,x.2.2.2.2.2.2.1,x.2.2.2.2.2.2.2.1,x.2.2.2.2.2.2.2.2.1,x.2.2.2.2.2.2.2.2.2.1,())):=⟨F24_3,zu26,by decide⟩
instance:iF ktab 24 4 rTrain (rInt .i64) 3 4 (fun x=>x.2.2.2.2.1) (fun x y=>(x.1,x.2.1,x.2.2.1,x.2.2.2.1,y,x.2.2.2.2.2.1,x.2.2.2.2.2.2.1,x.2.2.2.2.2.2.2.1,x.2.2.2.2.2.2.2.2.1,x.2.2.2.2.2.2.2.2.2.1,())):=⟨F24_4,zv26,by decide⟩
instance:iF ktab 24 5 rTrain (rInt .i64) 3 5 (fun x=>x.2.2.2.2.2.1) (fun x y=>(x.1,x.2.1,x.2.2.1,x.2.2.2.1,x.2.2.2.2.1,y,x.2.2.2.2.2.2.1,x.2.2.2.2.2.2.2.1,x.2.2.2.2.2.2.2.2.1,x.2.2.2.2.2.2.2.2.2.1,())):=⟨F24_5,zw26,by decide⟩
instance:iF ktab 24 6 rTrain (rInt .i64) 3 6 (fun x=>x.2.2.2.2.2.2.1) (fun x y=>(x.1,x.2.1,x.2.2.1,x.2.2.2.1,x.2.2.2.2.1,x.2.2.2.2.2.1,y,x.2.2.2.2.2.2.2.1,x.2.2.2.2.2.2.2.2.1,x.2.2.2.2.2.2.2.2.2.1,())):=⟨F24_6,zx26,by decide⟩
instance:iF ktab 24 7 rTrain (rInt .i64) 3 7 (fun x=>x.2.2.2.2.2.2.2.1) (fun x y=>(x.1,x.2.1,x.2.2.1,x.2.2.2.1,x.2.2.2.2.1,x.2.2.2.2.2.1,x.2.2.2.2.2.2.1,y,x.2.2.2.2.2.2.2.2.1,x.2.2.2.2.2.2.2.2.2.1,())):=⟨F24_7,zy26,by decide⟩
instance:iF ktab 24 8 rTrain (rInt .i64) 3 8 (fun x=>x.2.2.2.2.2.2.2.2.1) (fun x y=>(x.1,x.2.1,x.2.2.1,x.2.2.2.1,x.2.2.2.2.1,x.2.2.2.2.2.1,x.2.2.2.2.2.2.1,x.2.2.2.2.2.2.2.1,y,x.2.2.2.2.2.2.2.2.2.1,())):=⟨F24_8,zz26,by decide⟩
instance:iF ktab 24 9 rTrain (rSlice (rInt .i64)) 22 9 (fun x=>x.2.2.2.2.2.2.2.2.2.1) (fun x y=>(x.1,x.2.1,x.2.2.1,x.2.2.2.1,x.2.2.2.2.1,x.2.2.2.2.2.1,x.2.2.2.2.2.2.1,x.2.2.2.2.2.2.2.1,x.2.2.2.2.2.2.2.2.1,y,())):=⟨F24_9,za27,by decide⟩
instance:iF ktab 26 0 rMotionState (rInt .i64) 3 0 (fun x=>x.1) (fun x y=>(y,x.2.1,())):=⟨F26_0,zg14,by decide⟩
instance:iF ktab 26 1 rMotionState (rInt .i64) 3 1 (fun x=>x.2.1) (fun x y=>(x.1,y,())):=⟨F26_1,zh14,by decide⟩
instance:iF ktab 31 0 rMotionLedger (rInt .i64) 3 0 (fun x=>x.1) (fun x y=>(y,x.2.1,x.2.2.1,x.2.2.2.1,x.2.2.2.2.1,x.2.2.2.2.2.1,())):=⟨F31_0,zh13,by decide⟩
instance:iF ktab 31 1 rMotionLedger (rInt .i64) 3 1 (fun x=>x.2.1) (fun x y=>(x.1,y,x.2.2.1,x.2.2.2.1,x.2.2.2.2.1,x.2.2.2.2.2.1,())):=⟨F31_1,zi13,by decide⟩
instance:iF ktab 31 2 rMotionLedger (rInt .i64) 3 2 (fun x=>x.2.2.1) (fun x y=>(x.1,x.2.1,y,x.2.2.2.1,x.2.2.2.2.1,x.2.2.2.2.2.1,())):=⟨F31_2,zj13,by decide⟩
instance:iF ktab 31 3 rMotionLedger (rInt .i64) 3 3 (fun x=>x.2.2.2.1) (fun x y=>(x.1,x.2.1,x.2.2.1,y,x.2.2.2.2.1,x.2.2.2.2.2.1,())):=⟨F31_3,zk13,by decide⟩
instance:iF ktab 31 4 rMotionLedger (rInt .i64) 3 4 (fun x=>x.2.2.2.2.1) (fun x y=>(x.1,x.2.1,x.2.2.1,x.2.2.2.1,y,x.2.2.2.2.2.1,())):=⟨F31_4,zl13,by decide⟩
instance:iF ktab 31 5 rMotionLedger (rInt .i64) 3 5 (fun x=>x.2.2.2.2.2.1) (fun x y=>(x.1,x.2.1,x.2.2.1,x.2.2.2.1,x.2.2.2.2.1,y,())):=⟨F31_5,zm13,by decide⟩
instance:iF ktab 48 0 rPlan (rSlice rANode) 45 0 (fun x=>x.1) (fun x y=>(y,x.2.1,())):=⟨F48_0,ze30,by decide⟩
instance:iF ktab 48 1 rPlan (rSlice rRail) 46 1 (fun x=>x.2.1) (fun x y=>(x.1,y,())):=⟨F48_1,zf30,by decide⟩
instance:iF ktab 57 0 rRail (rInt .i64) 3 0 (fun x=>x.1) (fun x y=>(y,x.2.1,x.2.2.1,x.2.2.2.1,x.2.2.2.2.1,())):=⟨F57_0,zz29,by decide⟩
instance:iF ktab 57 1 rRail (rInt .i64) 3 1 (fun x=>x.2.1) (fun x y=>(x.1,y,x.2.2.1,x.2.2.2.1,x.2.2.2.2.1,())):=⟨F57_1,za30,by decide⟩
instance:iF ktab 57 2 rRail (rSlice rSpot) 55 2 (fun x=>x.2.2.1) (fun x y=>(x.1,x.2.1,y,x.2.2.2.1,x.2.2.2.2.1,())):=⟨F57_2,zb30,by decide⟩
instance:iF ktab 57 3 rRail (rInt .i64) 3 3 (fun x=>x.2.2.2.1) (fun x y=>(x.1,x.2.1,x.2.2.1,y,x.2.2.2.2.1,())):=⟨F57_3,zc30,by decide⟩
instance:iF ktab 57 4 rRail (rInt .i64) 3 4 (fun x=>x.2.2.2.2.1) (fun x y=>(x.1,x.2.1,x.2.2.1,x.2.2.2.1,y,())):=⟨F57_4,zd30,by decide⟩
instance:iF ktab 59 0 rAMove (rInt .i64) 3 0 (fun x=>x.1) (fun x y=>(y,x.2.1,())):=⟨F59_0,zf27,by decide⟩
instance:iF ktab 59 1 rAMove rBool 4 1 (fun x=>x.2.1) (fun x y=>(x.1,y,())):=⟨F59_1,zg27,by decide⟩
instance:iF ktab 61 0 rLeg (rInt .i64) 3 0 (fun x=>x.1) (fun x y=>(y,x.2.1,x.2.2.1,x.2.2.2.1,x.2.2.2.2.1,())):=⟨F61_0,zv24,by decide⟩
instance:iF ktab 61 1 rLeg (rInt .i64) 3 1 (fun x=>x.2.1) (fun x y=>(x.1,y,x.2.2.1,x.2.2.2.1,x.2.2.2.2.1,())):=⟨F61_1,ze34,by decide⟩
instance:iF ktab 61 2 rLeg rMotionLedger 31 2 (fun x=>x.2.2.1) (fun x y=>(x.1,x.2.1,y,x.2.2.2.1,x.2.2.2.2.1,())):=⟨F61_2,zw24,by decide⟩
instance:iF ktab 61 3 rLeg (rInt .i64) 3 8 (fun x=>x.2.2.2.1) (fun x y=>(x.1,x.2.1,x.2.2.1,y,x.2.2.2.2.1,())):=⟨F61_3,zf34,by decide⟩
instance:iF ktab 61 4 rLeg (rInt .i64) 3 9 (fun x=>x.2.2.2.2.1) (fun x y=>(x.1,x.2.1,x.2.2.1,x.2.2.2.1,y,())):=⟨F61_4,zg34,by decide⟩
instance:iF ktab 89 0 zt rMotionState 26 0 (fun x=>x.1) (fun x y=>(y,x.2.1,x.2.2.1,x.2.2.2.1,())):=⟨F89_0,zl11,by decide⟩
instance:iF ktab 89 1 zt rMotionLedger 31 2 (fun x=>x.2.1) (fun x y=>(x.1,y,x.2.2.1,x.2.2.2.1,())):=⟨F89_1,zm11,by decide⟩
instance:iF ktab 89 2 zt (rInt .i64) 3 8 (fun x=>x.2.2.1) (fun x y=>(x.1,x.2.1,y,x.2.2.2.1,())):=⟨F89_2,zn11,by decide⟩
instance:iF ktab 89 3 zt (rInt .i64) 3 9 (fun x=>x.2.2.2.1) (fun x y=>(x.1,x.2.1,x.2.2.1,y,())):=⟨F89_3,zo11,by decide⟩
instance:iF ktab 114 0 zq rPlan 48 0 (fun x=>x.1) (fun x y=>(y,x.2.1,x.2.2.1,x.2.2.2.1,x.2.2.2.2.1,())):=⟨zb43,zw9,by decide⟩
instance:iF ktab 114 1 zq (rSlice rAMove) 49 2 (fun x=>x.2.1) (fun x y=>(x.1,y,x.2.2.1,x.2.2.2.1,x.2.2.2.2.1,())):=⟨zc43,zx9,by decide⟩
instance:iF ktab 114 2 zq rTrain 24 3 (fun x=>x.2.2.1) (fun x y=>(x.1,x.2.1,y,x.2.2.2.1,x.2.2.2.2.1,())):=⟨zd43,zy9,by decide⟩
instance:iF ktab 114 3 zq (rInt .i64) 3 13 (fun x=>x.2.2.2.1) (fun x y=>(x.1,x.2.1,x.2.2.1,y,x.2.2.2.2.1,())):=⟨ze43,zz9,by decide⟩
instance:iF ktab 114 4 zq (rInt .i64) 3 14 (fun x=>x.2.2.2.2.1) (fun x y=>(x.1,x.2.1,x.2.2.1,x.2.2.2.1,y,())):=⟨zf43,za10,by decide⟩
instance:iF ktab 120 0 rRailEnd (rInt .i64) 3 0 (fun x=>x.1) (fun x y=>(y,x.2.1,())):=⟨zg43,zl21,by decide⟩
instance:iF ktab 120 1 rRailEnd rBool 4 1 (fun x=>x.2.1) (fun x y=>(x.1,y,())):=⟨zh43,zm21,by decide⟩
instance:iF ktab 123 0 rSpot (rInt .i64) 3 0 (fun x=>x.1) (fun x y=>(y,x.2.1,())):=⟨zi43,zx29,by decide⟩
instance:iF ktab 123 1 rSpot (rInt .i64) 3 1 (fun x=>x.2.1) (fun x y=>(x.1,y,())):=⟨zj43,zy29,by decide⟩
instance:iF ktab 125 0 rANode rSpot 123 0 (fun x=>x.1) (fun x y=>(y,x.2.1,x.2.2.1,x.2.2.2.1,())):=⟨zk43,zb27,by decide⟩
instance:iF ktab 125 1 rANode (rInt .i64) 118 2 (fun x=>x.2.1) (fun x y=>(x.1,y,x.2.2.1,x.2.2.2.1,())):=⟨zl43,zc27,by decide⟩
instance:iF ktab 125 2 rANode (rSlice rRailEnd) 121 3 (fun x=>x.2.2.1) (fun x y=>(x.1,x.2.1,y,x.2.2.2.1,())):=⟨zm43,zd27,by decide⟩
instance:iF ktab 125 3 rANode (rInt .i64) 3 4 (fun x=>x.2.2.2.1) (fun x y=>(x.1,x.2.1,x.2.2.1,y,())):=⟨zn43,ze27,by decide⟩
instance:iF ktab 132 0 zi rTrain 24 0 (fun x=>x.1) (fun x y=>(y,x.2.1,())):=⟨zo43,zf13,by decide⟩
instance:iF ktab 132 1 zi (rInt .i64) 3 10 (fun x=>x.2.1) (fun x y=>(x.1,y,())):=⟨zp43,zg13,by decide⟩
instance:iF ktab 144 0 zk (rPtr zi) 85 0 (fun x=>x.1) (fun x y=>(y,x.2.1,x.2.2.1,x.2.2.2.1,x.2.2.2.2.1,x.2.2.2.2.2.1,())):=⟨zq43,za16,by decide⟩
instance:iF ktab 144 2 zk (rSlice (rInt .i64)) 22 2 (fun x=>x.2.2.1) (fun x y=>(x.1,x.2.1,y,x.2.2.2.1,x.2.2.2.2.1,x.2.2.2.2.2.1,())):=⟨zr43,zb16,by decide⟩
instance:iF ktab 144 3 zk (rSlice (rInt .i64)) 22 3 (fun x=>x.2.2.2.1) (fun x y=>(x.1,x.2.1,x.2.2.1,y,x.2.2.2.2.1,x.2.2.2.2.2.1,())):=⟨zs43,zc16,by decide⟩
instance:iF ktab 144 4 zk (rSlice (rInt .i64)) 22 4 (fun x=>x.2.2.2.2.1) (fun x y=>(x.1,x.2.1,x.2.2.1,x.2.2.2.1,y,x.2.2.2.2.2.1,())):=⟨zt43,zd16,by decide⟩
instance:iF ktab 151 0 zl rPlan 48 0 (fun x=>x.1) (fun x y=>(y,x.2.1,x.2.2.1,())):=⟨zu43,zl12,by decide⟩
instance:iF ktab 151 1 zl (rSlice (rInt .i64)) 22 2 (fun x=>x.2.1) (fun x y=>(x.1,y,x.2.2.1,())):=⟨zv43,zm12,by decide⟩
instance:iF ktab 151 2 zl (rMap rRailEnd (rInt .i64)) 149 3 (fun x=>x.2.2.1) (fun x y=>(x.1,x.2.1,y,())):=⟨zw43,zn12,by decide⟩
instance:iF ktab 187 0 ze1 rANode 125 0 (fun x=>x.1) (fun x y=>(y,())):=⟨zx43,zo12,by decide⟩
instance:iF ktab 195 0 rCover (rInt .i64) 3 0 (fun x=>x.1) (fun x y=>(y,x.2.1,x.2.2.1,())):=⟨zy43,zc18,by decide⟩
instance:iA ktab 128 (rInt .i64) 3 4:=⟨AR128⟩
instance:iA ktab 158 (rFn ktab (Int × Int × Int) (Int) (fun x=>[.val (rInt .i64) (x.1),.val (rInt .i64) (x.2.1),.val (rInt .i64) (x.2.2)]) (fun y=>[.val (rInt .i64) (y)])) 157 4:=⟨AR158⟩
instance:iA ktab 179 (rInt .i64) 3 7:=⟨AR179⟩
instance:iA ktab 198 (rFn ktab (zk1 × Int × Int) (Bool) (fun x=>[.val ze1 (x.1),.val (rInt .i64) (x.2.1),.val (rInt .i64) (x.2.2)]) (fun y=>[.val rBool (y)])) 197 7:=⟨AR198⟩
instance:iE ktab 25 rMotionState (fun x y=>x == y):=⟨E25,rfl⟩
instance:iE ktab 26 rMotionState (fun x y=>x == y):=⟨E26,rfl⟩
instance:iE ktab 30 rMotionLedger (fun x y=>x == y):=⟨E30,rfl⟩
instance:iE ktab 31 rMotionLedger (fun x y=>x == y):=⟨E31,rfl⟩
instance:iE ktab 58 rAMove (fun x y=>x == y):=⟨E58,rfl⟩
instance:iE ktab 59 rAMove (fun x y=>x == y):=⟨E59,rfl⟩
instance:iE ktab 60 rLeg (fun x y=>x == y):=⟨E60,rfl⟩
instance:iE ktab 61 rLeg (fun x y=>x == y):=⟨E61,rfl⟩
instance:iE ktab 119 rRailEnd (fun x y=>x == y):=⟨E119,rfl⟩
instance:iE ktab 120 rRailEnd (fun x y=>x == y):=⟨E120,rfl⟩
end Go.Ai.TabYtcokdbcdlaofbaaGreat

/- What the rows of this seat ask,of the abstract interpreter. -/
namespace Go.Ai.TabYtcokdbcdlaofbaaGreat
open Go Go.Ai Go.Ai.Sx Go.Proofs Go.Proofs.YtcokdbcdlaofbaaGreat
theorem own:ownKnob Tryz.prog.godebug = none:=by kernel_rfl
theorem laidOut:laidOutB Tryz.prog = true:=by kernel_rfl
theorem begun:decide (Tryz.prog.globals.size < (begin Tryz.prog (fun _ _=>0) default).world.heap.size) = true:=by kernel_rfl
theorem notEmpty {W:World} (h:W.ShapedOpen Tryz.prog):0 < W.heap.size:=by
 obtain ⟨o,_,ho,_⟩:=h.2 Tryz.prog.globals.size (Nat.le_refl _) (of_decide_eq_true begun)
 have:=(Array.getElem?_eq_some_iff.1 ho).1
 omega
theorem zv1 {P:Program} {A B:Type} {f:Field} {fs:List Field} {o:Nat} {t:TypeId} {R:Rep A} {S:Rep B} (hf:f.offset = o) (ht:f.type = t) (ho:Opens P t R) (hs:OpensF P fs (o + R.sz) S):OpensF P (f :: fs) o (rPair R S):=by
 subst ht
 exact zi23 hf ho hs
noncomputable def lfl122:Array Field:=match Tryz.t122.desc with | .struct fs=>fs | _=>#[]
noncomputable def zi34:Field:=lfl122[0]!
noncomputable def zj34:Field:=lfl122[1]!
noncomputable def lfl119:Array Field:=match Tryz.t119.desc with | .struct fs=>fs | _=>#[]
noncomputable def zk34:Field:=lfl119[0]!
noncomputable def zl34:Field:=lfl119[1]!
noncomputable def lfl124:Array Field:=match Tryz.t124.desc with | .struct fs=>fs | _=>#[]
noncomputable def zm34:Field:=lfl124[0]!
noncomputable def zn34:Field:=lfl124[1]!
noncomputable def zo34:Field:=lfl124[2]!
noncomputable def zp34:Field:=lfl124[3]!
noncomputable def lfl56:Array Field:=match Tryz.t56.desc with | .struct fs=>fs | _=>#[]
noncomputable def zt38:Field:=lfl56[0]!
noncomputable def zu38:Field:=lfl56[1]!
noncomputable def zv38:Field:=lfl56[2]!
noncomputable def zw38:Field:=lfl56[3]!
noncomputable def zx38:Field:=lfl56[4]!
noncomputable def lfl47:Array Field:=match Tryz.t47.desc with | .struct fs=>fs | _=>#[]
noncomputable def zy38:Field:=lfl47[0]!
noncomputable def zz38:Field:=lfl47[1]!
noncomputable def lfl58:Array Field:=match Tryz.t58.desc with | .struct fs=>fs | _=>#[]
noncomputable def za39:Field:=lfl58[0]!
noncomputable def zb39:Field:=lfl58[1]!
noncomputable def lfl23:Array Field:=match Tryz.t23.desc with | .struct fs=>fs | _=>#[]
noncomputable def zc39:Field:=lfl23[0]!
noncomputable def zd39:Field:=lfl23[1]!
noncomputable def ze39:Field:=lfl23[2]!
noncomputable def zf39:Field:=lfl23[3]!
noncomputable def zg39:Field:=lfl23[4]!
noncomputable def zh39:Field:=lfl23[5]!
noncomputable def zi39:Field:=lfl23[6]!
noncomputable def zj39:Field:=lfl23[7]!
noncomputable def zk39:Field:=lfl23[8]!
noncomputable def zl39:Field:=lfl23[9]!
theorem o3:Opens Tryz.prog 3 (rInt .i64):=zb21 (by kernel_rfl) (by kernel_rfl)
theorem o123:Opens Tryz.prog 123 rSpot:=zt5 (fs:=lfl122) (by kernel_rfl) (by kernel_rfl) rfl (by
 rw [show lfl122.toList = [zi34,zj34] by kernel_rfl]
 exact (zv1 (by kernel_rfl) (by kernel_rfl) o3 (zv1 (by kernel_rfl) (by kernel_rfl) o3 (zs7 _))))
theorem o118:Opens Tryz.prog 118 (rInt .i64):=zb21 (by kernel_rfl) (by kernel_rfl)
theorem o4:Opens Tryz.prog 4 rBool:=zj26 (by kernel_rfl) (by kernel_rfl)
theorem o120:Opens Tryz.prog 120 rRailEnd:=zt5 (fs:=lfl119) (by kernel_rfl) (by kernel_rfl) rfl (by
 rw [show lfl119.toList = [zk34,zl34] by kernel_rfl]
 exact (zv1 (by kernel_rfl) (by kernel_rfl) o3 (zv1 (by kernel_rfl) (by kernel_rfl) o4 (zs7 _))))
theorem o121:Opens Tryz.prog 121 (rSlice rRailEnd):=zr7 (by kernel_rfl) (by kernel_rfl) o120 (by decide)
theorem o125:Opens Tryz.prog 125 rANode:=zt5 (fs:=lfl124) (by kernel_rfl) (by kernel_rfl) rfl (by
 rw [show lfl124.toList = [zm34,zn34,zo34,zp34] by kernel_rfl]
 exact (zv1 (by kernel_rfl) (by kernel_rfl) o123 (zv1 (by kernel_rfl) (by kernel_rfl) o118 (zv1 (by kernel_rfl) (by kernel_rfl) o121 (zv1 (by kernel_rfl) (by kernel_rfl) o3 (zs7 _))))))
theorem o45:Opens Tryz.prog 45 (rSlice rANode):=zr7 (by kernel_rfl) (by kernel_rfl) o125 (by decide)
theorem o55:Opens Tryz.prog 55 (rSlice rSpot):=zr7 (by kernel_rfl) (by kernel_rfl) o123 (by decide)
theorem o57:Opens Tryz.prog 57 rRail:=zt5 (fs:=lfl56) (by kernel_rfl) (by kernel_rfl) rfl (by
 rw [show lfl56.toList = [zt38,zu38,zv38,zw38,zx38] by kernel_rfl]
 exact (zv1 (by kernel_rfl) (by kernel_rfl) o3 (zv1 (by kernel_rfl) (by kernel_rfl) o3 (zv1 (by kernel_rfl) (by kernel_rfl) o55 (zv1 (by kernel_rfl) (by kernel_rfl) o3 (zv1 (by kernel_rfl) (by kernel_rfl) o3 (zs7 _)))))))
theorem o46:Opens Tryz.prog 46 (rSlice rRail):=zr7 (by kernel_rfl) (by kernel_rfl) o57 (by decide)
theorem o48:Opens Tryz.prog 48 rPlan:=zt5 (fs:=lfl47) (by kernel_rfl) (by kernel_rfl) rfl (by
 rw [show lfl47.toList = [zy38,zz38] by kernel_rfl]
 exact (zv1 (by kernel_rfl) (by kernel_rfl) o45 (zv1 (by kernel_rfl) (by kernel_rfl) o46 (zs7 _))))
theorem o59:Opens Tryz.prog 59 rAMove:=zt5 (fs:=lfl58) (by kernel_rfl) (by kernel_rfl) rfl (by
 rw [show lfl58.toList = [za39,zb39] by kernel_rfl]
 exact (zv1 (by kernel_rfl) (by kernel_rfl) o3 (zv1 (by kernel_rfl) (by kernel_rfl) o4 (zs7 _))))
theorem o49:Opens Tryz.prog 49 (rSlice rAMove):=zr7 (by kernel_rfl) (by kernel_rfl) o59 (by decide)
theorem o22:Opens Tryz.prog 22 (rSlice (rInt .i64)):=zr7 (by kernel_rfl) (by kernel_rfl) o3 (by decide)
theorem o24:Opens Tryz.prog 24 rTrain:=zt5 (fs:=lfl23) (by kernel_rfl) (by kernel_rfl) rfl (by
 rw [show lfl23.toList = [zc39,zd39,ze39,zf39,zg39,zh39,zi39,zj39,zk39,zl39] by kernel_rfl]
 exact (zv1 (by kernel_rfl) (by kernel_rfl) o3 (zv1 (by kernel_rfl) (by kernel_rfl) o3 (zv1 (by kernel_rfl) (by kernel_rfl) o3 (zv1 (by kernel_rfl) (by kernel_rfl) o3 (zv1 (by kernel_rfl) (by kernel_rfl) o3 (zv1 (by kernel_rfl) (by kernel_rfl) o3 (zv1 (by kernel_rfl) (by kernel_rfl) o3 (zv1 (by kernel_rfl) (by kernel_rfl) o3 (zv1 (by kernel_rfl) (by kernel_rfl) o3 (zv1 (by kernel_rfl) (by kernel_rfl) o22 (zs7 _))))))))))))
end Go.Ai.TabYtcokdbcdlaofbaaGreat
