/- Written by program: the facts of the tables,and the walks through the functions. -/
import Derived.Test.YtafbcffccnjgfaaM6
import Derived.Test.YtafbcffccnjgfaaDatC
import Derived.KernelRfl
import Derived.Test.YtafbcffccnjgfaaM9
import Derived.Test.YtafbcffccnjgfaaM5
import Derived.Test.YtafbcffccnjgfaaRows
import Derived.WalkKit
import Derived.ProofKit
namespace Go.Ai.TabYtafbcffccnjgfaa
open Go Go.Ai Go.Ai.Sx Go.Proofs
attribute [local irreducible] SOps
noncomputable def fl39:Array Field := match Try.t39.desc with | .struct fs => fs | _ => #[]
noncomputable def fl41:Array Field := match Try.t41.desc with | .struct fs => fs | _ => #[]
noncomputable def fl44:Array Field := match Try.t44.desc with | .struct fs => fs | _ => #[]
noncomputable def fl50:Array Field := match Try.t50.desc with | .struct fs => fs | _ => #[]
noncomputable def fl54:Array Field := match Try.t54.desc with | .struct fs => fs | _ => #[]
noncomputable def fl69:Array Field := match Try.t69.desc with | .struct fs => fs | _ => #[]
noncomputable def fl73:Array Field := match Try.t73.desc with | .struct fs => fs | _ => #[]
noncomputable def fl83:Array Field := match Try.t83.desc with | .struct fs => fs | _ => #[]
noncomputable def fl89:Array Field := match Try.t89.desc with | .struct fs => fs | _ => #[]
noncomputable def fl112:Array Field := match Try.t112.desc with | .struct fs => fs | _ => #[]
noncomputable def fl122:Array Field := match Try.t122.desc with | .struct fs => fs | _ => #[]
noncomputable def fl126:Array Field := match Try.t126.desc with | .struct fs => fs | _ => #[]
noncomputable def fl139:Array Field := match Try.t139.desc with | .struct fs => fs | _ => #[]
noncomputable def fl25:Array Field := match Try.t25.desc with | .struct fs => fs | _ => #[]
noncomputable def fl48:Array Field := match Try.t48.desc with | .struct fs => fs | _ => #[]
noncomputable def fl65:Array Field := match Try.t65.desc with | .struct fs => fs | _ => #[]
noncomputable def zy36:Field := fl25[0]!
noncomputable def zz36:Field := fl25[1]!
noncomputable def za37:Field := fl25[2]!
noncomputable def zb27:Field := fl39[0]!
noncomputable def zc27:Field := fl39[1]!
noncomputable def zd27:Field := fl39[2]!
noncomputable def ze27:Field := fl39[3]!
noncomputable def zf27:Field := fl41[0]!
noncomputable def zg27:Field := fl41[1]!
noncomputable def zb37:Field := fl44[0]!
noncomputable def zc37:Field := fl44[1]!
noncomputable def zd37:Field := fl48[0]!
noncomputable def ze37:Field := fl48[1]!
noncomputable def zf37:Field := fl48[2]!
noncomputable def zg37:Field := fl48[3]!
noncomputable def zh37:Field := fl50[0]!
noncomputable def zi37:Field := fl50[1]!
noncomputable def zn32:Field := fl50[2]!
noncomputable def zj37:Field := fl54[0]!
noncomputable def zk37:Field := fl54[1]!
noncomputable def zl37:Field := fl65[0]!
noncomputable def zm37:Field := fl65[1]!
noncomputable def zn37:Field := fl65[2]!
noncomputable def zo37:Field := fl73[0]!
noncomputable def zp37:Field := fl73[1]!
noncomputable def zq37:Field := fl73[2]!
noncomputable def zr37:Field := fl73[3]!
noncomputable def zs37:Field := fl73[4]!
noncomputable def zt37:Field := fl73[5]!
noncomputable def zu37:Field := fl83[0]!
noncomputable def zv37:Field := fl83[1]!
noncomputable def zw37:Field := fl89[0]!
noncomputable def zx37:Field := fl89[1]!
noncomputable def zy37:Field := fl89[2]!
noncomputable def zj34:Field := fl112[0]!
noncomputable def zk34:Field := fl112[1]!
noncomputable def zl34:Field := fl112[2]!
noncomputable def zm34:Field := fl122[0]!
noncomputable def zn34:Field := fl122[1]!
noncomputable def zo34:Field := fl122[2]!
noncomputable def zp34:Field := fl126[0]!
noncomputable def zq34:Field := fl139[0]!
noncomputable def zr34:Field := fl139[1]!
noncomputable def zs34:Field := fl139[2]!
theorem K3:ktab.und 3 = some (.int .i64) := by kernel_rfl
theorem K156:ktab.und 156 = some (.int .u64) := by kernel_rfl
theorem U110:Und ktab 110 (rSlice zk2) := ⟨by kernel_rfl,by kernel_rfl⟩
theorem U113:Und ktab 113 zk2 := ⟨by kernel_rfl,by kernel_rfl⟩
theorem U117:Und ktab 117 (rPtr zg1) := ⟨by kernel_rfl,by kernel_rfl⟩
theorem U120:Und ktab 120 (rSlice rDutyPiece) := ⟨by kernel_rfl,by kernel_rfl⟩
theorem U123:Und ktab 123 rDutyPiece := ⟨by kernel_rfl,by kernel_rfl⟩
theorem U127:Und ktab 127 rDuty := ⟨by kernel_rfl,by kernel_rfl⟩
theorem Uq176:Und ktab 51 rStablePlanN1 := ⟨by kernel_rfl,by kernel_rfl⟩
theorem Uq177:Und ktab 91 (rSlice rStablePlanN1) := ⟨by kernel_rfl,by kernel_rfl⟩
theorem U22:Und ktab 22 (rSlice rTask) := ⟨by kernel_rfl,by kernel_rfl⟩
theorem U23:Und ktab 23 (rSlice (rSlice (rInt .i64))) := ⟨by kernel_rfl,by kernel_rfl⟩
theorem U24:Und ktab 24 (rSlice rBool) := ⟨by kernel_rfl,by kernel_rfl⟩
theorem U26:Und ktab 26 rYard := ⟨by kernel_rfl,by kernel_rfl⟩
theorem U27:Und ktab 27 (rSlice (rInt .i64)) := ⟨by kernel_rfl,by kernel_rfl⟩
theorem U3:Und ktab 3 (rInt .i64) := ⟨by kernel_rfl,by kernel_rfl⟩
theorem U30:Und ktab 30 (rSlice rStableCar) := ⟨by kernel_rfl,by kernel_rfl⟩
theorem U31:Und ktab 31 (rSlice rStableLeave) := ⟨by kernel_rfl,by kernel_rfl⟩
theorem U4:Und ktab 4 rBool := ⟨by kernel_rfl,by kernel_rfl⟩
theorem U40:Und ktab 40 rStableCar := ⟨by kernel_rfl,by kernel_rfl⟩
theorem U42:Und ktab 42 rStableLeave := ⟨by kernel_rfl,by kernel_rfl⟩
theorem U45:Und ktab 45 rDutyProof := ⟨by kernel_rfl,by kernel_rfl⟩
theorem U49:Und ktab 49 rTask := ⟨by kernel_rfl,by kernel_rfl⟩
theorem U51:Und ktab 51 rStablePlan := ⟨by kernel_rfl,by kernel_rfl⟩
theorem U55:Und ktab 55 rStableTrack := ⟨by kernel_rfl,by kernel_rfl⟩
theorem U56:Und ktab 56 (rSlice rStableTrack) := ⟨by kernel_rfl,by kernel_rfl⟩
theorem U60:Und ktab 60 (rSlice rStableMove) := ⟨by kernel_rfl,by kernel_rfl⟩
theorem U66:Und ktab 66 rWashJob := ⟨by kernel_rfl,by kernel_rfl⟩
theorem U67:Und ktab 67 (rSlice rWashJob) := ⟨by kernel_rfl,by kernel_rfl⟩
theorem U74:Und ktab 74 rWorkRules := ⟨by kernel_rfl,by kernel_rfl⟩
theorem U76:Und ktab 76 (rFn ktab (Int) (Int) (fun x => [.val (rInt .i64) (x)]) (fun y => [.val (rInt .i64) (y)])) := ⟨by kernel_rfl,by kernel_rfl⟩
theorem U82:Und ktab 82 (rPtr zq) := ⟨by kernel_rfl,by kernel_rfl⟩
theorem U87:Und ktab 87 (rFn ktab (Int × Int) (Bool) (fun x => [.val (rInt .i64) (x.1),.val (rInt .i64) (x.2)]) (fun y => [.val rBool (y)])) := ⟨by kernel_rfl,by kernel_rfl⟩
theorem U88:Und ktab 88 (rPtr zf) := ⟨by kernel_rfl,by kernel_rfl⟩
theorem S22:Sl ktab 22 49 rTask := ⟨by kernel_rfl,by kernel_rfl,by kernel_rfl,by decide⟩
theorem S23:Sl ktab 23 27 (rSlice (rInt .i64)) := ⟨by kernel_rfl,by kernel_rfl,by kernel_rfl,by decide⟩
theorem S24:Sl ktab 24 4 rBool := ⟨by kernel_rfl,by kernel_rfl,by kernel_rfl,by decide⟩
theorem S27:Sl ktab 27 3 (rInt .i64) := ⟨by kernel_rfl,by kernel_rfl,by kernel_rfl,by decide⟩
theorem S30:Sl ktab 30 40 rStableCar := ⟨by kernel_rfl,by kernel_rfl,by kernel_rfl,by decide⟩
theorem S31:Sl ktab 31 42 rStableLeave := ⟨by kernel_rfl,by kernel_rfl,by kernel_rfl,by decide⟩
theorem S56:Sl ktab 56 55 rStableTrack := ⟨by kernel_rfl,by kernel_rfl,by kernel_rfl,by decide⟩
theorem S60:Sl ktab 60 70 rStableMove := ⟨by kernel_rfl,by kernel_rfl,by kernel_rfl,by decide⟩
theorem S67:Sl ktab 67 66 rWashJob := ⟨by kernel_rfl,by kernel_rfl,by kernel_rfl,by decide⟩
theorem S100:Sl ktab 100 3 (rInt .i64) := ⟨by kernel_rfl,by kernel_rfl,by kernel_rfl,by decide⟩
theorem S110:Sl ktab 110 113 zk2 := ⟨by kernel_rfl,by kernel_rfl,by kernel_rfl,by decide⟩
theorem S120:Sl ktab 120 123 rDutyPiece := ⟨by kernel_rfl,by kernel_rfl,by kernel_rfl,by decide⟩
theorem S124:Sl ktab 124 144 (rInt .i64) := ⟨by kernel_rfl,by kernel_rfl,by kernel_rfl,by decide⟩
theorem Sq177:Sl ktab 91 51 rStablePlanN1 := ⟨by kernel_rfl,by kernel_rfl,by kernel_rfl,by decide⟩
theorem Y3:Ty ktab 3 (rInt .i64) 8 := ⟨⟨ti3,by kernel_rfl,by kernel_rfl,by kernel_rfl⟩,⟨.int .i64 0,by kernel_rfl,rfl⟩,by decide⟩
theorem Y4:Ty ktab 4 rBool 1 := ⟨⟨ti4,by kernel_rfl,by kernel_rfl,by kernel_rfl⟩,⟨.bool false,by kernel_rfl,rfl⟩,by decide⟩
theorem Y27:Ty ktab 27 (rSlice (rInt .i64)) 24 := ⟨⟨ti27,by kernel_rfl,by kernel_rfl,by kernel_rfl⟩,⟨.nilslice,by kernel_rfl,rfl⟩,by decide⟩
theorem Y40:Ty ktab 40 rStableCar 32 := ⟨⟨ti40,by kernel_rfl,by kernel_rfl,by kernel_rfl⟩,⟨.agg [.int .i64 0,.int .i64 0,.int .i64 0,.int .i64 0],by kernel_rfl,rfl⟩,by decide⟩
theorem Y42:Ty ktab 42 rStableLeave 16 := ⟨⟨ti42,by kernel_rfl,by kernel_rfl,by kernel_rfl⟩,⟨.agg [.int .i64 0,.int .i64 0],by kernel_rfl,rfl⟩,by decide⟩
theorem Y55:Ty ktab 55 rStableTrack 16 := ⟨⟨ti55,by kernel_rfl,by kernel_rfl,by kernel_rfl⟩,⟨.agg [.int .i64 0,.bool false],by kernel_rfl,rfl⟩,by decide⟩
theorem Y70:Ty ktab 70 rStableMove 24 := ⟨⟨ti70,by kernel_rfl,by kernel_rfl,by kernel_rfl⟩,⟨.agg [.int .i64 0,.int .i64 0,.int .i64 0],by kernel_rfl,rfl⟩,by decide⟩
theorem Y113:Ty ktab 113 zk2 40 := ⟨⟨ti113,by kernel_rfl,by kernel_rfl,by kernel_rfl⟩,⟨.agg [.nilslice,.int .i64 0,.int .i64 0],by kernel_rfl,rfl⟩,by decide⟩
theorem Y123:Ty ktab 123 rDutyPiece 24 := ⟨⟨ti123,by kernel_rfl,by kernel_rfl,by kernel_rfl⟩,⟨.agg [.int .i64 0,.int .i64 0,.int .i64 0],by kernel_rfl,rfl⟩,by decide⟩
theorem Y144:Ty ktab 144 (rInt .i64) 8 := ⟨⟨ti144,by kernel_rfl,by kernel_rfl,by kernel_rfl⟩,⟨.int .i64 0,by kernel_rfl,rfl⟩,by decide⟩
theorem Yq176:Ty ktab 51 rStablePlanN1 56 := ⟨⟨ti51,by kernel_rfl,by kernel_rfl,by kernel_rfl⟩,⟨.agg [.nilslice,.nilslice,.int .i64 0],by kernel_rfl,rfl⟩,by decide⟩
theorem Z3:Zr ktab 3 (rInt .i64) 0 := ⟨⟨.int .i64 0,by kernel_rfl,fun _ => ⟨zint,rfl⟩⟩⟩
theorem Z4:Zr ktab 4 rBool false := ⟨⟨.bool false,by kernel_rfl,fun _ => ⟨zbool,rfl⟩⟩⟩
theorem UR78:Und ktab 78 rRaw := ⟨by kernel_rfl,by kernel_rfl⟩
theorem UR86:Und ktab 86 rRaw := ⟨by kernel_rfl,by kernel_rfl⟩
theorem UR103:Und ktab 103 rRaw := ⟨by kernel_rfl,by kernel_rfl⟩
theorem UR130:Und ktab 130 rRaw := ⟨by kernel_rfl,by kernel_rfl⟩
theorem UR131:Und ktab 131 rRaw := ⟨by kernel_rfl,by kernel_rfl⟩
theorem MP131:Mp ktab 131 (rInt .i64) 3 := ⟨⟨3,by kernel_rfl,zb34 (by kernel_rfl)⟩⟩
theorem B40:Stt ktab 40 [.int .i64 0,.int .i64 0,.int .i64 0,.int .i64 0] [(0,1),(1,1),(2,1),(3,1)] := ⟨by kernel_rfl,⟨fl39,by kernel_rfl,by kernel_rfl⟩⟩
theorem B42:Stt ktab 42 [.int .i64 0,.int .i64 0] [(0,1),(1,1)] := ⟨by kernel_rfl,⟨fl41,by kernel_rfl,by kernel_rfl⟩⟩
theorem B45:Stt ktab 45 [.nilslice,.nilslice] [(0,1),(1,1)] := ⟨by kernel_rfl,⟨fl44,by kernel_rfl,by kernel_rfl⟩⟩
theorem B51:Stt ktab 51 [.nilslice,.nilslice,.int .i64 0] [(0,1),(1,1),(2,1)] := ⟨by kernel_rfl,⟨fl50,by kernel_rfl,by kernel_rfl⟩⟩
theorem B55:Stt ktab 55 [.int .i64 0,.bool false] [(0,1),(1,1)] := ⟨by kernel_rfl,⟨fl54,by kernel_rfl,by kernel_rfl⟩⟩
theorem B70:Stt ktab 70 [.int .i64 0,.int .i64 0,.int .i64 0] [(0,1),(1,1),(2,1)] := ⟨by kernel_rfl,⟨fl69,by kernel_rfl,by kernel_rfl⟩⟩
theorem B74:Stt ktab 74 [.int .i64 0,.int .i64 0,.int .i64 0,.int .i64 0,.int .i64 0,.int .i64 0] [(0,1),(1,1),(2,1),(3,1),(4,1),(5,1)] := ⟨by kernel_rfl,⟨fl73,by kernel_rfl,by kernel_rfl⟩⟩
theorem B84:Stt ktab 84 [.nilslice,.nilslice,.int .i64 0,.nilslice] [(0,1),(1,3)] := ⟨by kernel_rfl,⟨fl83,by kernel_rfl,by kernel_rfl⟩⟩
theorem B90:Stt ktab 90 [.nilslice,.nilslice,.nilslice] [(0,1),(1,1),(2,1)] := ⟨by kernel_rfl,⟨fl89,by kernel_rfl,by kernel_rfl⟩⟩
theorem B113:Stt ktab 113 [.nilslice,.int .i64 0,.int .i64 0] [(0,1),(1,1),(2,1)] := ⟨by kernel_rfl,⟨fl112,by kernel_rfl,by kernel_rfl⟩⟩
theorem B123:Stt ktab 123 [.int .i64 0,.int .i64 0,.int .i64 0] [(0,1),(1,1),(2,1)] := ⟨by kernel_rfl,⟨fl122,by kernel_rfl,by kernel_rfl⟩⟩
theorem B127:Stt ktab 127 [.nilslice] [(0,1)] := ⟨by kernel_rfl,⟨fl126,by kernel_rfl,by kernel_rfl⟩⟩
theorem B140:Stt ktab 140 [.nilptr,.nilslice,.int .i64 0,.int .i64 0,.int .i64 0,.int .i64 0,.int .i64 0,.int .i64 0] [(0,1),(1,1),(2,6)] := ⟨by kernel_rfl,⟨fl139,by kernel_rfl,by kernel_rfl⟩⟩
theorem Bq176:Stt ktab 51 [.nilslice,.nilslice,.int .i64 0] [(0,1),(1,1),(2,1)] := ⟨by kernel_rfl,⟨fl50,by kernel_rfl,by kernel_rfl⟩⟩
theorem F26_0:Fld ktab 26 0 23 0 1 := ⟨⟨fl25,zy36,by kernel_rfl,by kernel_rfl,by kernel_rfl,by kernel_rfl⟩,by kernel_rfl⟩
theorem F26_1:Fld ktab 26 1 3 1 1 := ⟨⟨fl25,zz36,by kernel_rfl,by kernel_rfl,by kernel_rfl,by kernel_rfl⟩,by kernel_rfl⟩
theorem F26_2:Fld ktab 26 2 24 2 1 := ⟨⟨fl25,za37,by kernel_rfl,by kernel_rfl,by kernel_rfl,by kernel_rfl⟩,by kernel_rfl⟩
theorem F40_0:Fld ktab 40 0 3 0 1 := ⟨⟨fl39,zb27,by kernel_rfl,by kernel_rfl,by kernel_rfl,by kernel_rfl⟩,by kernel_rfl⟩
theorem F40_1:Fld ktab 40 1 3 1 1 := ⟨⟨fl39,zc27,by kernel_rfl,by kernel_rfl,by kernel_rfl,by kernel_rfl⟩,by kernel_rfl⟩
theorem F40_2:Fld ktab 40 2 3 2 1 := ⟨⟨fl39,zd27,by kernel_rfl,by kernel_rfl,by kernel_rfl,by kernel_rfl⟩,by kernel_rfl⟩
theorem F40_3:Fld ktab 40 3 3 3 1 := ⟨⟨fl39,ze27,by kernel_rfl,by kernel_rfl,by kernel_rfl,by kernel_rfl⟩,by kernel_rfl⟩
theorem F42_0:Fld ktab 42 0 3 0 1 := ⟨⟨fl41,zf27,by kernel_rfl,by kernel_rfl,by kernel_rfl,by kernel_rfl⟩,by kernel_rfl⟩
theorem F42_1:Fld ktab 42 1 3 1 1 := ⟨⟨fl41,zg27,by kernel_rfl,by kernel_rfl,by kernel_rfl,by kernel_rfl⟩,by kernel_rfl⟩
theorem F45_0:Fld ktab 45 0 27 0 1 := ⟨⟨fl44,zb37,by kernel_rfl,by kernel_rfl,by kernel_rfl,by kernel_rfl⟩,by kernel_rfl⟩
theorem F45_1:Fld ktab 45 1 27 1 1 := ⟨⟨fl44,zc37,by kernel_rfl,by kernel_rfl,by kernel_rfl,by kernel_rfl⟩,by kernel_rfl⟩
theorem F49_0:Fld ktab 49 0 3 0 1 := ⟨⟨fl48,zd37,by kernel_rfl,by kernel_rfl,by kernel_rfl,by kernel_rfl⟩,by kernel_rfl⟩
theorem F49_1:Fld ktab 49 1 3 1 1 := ⟨⟨fl48,ze37,by kernel_rfl,by kernel_rfl,by kernel_rfl,by kernel_rfl⟩,by kernel_rfl⟩
theorem F49_2:Fld ktab 49 2 3 2 1 := ⟨⟨fl48,zf37,by kernel_rfl,by kernel_rfl,by kernel_rfl,by kernel_rfl⟩,by kernel_rfl⟩
theorem F49_3:Fld ktab 49 3 3 3 1 := ⟨⟨fl48,zg37,by kernel_rfl,by kernel_rfl,by kernel_rfl,by kernel_rfl⟩,by kernel_rfl⟩
theorem F51_0:Fld ktab 51 0 27 0 1 := ⟨⟨fl50,zh37,by kernel_rfl,by kernel_rfl,by kernel_rfl,by kernel_rfl⟩,by kernel_rfl⟩
theorem F51_1:Fld ktab 51 1 27 1 1 := ⟨⟨fl50,zi37,by kernel_rfl,by kernel_rfl,by kernel_rfl,by kernel_rfl⟩,by kernel_rfl⟩
theorem F51_2:Fld ktab 51 2 3 2 1 := ⟨⟨fl50,zn32,by kernel_rfl,by kernel_rfl,by kernel_rfl,by kernel_rfl⟩,by kernel_rfl⟩
theorem F55_0:Fld ktab 55 0 3 0 1 := ⟨⟨fl54,zj37,by kernel_rfl,by kernel_rfl,by kernel_rfl,by kernel_rfl⟩,by kernel_rfl⟩
theorem F55_1:Fld ktab 55 1 4 1 1 := ⟨⟨fl54,zk37,by kernel_rfl,by kernel_rfl,by kernel_rfl,by kernel_rfl⟩,by kernel_rfl⟩
theorem F66_0:Fld ktab 66 0 3 0 1 := ⟨⟨fl65,zl37,by kernel_rfl,by kernel_rfl,by kernel_rfl,by kernel_rfl⟩,by kernel_rfl⟩
theorem F66_1:Fld ktab 66 1 3 1 1 := ⟨⟨fl65,zm37,by kernel_rfl,by kernel_rfl,by kernel_rfl,by kernel_rfl⟩,by kernel_rfl⟩
theorem F66_2:Fld ktab 66 2 3 2 1 := ⟨⟨fl65,zn37,by kernel_rfl,by kernel_rfl,by kernel_rfl,by kernel_rfl⟩,by kernel_rfl⟩
theorem F74_0:Fld ktab 74 0 3 0 1 := ⟨⟨fl73,zo37,by kernel_rfl,by kernel_rfl,by kernel_rfl,by kernel_rfl⟩,by kernel_rfl⟩
theorem F74_1:Fld ktab 74 1 3 1 1 := ⟨⟨fl73,zp37,by kernel_rfl,by kernel_rfl,by kernel_rfl,by kernel_rfl⟩,by kernel_rfl⟩
theorem F74_2:Fld ktab 74 2 3 2 1 := ⟨⟨fl73,zq37,by kernel_rfl,by kernel_rfl,by kernel_rfl,by kernel_rfl⟩,by kernel_rfl⟩
theorem F74_3:Fld ktab 74 3 3 3 1 := ⟨⟨fl73,zr37,by kernel_rfl,by kernel_rfl,by kernel_rfl,by kernel_rfl⟩,by kernel_rfl⟩
theorem F74_4:Fld ktab 74 4 3 4 1 := ⟨⟨fl73,zs37,by kernel_rfl,by kernel_rfl,by kernel_rfl,by kernel_rfl⟩,by kernel_rfl⟩
theorem F74_5:Fld ktab 74 5 3 5 1 := ⟨⟨fl73,zt37,by kernel_rfl,by kernel_rfl,by kernel_rfl,by kernel_rfl⟩,by kernel_rfl⟩
theorem F84_0:Fld ktab 84 0 22 0 1 := ⟨⟨fl83,zu37,by kernel_rfl,by kernel_rfl,by kernel_rfl,by kernel_rfl⟩,by kernel_rfl⟩
theorem F84_1:Fld ktab 84 1 26 1 3 := ⟨⟨fl83,zv37,by kernel_rfl,by kernel_rfl,by kernel_rfl,by kernel_rfl⟩,by kernel_rfl⟩
theorem F90_0:Fld ktab 90 0 56 0 1 := ⟨⟨fl89,zw37,by kernel_rfl,by kernel_rfl,by kernel_rfl,by kernel_rfl⟩,by kernel_rfl⟩
theorem F90_1:Fld ktab 90 1 30 1 1 := ⟨⟨fl89,zx37,by kernel_rfl,by kernel_rfl,by kernel_rfl,by kernel_rfl⟩,by kernel_rfl⟩
theorem F90_2:Fld ktab 90 2 31 2 1 := ⟨⟨fl89,zy37,by kernel_rfl,by kernel_rfl,by kernel_rfl,by kernel_rfl⟩,by kernel_rfl⟩
theorem zv38:Fld ktab 113 0 27 0 1 := ⟨⟨fl112,zj34,by kernel_rfl,by kernel_rfl,by kernel_rfl,by kernel_rfl⟩,by kernel_rfl⟩
theorem zw38:Fld ktab 113 1 3 1 1 := ⟨⟨fl112,zk34,by kernel_rfl,by kernel_rfl,by kernel_rfl,by kernel_rfl⟩,by kernel_rfl⟩
theorem zx38:Fld ktab 113 2 3 2 1 := ⟨⟨fl112,zl34,by kernel_rfl,by kernel_rfl,by kernel_rfl,by kernel_rfl⟩,by kernel_rfl⟩
theorem zy38:Fld ktab 123 0 3 0 1 := ⟨⟨fl122,zm34,by kernel_rfl,by kernel_rfl,by kernel_rfl,by kernel_rfl⟩,by kernel_rfl⟩
theorem zz38:Fld ktab 123 1 3 1 1 := ⟨⟨fl122,zn34,by kernel_rfl,by kernel_rfl,by kernel_rfl,by kernel_rfl⟩,by kernel_rfl⟩
theorem za39:Fld ktab 123 2 3 2 1 := ⟨⟨fl122,zo34,by kernel_rfl,by kernel_rfl,by kernel_rfl,by kernel_rfl⟩,by kernel_rfl⟩
theorem zb39:Fld ktab 127 0 120 0 1 := ⟨⟨fl126,zp34,by kernel_rfl,by kernel_rfl,by kernel_rfl,by kernel_rfl⟩,by kernel_rfl⟩
theorem zc39:Fld ktab 140 0 82 0 1 := ⟨⟨fl139,zq34,by kernel_rfl,by kernel_rfl,by kernel_rfl,by kernel_rfl⟩,by kernel_rfl⟩
theorem zd39:Fld ktab 140 1 23 1 1 := ⟨⟨fl139,zr34,by kernel_rfl,by kernel_rfl,by kernel_rfl,by kernel_rfl⟩,by kernel_rfl⟩
theorem ze39:Fld ktab 140 2 74 2 6 := ⟨⟨fl139,zs34,by kernel_rfl,by kernel_rfl,by kernel_rfl,by kernel_rfl⟩,by kernel_rfl⟩
theorem zl21:Fld ktab 51 2 3 2 1 := ⟨⟨fl50,zn32,by kernel_rfl,by kernel_rfl,by kernel_rfl,by kernel_rfl⟩,by kernel_rfl⟩
theorem AR143:Ar1 ktab 143 142 6 (rFn ktab (Duty) (Bool) (fun x => [.val rDuty (x)]) (fun y => [.val rBool (y)])) := ⟨by kernel_rfl,by kernel_rfl,by kernel_rfl,by kernel_rfl,by kernel_rfl,by decide⟩
theorem E39:SEq ktab 39 rStableCar (fun x y => x == y) := ⟨⟨fl39,by kernel_rfl,by rw [show fl39.toList = [zb27,zc27,zd27,ze27] by kernel_rfl]; exact (.i (of_decide_eq_true (by kernel_rfl)) (by kernel_rfl) (by kernel_rfl) (.i (of_decide_eq_true (by kernel_rfl)) (by kernel_rfl) (by kernel_rfl) (.i (of_decide_eq_true (by kernel_rfl)) (by kernel_rfl) (by kernel_rfl) (.i (of_decide_eq_true (by kernel_rfl)) (by kernel_rfl) (by kernel_rfl) .n))))⟩,by kernel_rfl,by kernel_rfl⟩
theorem E40:SEq ktab 40 rStableCar (fun x y => x == y) := ⟨⟨fl39,by kernel_rfl,by rw [show fl39.toList = [zb27,zc27,zd27,ze27] by kernel_rfl]; exact (.i (of_decide_eq_true (by kernel_rfl)) (by kernel_rfl) (by kernel_rfl) (.i (of_decide_eq_true (by kernel_rfl)) (by kernel_rfl) (by kernel_rfl) (.i (of_decide_eq_true (by kernel_rfl)) (by kernel_rfl) (by kernel_rfl) (.i (of_decide_eq_true (by kernel_rfl)) (by kernel_rfl) (by kernel_rfl) .n))))⟩,by kernel_rfl,by kernel_rfl⟩
theorem E41:SEq ktab 41 rStableLeave (fun x y => x == y) := ⟨⟨fl41,by kernel_rfl,by rw [show fl41.toList = [zf27,zg27] by kernel_rfl]; exact (.i (of_decide_eq_true (by kernel_rfl)) (by kernel_rfl) (by kernel_rfl) (.i (of_decide_eq_true (by kernel_rfl)) (by kernel_rfl) (by kernel_rfl) .n))⟩,by kernel_rfl,by kernel_rfl⟩
theorem E42:SEq ktab 42 rStableLeave (fun x y => x == y) := ⟨⟨fl41,by kernel_rfl,by rw [show fl41.toList = [zf27,zg27] by kernel_rfl]; exact (.i (of_decide_eq_true (by kernel_rfl)) (by kernel_rfl) (by kernel_rfl) (.i (of_decide_eq_true (by kernel_rfl)) (by kernel_rfl) (by kernel_rfl) .n))⟩,by kernel_rfl,by kernel_rfl⟩
instance:iK ktab 3 (.int .i64) := ⟨K3⟩
instance:iK ktab 156 (.int .u64) := ⟨K156⟩
instance:iU ktab 110 (rSlice zk2) := ⟨U110⟩
instance:iU ktab 113 zk2 := ⟨U113⟩
instance:iU ktab 117 (rPtr zg1) := ⟨U117⟩
instance:iU ktab 120 (rSlice rDutyPiece) := ⟨U120⟩
instance:iU ktab 123 rDutyPiece := ⟨U123⟩
instance:iU ktab 127 rDuty := ⟨U127⟩
instance:iU ktab 22 (rSlice rTask) := ⟨U22⟩
instance:iU ktab 23 (rSlice (rSlice (rInt .i64))) := ⟨U23⟩
instance:iU ktab 24 (rSlice rBool) := ⟨U24⟩
instance:iU ktab 26 rYard := ⟨U26⟩
instance:iU ktab 27 (rSlice (rInt .i64)) := ⟨U27⟩
instance:iU ktab 3 (rInt .i64) := ⟨U3⟩
instance:iU ktab 30 (rSlice rStableCar) := ⟨U30⟩
instance:iU ktab 31 (rSlice rStableLeave) := ⟨U31⟩
instance:iU ktab 4 rBool := ⟨U4⟩
instance:iU ktab 40 rStableCar := ⟨U40⟩
instance:iU ktab 42 rStableLeave := ⟨U42⟩
instance:iU ktab 45 rDutyProof := ⟨U45⟩
instance:iU ktab 49 rTask := ⟨U49⟩
instance:iU ktab 51 rStablePlan := ⟨U51⟩
instance:iU ktab 55 rStableTrack := ⟨U55⟩
instance:iU ktab 56 (rSlice rStableTrack) := ⟨U56⟩
instance:iU ktab 60 (rSlice rStableMove) := ⟨U60⟩
instance:iU ktab 66 rWashJob := ⟨U66⟩
instance:iU ktab 67 (rSlice rWashJob) := ⟨U67⟩
instance:iU ktab 74 rWorkRules := ⟨U74⟩
instance:iU ktab 76 (rFn ktab (Int) (Int) (fun x => [.val (rInt .i64) (x)]) (fun y => [.val (rInt .i64) (y)])) := ⟨U76⟩
instance:iU ktab 82 (rPtr zq) := ⟨U82⟩
instance:iU ktab 87 (rFn ktab (Int × Int) (Bool) (fun x => [.val (rInt .i64) (x.1),.val (rInt .i64) (x.2)]) (fun y => [.val rBool (y)])) := ⟨U87⟩
instance:iU ktab 88 (rPtr zf) := ⟨U88⟩
instance:iS ktab 22 rTask 49 := ⟨S22⟩
instance:iS ktab 23 (rSlice (rInt .i64)) 27 := ⟨S23⟩
instance:iS ktab 24 rBool 4 := ⟨S24⟩
instance:iS ktab 27 (rInt .i64) 3 := ⟨S27⟩
instance:iS ktab 30 rStableCar 40 := ⟨S30⟩
instance:iS ktab 31 rStableLeave 42 := ⟨S31⟩
instance:iS ktab 56 rStableTrack 55 := ⟨S56⟩
instance:iS ktab 60 rStableMove 70 := ⟨S60⟩
instance:iS ktab 67 rWashJob 66 := ⟨S67⟩
instance:iS ktab 100 (rInt .i64) 3 := ⟨S100⟩
instance:iS ktab 110 zk2 113 := ⟨S110⟩
instance:iS ktab 120 rDutyPiece 123 := ⟨S120⟩
instance:iS ktab 124 (rInt .i64) 144 := ⟨S124⟩
instance:iY ktab 3 (rInt .i64) 8 := ⟨Y3⟩
instance:iY ktab 4 rBool 1 := ⟨Y4⟩
instance:iY ktab 27 (rSlice (rInt .i64)) 24 := ⟨Y27⟩
instance:iY ktab 40 rStableCar 32 := ⟨Y40⟩
instance:iY ktab 42 rStableLeave 16 := ⟨Y42⟩
instance:iY ktab 55 rStableTrack 16 := ⟨Y55⟩
instance:iY ktab 70 rStableMove 24 := ⟨Y70⟩
instance:iY ktab 113 zk2 40 := ⟨Y113⟩
instance:iY ktab 123 rDutyPiece 24 := ⟨Y123⟩
instance:iY ktab 144 (rInt .i64) 8 := ⟨Y144⟩
instance:iZ ktab 3 (rInt .i64) 0 := ⟨Z3⟩
instance:iZ ktab 4 rBool false := ⟨Z4⟩
instance:iB ktab 40 rStableCar [.int .i64 0,.int .i64 0,.int .i64 0,.int .i64 0] [(0,1),(1,1),(2,1),(3,1)] := ⟨B40,rfl⟩
instance:iB ktab 42 rStableLeave [.int .i64 0,.int .i64 0] [(0,1),(1,1)] := ⟨B42,rfl⟩
instance:iB ktab 45 rDutyProof [.nilslice,.nilslice] [(0,1),(1,1)] := ⟨B45,rfl⟩
instance:iB ktab 51 rStablePlan [.nilslice,.nilslice,.int .i64 0] [(0,1),(1,1),(2,1)] := ⟨B51,rfl⟩
instance:iB ktab 55 rStableTrack [.int .i64 0,.bool false] [(0,1),(1,1)] := ⟨B55,rfl⟩
instance:iB ktab 70 rStableMove [.int .i64 0,.int .i64 0,.int .i64 0] [(0,1),(1,1),(2,1)] := ⟨B70,rfl⟩
instance:iB ktab 74 rWorkRules [.int .i64 0,.int .i64 0,.int .i64 0,.int .i64 0,.int .i64 0,.int .i64 0] [(0,1),(1,1),(2,1),(3,1),(4,1),(5,1)] := ⟨B74,rfl⟩
instance:iB ktab 84 zq [.nilslice,.nilslice,.int .i64 0,.nilslice] [(0,1),(1,3)] := ⟨B84,rfl⟩
instance:iB ktab 90 zf [.nilslice,.nilslice,.nilslice] [(0,1),(1,1),(2,1)] := ⟨B90,rfl⟩
instance:iB ktab 113 zk2 [.nilslice,.int .i64 0,.int .i64 0] [(0,1),(1,1),(2,1)] := ⟨B113,rfl⟩
instance:iB ktab 123 rDutyPiece [.int .i64 0,.int .i64 0,.int .i64 0] [(0,1),(1,1),(2,1)] := ⟨B123,rfl⟩
instance:iB ktab 127 rDuty [.nilslice] [(0,1)] := ⟨B127,rfl⟩
instance:iB ktab 140 zg1 [.nilptr,.nilslice,.int .i64 0,.int .i64 0,.int .i64 0,.int .i64 0,.int .i64 0,.int .i64 0] [(0,1),(1,1),(2,6)] := ⟨B140,rfl⟩
instance:iF ktab 26 0 rYard (rSlice (rSlice (rInt .i64))) 23 0 (fun x => x.1) (fun x y => (y,x.2.1,x.2.2.1,())) := ⟨F26_0,zx26,by decide⟩
instance:iF ktab 26 1 rYard (rInt .i64) 3 1 (fun x => x.2.1) (fun x y => (x.1,y,x.2.2.1,())) := ⟨F26_1,zy26,by decide⟩
instance:iF ktab 26 2 rYard (rSlice rBool) 24 2 (fun x => x.2.2.1) (fun x y => (x.1,x.2.1,y,())) := ⟨F26_2,zz26,by decide⟩
instance:iF ktab 40 0 rStableCar (rInt .i64) 3 0 (fun x => x.1) (fun x y => (y,x.2.1,x.2.2.1,x.2.2.2.1,())) := ⟨F40_0,zs14,by decide⟩
instance:iF ktab 40 1 rStableCar (rInt .i64) 3 1 (fun x => x.2.1) (fun x y => (x.1,y,x.2.2.1,x.2.2.2.1,())) := ⟨F40_1,zt14,by decide⟩
instance:iF ktab 40 2 rStableCar (rInt .i64) 3 2 (fun x => x.2.2.1) (fun x y => (x.1,x.2.1,y,x.2.2.2.1,())) := ⟨F40_2,zu14,by decide⟩
instance:iF ktab 40 3 rStableCar (rInt .i64) 3 3 (fun x => x.2.2.2.1) (fun x y => (x.1,x.2.1,x.2.2.1,y,())) := ⟨F40_3,zv14,by decide⟩
instance:iF ktab 42 0 rStableLeave (rInt .i64) 3 0 (fun x => x.1) (fun x y => (y,x.2.1,())) := ⟨F42_0,zz11,by decide⟩
instance:iF ktab 42 1 rStableLeave (rInt .i64) 3 1 (fun x => x.2.1) (fun x y => (x.1,y,())) := ⟨F42_1,za12,by decide⟩
instance:iF ktab 45 0 rDutyProof (rSlice (rInt .i64)) 27 0 (fun x => x.1) (fun x y => (y,x.2.1,())) := ⟨F45_0,zk15,by decide⟩
instance:iF ktab 45 1 rDutyProof (rSlice (rInt .i64)) 27 1 (fun x => x.2.1) (fun x y => (x.1,y,())) := ⟨F45_1,zl15,by decide⟩
instance:iF ktab 49 0 rTask (rInt .i64) 3 0 (fun x => x.1) (fun x y => (y,x.2.1,x.2.2.1,x.2.2.2.1,())) := ⟨F49_0,zt26,by decide⟩
instance:iF ktab 49 1 rTask (rInt .i64) 3 1 (fun x => x.2.1) (fun x y => (x.1,y,x.2.2.1,x.2.2.2.1,())) := ⟨F49_1,zu26,by decide⟩
instance:iF ktab 49 2 rTask (rInt .i64) 3 2 (fun x => x.2.2.1) (fun x y => (x.1,x.2.1,y,x.2.2.2.1,())) := ⟨F49_2,zv26,by decide⟩
instance:iF ktab 49 3 rTask (rInt .i64) 3 3 (fun x => x.2.2.2.1) (fun x y => (x.1,x.2.1,x.2.2.1,y,())) := ⟨F49_3,zw26,by decide⟩
instance:iF ktab 51 0 rStablePlan (rSlice (rInt .i64)) 27 0 (fun x => x.1) (fun x y => (y,x.2.1,x.2.2.1,())) := ⟨F51_0,zy13,by decide⟩
instance:iF ktab 51 1 rStablePlan (rSlice (rInt .i64)) 27 1 (fun x => x.2.1) (fun x y => (x.1,y,x.2.2.1,())) := ⟨F51_1,zz13,by decide⟩
instance:iF ktab 51 2 rStablePlan (rInt .i64) 3 2 (fun x => x.2.2.1) (fun x y => (x.1,x.2.1,y,())) := ⟨F51_2,za14,by decide⟩
instance:iF ktab 55 0 rStableTrack (rInt .i64) 3 0 (fun x => x.1) (fun x y => (y,x.2.1,())) := ⟨F55_0,zx11,by decide⟩
instance:iF ktab 55 1 rStableTrack rBool 4 1 (fun x => x.2.1) (fun x y => (x.1,y,())) := ⟨F55_1,zy11,by decide⟩
instance:iF ktab 66 0 rWashJob (rInt .i64) 3 0 (fun x => x.1) (fun x y => (y,x.2.1,x.2.2.1,())) := ⟨F66_0,zy19,by decide⟩
instance:iF ktab 66 1 rWashJob (rInt .i64) 3 1 (fun x => x.2.1) (fun x y => (x.1,y,x.2.2.1,())) := ⟨F66_1,zz19,by decide⟩
instance:iF ktab 66 2 rWashJob (rInt .i64) 3 2 (fun x => x.2.2.1) (fun x y => (x.1,x.2.1,y,())) := ⟨F66_2,za20,by decide⟩
instance:iF ktab 74 0 rWorkRules (rInt .i64) 3 0 (fun x => x.1) (fun x y => (y,x.2.1,x.2.2.1,x.2.2.2.1,x.2.2.2.2.1,x.2.2.2.2.2.1,())) := ⟨F74_0,zy14,by decide⟩
instance:iF ktab 74 1 rWorkRules (rInt .i64) 3 1 (fun x => x.2.1) (fun x y => (x.1,y,x.2.2.1,x.2.2.2.1,x.2.2.2.2.1,x.2.2.2.2.2.1,())) := ⟨F74_1,zz14,by decide⟩
instance:iF ktab 74 2 rWorkRules (rInt .i64) 3 2 (fun x => x.2.2.1) (fun x y => (x.1,x.2.1,y,x.2.2.2.1,x.2.2.2.2.1,x.2.2.2.2.2.1,())) := ⟨F74_2,za15,by decide⟩
instance:iF ktab 74 3 rWorkRules (rInt .i64) 3 3 (fun x => x.2.2.2.1) (fun x y => (x.1,x.2.1,x.2.2.1,y,x.2.2.2.2.1,x.2.2.2.2.2.1,())) := ⟨F74_3,zb15,by decide⟩
instance:iF ktab 74 4 rWorkRules (rInt .i64) 3 4 (fun x => x.2.2.2.2.1) (fun x y => (x.1,x.2.1,x.2.2.1,x.2.2.2.1,y,x.2.2.2.2.2.1,())) := ⟨F74_4,zc15,by decide⟩
instance:iF ktab 74 5 rWorkRules (rInt .i64) 3 5 (fun x => x.2.2.2.2.2.1) (fun x y => (x.1,x.2.1,x.2.2.1,x.2.2.2.1,x.2.2.2.2.1,y,())) := ⟨F74_5,zd15,by decide⟩
instance:iF ktab 84 0 zq (rSlice rTask) 22 0 (fun x => x.1) (fun x y => (y,x.2.1,())) := ⟨F84_0,zw14,by decide⟩
instance:iF ktab 84 1 zq rYard 26 1 (fun x => x.2.1) (fun x y => (x.1,y,())) := ⟨F84_1,zx14,by decide⟩
instance:iF ktab 90 0 zf (rSlice rStableTrack) 56 0 (fun x => x.1) (fun x y => (y,x.2.1,x.2.2.1,())) := ⟨F90_0,zb12,by decide⟩
instance:iF ktab 90 1 zf (rSlice rStableCar) 30 1 (fun x => x.2.1) (fun x y => (x.1,y,x.2.2.1,())) := ⟨F90_1,zc12,by decide⟩
instance:iF ktab 90 2 zf (rSlice rStableLeave) 31 2 (fun x => x.2.2.1) (fun x y => (x.1,x.2.1,y,())) := ⟨F90_2,zd12,by decide⟩
instance:iF ktab 113 0 zk2 (rSlice (rInt .i64)) 27 0 (fun x => x.1) (fun x y => (y,x.2.1,x.2.2.1,())) := ⟨zv38,zb14,by decide⟩
instance:iF ktab 113 1 zk2 (rInt .i64) 3 1 (fun x => x.2.1) (fun x y => (x.1,y,x.2.2.1,())) := ⟨zw38,zc14,by decide⟩
instance:iF ktab 113 2 zk2 (rInt .i64) 3 2 (fun x => x.2.2.1) (fun x y => (x.1,x.2.1,y,())) := ⟨zx38,zd14,by decide⟩
instance:iF ktab 123 0 rDutyPiece (rInt .i64) 3 0 (fun x => x.1) (fun x y => (y,x.2.1,x.2.2.1,())) := ⟨zy38,zh15,by decide⟩
instance:iF ktab 123 1 rDutyPiece (rInt .i64) 3 1 (fun x => x.2.1) (fun x y => (x.1,y,x.2.2.1,())) := ⟨zz38,zi15,by decide⟩
instance:iF ktab 123 2 rDutyPiece (rInt .i64) 3 2 (fun x => x.2.2.1) (fun x y => (x.1,x.2.1,y,())) := ⟨za39,zj15,by decide⟩
instance:iF ktab 127 0 rDuty (rSlice rDutyPiece) 120 0 (fun x => x.1) (fun x y => (y,())) := ⟨zb39,za27,by decide⟩
instance:iF ktab 140 0 zg1 (rPtr zq) 82 0 (fun x => x.1) (fun x y => (y,x.2.1,x.2.2.1,())) := ⟨zc39,ze15,by decide⟩
instance:iF ktab 140 1 zg1 (rSlice (rSlice (rInt .i64))) 23 1 (fun x => x.2.1) (fun x y => (x.1,y,x.2.2.1,())) := ⟨zd39,zf15,by decide⟩
instance:iF ktab 140 2 zg1 rWorkRules 74 2 (fun x => x.2.2.1) (fun x y => (x.1,x.2.1,y,())) := ⟨ze39,zg15,by decide⟩
instance:iA ktab 143 (rFn ktab (Duty) (Bool) (fun x => [.val rDuty (x)]) (fun y => [.val rBool (y)])) 142 6 := ⟨AR143⟩
instance:iE ktab 39 rStableCar (fun x y => x == y) := ⟨E39,rfl⟩
instance:iE ktab 40 rStableCar (fun x y => x == y) := ⟨E40,rfl⟩
instance:iE ktab 41 rStableLeave (fun x y => x == y) := ⟨E41,rfl⟩
instance:iE ktab 42 rStableLeave (fun x y => x == y) := ⟨E42,rfl⟩
end Go.Ai.TabYtafbcffccnjgfaa

/- What the rows of this seat ask,of the abstract interpreter. -/
namespace Go.Ai.TabYtafbcffccnjgfaa
open Go Go.Ai Go.Ai.Sx Go.Proofs Go.Proofs.Ytafbcffccnjgfaa
theorem own:ownKnob Try.prog.godebug = none := by kernel_rfl
theorem laidOut:laidOutB Try.prog = true := by kernel_rfl
theorem begun:decide (Try.prog.globals.size < (begin Try.prog (fun _ _ => 0) default).world.heap.size) = true := by kernel_rfl
theorem notEmpty {W:World} (h:W.ShapedOpen Try.prog):0 < W.heap.size := by
 obtain ⟨o,_,ho,_⟩ := h.2 Try.prog.globals.size (Nat.le_refl _) (of_decide_eq_true begun)
 have := (Array.getElem?_eq_some_iff.1 ho).1
 omega
theorem zv6 {P:Program} {A B:Type} {f:Field} {fs:List Field} {o:Nat} {t:TypeId} {R:Rep A} {S:Rep B} (hf:f.offset = o) (ht:f.type = t) (ho:Opens P t R) (hs:OpensF P fs (o + R.sz) S):OpensF P (f :: fs) o (rPair R S) := by
 subst ht
 exact zf21 hf ho hs
noncomputable def lfl48:Array Field := match Try.t48.desc with | .struct fs => fs | _ => #[]
noncomputable def zt34:Field := lfl48[0]!
noncomputable def zu34:Field := lfl48[1]!
noncomputable def zv34:Field := lfl48[2]!
noncomputable def zw34:Field := lfl48[3]!
noncomputable def lfl25:Array Field := match Try.t25.desc with | .struct fs => fs | _ => #[]
noncomputable def zx34:Field := lfl25[0]!
noncomputable def zy34:Field := lfl25[1]!
noncomputable def zz34:Field := lfl25[2]!
theorem o3:Opens Try.prog 3 (rInt .i64) := zr25 (by kernel_rfl) (by kernel_rfl)
theorem o49:Opens Try.prog 49 rTask := zn11 (fs := lfl48) (by kernel_rfl) (by kernel_rfl) rfl (by
 rw [show lfl48.toList = [zt34,zu34,zv34,zw34] by kernel_rfl]
 exact (zv6 (by kernel_rfl) (by kernel_rfl) o3 (zv6 (by kernel_rfl) (by kernel_rfl) o3 (zv6 (by kernel_rfl) (by kernel_rfl) o3 (zv6 (by kernel_rfl) (by kernel_rfl) o3 (zg16 _))))))
theorem o22:Opens Try.prog 22 (rSlice rTask) := zx7 (by kernel_rfl) (by kernel_rfl) o49 (by decide)
theorem o27:Opens Try.prog 27 (rSlice (rInt .i64)) := zx7 (by kernel_rfl) (by kernel_rfl) o3 (by decide)
theorem o23:Opens Try.prog 23 (rSlice (rSlice (rInt .i64))) := zx7 (by kernel_rfl) (by kernel_rfl) o27 (by decide)
theorem o4:Opens Try.prog 4 rBool := zq23 (by kernel_rfl) (by kernel_rfl)
theorem o24:Opens Try.prog 24 (rSlice rBool) := zx7 (by kernel_rfl) (by kernel_rfl) o4 (by decide)
theorem o26:Opens Try.prog 26 rYard := zn11 (fs := lfl25) (by kernel_rfl) (by kernel_rfl) rfl (by
 rw [show lfl25.toList = [zx34,zy34,zz34] by kernel_rfl]
 exact (zv6 (by kernel_rfl) (by kernel_rfl) o23 (zv6 (by kernel_rfl) (by kernel_rfl) o3 (zv6 (by kernel_rfl) (by kernel_rfl) o24 (zg16 _)))))
end Go.Ai.TabYtafbcffccnjgfaa
