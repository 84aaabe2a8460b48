/- Written by program: the facts of the tables, and the walks through the functions. -/
import Derived.Test.YtpiblfbidgcjaaaM6
import Derived.Test.YtpiblfbidgcjaaaDatC
import Derived.KernelRfl
import Derived.Test.YtpiblfbidgcjaaaM9
import Derived.Test.YtpiblfbidgcjaaaM4
import Derived.Test.YtpiblfbidgcjaaaRows
import Derived.WalkKit
import Derived.ProofKit
namespace Go.Ai.TabYtpiblfbidgcjaaa
open Go Go.Ai Go.Ai.Sx Go.Proofs
attribute [local irreducible] SOps
noncomputable def fl35 : Array Field := match Try.t35.desc with | .struct fs => fs | _ => #[]
noncomputable def fl70 : Array Field := match Try.t70.desc with | .struct fs => fs | _ => #[]
noncomputable def fl88 : Array Field := match Try.t88.desc with | .struct fs => fs | _ => #[]
noncomputable def fl101 : Array Field := match Try.t101.desc with | .struct fs => fs | _ => #[]
noncomputable def fl43 : Array Field := match Try.t43.desc with | .struct fs => fs | _ => #[]
noncomputable def fl45 : Array Field := match Try.t45.desc with | .struct fs => fs | _ => #[]
noncomputable def fl47 : Array Field := match Try.t47.desc with | .struct fs => fs | _ => #[]
noncomputable def fl75 : Array Field := match Try.t75.desc with | .struct fs => fs | _ => #[]
noncomputable def fi35_0 : Field := fl35[0]!
noncomputable def fi35_1 : Field := fl35[1]!
noncomputable def fi35_2 : Field := fl35[2]!
noncomputable def fi43_0 : Field := fl43[0]!
noncomputable def fi43_1 : Field := fl43[1]!
noncomputable def fi43_2 : Field := fl43[2]!
noncomputable def fi43_3 : Field := fl43[3]!
noncomputable def fi45_0 : Field := fl45[0]!
noncomputable def fi45_1 : Field := fl45[1]!
noncomputable def fi47_0 : Field := fl47[0]!
noncomputable def fi47_1 : Field := fl47[1]!
noncomputable def fi70_0 : Field := fl70[0]!
noncomputable def fi70_1 : Field := fl70[1]!
noncomputable def fi70_2 : Field := fl70[2]!
noncomputable def fi75_0 : Field := fl75[0]!
noncomputable def fi75_1 : Field := fl75[1]!
noncomputable def fi75_2 : Field := fl75[2]!
noncomputable def fi88_0 : Field := fl88[0]!
noncomputable def fi88_1 : Field := fl88[1]!
noncomputable def fi88_2 : Field := fl88[2]!
noncomputable def fi101_0 : Field := fl101[0]!
noncomputable def fi101_1 : Field := fl101[1]!
noncomputable def fi101_2 : Field := fl101[2]!
theorem K4 : ktab.und 4 = some .bool := by kernel_rfl
theorem U102 : Und ktab 102 rdepot_wash := ⟨by kernel_rfl, by kernel_rfl⟩
theorem Uq140 : Und ktab 36 rStablePlanN1 := ⟨by kernel_rfl, by kernel_rfl⟩
theorem Uq141 : Und ktab 90 (rSlice rStablePlanN1) := ⟨by kernel_rfl, by kernel_rfl⟩
theorem U22 : Und ktab 22 (rSlice (rInt .i64)) := ⟨by kernel_rfl, by kernel_rfl⟩
theorem U3 : Und ktab 3 (rInt .i64) := ⟨by kernel_rfl, by kernel_rfl⟩
theorem U31 : Und ktab 31 (rSlice rStableTrack) := ⟨by kernel_rfl, by kernel_rfl⟩
theorem U32 : Und ktab 32 (rSlice rStableCar) := ⟨by kernel_rfl, by kernel_rfl⟩
theorem U33 : Und ktab 33 (rSlice rStableLeave) := ⟨by kernel_rfl, by kernel_rfl⟩
theorem U36 : Und ktab 36 rStablePlan := ⟨by kernel_rfl, by kernel_rfl⟩
theorem U4 : Und ktab 4 rBool := ⟨by kernel_rfl, by kernel_rfl⟩
theorem U44 : Und ktab 44 rStableCar := ⟨by kernel_rfl, by kernel_rfl⟩
theorem U46 : Und ktab 46 rStableLeave := ⟨by kernel_rfl, by kernel_rfl⟩
theorem U48 : Und ktab 48 rStableTrack := ⟨by kernel_rfl, by kernel_rfl⟩
theorem U49 : Und ktab 49 (rSlice rWashJob) := ⟨by kernel_rfl, by kernel_rfl⟩
theorem U65 : Und ktab 65 (rSlice rStableMove) := ⟨by kernel_rfl, by kernel_rfl⟩
theorem U69 : Und ktab 69 (rInt .i64) := ⟨by kernel_rfl, by kernel_rfl⟩
theorem U71 : Und ktab 71 rStableMove := ⟨by kernel_rfl, by kernel_rfl⟩
theorem U76 : Und ktab 76 rWashJob := ⟨by kernel_rfl, by kernel_rfl⟩
theorem U78 : Und ktab 78 (rFn ktab (Int × Int) (Bool) (fun x => [.val (rInt .i64) (x.1), .val (rInt .i64) (x.2)]) (fun y => [.val rBool (y)])) := ⟨by kernel_rfl, by kernel_rfl⟩
theorem U84 : Und ktab 84 (rSlice rBool) := ⟨by kernel_rfl, by kernel_rfl⟩
theorem U87 : Und ktab 87 (rPtr rdepot_night) := ⟨by kernel_rfl, by kernel_rfl⟩
theorem U99 : Und ktab 99 (rSlice rdepot_wash) := ⟨by kernel_rfl, by kernel_rfl⟩
theorem S22 : Sl ktab 22 3 (rInt .i64) := ⟨by kernel_rfl, by kernel_rfl, by kernel_rfl, by decide⟩
theorem S31 : Sl ktab 31 48 rStableTrack := ⟨by kernel_rfl, by kernel_rfl, by kernel_rfl, by decide⟩
theorem S32 : Sl ktab 32 44 rStableCar := ⟨by kernel_rfl, by kernel_rfl, by kernel_rfl, by decide⟩
theorem S33 : Sl ktab 33 46 rStableLeave := ⟨by kernel_rfl, by kernel_rfl, by kernel_rfl, by decide⟩
theorem S49 : Sl ktab 49 76 rWashJob := ⟨by kernel_rfl, by kernel_rfl, by kernel_rfl, by decide⟩
theorem S65 : Sl ktab 65 71 rStableMove := ⟨by kernel_rfl, by kernel_rfl, by kernel_rfl, by decide⟩
theorem S79 : Sl ktab 79 3 (rInt .i64) := ⟨by kernel_rfl, by kernel_rfl, by kernel_rfl, by decide⟩
theorem S81 : Sl ktab 81 22 (rSlice (rInt .i64)) := ⟨by kernel_rfl, by kernel_rfl, by kernel_rfl, by decide⟩
theorem S84 : Sl ktab 84 4 rBool := ⟨by kernel_rfl, by kernel_rfl, by kernel_rfl, by decide⟩
theorem S99 : Sl ktab 99 102 rdepot_wash := ⟨by kernel_rfl, by kernel_rfl, by kernel_rfl, by decide⟩
theorem Sq141 : Sl ktab 90 36 rStablePlanN1 := ⟨by kernel_rfl, by kernel_rfl, by kernel_rfl, by decide⟩
theorem Y3 : Ty ktab 3 (rInt .i64) 8 := ⟨⟨ti3, by kernel_rfl, by kernel_rfl, by kernel_rfl⟩, ⟨.int .i64 0, by kernel_rfl, rfl⟩, by decide⟩
theorem Y4 : Ty ktab 4 rBool 1 := ⟨⟨ti4, by kernel_rfl, by kernel_rfl, by kernel_rfl⟩, ⟨.bool false, by kernel_rfl, rfl⟩, by decide⟩
theorem Y22 : Ty ktab 22 (rSlice (rInt .i64)) 24 := ⟨⟨ti22, by kernel_rfl, by kernel_rfl, by kernel_rfl⟩, ⟨.nilslice, by kernel_rfl, rfl⟩, by decide⟩
theorem Y48 : Ty ktab 48 rStableTrack 16 := ⟨⟨ti48, by kernel_rfl, by kernel_rfl, by kernel_rfl⟩, ⟨.agg [.int .i64 0, .bool false], by kernel_rfl, rfl⟩, by decide⟩
theorem Y71 : Ty ktab 71 rStableMove 24 := ⟨⟨ti71, by kernel_rfl, by kernel_rfl, by kernel_rfl⟩, ⟨.agg [.int .i64 0, .int .i64 0, .int .i64 0], by kernel_rfl, rfl⟩, by decide⟩
theorem Y102 : Ty ktab 102 rdepot_wash 40 := ⟨⟨ti102, by kernel_rfl, by kernel_rfl, by kernel_rfl⟩, ⟨.agg [.nilslice, .int .i64 0, .int .i64 0], by kernel_rfl, rfl⟩, by decide⟩
theorem Yq140 : Ty ktab 36 rStablePlanN1 56 := ⟨⟨ti36, by kernel_rfl, by kernel_rfl, by kernel_rfl⟩, ⟨.agg [.nilslice, .nilslice, .int .i64 0], by kernel_rfl, rfl⟩, by decide⟩
theorem Z3 : Zr ktab 3 (rInt .i64) 0 := ⟨⟨.int .i64 0, by kernel_rfl, fun _ => ⟨zint, rfl⟩⟩⟩
theorem Z4 : Zr ktab 4 rBool false := ⟨⟨.bool false, by kernel_rfl, fun _ => ⟨zbool, rfl⟩⟩⟩
theorem UR27 : Und ktab 27 rRaw := ⟨by kernel_rfl, by kernel_rfl⟩
theorem UR113 : Und ktab 113 rRaw := ⟨by kernel_rfl, by kernel_rfl⟩
theorem UR114 : Und ktab 114 rRaw := ⟨by kernel_rfl, by kernel_rfl⟩
theorem MP113 : Mp ktab 113 .i64 3 := ⟨⟨3, by kernel_rfl, by kernel_rfl⟩⟩
theorem B36 : Stt ktab 36 [.nilslice, .nilslice, .int .i64 0] [(0, 1), (1, 1), (2, 1)] := ⟨by kernel_rfl, ⟨fl35, by kernel_rfl, by kernel_rfl⟩⟩
theorem B71 : Stt ktab 71 [.int .i64 0, .int .i64 0, .int .i64 0] [(0, 1), (1, 1), (2, 1)] := ⟨by kernel_rfl, ⟨fl70, by kernel_rfl, by kernel_rfl⟩⟩
theorem B89 : Stt ktab 89 [.nilslice, .nilslice, .nilslice] [(0, 1), (1, 1), (2, 1)] := ⟨by kernel_rfl, ⟨fl88, by kernel_rfl, by kernel_rfl⟩⟩
theorem B102 : Stt ktab 102 [.nilslice, .int .i64 0, .int .i64 0] [(0, 1), (1, 1), (2, 1)] := ⟨by kernel_rfl, ⟨fl101, by kernel_rfl, by kernel_rfl⟩⟩
theorem Bq140 : Stt ktab 36 [.nilslice, .nilslice, .int .i64 0] [(0, 1), (1, 1), (2, 1)] := ⟨by kernel_rfl, ⟨fl35, by kernel_rfl, by kernel_rfl⟩⟩
theorem F36_0 : Fld ktab 36 0 22 0 1 := ⟨⟨fl35, fi35_0, by kernel_rfl, by kernel_rfl, by kernel_rfl, by kernel_rfl⟩, by kernel_rfl⟩
theorem F36_1 : Fld ktab 36 1 22 1 1 := ⟨⟨fl35, fi35_1, by kernel_rfl, by kernel_rfl, by kernel_rfl, by kernel_rfl⟩, by kernel_rfl⟩
theorem F36_2 : Fld ktab 36 2 3 2 1 := ⟨⟨fl35, fi35_2, by kernel_rfl, by kernel_rfl, by kernel_rfl, by kernel_rfl⟩, by kernel_rfl⟩
theorem F44_0 : Fld ktab 44 0 3 0 1 := ⟨⟨fl43, fi43_0, by kernel_rfl, by kernel_rfl, by kernel_rfl, by kernel_rfl⟩, by kernel_rfl⟩
theorem F44_1 : Fld ktab 44 1 3 1 1 := ⟨⟨fl43, fi43_1, by kernel_rfl, by kernel_rfl, by kernel_rfl, by kernel_rfl⟩, by kernel_rfl⟩
theorem F44_2 : Fld ktab 44 2 3 2 1 := ⟨⟨fl43, fi43_2, by kernel_rfl, by kernel_rfl, by kernel_rfl, by kernel_rfl⟩, by kernel_rfl⟩
theorem F44_3 : Fld ktab 44 3 3 3 1 := ⟨⟨fl43, fi43_3, by kernel_rfl, by kernel_rfl, by kernel_rfl, by kernel_rfl⟩, by kernel_rfl⟩
theorem F46_0 : Fld ktab 46 0 3 0 1 := ⟨⟨fl45, fi45_0, by kernel_rfl, by kernel_rfl, by kernel_rfl, by kernel_rfl⟩, by kernel_rfl⟩
theorem F46_1 : Fld ktab 46 1 3 1 1 := ⟨⟨fl45, fi45_1, by kernel_rfl, by kernel_rfl, by kernel_rfl, by kernel_rfl⟩, by kernel_rfl⟩
theorem F48_0 : Fld ktab 48 0 3 0 1 := ⟨⟨fl47, fi47_0, by kernel_rfl, by kernel_rfl, by kernel_rfl, by kernel_rfl⟩, by kernel_rfl⟩
theorem F48_1 : Fld ktab 48 1 4 1 1 := ⟨⟨fl47, fi47_1, by kernel_rfl, by kernel_rfl, by kernel_rfl, by kernel_rfl⟩, by kernel_rfl⟩
theorem F71_0 : Fld ktab 71 0 69 0 1 := ⟨⟨fl70, fi70_0, by kernel_rfl, by kernel_rfl, by kernel_rfl, by kernel_rfl⟩, by kernel_rfl⟩
theorem F71_1 : Fld ktab 71 1 3 1 1 := ⟨⟨fl70, fi70_1, by kernel_rfl, by kernel_rfl, by kernel_rfl, by kernel_rfl⟩, by kernel_rfl⟩
theorem F71_2 : Fld ktab 71 2 3 2 1 := ⟨⟨fl70, fi70_2, by kernel_rfl, by kernel_rfl, by kernel_rfl, by kernel_rfl⟩, by kernel_rfl⟩
theorem F76_0 : Fld ktab 76 0 3 0 1 := ⟨⟨fl75, fi75_0, by kernel_rfl, by kernel_rfl, by kernel_rfl, by kernel_rfl⟩, by kernel_rfl⟩
theorem F76_1 : Fld ktab 76 1 3 1 1 := ⟨⟨fl75, fi75_1, by kernel_rfl, by kernel_rfl, by kernel_rfl, by kernel_rfl⟩, by kernel_rfl⟩
theorem F76_2 : Fld ktab 76 2 3 2 1 := ⟨⟨fl75, fi75_2, by kernel_rfl, by kernel_rfl, by kernel_rfl, by kernel_rfl⟩, by kernel_rfl⟩
theorem F89_0 : Fld ktab 89 0 31 0 1 := ⟨⟨fl88, fi88_0, by kernel_rfl, by kernel_rfl, by kernel_rfl, by kernel_rfl⟩, by kernel_rfl⟩
theorem F89_1 : Fld ktab 89 1 32 1 1 := ⟨⟨fl88, fi88_1, by kernel_rfl, by kernel_rfl, by kernel_rfl, by kernel_rfl⟩, by kernel_rfl⟩
theorem F89_2 : Fld ktab 89 2 33 2 1 := ⟨⟨fl88, fi88_2, by kernel_rfl, by kernel_rfl, by kernel_rfl, by kernel_rfl⟩, by kernel_rfl⟩
theorem F102_0 : Fld ktab 102 0 22 0 1 := ⟨⟨fl101, fi101_0, by kernel_rfl, by kernel_rfl, by kernel_rfl, by kernel_rfl⟩, by kernel_rfl⟩
theorem F102_1 : Fld ktab 102 1 3 1 1 := ⟨⟨fl101, fi101_1, by kernel_rfl, by kernel_rfl, by kernel_rfl, by kernel_rfl⟩, by kernel_rfl⟩
theorem F102_2 : Fld ktab 102 2 3 2 1 := ⟨⟨fl101, fi101_2, by kernel_rfl, by kernel_rfl, by kernel_rfl, by kernel_rfl⟩, by kernel_rfl⟩
theorem Fq140_2 : Fld ktab 36 2 3 2 1 := ⟨⟨fl35, fi35_2, by kernel_rfl, by kernel_rfl, by kernel_rfl, by kernel_rfl⟩, by kernel_rfl⟩
theorem E70 : SEq ktab 70 rStableMove (fun x y => x == y) := ⟨⟨fl70, by kernel_rfl, by rw [show fl70.toList = [fi70_0, fi70_1, fi70_2] by kernel_rfl]; exact (.i (of_decide_eq_true (by kernel_rfl)) (by kernel_rfl) (by kernel_rfl) (.i (of_decide_eq_true (by kernel_rfl)) (by kernel_rfl) (by kernel_rfl) (.i (of_decide_eq_true (by kernel_rfl)) (by kernel_rfl) (by kernel_rfl) .n)))⟩, by kernel_rfl, by kernel_rfl⟩
theorem E71 : SEq ktab 71 rStableMove (fun x y => x == y) := ⟨⟨fl70, by kernel_rfl, by rw [show fl70.toList = [fi70_0, fi70_1, fi70_2] by kernel_rfl]; exact (.i (of_decide_eq_true (by kernel_rfl)) (by kernel_rfl) (by kernel_rfl) (.i (of_decide_eq_true (by kernel_rfl)) (by kernel_rfl) (by kernel_rfl) (.i (of_decide_eq_true (by kernel_rfl)) (by kernel_rfl) (by kernel_rfl) .n)))⟩, by kernel_rfl, by kernel_rfl⟩
instance : iK ktab 4 .bool := ⟨K4⟩
instance : iU ktab 102 rdepot_wash := ⟨U102⟩
instance : iU ktab 22 (rSlice (rInt .i64)) := ⟨U22⟩
instance : iU ktab 3 (rInt .i64) := ⟨U3⟩
instance : iU ktab 31 (rSlice rStableTrack) := ⟨U31⟩
instance : iU ktab 32 (rSlice rStableCar) := ⟨U32⟩
instance : iU ktab 33 (rSlice rStableLeave) := ⟨U33⟩
instance : iU ktab 36 rStablePlan := ⟨U36⟩
instance : iU ktab 4 rBool := ⟨U4⟩
instance : iU ktab 44 rStableCar := ⟨U44⟩
instance : iU ktab 46 rStableLeave := ⟨U46⟩
instance : iU ktab 48 rStableTrack := ⟨U48⟩
instance : iU ktab 49 (rSlice rWashJob) := ⟨U49⟩
instance : iU ktab 65 (rSlice rStableMove) := ⟨U65⟩
instance : iU ktab 69 (rInt .i64) := ⟨U69⟩
instance : iU ktab 71 rStableMove := ⟨U71⟩
instance : iU ktab 76 rWashJob := ⟨U76⟩
instance : iU ktab 78 (rFn ktab (Int × Int) (Bool) (fun x => [.val (rInt .i64) (x.1), .val (rInt .i64) (x.2)]) (fun y => [.val rBool (y)])) := ⟨U78⟩
instance : iU ktab 84 (rSlice rBool) := ⟨U84⟩
instance : iU ktab 87 (rPtr rdepot_night) := ⟨U87⟩
instance : iU ktab 99 (rSlice rdepot_wash) := ⟨U99⟩
instance : iS ktab 22 (rInt .i64) 3 := ⟨S22⟩
instance : iS ktab 31 rStableTrack 48 := ⟨S31⟩
instance : iS ktab 32 rStableCar 44 := ⟨S32⟩
instance : iS ktab 33 rStableLeave 46 := ⟨S33⟩
instance : iS ktab 49 rWashJob 76 := ⟨S49⟩
instance : iS ktab 65 rStableMove 71 := ⟨S65⟩
instance : iS ktab 79 (rInt .i64) 3 := ⟨S79⟩
instance : iS ktab 81 (rSlice (rInt .i64)) 22 := ⟨S81⟩
instance : iS ktab 84 rBool 4 := ⟨S84⟩
instance : iS ktab 99 rdepot_wash 102 := ⟨S99⟩
instance : iY ktab 3 (rInt .i64) 8 := ⟨Y3⟩
instance : iY ktab 4 rBool 1 := ⟨Y4⟩
instance : iY ktab 22 (rSlice (rInt .i64)) 24 := ⟨Y22⟩
instance : iY ktab 48 rStableTrack 16 := ⟨Y48⟩
instance : iY ktab 71 rStableMove 24 := ⟨Y71⟩
instance : iY ktab 102 rdepot_wash 40 := ⟨Y102⟩
instance : iZ ktab 3 (rInt .i64) 0 := ⟨Z3⟩
instance : iZ ktab 4 rBool false := ⟨Z4⟩
instance : iB ktab 36 rStablePlan [.nilslice, .nilslice, .int .i64 0] [(0, 1), (1, 1), (2, 1)] := ⟨B36, rfl⟩
instance : iB ktab 71 rStableMove [.int .i64 0, .int .i64 0, .int .i64 0] [(0, 1), (1, 1), (2, 1)] := ⟨B71, rfl⟩
instance : iB ktab 89 rdepot_night [.nilslice, .nilslice, .nilslice] [(0, 1), (1, 1), (2, 1)] := ⟨B89, rfl⟩
instance : iB ktab 102 rdepot_wash [.nilslice, .int .i64 0, .int .i64 0] [(0, 1), (1, 1), (2, 1)] := ⟨B102, rfl⟩
instance : iF ktab 36 0 rStablePlan (rSlice (rInt .i64)) 22 0 (fun x => x.1) (fun x y => (y, x.2.1, x.2.2.1, ())) := ⟨F36_0, fk_StablePlan_0, by decide⟩
instance : iF ktab 36 1 rStablePlan (rSlice (rInt .i64)) 22 1 (fun x => x.2.1) (fun x y => (x.1, y, x.2.2.1, ())) := ⟨F36_1, fk_StablePlan_1, by decide⟩
instance : iF ktab 36 2 rStablePlan (rInt .i64) 3 2 (fun x => x.2.2.1) (fun x y => (x.1, x.2.1, y, ())) := ⟨F36_2, fk_StablePlan_2, by decide⟩
instance : iF ktab 44 0 rStableCar (rInt .i64) 3 0 (fun x => x.1) (fun x y => (y, x.2.1, x.2.2.1, x.2.2.2.1, ())) := ⟨F44_0, fk_StableCar_0, by decide⟩
instance : iF ktab 44 1 rStableCar (rInt .i64) 3 1 (fun x => x.2.1) (fun x y => (x.1, y, x.2.2.1, x.2.2.2.1, ())) := ⟨F44_1, fk_StableCar_1, by decide⟩
instance : iF ktab 44 2 rStableCar (rInt .i64) 3 2 (fun x => x.2.2.1) (fun x y => (x.1, x.2.1, y, x.2.2.2.1, ())) := ⟨F44_2, fk_StableCar_2, by decide⟩
instance : iF ktab 44 3 rStableCar (rInt .i64) 3 3 (fun x => x.2.2.2.1) (fun x y => (x.1, x.2.1, x.2.2.1, y, ())) := ⟨F44_3, fk_StableCar_3, by decide⟩
instance : iF ktab 46 0 rStableLeave (rInt .i64) 3 0 (fun x => x.1) (fun x y => (y, x.2.1, ())) := ⟨F46_0, fk_StableLeave_0, by decide⟩
instance : iF ktab 46 1 rStableLeave (rInt .i64) 3 1 (fun x => x.2.1) (fun x y => (x.1, y, ())) := ⟨F46_1, fk_StableLeave_1, by decide⟩
instance : iF ktab 48 0 rStableTrack (rInt .i64) 3 0 (fun x => x.1) (fun x y => (y, x.2.1, ())) := ⟨F48_0, fk_StableTrack_0, by decide⟩
instance : iF ktab 48 1 rStableTrack rBool 4 1 (fun x => x.2.1) (fun x y => (x.1, y, ())) := ⟨F48_1, fk_StableTrack_1, by decide⟩
instance : iF ktab 71 0 rStableMove (rInt .i64) 69 0 (fun x => x.1) (fun x y => (y, x.2.1, x.2.2.1, ())) := ⟨F71_0, fk_StableMove_0, by decide⟩
instance : iF ktab 71 1 rStableMove (rInt .i64) 3 1 (fun x => x.2.1) (fun x y => (x.1, y, x.2.2.1, ())) := ⟨F71_1, fk_StableMove_1, by decide⟩
instance : iF ktab 71 2 rStableMove (rInt .i64) 3 2 (fun x => x.2.2.1) (fun x y => (x.1, x.2.1, y, ())) := ⟨F71_2, fk_StableMove_2, by decide⟩
instance : iF ktab 76 0 rWashJob (rInt .i64) 3 0 (fun x => x.1) (fun x y => (y, x.2.1, x.2.2.1, ())) := ⟨F76_0, fk_WashJob_0, by decide⟩
instance : iF ktab 76 1 rWashJob (rInt .i64) 3 1 (fun x => x.2.1) (fun x y => (x.1, y, x.2.2.1, ())) := ⟨F76_1, fk_WashJob_1, by decide⟩
instance : iF ktab 76 2 rWashJob (rInt .i64) 3 2 (fun x => x.2.2.1) (fun x y => (x.1, x.2.1, y, ())) := ⟨F76_2, fk_WashJob_2, by decide⟩
instance : iF ktab 89 0 rdepot_night (rSlice rStableTrack) 31 0 (fun x => x.1) (fun x y => (y, x.2.1, x.2.2.1, ())) := ⟨F89_0, fk_depot_night_0, by decide⟩
instance : iF ktab 89 1 rdepot_night (rSlice rStableCar) 32 1 (fun x => x.2.1) (fun x y => (x.1, y, x.2.2.1, ())) := ⟨F89_1, fk_depot_night_1, by decide⟩
instance : iF ktab 89 2 rdepot_night (rSlice rStableLeave) 33 2 (fun x => x.2.2.1) (fun x y => (x.1, x.2.1, y, ())) := ⟨F89_2, fk_depot_night_2, by decide⟩
instance : iF ktab 102 0 rdepot_wash (rSlice (rInt .i64)) 22 0 (fun x => x.1) (fun x y => (y, x.2.1, x.2.2.1, ())) := ⟨F102_0, fk_depot_wash_0, by decide⟩
instance : iF ktab 102 1 rdepot_wash (rInt .i64) 3 1 (fun x => x.2.1) (fun x y => (x.1, y, x.2.2.1, ())) := ⟨F102_1, fk_depot_wash_1, by decide⟩
instance : iF ktab 102 2 rdepot_wash (rInt .i64) 3 2 (fun x => x.2.2.1) (fun x y => (x.1, x.2.1, y, ())) := ⟨F102_2, fk_depot_wash_2, by decide⟩
instance : iE ktab 70 rStableMove (fun x y => x == y) := ⟨E70, rfl⟩
instance : iE ktab 71 rStableMove (fun x y => x == y) := ⟨E71, rfl⟩
end Go.Ai.TabYtpiblfbidgcjaaa

/- What the rows of this seat ask, of the abstract interpreter. -/
namespace Go.Ai.TabYtpiblfbidgcjaaa
open Go Go.Ai Go.Ai.Sx Go.Proofs Go.Proofs.Ytpiblfbidgcjaaa
theorem own : ownKnob Try.prog.godebug = none := by kernel_rfl
theorem laidOut : laidOutB Try.prog = true := by kernel_rfl
theorem begun : decide (Try.prog.globals.size < (begin Try.prog (fun _ _ => 0) default).world.heap.size) = true := by kernel_rfl
theorem notEmpty {W : World} (h : W.ShapedOpen Try.prog) : 0 < W.heap.size := by
 obtain ⟨o, _, ho, _⟩ := h.2 Try.prog.globals.size (Nat.le_refl _) (of_decide_eq_true begun)
 have := (Array.getElem?_eq_some_iff.1 ho).1
 omega
theorem opensF_at {P : Program} {A B : Type} {f : Field} {fs : List Field} {o : Nat} {t : TypeId} {R : Rep A} {S : Rep B} (hf : f.offset = o) (ht : f.type = t) (ho : Opens P t R) (hs : OpensF P fs (o + R.sz) S) : OpensF P (f :: fs) o (rPair R S) := by
 subst ht
 exact opensF_cons hf ho hs
noncomputable def lfl47 : Array Field := match Try.t47.desc with | .struct fs => fs | _ => #[]
noncomputable def lfi47_0 : Field := lfl47[0]!
noncomputable def lfi47_1 : Field := lfl47[1]!
noncomputable def lfl43 : Array Field := match Try.t43.desc with | .struct fs => fs | _ => #[]
noncomputable def lfi43_0 : Field := lfl43[0]!
noncomputable def lfi43_1 : Field := lfl43[1]!
noncomputable def lfi43_2 : Field := lfl43[2]!
noncomputable def lfi43_3 : Field := lfl43[3]!
noncomputable def lfl45 : Array Field := match Try.t45.desc with | .struct fs => fs | _ => #[]
noncomputable def lfi45_0 : Field := lfl45[0]!
noncomputable def lfi45_1 : Field := lfl45[1]!
theorem o3 : Opens Try.prog 3 (rInt .i64) := opens_int (by kernel_rfl) (by kernel_rfl)
theorem o4 : Opens Try.prog 4 rBool := opens_bool (by kernel_rfl) (by kernel_rfl)
theorem o48 : Opens Try.prog 48 rStableTrack := opens_struct (fs := lfl47) (by kernel_rfl) (by kernel_rfl) rfl (by
 rw [show lfl47.toList = [lfi47_0, lfi47_1] by kernel_rfl]
 exact (opensF_at (by kernel_rfl) (by kernel_rfl) o3 (opensF_at (by kernel_rfl) (by kernel_rfl) o4 (opensF_nil _))))
theorem o31 : Opens Try.prog 31 (rSlice rStableTrack) := opens_slice (by kernel_rfl) (by kernel_rfl) o48 (by decide)
theorem o44 : Opens Try.prog 44 rStableCar := opens_struct (fs := lfl43) (by kernel_rfl) (by kernel_rfl) rfl (by
 rw [show lfl43.toList = [lfi43_0, lfi43_1, lfi43_2, lfi43_3] by kernel_rfl]
 exact (opensF_at (by kernel_rfl) (by kernel_rfl) o3 (opensF_at (by kernel_rfl) (by kernel_rfl) o3 (opensF_at (by kernel_rfl) (by kernel_rfl) o3 (opensF_at (by kernel_rfl) (by kernel_rfl) o3 (opensF_nil _))))))
theorem o32 : Opens Try.prog 32 (rSlice rStableCar) := opens_slice (by kernel_rfl) (by kernel_rfl) o44 (by decide)
theorem o46 : Opens Try.prog 46 rStableLeave := opens_struct (fs := lfl45) (by kernel_rfl) (by kernel_rfl) rfl (by
 rw [show lfl45.toList = [lfi45_0, lfi45_1] by kernel_rfl]
 exact (opensF_at (by kernel_rfl) (by kernel_rfl) o3 (opensF_at (by kernel_rfl) (by kernel_rfl) o3 (opensF_nil _))))
theorem o33 : Opens Try.prog 33 (rSlice rStableLeave) := opens_slice (by kernel_rfl) (by kernel_rfl) o46 (by decide)
end Go.Ai.TabYtpiblfbidgcjaaa
