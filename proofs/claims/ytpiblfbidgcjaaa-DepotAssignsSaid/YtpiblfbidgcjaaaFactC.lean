/- Written by program: the facts of the tables, and the walks through the functions. -/
import Derived.Test.YtpiblfbidgcjaaaAiKnownC
import Derived.Test.YtpiblfbidgcjaaaDatC
import Derived.KernelRfl
namespace Go.Ai.TabYtpiblfbidgcjaaa
open Go Go.Ai Go.Ai.Sx Go.Proofs
attribute [local irreducible] SOps
noncomputable def fl35 : Array Field := match Try.t35.desc with | .struct fs => fs | _ => #[]
noncomputable def fl70 : Array Field := match Try.t70.desc with | .struct fs => fs | _ => #[]
noncomputable def fl88 : Array Field := match Try.t88.desc with | .struct fs => fs | _ => #[]
noncomputable def fl101 : Array Field := match Try.t101.desc with | .struct fs => fs | _ => #[]
noncomputable def fl43 : Array Field := match Try.t43.desc with | .struct fs => fs | _ => #[]
noncomputable def fl45 : Array Field := match Try.t45.desc with | .struct fs => fs | _ => #[]
noncomputable def fl47 : Array Field := match Try.t47.desc with | .struct fs => fs | _ => #[]
noncomputable def fl75 : Array Field := match Try.t75.desc with | .struct fs => fs | _ => #[]
noncomputable def fi35_0 : Field := fl35[0]!
noncomputable def fi35_1 : Field := fl35[1]!
noncomputable def fi35_2 : Field := fl35[2]!
noncomputable def fi43_0 : Field := fl43[0]!
noncomputable def fi43_1 : Field := fl43[1]!
noncomputable def fi43_2 : Field := fl43[2]!
noncomputable def fi43_3 : Field := fl43[3]!
noncomputable def fi45_0 : Field := fl45[0]!
noncomputable def fi45_1 : Field := fl45[1]!
noncomputable def fi47_0 : Field := fl47[0]!
noncomputable def fi47_1 : Field := fl47[1]!
noncomputable def fi70_0 : Field := fl70[0]!
noncomputable def fi70_1 : Field := fl70[1]!
noncomputable def fi70_2 : Field := fl70[2]!
noncomputable def fi75_0 : Field := fl75[0]!
noncomputable def fi75_1 : Field := fl75[1]!
noncomputable def fi75_2 : Field := fl75[2]!
noncomputable def fi88_0 : Field := fl88[0]!
noncomputable def fi88_1 : Field := fl88[1]!
noncomputable def fi88_2 : Field := fl88[2]!
noncomputable def fi101_1 : Field := fl101[1]!
noncomputable def fi101_2 : Field := fl101[2]!
theorem K4 : ktab.und 4 = some .bool := by kernel_rfl
theorem U102 : Und ktab 102 rdepot_wash := ⟨by kernel_rfl, by kernel_rfl⟩
theorem U22 : Und ktab 22 (rSlice (rInt .i64)) := ⟨by kernel_rfl, by kernel_rfl⟩
theorem U27 : Und ktab 27 (rFn ktab ((List Int)) (Bool) (fun x => [.val (rSlice (rInt .i64)) (x)]) (fun y => [.val rBool (y)])) := ⟨by kernel_rfl, by kernel_rfl⟩
theorem U3 : Und ktab 3 (rInt .i64) := ⟨by kernel_rfl, by kernel_rfl⟩
theorem U31 : Und ktab 31 (rSlice rStableTrack) := ⟨by kernel_rfl, by kernel_rfl⟩
theorem U32 : Und ktab 32 (rSlice rStableCar) := ⟨by kernel_rfl, by kernel_rfl⟩
theorem U33 : Und ktab 33 (rSlice rStableLeave) := ⟨by kernel_rfl, by kernel_rfl⟩
theorem U36 : Und ktab 36 rStablePlan := ⟨by kernel_rfl, by kernel_rfl⟩
theorem U4 : Und ktab 4 rBool := ⟨by kernel_rfl, by kernel_rfl⟩
theorem U44 : Und ktab 44 rStableCar := ⟨by kernel_rfl, by kernel_rfl⟩
theorem U46 : Und ktab 46 rStableLeave := ⟨by kernel_rfl, by kernel_rfl⟩
theorem U48 : Und ktab 48 rStableTrack := ⟨by kernel_rfl, by kernel_rfl⟩
theorem U65 : Und ktab 65 (rSlice rStableMove) := ⟨by kernel_rfl, by kernel_rfl⟩
theorem U69 : Und ktab 69 (rInt .i64) := ⟨by kernel_rfl, by kernel_rfl⟩
theorem U71 : Und ktab 71 rStableMove := ⟨by kernel_rfl, by kernel_rfl⟩
theorem U76 : Und ktab 76 rWashJob := ⟨by kernel_rfl, by kernel_rfl⟩
theorem U78 : Und ktab 78 (rFn ktab (Int × Int) (Bool) (fun x => [.val (rInt .i64) (x.1), .val (rInt .i64) (x.2)]) (fun y => [.val rBool (y)])) := ⟨by kernel_rfl, by kernel_rfl⟩
theorem U84 : Und ktab 84 (rSlice rBool) := ⟨by kernel_rfl, by kernel_rfl⟩
theorem U87 : Und ktab 87 (rPtr rdepot_night) := ⟨by kernel_rfl, by kernel_rfl⟩
theorem S22 : Sl ktab 22 3 (rInt .i64) := ⟨by kernel_rfl, by kernel_rfl, by kernel_rfl, by decide⟩
theorem S31 : Sl ktab 31 48 rStableTrack := ⟨by kernel_rfl, by kernel_rfl, by kernel_rfl, by decide⟩
theorem S32 : Sl ktab 32 44 rStableCar := ⟨by kernel_rfl, by kernel_rfl, by kernel_rfl, by decide⟩
theorem S33 : Sl ktab 33 46 rStableLeave := ⟨by kernel_rfl, by kernel_rfl, by kernel_rfl, by decide⟩
theorem S49 : Sl ktab 49 76 rWashJob := ⟨by kernel_rfl, by kernel_rfl, by kernel_rfl, by decide⟩
theorem S65 : Sl ktab 65 71 rStableMove := ⟨by kernel_rfl, by kernel_rfl, by kernel_rfl, by decide⟩
theorem S79 : Sl ktab 79 3 (rInt .i64) := ⟨by kernel_rfl, by kernel_rfl, by kernel_rfl, by decide⟩
theorem S81 : Sl ktab 81 22 (rSlice (rInt .i64)) := ⟨by kernel_rfl, by kernel_rfl, by kernel_rfl, by decide⟩
theorem S84 : Sl ktab 84 4 rBool := ⟨by kernel_rfl, by kernel_rfl, by kernel_rfl, by decide⟩
theorem S90 : Sl ktab 90 36 rStablePlan := ⟨by kernel_rfl, by kernel_rfl, by kernel_rfl, by decide⟩
theorem S99 : Sl ktab 99 102 rdepot_wash := ⟨by kernel_rfl, by kernel_rfl, by kernel_rfl, by decide⟩
theorem Y3 : Ty ktab 3 (rInt .i64) 8 := ⟨⟨ti3, by kernel_rfl, by kernel_rfl, by kernel_rfl⟩, ⟨.int .i64 0, by kernel_rfl, rfl⟩, by decide⟩
theorem Y4 : Ty ktab 4 rBool 1 := ⟨⟨ti4, by kernel_rfl, by kernel_rfl, by kernel_rfl⟩, ⟨.bool false, by kernel_rfl, rfl⟩, by decide⟩
theorem Y22 : Ty ktab 22 (rSlice (rInt .i64)) 24 := ⟨⟨ti22, by kernel_rfl, by kernel_rfl, by kernel_rfl⟩, ⟨.nilslice, by kernel_rfl, rfl⟩, by decide⟩
theorem Y71 : Ty ktab 71 rStableMove 24 := ⟨⟨ti71, by kernel_rfl, by kernel_rfl, by kernel_rfl⟩, ⟨.agg [.int .i64 0, .int .i64 0, .int .i64 0], by kernel_rfl, rfl⟩, by decide⟩
theorem Z3 : Zr ktab 3 (rInt .i64) 0 := ⟨⟨.int .i64 0, by kernel_rfl, fun _ => ⟨zint, rfl⟩⟩⟩
theorem Z4 : Zr ktab 4 rBool false := ⟨⟨.bool false, by kernel_rfl, fun _ => ⟨zbool, rfl⟩⟩⟩
theorem SR81 : Sl ktab 81 22 rRaw := ⟨by kernel_rfl, by kernel_rfl, by kernel_rfl, by decide⟩
theorem UR22 : Und ktab 22 rRaw := ⟨by kernel_rfl, by kernel_rfl⟩
theorem YR22 : Ty ktab 22 rRaw 24 := ⟨⟨ti22, by kernel_rfl, by kernel_rfl, by kernel_rfl⟩, ⟨.nilslice, by kernel_rfl, rfl⟩, by decide⟩
theorem B36 : Stt ktab 36 [.nilslice, .nilslice, .int .i64 0] [(0, 1), (1, 1), (2, 1)] := ⟨by kernel_rfl, ⟨fl35, by kernel_rfl, by kernel_rfl⟩⟩
theorem B71 : Stt ktab 71 [.int .i64 0, .int .i64 0, .int .i64 0] [(0, 1), (1, 1), (2, 1)] := ⟨by kernel_rfl, ⟨fl70, by kernel_rfl, by kernel_rfl⟩⟩
theorem B89 : Stt ktab 89 [.nilslice, .nilslice, .nilslice] [(0, 1), (1, 1), (2, 1)] := ⟨by kernel_rfl, ⟨fl88, by kernel_rfl, by kernel_rfl⟩⟩
theorem B102 : Stt ktab 102 [.nilslice, .int .i64 0, .int .i64 0] [(0, 1), (1, 1), (2, 1)] := ⟨by kernel_rfl, ⟨fl101, by kernel_rfl, by kernel_rfl⟩⟩
theorem F36_0 : Fld ktab 36 0 22 0 1 := ⟨⟨fl35, fi35_0, by kernel_rfl, by kernel_rfl, by kernel_rfl, by kernel_rfl⟩, by kernel_rfl⟩
theorem F36_1 : Fld ktab 36 1 22 1 1 := ⟨⟨fl35, fi35_1, by kernel_rfl, by kernel_rfl, by kernel_rfl, by kernel_rfl⟩, by kernel_rfl⟩
theorem F36_2 : Fld ktab 36 2 3 2 1 := ⟨⟨fl35, fi35_2, by kernel_rfl, by kernel_rfl, by kernel_rfl, by kernel_rfl⟩, by kernel_rfl⟩
theorem F44_0 : Fld ktab 44 0 3 0 1 := ⟨⟨fl43, fi43_0, by kernel_rfl, by kernel_rfl, by kernel_rfl, by kernel_rfl⟩, by kernel_rfl⟩
theorem F44_1 : Fld ktab 44 1 3 1 1 := ⟨⟨fl43, fi43_1, by kernel_rfl, by kernel_rfl, by kernel_rfl, by kernel_rfl⟩, by kernel_rfl⟩
theorem F44_2 : Fld ktab 44 2 3 2 1 := ⟨⟨fl43, fi43_2, by kernel_rfl, by kernel_rfl, by kernel_rfl, by kernel_rfl⟩, by kernel_rfl⟩
theorem F44_3 : Fld ktab 44 3 3 3 1 := ⟨⟨fl43, fi43_3, by kernel_rfl, by kernel_rfl, by kernel_rfl, by kernel_rfl⟩, by kernel_rfl⟩
theorem F46_0 : Fld ktab 46 0 3 0 1 := ⟨⟨fl45, fi45_0, by kernel_rfl, by kernel_rfl, by kernel_rfl, by kernel_rfl⟩, by kernel_rfl⟩
theorem F46_1 : Fld ktab 46 1 3 1 1 := ⟨⟨fl45, fi45_1, by kernel_rfl, by kernel_rfl, by kernel_rfl, by kernel_rfl⟩, by kernel_rfl⟩
theorem F48_0 : Fld ktab 48 0 3 0 1 := ⟨⟨fl47, fi47_0, by kernel_rfl, by kernel_rfl, by kernel_rfl, by kernel_rfl⟩, by kernel_rfl⟩
theorem F48_1 : Fld ktab 48 1 4 1 1 := ⟨⟨fl47, fi47_1, by kernel_rfl, by kernel_rfl, by kernel_rfl, by kernel_rfl⟩, by kernel_rfl⟩
theorem F71_0 : Fld ktab 71 0 69 0 1 := ⟨⟨fl70, fi70_0, by kernel_rfl, by kernel_rfl, by kernel_rfl, by kernel_rfl⟩, by kernel_rfl⟩
theorem F71_1 : Fld ktab 71 1 3 1 1 := ⟨⟨fl70, fi70_1, by kernel_rfl, by kernel_rfl, by kernel_rfl, by kernel_rfl⟩, by kernel_rfl⟩
theorem F71_2 : Fld ktab 71 2 3 2 1 := ⟨⟨fl70, fi70_2, by kernel_rfl, by kernel_rfl, by kernel_rfl, by kernel_rfl⟩, by kernel_rfl⟩
theorem F76_0 : Fld ktab 76 0 3 0 1 := ⟨⟨fl75, fi75_0, by kernel_rfl, by kernel_rfl, by kernel_rfl, by kernel_rfl⟩, by kernel_rfl⟩
theorem F76_1 : Fld ktab 76 1 3 1 1 := ⟨⟨fl75, fi75_1, by kernel_rfl, by kernel_rfl, by kernel_rfl, by kernel_rfl⟩, by kernel_rfl⟩
theorem F76_2 : Fld ktab 76 2 3 2 1 := ⟨⟨fl75, fi75_2, by kernel_rfl, by kernel_rfl, by kernel_rfl, by kernel_rfl⟩, by kernel_rfl⟩
theorem F89_0 : Fld ktab 89 0 31 0 1 := ⟨⟨fl88, fi88_0, by kernel_rfl, by kernel_rfl, by kernel_rfl, by kernel_rfl⟩, by kernel_rfl⟩
theorem F89_1 : Fld ktab 89 1 32 1 1 := ⟨⟨fl88, fi88_1, by kernel_rfl, by kernel_rfl, by kernel_rfl, by kernel_rfl⟩, by kernel_rfl⟩
theorem F89_2 : Fld ktab 89 2 33 2 1 := ⟨⟨fl88, fi88_2, by kernel_rfl, by kernel_rfl, by kernel_rfl, by kernel_rfl⟩, by kernel_rfl⟩
theorem F102_1 : Fld ktab 102 1 3 1 1 := ⟨⟨fl101, fi101_1, by kernel_rfl, by kernel_rfl, by kernel_rfl, by kernel_rfl⟩, by kernel_rfl⟩
theorem F102_2 : Fld ktab 102 2 3 2 1 := ⟨⟨fl101, fi101_2, by kernel_rfl, by kernel_rfl, by kernel_rfl, by kernel_rfl⟩, by kernel_rfl⟩
end Go.Ai.TabYtpiblfbidgcjaaa
