/- Written by program: the facts of the tables, and the walks through the functions. -/
import Derived.Test.YtmnbnppfidghoaaM8
import Derived.KernelRfl
import Derived.Test.YtmnbnppfidghoaaM9
import Derived.Test.YtmnbnppfidghoaaM5
import Derived.Test.YtmnbnppfidghoaaRows
import Derived.WalkKit
import Derived.ProofKit
set_option linter.unusedSimpArgs false
set_option linter.unusedVariables false
set_option linter.unusedSectionVars false
namespace Go.Ai.TabYtmnbnppfidghoaa
open Go Go.Ai Go.Ai.Sx Go.Proofs
attribute [local irreducible] SOps
noncomputable def fl80 : Array Field := match Try.t80.desc with | .struct fs => fs | _ => #[]
noncomputable def fl35 : Array Field := match Try.t35.desc with | .struct fs => fs | _ => #[]
noncomputable def fl51 : Array Field := match Try.t51.desc with | .struct fs => fs | _ => #[]
noncomputable def fl65 : Array Field := match Try.t65.desc with | .struct fs => fs | _ => #[]
noncomputable def fl91 : Array Field := match Try.t91.desc with | .struct fs => fs | _ => #[]
noncomputable def fl109 : Array Field := match Try.t109.desc with | .struct fs => fs | _ => #[]
noncomputable def fl124 : Array Field := match Try.t124.desc with | .struct fs => fs | _ => #[]
noncomputable def fl127 : Array Field := match Try.t127.desc with | .struct fs => fs | _ => #[]
noncomputable def fl24 : Array Field := match Try.t24.desc with | .struct fs => fs | _ => #[]
noncomputable def fl37 : Array Field := match Try.t37.desc with | .struct fs => fs | _ => #[]
noncomputable def fl41 : Array Field := match Try.t41.desc with | .struct fs => fs | _ => #[]
noncomputable def fl45 : Array Field := match Try.t45.desc with | .struct fs => fs | _ => #[]
noncomputable def fl48 : Array Field := match Try.t48.desc with | .struct fs => fs | _ => #[]
noncomputable def fl60 : Array Field := match Try.t60.desc with | .struct fs => fs | _ => #[]
noncomputable def fl74 : Array Field := match Try.t74.desc with | .struct fs => fs | _ => #[]
noncomputable def fi80_0 : Field := fl80[0]!
noncomputable def fi80_1 : Field := fl80[1]!
noncomputable def fi24_0 : Field := fl24[0]!
noncomputable def fi24_1 : Field := fl24[1]!
noncomputable def fi35_0 : Field := fl35[0]!
noncomputable def fi35_1 : Field := fl35[1]!
noncomputable def fi37_0 : Field := fl37[0]!
noncomputable def fi37_1 : Field := fl37[1]!
noncomputable def fi41_0 : Field := fl41[0]!
noncomputable def fi41_1 : Field := fl41[1]!
noncomputable def fi41_2 : Field := fl41[2]!
noncomputable def fi41_3 : Field := fl41[3]!
noncomputable def fi45_0 : Field := fl45[0]!
noncomputable def fi45_1 : Field := fl45[1]!
noncomputable def fi45_2 : Field := fl45[2]!
noncomputable def fi45_3 : Field := fl45[3]!
noncomputable def fi48_0 : Field := fl48[0]!
noncomputable def fi48_1 : Field := fl48[1]!
noncomputable def fi51_0 : Field := fl51[0]!
noncomputable def fi51_1 : Field := fl51[1]!
noncomputable def fi51_2 : Field := fl51[2]!
noncomputable def fi60_0 : Field := fl60[0]!
noncomputable def fi60_1 : Field := fl60[1]!
noncomputable def fi60_2 : Field := fl60[2]!
noncomputable def fi74_0 : Field := fl74[0]!
noncomputable def fi74_1 : Field := fl74[1]!
noncomputable def fi74_2 : Field := fl74[2]!
noncomputable def fi74_3 : Field := fl74[3]!
noncomputable def fi74_4 : Field := fl74[4]!
noncomputable def fi91_0 : Field := fl91[0]!
noncomputable def fi91_1 : Field := fl91[1]!
noncomputable def fi91_2 : Field := fl91[2]!
noncomputable def fi109_0 : Field := fl109[0]!
noncomputable def fi109_1 : Field := fl109[1]!
noncomputable def fi109_2 : Field := fl109[2]!
noncomputable def fi124_0 : Field := fl124[0]!
noncomputable def fi127_0 : Field := fl127[0]!
noncomputable def fi127_1 : Field := fl127[1]!
noncomputable def fi127_2 : Field := fl127[2]!
theorem U107 : Und ktab 107 (rSlice rdepot_wash) := ⟨by kernel_rfl, by kernel_rfl⟩
theorem U110 : Und ktab 110 rdepot_wash := ⟨by kernel_rfl, by kernel_rfl⟩
theorem U126 : Und ktab 126 (rMap rRailEnd (rInt .i64)) := ⟨by kernel_rfl, by kernel_rfl⟩
theorem U131 : Und ktab 131 (rSlice rBool) := ⟨by kernel_rfl, by kernel_rfl⟩
theorem U22 : Und ktab 22 (rSlice rANode) := ⟨by kernel_rfl, by kernel_rfl⟩
theorem U23 : Und ktab 23 (rSlice rRail) := ⟨by kernel_rfl, by kernel_rfl⟩
theorem U25 : Und ktab 25 rPlan := ⟨by kernel_rfl, by kernel_rfl⟩
theorem U26 : Und ktab 26 (rSlice (rInt .i64)) := ⟨by kernel_rfl, by kernel_rfl⟩
theorem U29 : Und ktab 29 (rSlice rStableTrack) := ⟨by kernel_rfl, by kernel_rfl⟩
theorem U3 : Und ktab 3 (rInt .i64) := ⟨by kernel_rfl, by kernel_rfl⟩
theorem U36 : Und ktab 36 rStableTrack := ⟨by kernel_rfl, by kernel_rfl⟩
theorem U38 : Und ktab 38 rSpot := ⟨by kernel_rfl, by kernel_rfl⟩
theorem U39 : Und ktab 39 (rInt .i64) := ⟨by kernel_rfl, by kernel_rfl⟩
theorem U4 : Und ktab 4 rBool := ⟨by kernel_rfl, by kernel_rfl⟩
theorem U40 : Und ktab 40 (rSlice rRailEnd) := ⟨by kernel_rfl, by kernel_rfl⟩
theorem U42 : Und ktab 42 rANode := ⟨by kernel_rfl, by kernel_rfl⟩
theorem U46 : Und ktab 46 rStableCar := ⟨by kernel_rfl, by kernel_rfl⟩
theorem U47 : Und ktab 47 (rSlice rStableCar) := ⟨by kernel_rfl, by kernel_rfl⟩
theorem U49 : Und ktab 49 rStableLeave := ⟨by kernel_rfl, by kernel_rfl⟩
theorem U50 : Und ktab 50 (rSlice rStableLeave) := ⟨by kernel_rfl, by kernel_rfl⟩
theorem U52 : Und ktab 52 rStablePlan := ⟨by kernel_rfl, by kernel_rfl⟩
theorem U55 : Und ktab 55 (rSlice rStableMove) := ⟨by kernel_rfl, by kernel_rfl⟩
theorem U61 : Und ktab 61 rWashJob := ⟨by kernel_rfl, by kernel_rfl⟩
theorem U62 : Und ktab 62 (rSlice rWashJob) := ⟨by kernel_rfl, by kernel_rfl⟩
theorem U73 : Und ktab 73 (rSlice rSpot) := ⟨by kernel_rfl, by kernel_rfl⟩
theorem U75 : Und ktab 75 rRail := ⟨by kernel_rfl, by kernel_rfl⟩
theorem U81 : Und ktab 81 rRailEnd := ⟨by kernel_rfl, by kernel_rfl⟩
theorem U85 : Und ktab 85 (rFn ktab (Int × Int) (Bool) (fun x => [.val (rInt .i64) (x.1), .val (rInt .i64) (x.2)]) (fun y => [.val rBool (y)])) := ⟨by kernel_rfl, by kernel_rfl⟩
theorem U90 : Und ktab 90 (rPtr rdepot_night) := ⟨by kernel_rfl, by kernel_rfl⟩
theorem S22 : Sl ktab 22 42 rANode := ⟨by kernel_rfl, by kernel_rfl, by kernel_rfl, by decide⟩
theorem S23 : Sl ktab 23 75 rRail := ⟨by kernel_rfl, by kernel_rfl, by kernel_rfl, by decide⟩
theorem S26 : Sl ktab 26 3 (rInt .i64) := ⟨by kernel_rfl, by kernel_rfl, by kernel_rfl, by decide⟩
theorem S29 : Sl ktab 29 36 rStableTrack := ⟨by kernel_rfl, by kernel_rfl, by kernel_rfl, by decide⟩
theorem S40 : Sl ktab 40 81 rRailEnd := ⟨by kernel_rfl, by kernel_rfl, by kernel_rfl, by decide⟩
theorem S47 : Sl ktab 47 46 rStableCar := ⟨by kernel_rfl, by kernel_rfl, by kernel_rfl, by decide⟩
theorem S50 : Sl ktab 50 49 rStableLeave := ⟨by kernel_rfl, by kernel_rfl, by kernel_rfl, by decide⟩
theorem S55 : Sl ktab 55 66 rStableMove := ⟨by kernel_rfl, by kernel_rfl, by kernel_rfl, by decide⟩
theorem S62 : Sl ktab 62 61 rWashJob := ⟨by kernel_rfl, by kernel_rfl, by kernel_rfl, by decide⟩
theorem S73 : Sl ktab 73 38 rSpot := ⟨by kernel_rfl, by kernel_rfl, by kernel_rfl, by decide⟩
theorem S86 : Sl ktab 86 3 (rInt .i64) := ⟨by kernel_rfl, by kernel_rfl, by kernel_rfl, by decide⟩
theorem S107 : Sl ktab 107 110 rdepot_wash := ⟨by kernel_rfl, by kernel_rfl, by kernel_rfl, by decide⟩
theorem S131 : Sl ktab 131 4 rBool := ⟨by kernel_rfl, by kernel_rfl, by kernel_rfl, by decide⟩
theorem S149 : Sl ktab 149 73 (rSlice rSpot) := ⟨by kernel_rfl, by kernel_rfl, by kernel_rfl, by decide⟩
theorem Y3 : Ty ktab 3 (rInt .i64) 8 := ⟨⟨ti3, by kernel_rfl, by kernel_rfl, by kernel_rfl⟩, ⟨.int .i64 0, by kernel_rfl, rfl⟩, by decide⟩
theorem Y4 : Ty ktab 4 rBool 1 := ⟨⟨ti4, by kernel_rfl, by kernel_rfl, by kernel_rfl⟩, ⟨.bool false, by kernel_rfl, rfl⟩, by decide⟩
theorem Y36 : Ty ktab 36 rStableTrack 16 := ⟨⟨ti36, by kernel_rfl, by kernel_rfl, by kernel_rfl⟩, ⟨.agg [.int .i64 0, .bool false], by kernel_rfl, rfl⟩, by decide⟩
theorem Y38 : Ty ktab 38 rSpot 16 := ⟨⟨ti38, by kernel_rfl, by kernel_rfl, by kernel_rfl⟩, ⟨.agg [.int .i64 0, .int .i64 0], by kernel_rfl, rfl⟩, by decide⟩
theorem Y66 : Ty ktab 66 rStableMove 24 := ⟨⟨ti66, by kernel_rfl, by kernel_rfl, by kernel_rfl⟩, ⟨.agg [.int .i64 0, .int .i64 0, .int .i64 0], by kernel_rfl, rfl⟩, by decide⟩
theorem Y73 : Ty ktab 73 (rSlice rSpot) 24 := ⟨⟨ti73, by kernel_rfl, by kernel_rfl, by kernel_rfl⟩, ⟨.nilslice, by kernel_rfl, rfl⟩, by decide⟩
theorem Y81 : Ty ktab 81 rRailEnd 16 := ⟨⟨ti81, by kernel_rfl, by kernel_rfl, by kernel_rfl⟩, ⟨.agg [.int .i64 0, .bool false], by kernel_rfl, rfl⟩, by decide⟩
theorem Y110 : Ty ktab 110 rdepot_wash 40 := ⟨⟨ti110, by kernel_rfl, by kernel_rfl, by kernel_rfl⟩, ⟨.agg [.nilslice, .int .i64 0, .int .i64 0], by kernel_rfl, rfl⟩, by decide⟩
theorem Z3 : Zr ktab 3 (rInt .i64) 0 := ⟨⟨.int .i64 0, by kernel_rfl, fun _ => ⟨zint, rfl⟩⟩⟩
theorem Z4 : Zr ktab 4 rBool false := ⟨⟨.bool false, by kernel_rfl, fun _ => ⟨zbool, rfl⟩⟩⟩
theorem Z38 : Zr ktab 38 rSpot (0, 0, ()) := ⟨⟨.agg [.int .i64 0, .int .i64 0], by kernel_rfl, fun _ => ⟨(zpair zint (zpair zint zunit rfl) rfl), rfl⟩⟩⟩
theorem MP119 : Mp ktab 119 rRailEnd 4 := ⟨⟨81, by kernel_rfl, key_st (fs := fl80) (by kernel_rfl) (by kernel_rfl) rfl (by rw [show fl80.toList = [fi80_0, fi80_1] by kernel_rfl]; exact (kf_int (by kernel_rfl) (by kernel_rfl) (by kernel_rfl) (kf_bool (by kernel_rfl) (by kernel_rfl) (by kernel_rfl) kf_nil)))⟩⟩
theorem MP126 : Mp ktab 126 rRailEnd 3 := ⟨⟨81, by kernel_rfl, key_st (fs := fl80) (by kernel_rfl) (by kernel_rfl) rfl (by rw [show fl80.toList = [fi80_0, fi80_1] by kernel_rfl]; exact (kf_int (by kernel_rfl) (by kernel_rfl) (by kernel_rfl) (kf_bool (by kernel_rfl) (by kernel_rfl) (by kernel_rfl) kf_nil)))⟩⟩
theorem B36 : Stt ktab 36 [.int .i64 0, .bool false] [(0, 1), (1, 1)] := ⟨by kernel_rfl, ⟨fl35, by kernel_rfl, by kernel_rfl⟩⟩
theorem B52 : Stt ktab 52 [.nilslice, .nilslice, .int .i64 0] [(0, 1), (1, 1), (2, 1)] := ⟨by kernel_rfl, ⟨fl51, by kernel_rfl, by kernel_rfl⟩⟩
theorem B66 : Stt ktab 66 [.int .i64 0, .int .i64 0, .int .i64 0] [(0, 1), (1, 1), (2, 1)] := ⟨by kernel_rfl, ⟨fl65, by kernel_rfl, by kernel_rfl⟩⟩
theorem B81 : Stt ktab 81 [.int .i64 0, .bool false] [(0, 1), (1, 1)] := ⟨by kernel_rfl, ⟨fl80, by kernel_rfl, by kernel_rfl⟩⟩
theorem B92 : Stt ktab 92 [.nilslice, .nilslice, .nilslice] [(0, 1), (1, 1), (2, 1)] := ⟨by kernel_rfl, ⟨fl91, by kernel_rfl, by kernel_rfl⟩⟩
theorem B110 : Stt ktab 110 [.nilslice, .int .i64 0, .int .i64 0] [(0, 1), (1, 1), (2, 1)] := ⟨by kernel_rfl, ⟨fl109, by kernel_rfl, by kernel_rfl⟩⟩
theorem B125 : Stt ktab 125 [.int .i64 0, .bool false] [(0, 1), (1, 1)] := ⟨by kernel_rfl, ⟨fl124, by kernel_rfl, by kernel_rfl⟩⟩
theorem Bq178 : Stt ktab 128 [.nilslice, .nilslice, .nilslice, .nilmap] [(0, 2), (2, 1), (3, 1)] := ⟨by kernel_rfl, ⟨fl127, by kernel_rfl, by kernel_rfl⟩⟩
theorem F25_0 : Fld ktab 25 0 22 0 1 := ⟨⟨fl24, fi24_0, by kernel_rfl, by kernel_rfl, by kernel_rfl, by kernel_rfl⟩, by kernel_rfl⟩
theorem F25_1 : Fld ktab 25 1 23 1 1 := ⟨⟨fl24, fi24_1, by kernel_rfl, by kernel_rfl, by kernel_rfl, by kernel_rfl⟩, by kernel_rfl⟩
theorem F36_0 : Fld ktab 36 0 3 0 1 := ⟨⟨fl35, fi35_0, by kernel_rfl, by kernel_rfl, by kernel_rfl, by kernel_rfl⟩, by kernel_rfl⟩
theorem F36_1 : Fld ktab 36 1 4 1 1 := ⟨⟨fl35, fi35_1, by kernel_rfl, by kernel_rfl, by kernel_rfl, by kernel_rfl⟩, by kernel_rfl⟩
theorem F38_0 : Fld ktab 38 0 3 0 1 := ⟨⟨fl37, fi37_0, by kernel_rfl, by kernel_rfl, by kernel_rfl, by kernel_rfl⟩, by kernel_rfl⟩
theorem F38_1 : Fld ktab 38 1 3 1 1 := ⟨⟨fl37, fi37_1, by kernel_rfl, by kernel_rfl, by kernel_rfl, by kernel_rfl⟩, by kernel_rfl⟩
theorem F42_0 : Fld ktab 42 0 38 0 2 := ⟨⟨fl41, fi41_0, by kernel_rfl, by kernel_rfl, by kernel_rfl, by kernel_rfl⟩, by kernel_rfl⟩
theorem F42_1 : Fld ktab 42 1 39 2 1 := ⟨⟨fl41, fi41_1, by kernel_rfl, by kernel_rfl, by kernel_rfl, by kernel_rfl⟩, by kernel_rfl⟩
theorem F42_2 : Fld ktab 42 2 40 3 1 := ⟨⟨fl41, fi41_2, by kernel_rfl, by kernel_rfl, by kernel_rfl, by kernel_rfl⟩, by kernel_rfl⟩
theorem F42_3 : Fld ktab 42 3 3 4 1 := ⟨⟨fl41, fi41_3, by kernel_rfl, by kernel_rfl, by kernel_rfl, by kernel_rfl⟩, by kernel_rfl⟩
theorem F46_0 : Fld ktab 46 0 3 0 1 := ⟨⟨fl45, fi45_0, by kernel_rfl, by kernel_rfl, by kernel_rfl, by kernel_rfl⟩, by kernel_rfl⟩
theorem F46_1 : Fld ktab 46 1 3 1 1 := ⟨⟨fl45, fi45_1, by kernel_rfl, by kernel_rfl, by kernel_rfl, by kernel_rfl⟩, by kernel_rfl⟩
theorem F46_2 : Fld ktab 46 2 3 2 1 := ⟨⟨fl45, fi45_2, by kernel_rfl, by kernel_rfl, by kernel_rfl, by kernel_rfl⟩, by kernel_rfl⟩
theorem F46_3 : Fld ktab 46 3 3 3 1 := ⟨⟨fl45, fi45_3, by kernel_rfl, by kernel_rfl, by kernel_rfl, by kernel_rfl⟩, by kernel_rfl⟩
theorem F49_0 : Fld ktab 49 0 3 0 1 := ⟨⟨fl48, fi48_0, by kernel_rfl, by kernel_rfl, by kernel_rfl, by kernel_rfl⟩, by kernel_rfl⟩
theorem F49_1 : Fld ktab 49 1 3 1 1 := ⟨⟨fl48, fi48_1, by kernel_rfl, by kernel_rfl, by kernel_rfl, by kernel_rfl⟩, by kernel_rfl⟩
theorem F52_0 : Fld ktab 52 0 26 0 1 := ⟨⟨fl51, fi51_0, by kernel_rfl, by kernel_rfl, by kernel_rfl, by kernel_rfl⟩, by kernel_rfl⟩
theorem F52_1 : Fld ktab 52 1 26 1 1 := ⟨⟨fl51, fi51_1, by kernel_rfl, by kernel_rfl, by kernel_rfl, by kernel_rfl⟩, by kernel_rfl⟩
theorem F52_2 : Fld ktab 52 2 3 2 1 := ⟨⟨fl51, fi51_2, by kernel_rfl, by kernel_rfl, by kernel_rfl, by kernel_rfl⟩, by kernel_rfl⟩
theorem F61_0 : Fld ktab 61 0 3 0 1 := ⟨⟨fl60, fi60_0, by kernel_rfl, by kernel_rfl, by kernel_rfl, by kernel_rfl⟩, by kernel_rfl⟩
theorem F61_1 : Fld ktab 61 1 3 1 1 := ⟨⟨fl60, fi60_1, by kernel_rfl, by kernel_rfl, by kernel_rfl, by kernel_rfl⟩, by kernel_rfl⟩
theorem F61_2 : Fld ktab 61 2 3 2 1 := ⟨⟨fl60, fi60_2, by kernel_rfl, by kernel_rfl, by kernel_rfl, by kernel_rfl⟩, by kernel_rfl⟩
theorem F75_0 : Fld ktab 75 0 3 0 1 := ⟨⟨fl74, fi74_0, by kernel_rfl, by kernel_rfl, by kernel_rfl, by kernel_rfl⟩, by kernel_rfl⟩
theorem F75_1 : Fld ktab 75 1 3 1 1 := ⟨⟨fl74, fi74_1, by kernel_rfl, by kernel_rfl, by kernel_rfl, by kernel_rfl⟩, by kernel_rfl⟩
theorem F75_2 : Fld ktab 75 2 73 2 1 := ⟨⟨fl74, fi74_2, by kernel_rfl, by kernel_rfl, by kernel_rfl, by kernel_rfl⟩, by kernel_rfl⟩
theorem F75_3 : Fld ktab 75 3 3 3 1 := ⟨⟨fl74, fi74_3, by kernel_rfl, by kernel_rfl, by kernel_rfl, by kernel_rfl⟩, by kernel_rfl⟩
theorem F75_4 : Fld ktab 75 4 3 4 1 := ⟨⟨fl74, fi74_4, by kernel_rfl, by kernel_rfl, by kernel_rfl, by kernel_rfl⟩, by kernel_rfl⟩
theorem F81_0 : Fld ktab 81 0 3 0 1 := ⟨⟨fl80, fi80_0, by kernel_rfl, by kernel_rfl, by kernel_rfl, by kernel_rfl⟩, by kernel_rfl⟩
theorem F81_1 : Fld ktab 81 1 4 1 1 := ⟨⟨fl80, fi80_1, by kernel_rfl, by kernel_rfl, by kernel_rfl, by kernel_rfl⟩, by kernel_rfl⟩
theorem F92_0 : Fld ktab 92 0 29 0 1 := ⟨⟨fl91, fi91_0, by kernel_rfl, by kernel_rfl, by kernel_rfl, by kernel_rfl⟩, by kernel_rfl⟩
theorem F92_1 : Fld ktab 92 1 47 1 1 := ⟨⟨fl91, fi91_1, by kernel_rfl, by kernel_rfl, by kernel_rfl, by kernel_rfl⟩, by kernel_rfl⟩
theorem F92_2 : Fld ktab 92 2 50 2 1 := ⟨⟨fl91, fi91_2, by kernel_rfl, by kernel_rfl, by kernel_rfl, by kernel_rfl⟩, by kernel_rfl⟩
theorem F110_0 : Fld ktab 110 0 26 0 1 := ⟨⟨fl109, fi109_0, by kernel_rfl, by kernel_rfl, by kernel_rfl, by kernel_rfl⟩, by kernel_rfl⟩
theorem F110_1 : Fld ktab 110 1 3 1 1 := ⟨⟨fl109, fi109_1, by kernel_rfl, by kernel_rfl, by kernel_rfl, by kernel_rfl⟩, by kernel_rfl⟩
theorem F110_2 : Fld ktab 110 2 3 2 1 := ⟨⟨fl109, fi109_2, by kernel_rfl, by kernel_rfl, by kernel_rfl, by kernel_rfl⟩, by kernel_rfl⟩
theorem F125_0 : Fld ktab 125 0 3 0 1 := ⟨⟨fl124, fi124_0, by kernel_rfl, by kernel_rfl, by kernel_rfl, by kernel_rfl⟩, by kernel_rfl⟩
theorem F128_0 : Fld ktab 128 0 25 0 2 := ⟨⟨fl127, fi127_0, by kernel_rfl, by kernel_rfl, by kernel_rfl, by kernel_rfl⟩, by kernel_rfl⟩
theorem F128_1 : Fld ktab 128 1 26 2 1 := ⟨⟨fl127, fi127_1, by kernel_rfl, by kernel_rfl, by kernel_rfl, by kernel_rfl⟩, by kernel_rfl⟩
theorem F128_2 : Fld ktab 128 2 126 3 1 := ⟨⟨fl127, fi127_2, by kernel_rfl, by kernel_rfl, by kernel_rfl, by kernel_rfl⟩, by kernel_rfl⟩
theorem AR142 : Ar1 ktab 142 3 7 (rInt .i64) := ⟨by kernel_rfl, by kernel_rfl, by kernel_rfl, by kernel_rfl, by kernel_rfl, by decide⟩
theorem E35 : SEq ktab 35 rStableTrack (fun x y => x == y) := ⟨⟨fl35, by kernel_rfl, by rw [show fl35.toList = [fi35_0, fi35_1] by kernel_rfl]; exact (.i (of_decide_eq_true (by kernel_rfl)) (by kernel_rfl) (by kernel_rfl) (.b (of_decide_eq_true (by kernel_rfl)) (by kernel_rfl) (by kernel_rfl) .n))⟩, by kernel_rfl, by kernel_rfl⟩
theorem E36 : SEq ktab 36 rStableTrack (fun x y => x == y) := ⟨⟨fl35, by kernel_rfl, by rw [show fl35.toList = [fi35_0, fi35_1] by kernel_rfl]; exact (.i (of_decide_eq_true (by kernel_rfl)) (by kernel_rfl) (by kernel_rfl) (.b (of_decide_eq_true (by kernel_rfl)) (by kernel_rfl) (by kernel_rfl) .n))⟩, by kernel_rfl, by kernel_rfl⟩
theorem E80 : SEq ktab 80 rRailEnd (fun x y => x == y) := ⟨⟨fl80, by kernel_rfl, by rw [show fl80.toList = [fi80_0, fi80_1] by kernel_rfl]; exact (.i (of_decide_eq_true (by kernel_rfl)) (by kernel_rfl) (by kernel_rfl) (.b (of_decide_eq_true (by kernel_rfl)) (by kernel_rfl) (by kernel_rfl) .n))⟩, by kernel_rfl, by kernel_rfl⟩
theorem E81 : SEq ktab 81 rRailEnd (fun x y => x == y) := ⟨⟨fl80, by kernel_rfl, by rw [show fl80.toList = [fi80_0, fi80_1] by kernel_rfl]; exact (.i (of_decide_eq_true (by kernel_rfl)) (by kernel_rfl) (by kernel_rfl) (.b (of_decide_eq_true (by kernel_rfl)) (by kernel_rfl) (by kernel_rfl) .n))⟩, by kernel_rfl, by kernel_rfl⟩
instance : iU ktab 107 (rSlice rdepot_wash) := ⟨U107⟩
instance : iU ktab 110 rdepot_wash := ⟨U110⟩
instance : iU ktab 126 (rMap rRailEnd (rInt .i64)) := ⟨U126⟩
instance : iU ktab 131 (rSlice rBool) := ⟨U131⟩
instance : iU ktab 22 (rSlice rANode) := ⟨U22⟩
instance : iU ktab 23 (rSlice rRail) := ⟨U23⟩
instance : iU ktab 25 rPlan := ⟨U25⟩
instance : iU ktab 26 (rSlice (rInt .i64)) := ⟨U26⟩
instance : iU ktab 29 (rSlice rStableTrack) := ⟨U29⟩
instance : iU ktab 3 (rInt .i64) := ⟨U3⟩
instance : iU ktab 36 rStableTrack := ⟨U36⟩
instance : iU ktab 38 rSpot := ⟨U38⟩
instance : iU ktab 39 (rInt .i64) := ⟨U39⟩
instance : iU ktab 4 rBool := ⟨U4⟩
instance : iU ktab 40 (rSlice rRailEnd) := ⟨U40⟩
instance : iU ktab 42 rANode := ⟨U42⟩
instance : iU ktab 46 rStableCar := ⟨U46⟩
instance : iU ktab 47 (rSlice rStableCar) := ⟨U47⟩
instance : iU ktab 49 rStableLeave := ⟨U49⟩
instance : iU ktab 50 (rSlice rStableLeave) := ⟨U50⟩
instance : iU ktab 52 rStablePlan := ⟨U52⟩
instance : iU ktab 55 (rSlice rStableMove) := ⟨U55⟩
instance : iU ktab 61 rWashJob := ⟨U61⟩
instance : iU ktab 62 (rSlice rWashJob) := ⟨U62⟩
instance : iU ktab 73 (rSlice rSpot) := ⟨U73⟩
instance : iU ktab 75 rRail := ⟨U75⟩
instance : iU ktab 81 rRailEnd := ⟨U81⟩
instance : iU ktab 85 (rFn ktab (Int × Int) (Bool) (fun x => [.val (rInt .i64) (x.1), .val (rInt .i64) (x.2)]) (fun y => [.val rBool (y)])) := ⟨U85⟩
instance : iU ktab 90 (rPtr rdepot_night) := ⟨U90⟩
instance : iS ktab 22 rANode 42 := ⟨S22⟩
instance : iS ktab 23 rRail 75 := ⟨S23⟩
instance : iS ktab 26 (rInt .i64) 3 := ⟨S26⟩
instance : iS ktab 29 rStableTrack 36 := ⟨S29⟩
instance : iS ktab 40 rRailEnd 81 := ⟨S40⟩
instance : iS ktab 47 rStableCar 46 := ⟨S47⟩
instance : iS ktab 50 rStableLeave 49 := ⟨S50⟩
instance : iS ktab 55 rStableMove 66 := ⟨S55⟩
instance : iS ktab 62 rWashJob 61 := ⟨S62⟩
instance : iS ktab 73 rSpot 38 := ⟨S73⟩
instance : iS ktab 86 (rInt .i64) 3 := ⟨S86⟩
instance : iS ktab 107 rdepot_wash 110 := ⟨S107⟩
instance : iS ktab 131 rBool 4 := ⟨S131⟩
instance : iS ktab 149 (rSlice rSpot) 73 := ⟨S149⟩
instance : iY ktab 3 (rInt .i64) 8 := ⟨Y3⟩
instance : iY ktab 4 rBool 1 := ⟨Y4⟩
instance : iY ktab 36 rStableTrack 16 := ⟨Y36⟩
instance : iY ktab 38 rSpot 16 := ⟨Y38⟩
instance : iY ktab 66 rStableMove 24 := ⟨Y66⟩
instance : iY ktab 73 (rSlice rSpot) 24 := ⟨Y73⟩
instance : iY ktab 81 rRailEnd 16 := ⟨Y81⟩
instance : iY ktab 110 rdepot_wash 40 := ⟨Y110⟩
instance : iZ ktab 3 (rInt .i64) 0 := ⟨Z3⟩
instance : iZ ktab 4 rBool false := ⟨Z4⟩
instance : iZ ktab 38 rSpot (0, 0, ()) := ⟨Z38⟩
instance : iB ktab 36 rStableTrack [.int .i64 0, .bool false] [(0, 1), (1, 1)] := ⟨B36, rfl⟩
instance : iB ktab 52 rStablePlan [.nilslice, .nilslice, .int .i64 0] [(0, 1), (1, 1), (2, 1)] := ⟨B52, rfl⟩
instance : iB ktab 66 rStableMove [.int .i64 0, .int .i64 0, .int .i64 0] [(0, 1), (1, 1), (2, 1)] := ⟨B66, rfl⟩
instance : iB ktab 81 rRailEnd [.int .i64 0, .bool false] [(0, 1), (1, 1)] := ⟨B81, rfl⟩
instance : iB ktab 92 rdepot_night [.nilslice, .nilslice, .nilslice] [(0, 1), (1, 1), (2, 1)] := ⟨B92, rfl⟩
instance : iB ktab 110 rdepot_wash [.nilslice, .int .i64 0, .int .i64 0] [(0, 1), (1, 1), (2, 1)] := ⟨B110, rfl⟩
instance : iB ktab 125 rAMove [.int .i64 0, .bool false] [(0, 1), (1, 1)] := ⟨B125, rfl⟩
instance : iF ktab 25 0 rPlan (rSlice rANode) 22 0 (fun x => x.1) (fun x y => (y, x.2.1, ())) := ⟨F25_0, fk_Plan_0, by decide⟩
instance : iF ktab 25 1 rPlan (rSlice rRail) 23 1 (fun x => x.2.1) (fun x y => (x.1, y, ())) := ⟨F25_1, fk_Plan_1, by decide⟩
instance : iF ktab 36 0 rStableTrack (rInt .i64) 3 0 (fun x => x.1) (fun x y => (y, x.2.1, ())) := ⟨F36_0, fk_StableTrack_0, by decide⟩
instance : iF ktab 36 1 rStableTrack rBool 4 1 (fun x => x.2.1) (fun x y => (x.1, y, ())) := ⟨F36_1, fk_StableTrack_1, by decide⟩
instance : iF ktab 38 0 rSpot (rInt .i64) 3 0 (fun x => x.1) (fun x y => (y, x.2.1, ())) := ⟨F38_0, fk_Spot_0, by decide⟩
instance : iF ktab 38 1 rSpot (rInt .i64) 3 1 (fun x => x.2.1) (fun x y => (x.1, y, ())) := ⟨F38_1, fk_Spot_1, by decide⟩
instance : iF ktab 42 0 rANode rSpot 38 0 (fun x => x.1) (fun x y => (y, x.2.1, x.2.2.1, x.2.2.2.1, ())) := ⟨F42_0, fk_ANode_0, by decide⟩
instance : iF ktab 42 1 rANode (rInt .i64) 39 2 (fun x => x.2.1) (fun x y => (x.1, y, x.2.2.1, x.2.2.2.1, ())) := ⟨F42_1, fk_ANode_1, by decide⟩
instance : iF ktab 42 2 rANode (rSlice rRailEnd) 40 3 (fun x => x.2.2.1) (fun x y => (x.1, x.2.1, y, x.2.2.2.1, ())) := ⟨F42_2, fk_ANode_2, by decide⟩
instance : iF ktab 42 3 rANode (rInt .i64) 3 4 (fun x => x.2.2.2.1) (fun x y => (x.1, x.2.1, x.2.2.1, y, ())) := ⟨F42_3, fk_ANode_3, by decide⟩
instance : iF ktab 46 0 rStableCar (rInt .i64) 3 0 (fun x => x.1) (fun x y => (y, x.2.1, x.2.2.1, x.2.2.2.1, ())) := ⟨F46_0, fk_StableCar_0, by decide⟩
instance : iF ktab 46 1 rStableCar (rInt .i64) 3 1 (fun x => x.2.1) (fun x y => (x.1, y, x.2.2.1, x.2.2.2.1, ())) := ⟨F46_1, fk_StableCar_1, by decide⟩
instance : iF ktab 46 2 rStableCar (rInt .i64) 3 2 (fun x => x.2.2.1) (fun x y => (x.1, x.2.1, y, x.2.2.2.1, ())) := ⟨F46_2, fk_StableCar_2, by decide⟩
instance : iF ktab 46 3 rStableCar (rInt .i64) 3 3 (fun x => x.2.2.2.1) (fun x y => (x.1, x.2.1, x.2.2.1, y, ())) := ⟨F46_3, fk_StableCar_3, by decide⟩
instance : iF ktab 49 0 rStableLeave (rInt .i64) 3 0 (fun x => x.1) (fun x y => (y, x.2.1, ())) := ⟨F49_0, fk_StableLeave_0, by decide⟩
instance : iF ktab 49 1 rStableLeave (rInt .i64) 3 1 (fun x => x.2.1) (fun x y => (x.1, y, ())) := ⟨F49_1, fk_StableLeave_1, by decide⟩
instance : iF ktab 52 0 rStablePlan (rSlice (rInt .i64)) 26 0 (fun x => x.1) (fun x y => (y, x.2.1, x.2.2.1, ())) := ⟨F52_0, fk_StablePlan_0, by decide⟩
instance : iF ktab 52 1 rStablePlan (rSlice (rInt .i64)) 26 1 (fun x => x.2.1) (fun x y => (x.1, y, x.2.2.1, ())) := ⟨F52_1, fk_StablePlan_1, by decide⟩
instance : iF ktab 52 2 rStablePlan (rInt .i64) 3 2 (fun x => x.2.2.1) (fun x y => (x.1, x.2.1, y, ())) := ⟨F52_2, fk_StablePlan_2, by decide⟩
instance : iF ktab 61 0 rWashJob (rInt .i64) 3 0 (fun x => x.1) (fun x y => (y, x.2.1, x.2.2.1, ())) := ⟨F61_0, fk_WashJob_0, by decide⟩
instance : iF ktab 61 1 rWashJob (rInt .i64) 3 1 (fun x => x.2.1) (fun x y => (x.1, y, x.2.2.1, ())) := ⟨F61_1, fk_WashJob_1, by decide⟩
instance : iF ktab 61 2 rWashJob (rInt .i64) 3 2 (fun x => x.2.2.1) (fun x y => (x.1, x.2.1, y, ())) := ⟨F61_2, fk_WashJob_2, by decide⟩
instance : iF ktab 75 0 rRail (rInt .i64) 3 0 (fun x => x.1) (fun x y => (y, x.2.1, x.2.2.1, x.2.2.2.1, x.2.2.2.2.1, ())) := ⟨F75_0, fk_Rail_0, by decide⟩
instance : iF ktab 75 1 rRail (rInt .i64) 3 1 (fun x => x.2.1) (fun x y => (x.1, y, x.2.2.1, x.2.2.2.1, x.2.2.2.2.1, ())) := ⟨F75_1, fk_Rail_1, by decide⟩
instance : iF ktab 75 2 rRail (rSlice rSpot) 73 2 (fun x => x.2.2.1) (fun x y => (x.1, x.2.1, y, x.2.2.2.1, x.2.2.2.2.1, ())) := ⟨F75_2, fk_Rail_2, by decide⟩
instance : iF ktab 75 3 rRail (rInt .i64) 3 3 (fun x => x.2.2.2.1) (fun x y => (x.1, x.2.1, x.2.2.1, y, x.2.2.2.2.1, ())) := ⟨F75_3, fk_Rail_3, by decide⟩
instance : iF ktab 75 4 rRail (rInt .i64) 3 4 (fun x => x.2.2.2.2.1) (fun x y => (x.1, x.2.1, x.2.2.1, x.2.2.2.1, y, ())) := ⟨F75_4, fk_Rail_4, by decide⟩
instance : iF ktab 81 0 rRailEnd (rInt .i64) 3 0 (fun x => x.1) (fun x y => (y, x.2.1, ())) := ⟨F81_0, fk_RailEnd_0, by decide⟩
instance : iF ktab 81 1 rRailEnd rBool 4 1 (fun x => x.2.1) (fun x y => (x.1, y, ())) := ⟨F81_1, fk_RailEnd_1, by decide⟩
instance : iF ktab 92 0 rdepot_night (rSlice rStableTrack) 29 0 (fun x => x.1) (fun x y => (y, x.2.1, x.2.2.1, ())) := ⟨F92_0, fk_depot_night_0, by decide⟩
instance : iF ktab 92 1 rdepot_night (rSlice rStableCar) 47 1 (fun x => x.2.1) (fun x y => (x.1, y, x.2.2.1, ())) := ⟨F92_1, fk_depot_night_1, by decide⟩
instance : iF ktab 92 2 rdepot_night (rSlice rStableLeave) 50 2 (fun x => x.2.2.1) (fun x y => (x.1, x.2.1, y, ())) := ⟨F92_2, fk_depot_night_2, by decide⟩
instance : iF ktab 110 0 rdepot_wash (rSlice (rInt .i64)) 26 0 (fun x => x.1) (fun x y => (y, x.2.1, x.2.2.1, ())) := ⟨F110_0, fk_depot_wash_0, by decide⟩
instance : iF ktab 110 1 rdepot_wash (rInt .i64) 3 1 (fun x => x.2.1) (fun x y => (x.1, y, x.2.2.1, ())) := ⟨F110_1, fk_depot_wash_1, by decide⟩
instance : iF ktab 110 2 rdepot_wash (rInt .i64) 3 2 (fun x => x.2.2.1) (fun x y => (x.1, x.2.1, y, ())) := ⟨F110_2, fk_depot_wash_2, by decide⟩
instance : iF ktab 125 0 rAMove (rInt .i64) 3 0 (fun x => x.1) (fun x y => (y, x.2.1, ())) := ⟨F125_0, fk_AMove_0, by decide⟩
instance : iF ktab 128 0 rtrack_network rPlan 25 0 (fun x => x.1) (fun x y => (y, x.2.1, x.2.2.1, ())) := ⟨F128_0, fk_track_network_0, by decide⟩
instance : iF ktab 128 1 rtrack_network (rSlice (rInt .i64)) 26 2 (fun x => x.2.1) (fun x y => (x.1, y, x.2.2.1, ())) := ⟨F128_1, fk_track_network_1, by decide⟩
instance : iF ktab 128 2 rtrack_network (rMap rRailEnd (rInt .i64)) 126 3 (fun x => x.2.2.1) (fun x y => (x.1, x.2.1, y, ())) := ⟨F128_2, fk_track_network_2, by decide⟩
instance : iA ktab 142 (rInt .i64) 3 7 := ⟨AR142⟩
instance : iE ktab 35 rStableTrack (fun x y => x == y) := ⟨E35, rfl⟩
instance : iE ktab 36 rStableTrack (fun x y => x == y) := ⟨E36, rfl⟩
instance : iE ktab 80 rRailEnd (fun x y => x == y) := ⟨E80, rfl⟩
instance : iE ktab 81 rRailEnd (fun x y => x == y) := ⟨E81, rfl⟩
end Go.Ai.TabYtmnbnppfidghoaa

/- What the rows of this seat ask, of the abstract interpreter. -/
namespace Go.Ai.TabYtmnbnppfidghoaa
open Go Go.Ai Go.Ai.Sx Go.Proofs Go.Proofs.Ytmnbnppfidghoaa
theorem own : ownKnob Try.prog.godebug = none := by kernel_rfl
theorem laidOut : laidOutB Try.prog = true := by kernel_rfl
theorem begun : decide (Try.prog.globals.size < (begin Try.prog (fun _ _ => 0) default).world.heap.size) = true := by kernel_rfl
theorem notEmpty {W : World} (h : W.ShapedOpen Try.prog) : 0 < W.heap.size := by
 obtain ⟨o, _, ho, _⟩ := h.2 Try.prog.globals.size (Nat.le_refl _) (of_decide_eq_true begun)
 have := (Array.getElem?_eq_some_iff.1 ho).1
 omega
theorem opensF_at {P : Program} {A B : Type} {f : Field} {fs : List Field} {o : Nat} {t : TypeId} {R : Rep A} {S : Rep B} (hf : f.offset = o) (ht : f.type = t) (ho : Opens P t R) (hs : OpensF P fs (o + R.sz) S) : OpensF P (f :: fs) o (rPair R S) := by
 subst ht
 exact opensF_cons hf ho hs
noncomputable def lfl37 : Array Field := match Try.t37.desc with | .struct fs => fs | _ => #[]
noncomputable def lfi37_0 : Field := lfl37[0]!
noncomputable def lfi37_1 : Field := lfl37[1]!
noncomputable def lfl80 : Array Field := match Try.t80.desc with | .struct fs => fs | _ => #[]
noncomputable def lfi80_0 : Field := lfl80[0]!
noncomputable def lfi80_1 : Field := lfl80[1]!
noncomputable def lfl41 : Array Field := match Try.t41.desc with | .struct fs => fs | _ => #[]
noncomputable def lfi41_0 : Field := lfl41[0]!
noncomputable def lfi41_1 : Field := lfl41[1]!
noncomputable def lfi41_2 : Field := lfl41[2]!
noncomputable def lfi41_3 : Field := lfl41[3]!
noncomputable def lfl74 : Array Field := match Try.t74.desc with | .struct fs => fs | _ => #[]
noncomputable def lfi74_0 : Field := lfl74[0]!
noncomputable def lfi74_1 : Field := lfl74[1]!
noncomputable def lfi74_2 : Field := lfl74[2]!
noncomputable def lfi74_3 : Field := lfl74[3]!
noncomputable def lfi74_4 : Field := lfl74[4]!
noncomputable def lfl24 : Array Field := match Try.t24.desc with | .struct fs => fs | _ => #[]
noncomputable def lfi24_0 : Field := lfl24[0]!
noncomputable def lfi24_1 : Field := lfl24[1]!
theorem o3 : Opens Try.prog 3 (rInt .i64) := opens_int (by kernel_rfl) (by kernel_rfl)
theorem o38 : Opens Try.prog 38 rSpot := opens_struct (fs := lfl37) (by kernel_rfl) (by kernel_rfl) rfl (by
 rw [show lfl37.toList = [lfi37_0, lfi37_1] by kernel_rfl]
 exact (opensF_at (by kernel_rfl) (by kernel_rfl) o3 (opensF_at (by kernel_rfl) (by kernel_rfl) o3 (opensF_nil _))))
theorem o39 : Opens Try.prog 39 (rInt .i64) := opens_int (by kernel_rfl) (by kernel_rfl)
theorem o4 : Opens Try.prog 4 rBool := opens_bool (by kernel_rfl) (by kernel_rfl)
theorem o81 : Opens Try.prog 81 rRailEnd := opens_struct (fs := lfl80) (by kernel_rfl) (by kernel_rfl) rfl (by
 rw [show lfl80.toList = [lfi80_0, lfi80_1] by kernel_rfl]
 exact (opensF_at (by kernel_rfl) (by kernel_rfl) o3 (opensF_at (by kernel_rfl) (by kernel_rfl) o4 (opensF_nil _))))
theorem o40 : Opens Try.prog 40 (rSlice rRailEnd) := opens_slice (by kernel_rfl) (by kernel_rfl) o81 (by decide)
theorem o42 : Opens Try.prog 42 rANode := opens_struct (fs := lfl41) (by kernel_rfl) (by kernel_rfl) rfl (by
 rw [show lfl41.toList = [lfi41_0, lfi41_1, lfi41_2, lfi41_3] by kernel_rfl]
 exact (opensF_at (by kernel_rfl) (by kernel_rfl) o38 (opensF_at (by kernel_rfl) (by kernel_rfl) o39 (opensF_at (by kernel_rfl) (by kernel_rfl) o40 (opensF_at (by kernel_rfl) (by kernel_rfl) o3 (opensF_nil _))))))
theorem o22 : Opens Try.prog 22 (rSlice rANode) := opens_slice (by kernel_rfl) (by kernel_rfl) o42 (by decide)
theorem o73 : Opens Try.prog 73 (rSlice rSpot) := opens_slice (by kernel_rfl) (by kernel_rfl) o38 (by decide)
theorem o75 : Opens Try.prog 75 rRail := opens_struct (fs := lfl74) (by kernel_rfl) (by kernel_rfl) rfl (by
 rw [show lfl74.toList = [lfi74_0, lfi74_1, lfi74_2, lfi74_3, lfi74_4] by kernel_rfl]
 exact (opensF_at (by kernel_rfl) (by kernel_rfl) o3 (opensF_at (by kernel_rfl) (by kernel_rfl) o3 (opensF_at (by kernel_rfl) (by kernel_rfl) o73 (opensF_at (by kernel_rfl) (by kernel_rfl) o3 (opensF_at (by kernel_rfl) (by kernel_rfl) o3 (opensF_nil _)))))))
theorem o23 : Opens Try.prog 23 (rSlice rRail) := opens_slice (by kernel_rfl) (by kernel_rfl) o75 (by decide)
theorem o25 : Opens Try.prog 25 rPlan := opens_struct (fs := lfl24) (by kernel_rfl) (by kernel_rfl) rfl (by
 rw [show lfl24.toList = [lfi24_0, lfi24_1] by kernel_rfl]
 exact (opensF_at (by kernel_rfl) (by kernel_rfl) o22 (opensF_at (by kernel_rfl) (by kernel_rfl) o23 (opensF_nil _))))
theorem o26 : Opens Try.prog 26 (rSlice (rInt .i64)) := opens_slice (by kernel_rfl) (by kernel_rfl) o3 (by decide)
end Go.Ai.TabYtmnbnppfidghoaa
