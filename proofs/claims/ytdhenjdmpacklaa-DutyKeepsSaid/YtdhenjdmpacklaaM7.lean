/- Written by program: the facts of the tables, and the walks through the functions. -/
import Derived.Test.YtdhenjdmpacklaaM5
import Derived.KernelRfl
import Derived.Test.YtdhenjdmpacklaaM6
import Derived.Test.YtdhenjdmpacklaaM4
import Derived.Test.YtdhenjdmpacklaaRows
import Derived.WalkKit
import Derived.ProofKit
namespace Go.Ai.TabYtdhenjdmpacklaa
open Go Go.Ai Go.Ai.Sx Go.Proofs
attribute [local irreducible] SOps
noncomputable def fl25 : Array Field := match Try.t25.desc with | .struct fs => fs | _ => #[]
noncomputable def fl30 : Array Field := match Try.t30.desc with | .struct fs => fs | _ => #[]
noncomputable def fl41 : Array Field := match Try.t41.desc with | .struct fs => fs | _ => #[]
noncomputable def fl61 : Array Field := match Try.t61.desc with | .struct fs => fs | _ => #[]
noncomputable def fl77 : Array Field := match Try.t77.desc with | .struct fs => fs | _ => #[]
noncomputable def fl80 : Array Field := match Try.t80.desc with | .struct fs => fs | _ => #[]
noncomputable def fl86 : Array Field := match Try.t86.desc with | .struct fs => fs | _ => #[]
noncomputable def fl95 : Array Field := match Try.t95.desc with | .struct fs => fs | _ => #[]
noncomputable def fl98 : Array Field := match Try.t98.desc with | .struct fs => fs | _ => #[]
noncomputable def fl118 : Array Field := match Try.t118.desc with | .struct fs => fs | _ => #[]
noncomputable def fi25_0 : Field := fl25[0]!
noncomputable def fi25_1 : Field := fl25[1]!
noncomputable def fi25_2 : Field := fl25[2]!
noncomputable def fi30_0 : Field := fl30[0]!
noncomputable def fi30_1 : Field := fl30[1]!
noncomputable def fi41_0 : Field := fl41[0]!
noncomputable def fi41_1 : Field := fl41[1]!
noncomputable def fi41_2 : Field := fl41[2]!
noncomputable def fi41_3 : Field := fl41[3]!
noncomputable def fi41_4 : Field := fl41[4]!
noncomputable def fi41_5 : Field := fl41[5]!
noncomputable def fi61_0 : Field := fl61[0]!
noncomputable def fi77_0 : Field := fl77[0]!
noncomputable def fi77_1 : Field := fl77[1]!
noncomputable def fi77_2 : Field := fl77[2]!
noncomputable def fi80_0 : Field := fl80[0]!
noncomputable def fi80_1 : Field := fl80[1]!
noncomputable def fi86_0 : Field := fl86[0]!
noncomputable def fi86_1 : Field := fl86[1]!
noncomputable def fi86_2 : Field := fl86[2]!
noncomputable def fi86_3 : Field := fl86[3]!
noncomputable def fi95_0 : Field := fl95[0]!
noncomputable def fi95_1 : Field := fl95[1]!
noncomputable def fi98_0 : Field := fl98[0]!
noncomputable def fi98_1 : Field := fl98[1]!
noncomputable def fi98_2 : Field := fl98[2]!
noncomputable def fi118_0 : Field := fl118[0]!
noncomputable def fi118_1 : Field := fl118[1]!
noncomputable def fi118_2 : Field := fl118[2]!
theorem K3 : ktab.und 3 = some (.int .i64) := by kernel_rfl
theorem K4 : ktab.und 4 = some .bool := by kernel_rfl
theorem K94 : ktab.und 94 = some (.int .u64) := by kernel_rfl
theorem U22 : Und ktab 22 (rSlice rTask) := ⟨by kernel_rfl, by kernel_rfl⟩
theorem U23 : Und ktab 23 (rSlice (rSlice (rInt .i64))) := ⟨by kernel_rfl, by kernel_rfl⟩
theorem U24 : Und ktab 24 (rSlice rBool) := ⟨by kernel_rfl, by kernel_rfl⟩
theorem U26 : Und ktab 26 rYard := ⟨by kernel_rfl, by kernel_rfl⟩
theorem U29 : Und ktab 29 (rSlice (rInt .i64)) := ⟨by kernel_rfl, by kernel_rfl⟩
theorem U3 : Und ktab 3 (rInt .i64) := ⟨by kernel_rfl, by kernel_rfl⟩
theorem U31 : Und ktab 31 rDutyProof := ⟨by kernel_rfl, by kernel_rfl⟩
theorem U4 : Und ktab 4 rBool := ⟨by kernel_rfl, by kernel_rfl⟩
theorem U42 : Und ktab 42 rWorkRules := ⟨by kernel_rfl, by kernel_rfl⟩
theorem U60 : Und ktab 60 (rSlice rDutyPiece) := ⟨by kernel_rfl, by kernel_rfl⟩
theorem U62 : Und ktab 62 rDuty := ⟨by kernel_rfl, by kernel_rfl⟩
theorem U68 : Und ktab 68 (rInt .i64) := ⟨by kernel_rfl, by kernel_rfl⟩
theorem U78 : Und ktab 78 rDutyPiece := ⟨by kernel_rfl, by kernel_rfl⟩
theorem U79 : Und ktab 79 (rPtr rduty_work) := ⟨by kernel_rfl, by kernel_rfl⟩
theorem U87 : Und ktab 87 rTask := ⟨by kernel_rfl, by kernel_rfl⟩
theorem U89 : Und ktab 89 (rPtr rduty_crew) := ⟨by kernel_rfl, by kernel_rfl⟩
theorem U92 : Und ktab 92 (rSlice rduty_option) := ⟨by kernel_rfl, by kernel_rfl⟩
theorem U94 : Und ktab 94 (rInt .u64) := ⟨by kernel_rfl, by kernel_rfl⟩
theorem U96 : Und ktab 96 rduty_cost := ⟨by kernel_rfl, by kernel_rfl⟩
theorem U99 : Und ktab 99 rduty_option := ⟨by kernel_rfl, by kernel_rfl⟩
theorem S22 : Sl ktab 22 87 rTask := ⟨by kernel_rfl, by kernel_rfl, by kernel_rfl, by decide⟩
theorem S23 : Sl ktab 23 29 (rSlice (rInt .i64)) := ⟨by kernel_rfl, by kernel_rfl, by kernel_rfl, by decide⟩
theorem S24 : Sl ktab 24 4 rBool := ⟨by kernel_rfl, by kernel_rfl, by kernel_rfl, by decide⟩
theorem S29 : Sl ktab 29 3 (rInt .i64) := ⟨by kernel_rfl, by kernel_rfl, by kernel_rfl, by decide⟩
theorem S44 : Sl ktab 44 62 rDuty := ⟨by kernel_rfl, by kernel_rfl, by kernel_rfl, by decide⟩
theorem S60 : Sl ktab 60 78 rDutyPiece := ⟨by kernel_rfl, by kernel_rfl, by kernel_rfl, by decide⟩
theorem S63 : Sl ktab 63 68 (rInt .i64) := ⟨by kernel_rfl, by kernel_rfl, by kernel_rfl, by decide⟩
theorem S92 : Sl ktab 92 99 rduty_option := ⟨by kernel_rfl, by kernel_rfl, by kernel_rfl, by decide⟩
theorem Y3 : Ty ktab 3 (rInt .i64) 8 := ⟨⟨ti3, by kernel_rfl, by kernel_rfl, by kernel_rfl⟩, ⟨.int .i64 0, by kernel_rfl, rfl⟩, by decide⟩
theorem Y4 : Ty ktab 4 rBool 1 := ⟨⟨ti4, by kernel_rfl, by kernel_rfl, by kernel_rfl⟩, ⟨.bool false, by kernel_rfl, rfl⟩, by decide⟩
theorem Y29 : Ty ktab 29 (rSlice (rInt .i64)) 24 := ⟨⟨ti29, by kernel_rfl, by kernel_rfl, by kernel_rfl⟩, ⟨.nilslice, by kernel_rfl, rfl⟩, by decide⟩
theorem Y62 : Ty ktab 62 rDuty 24 := ⟨⟨ti62, by kernel_rfl, by kernel_rfl, by kernel_rfl⟩, ⟨.agg [.nilslice], by kernel_rfl, rfl⟩, by decide⟩
theorem Y68 : Ty ktab 68 (rInt .i64) 8 := ⟨⟨ti68, by kernel_rfl, by kernel_rfl, by kernel_rfl⟩, ⟨.int .i64 0, by kernel_rfl, rfl⟩, by decide⟩
theorem Y78 : Ty ktab 78 rDutyPiece 24 := ⟨⟨ti78, by kernel_rfl, by kernel_rfl, by kernel_rfl⟩, ⟨.agg [.int .i64 0, .int .i64 0, .int .i64 0], by kernel_rfl, rfl⟩, by decide⟩
theorem Y87 : Ty ktab 87 rTask 32 := ⟨⟨ti87, by kernel_rfl, by kernel_rfl, by kernel_rfl⟩, ⟨.agg [.int .i64 0, .int .i64 0, .int .i64 0, .int .i64 0], by kernel_rfl, rfl⟩, by decide⟩
theorem Y99 : Ty ktab 99 rduty_option 40 := ⟨⟨ti99, by kernel_rfl, by kernel_rfl, by kernel_rfl⟩, ⟨.agg [.nilslice, .int .u64 0, .int .i64 0], by kernel_rfl, rfl⟩, by decide⟩
theorem Z3 : Zr ktab 3 (rInt .i64) 0 := ⟨⟨.int .i64 0, by kernel_rfl, fun _ => ⟨zint, rfl⟩⟩⟩
theorem Z4 : Zr ktab 4 rBool false := ⟨⟨.bool false, by kernel_rfl, fun _ => ⟨zbool, rfl⟩⟩⟩
theorem Z96 : Zr ktab 96 rduty_cost (0, 0, ()) := ⟨⟨.agg [.int .i64 0, .int .i64 0], by kernel_rfl, fun _ => ⟨(zpair zint (zpair zint zunit rfl) rfl), rfl⟩⟩⟩
theorem UR83 : Und ktab 83 rRaw := ⟨by kernel_rfl, by kernel_rfl⟩
theorem UR108 : Und ktab 108 rRaw := ⟨by kernel_rfl, by kernel_rfl⟩
theorem MP97 : Mp ktab 97 .u64 96 := ⟨⟨94, by kernel_rfl, by kernel_rfl⟩⟩
theorem B26 : Stt ktab 26 [.nilslice, .int .i64 0, .nilslice] [(0, 1), (1, 1), (2, 1)] := ⟨by kernel_rfl, ⟨fl25, by kernel_rfl, by kernel_rfl⟩⟩
theorem B31 : Stt ktab 31 [.nilslice, .nilslice] [(0, 1), (1, 1)] := ⟨by kernel_rfl, ⟨fl30, by kernel_rfl, by kernel_rfl⟩⟩
theorem B42 : Stt ktab 42 [.int .i64 0, .int .i64 0, .int .i64 0, .int .i64 0, .int .i64 0, .int .i64 0] [(0, 1), (1, 1), (2, 1), (3, 1), (4, 1), (5, 1)] := ⟨by kernel_rfl, ⟨fl41, by kernel_rfl, by kernel_rfl⟩⟩
theorem B62 : Stt ktab 62 [.nilslice] [(0, 1)] := ⟨by kernel_rfl, ⟨fl61, by kernel_rfl, by kernel_rfl⟩⟩
theorem B78 : Stt ktab 78 [.int .i64 0, .int .i64 0, .int .i64 0] [(0, 1), (1, 1), (2, 1)] := ⟨by kernel_rfl, ⟨fl77, by kernel_rfl, by kernel_rfl⟩⟩
theorem B81 : Stt ktab 81 [.nilslice, .nilslice, .int .i64 0, .nilslice] [(0, 1), (1, 3)] := ⟨by kernel_rfl, ⟨fl80, by kernel_rfl, by kernel_rfl⟩⟩
theorem B87 : Stt ktab 87 [.int .i64 0, .int .i64 0, .int .i64 0, .int .i64 0] [(0, 1), (1, 1), (2, 1), (3, 1)] := ⟨by kernel_rfl, ⟨fl86, by kernel_rfl, by kernel_rfl⟩⟩
theorem B96 : Stt ktab 96 [.int .i64 0, .int .i64 0] [(0, 1), (1, 1)] := ⟨by kernel_rfl, ⟨fl95, by kernel_rfl, by kernel_rfl⟩⟩
theorem B99 : Stt ktab 99 [.nilslice, .int .u64 0, .int .i64 0] [(0, 1), (1, 1), (2, 1)] := ⟨by kernel_rfl, ⟨fl98, by kernel_rfl, by kernel_rfl⟩⟩
theorem B119 : Stt ktab 119 [.nilptr, .nilslice, .int .i64 0, .int .i64 0, .int .i64 0, .int .i64 0, .int .i64 0, .int .i64 0] [(0, 1), (1, 1), (2, 6)] := ⟨by kernel_rfl, ⟨fl118, by kernel_rfl, by kernel_rfl⟩⟩
theorem F26_0 : Fld ktab 26 0 23 0 1 := ⟨⟨fl25, fi25_0, by kernel_rfl, by kernel_rfl, by kernel_rfl, by kernel_rfl⟩, by kernel_rfl⟩
theorem F26_1 : Fld ktab 26 1 3 1 1 := ⟨⟨fl25, fi25_1, by kernel_rfl, by kernel_rfl, by kernel_rfl, by kernel_rfl⟩, by kernel_rfl⟩
theorem F26_2 : Fld ktab 26 2 24 2 1 := ⟨⟨fl25, fi25_2, by kernel_rfl, by kernel_rfl, by kernel_rfl, by kernel_rfl⟩, by kernel_rfl⟩
theorem F31_0 : Fld ktab 31 0 29 0 1 := ⟨⟨fl30, fi30_0, by kernel_rfl, by kernel_rfl, by kernel_rfl, by kernel_rfl⟩, by kernel_rfl⟩
theorem F31_1 : Fld ktab 31 1 29 1 1 := ⟨⟨fl30, fi30_1, by kernel_rfl, by kernel_rfl, by kernel_rfl, by kernel_rfl⟩, by kernel_rfl⟩
theorem F42_0 : Fld ktab 42 0 3 0 1 := ⟨⟨fl41, fi41_0, by kernel_rfl, by kernel_rfl, by kernel_rfl, by kernel_rfl⟩, by kernel_rfl⟩
theorem F42_1 : Fld ktab 42 1 3 1 1 := ⟨⟨fl41, fi41_1, by kernel_rfl, by kernel_rfl, by kernel_rfl, by kernel_rfl⟩, by kernel_rfl⟩
theorem F42_2 : Fld ktab 42 2 3 2 1 := ⟨⟨fl41, fi41_2, by kernel_rfl, by kernel_rfl, by kernel_rfl, by kernel_rfl⟩, by kernel_rfl⟩
theorem F42_3 : Fld ktab 42 3 3 3 1 := ⟨⟨fl41, fi41_3, by kernel_rfl, by kernel_rfl, by kernel_rfl, by kernel_rfl⟩, by kernel_rfl⟩
theorem F42_4 : Fld ktab 42 4 3 4 1 := ⟨⟨fl41, fi41_4, by kernel_rfl, by kernel_rfl, by kernel_rfl, by kernel_rfl⟩, by kernel_rfl⟩
theorem F42_5 : Fld ktab 42 5 3 5 1 := ⟨⟨fl41, fi41_5, by kernel_rfl, by kernel_rfl, by kernel_rfl, by kernel_rfl⟩, by kernel_rfl⟩
theorem F62_0 : Fld ktab 62 0 60 0 1 := ⟨⟨fl61, fi61_0, by kernel_rfl, by kernel_rfl, by kernel_rfl, by kernel_rfl⟩, by kernel_rfl⟩
theorem F78_0 : Fld ktab 78 0 3 0 1 := ⟨⟨fl77, fi77_0, by kernel_rfl, by kernel_rfl, by kernel_rfl, by kernel_rfl⟩, by kernel_rfl⟩
theorem F78_1 : Fld ktab 78 1 3 1 1 := ⟨⟨fl77, fi77_1, by kernel_rfl, by kernel_rfl, by kernel_rfl, by kernel_rfl⟩, by kernel_rfl⟩
theorem F78_2 : Fld ktab 78 2 3 2 1 := ⟨⟨fl77, fi77_2, by kernel_rfl, by kernel_rfl, by kernel_rfl, by kernel_rfl⟩, by kernel_rfl⟩
theorem F81_0 : Fld ktab 81 0 22 0 1 := ⟨⟨fl80, fi80_0, by kernel_rfl, by kernel_rfl, by kernel_rfl, by kernel_rfl⟩, by kernel_rfl⟩
theorem F81_1 : Fld ktab 81 1 26 1 3 := ⟨⟨fl80, fi80_1, by kernel_rfl, by kernel_rfl, by kernel_rfl, by kernel_rfl⟩, by kernel_rfl⟩
theorem F87_0 : Fld ktab 87 0 3 0 1 := ⟨⟨fl86, fi86_0, by kernel_rfl, by kernel_rfl, by kernel_rfl, by kernel_rfl⟩, by kernel_rfl⟩
theorem F87_1 : Fld ktab 87 1 3 1 1 := ⟨⟨fl86, fi86_1, by kernel_rfl, by kernel_rfl, by kernel_rfl, by kernel_rfl⟩, by kernel_rfl⟩
theorem F87_2 : Fld ktab 87 2 3 2 1 := ⟨⟨fl86, fi86_2, by kernel_rfl, by kernel_rfl, by kernel_rfl, by kernel_rfl⟩, by kernel_rfl⟩
theorem F87_3 : Fld ktab 87 3 3 3 1 := ⟨⟨fl86, fi86_3, by kernel_rfl, by kernel_rfl, by kernel_rfl, by kernel_rfl⟩, by kernel_rfl⟩
theorem F96_0 : Fld ktab 96 0 3 0 1 := ⟨⟨fl95, fi95_0, by kernel_rfl, by kernel_rfl, by kernel_rfl, by kernel_rfl⟩, by kernel_rfl⟩
theorem F96_1 : Fld ktab 96 1 3 1 1 := ⟨⟨fl95, fi95_1, by kernel_rfl, by kernel_rfl, by kernel_rfl, by kernel_rfl⟩, by kernel_rfl⟩
theorem F99_0 : Fld ktab 99 0 62 0 1 := ⟨⟨fl98, fi98_0, by kernel_rfl, by kernel_rfl, by kernel_rfl, by kernel_rfl⟩, by kernel_rfl⟩
theorem F99_1 : Fld ktab 99 1 94 1 1 := ⟨⟨fl98, fi98_1, by kernel_rfl, by kernel_rfl, by kernel_rfl, by kernel_rfl⟩, by kernel_rfl⟩
theorem F99_2 : Fld ktab 99 2 3 2 1 := ⟨⟨fl98, fi98_2, by kernel_rfl, by kernel_rfl, by kernel_rfl, by kernel_rfl⟩, by kernel_rfl⟩
theorem F119_0 : Fld ktab 119 0 79 0 1 := ⟨⟨fl118, fi118_0, by kernel_rfl, by kernel_rfl, by kernel_rfl, by kernel_rfl⟩, by kernel_rfl⟩
theorem F119_1 : Fld ktab 119 1 23 1 1 := ⟨⟨fl118, fi118_1, by kernel_rfl, by kernel_rfl, by kernel_rfl, by kernel_rfl⟩, by kernel_rfl⟩
theorem F119_2 : Fld ktab 119 2 42 2 6 := ⟨⟨fl118, fi118_2, by kernel_rfl, by kernel_rfl, by kernel_rfl, by kernel_rfl⟩, by kernel_rfl⟩
theorem AR129 : Ar1 ktab 129 128 6 (rFn ktab (Duty) (Bool) (fun x => [.val rDuty (x)]) (fun y => [.val rBool (y)])) := ⟨by kernel_rfl, by kernel_rfl, by kernel_rfl, by kernel_rfl, by kernel_rfl, by decide⟩
theorem E77 : SEq ktab 77 rDutyPiece (fun x y => x == y) := ⟨⟨fl77, by kernel_rfl, by rw [show fl77.toList = [fi77_0, fi77_1, fi77_2] by kernel_rfl]; exact (.i (of_decide_eq_true (by kernel_rfl)) (by kernel_rfl) (by kernel_rfl) (.i (of_decide_eq_true (by kernel_rfl)) (by kernel_rfl) (by kernel_rfl) (.i (of_decide_eq_true (by kernel_rfl)) (by kernel_rfl) (by kernel_rfl) .n)))⟩, by kernel_rfl, by kernel_rfl⟩
theorem E78 : SEq ktab 78 rDutyPiece (fun x y => x == y) := ⟨⟨fl77, by kernel_rfl, by rw [show fl77.toList = [fi77_0, fi77_1, fi77_2] by kernel_rfl]; exact (.i (of_decide_eq_true (by kernel_rfl)) (by kernel_rfl) (by kernel_rfl) (.i (of_decide_eq_true (by kernel_rfl)) (by kernel_rfl) (by kernel_rfl) (.i (of_decide_eq_true (by kernel_rfl)) (by kernel_rfl) (by kernel_rfl) .n)))⟩, by kernel_rfl, by kernel_rfl⟩
theorem E95 : SEq ktab 95 rduty_cost (fun x y => x == y) := ⟨⟨fl95, by kernel_rfl, by rw [show fl95.toList = [fi95_0, fi95_1] by kernel_rfl]; exact (.i (of_decide_eq_true (by kernel_rfl)) (by kernel_rfl) (by kernel_rfl) (.i (of_decide_eq_true (by kernel_rfl)) (by kernel_rfl) (by kernel_rfl) .n))⟩, by kernel_rfl, by kernel_rfl⟩
theorem E96 : SEq ktab 96 rduty_cost (fun x y => x == y) := ⟨⟨fl95, by kernel_rfl, by rw [show fl95.toList = [fi95_0, fi95_1] by kernel_rfl]; exact (.i (of_decide_eq_true (by kernel_rfl)) (by kernel_rfl) (by kernel_rfl) (.i (of_decide_eq_true (by kernel_rfl)) (by kernel_rfl) (by kernel_rfl) .n))⟩, by kernel_rfl, by kernel_rfl⟩
instance : iK ktab 3 (.int .i64) := ⟨K3⟩
instance : iK ktab 4 .bool := ⟨K4⟩
instance : iK ktab 94 (.int .u64) := ⟨K94⟩
instance : iU ktab 22 (rSlice rTask) := ⟨U22⟩
instance : iU ktab 23 (rSlice (rSlice (rInt .i64))) := ⟨U23⟩
instance : iU ktab 24 (rSlice rBool) := ⟨U24⟩
instance : iU ktab 26 rYard := ⟨U26⟩
instance : iU ktab 29 (rSlice (rInt .i64)) := ⟨U29⟩
instance : iU ktab 3 (rInt .i64) := ⟨U3⟩
instance : iU ktab 31 rDutyProof := ⟨U31⟩
instance : iU ktab 4 rBool := ⟨U4⟩
instance : iU ktab 42 rWorkRules := ⟨U42⟩
instance : iU ktab 60 (rSlice rDutyPiece) := ⟨U60⟩
instance : iU ktab 62 rDuty := ⟨U62⟩
instance : iU ktab 68 (rInt .i64) := ⟨U68⟩
instance : iU ktab 78 rDutyPiece := ⟨U78⟩
instance : iU ktab 79 (rPtr rduty_work) := ⟨U79⟩
instance : iU ktab 87 rTask := ⟨U87⟩
instance : iU ktab 89 (rPtr rduty_crew) := ⟨U89⟩
instance : iU ktab 92 (rSlice rduty_option) := ⟨U92⟩
instance : iU ktab 94 (rInt .u64) := ⟨U94⟩
instance : iU ktab 96 rduty_cost := ⟨U96⟩
instance : iU ktab 99 rduty_option := ⟨U99⟩
instance : iS ktab 22 rTask 87 := ⟨S22⟩
instance : iS ktab 23 (rSlice (rInt .i64)) 29 := ⟨S23⟩
instance : iS ktab 24 rBool 4 := ⟨S24⟩
instance : iS ktab 29 (rInt .i64) 3 := ⟨S29⟩
instance : iS ktab 44 rDuty 62 := ⟨S44⟩
instance : iS ktab 60 rDutyPiece 78 := ⟨S60⟩
instance : iS ktab 63 (rInt .i64) 68 := ⟨S63⟩
instance : iS ktab 92 rduty_option 99 := ⟨S92⟩
instance : iY ktab 3 (rInt .i64) 8 := ⟨Y3⟩
instance : iY ktab 4 rBool 1 := ⟨Y4⟩
instance : iY ktab 29 (rSlice (rInt .i64)) 24 := ⟨Y29⟩
instance : iY ktab 62 rDuty 24 := ⟨Y62⟩
instance : iY ktab 68 (rInt .i64) 8 := ⟨Y68⟩
instance : iY ktab 78 rDutyPiece 24 := ⟨Y78⟩
instance : iY ktab 87 rTask 32 := ⟨Y87⟩
instance : iY ktab 99 rduty_option 40 := ⟨Y99⟩
instance : iZ ktab 3 (rInt .i64) 0 := ⟨Z3⟩
instance : iZ ktab 4 rBool false := ⟨Z4⟩
instance : iZ ktab 96 rduty_cost (0, 0, ()) := ⟨Z96⟩
instance : iB ktab 26 rYard [.nilslice, .int .i64 0, .nilslice] [(0, 1), (1, 1), (2, 1)] := ⟨B26, rfl⟩
instance : iB ktab 31 rDutyProof [.nilslice, .nilslice] [(0, 1), (1, 1)] := ⟨B31, rfl⟩
instance : iB ktab 42 rWorkRules [.int .i64 0, .int .i64 0, .int .i64 0, .int .i64 0, .int .i64 0, .int .i64 0] [(0, 1), (1, 1), (2, 1), (3, 1), (4, 1), (5, 1)] := ⟨B42, rfl⟩
instance : iB ktab 62 rDuty [.nilslice] [(0, 1)] := ⟨B62, rfl⟩
instance : iB ktab 78 rDutyPiece [.int .i64 0, .int .i64 0, .int .i64 0] [(0, 1), (1, 1), (2, 1)] := ⟨B78, rfl⟩
instance : iB ktab 81 rduty_work [.nilslice, .nilslice, .int .i64 0, .nilslice] [(0, 1), (1, 3)] := ⟨B81, rfl⟩
instance : iB ktab 87 rTask [.int .i64 0, .int .i64 0, .int .i64 0, .int .i64 0] [(0, 1), (1, 1), (2, 1), (3, 1)] := ⟨B87, rfl⟩
instance : iB ktab 96 rduty_cost [.int .i64 0, .int .i64 0] [(0, 1), (1, 1)] := ⟨B96, rfl⟩
instance : iB ktab 99 rduty_option [.nilslice, .int .u64 0, .int .i64 0] [(0, 1), (1, 1), (2, 1)] := ⟨B99, rfl⟩
instance : iB ktab 119 rduty_crew [.nilptr, .nilslice, .int .i64 0, .int .i64 0, .int .i64 0, .int .i64 0, .int .i64 0, .int .i64 0] [(0, 1), (1, 1), (2, 6)] := ⟨B119, rfl⟩
instance : iF ktab 26 0 rYard (rSlice (rSlice (rInt .i64))) 23 0 (fun x => x.1) (fun x y => (y, x.2.1, x.2.2.1, ())) := ⟨F26_0, fk_Yard_0, by decide⟩
instance : iF ktab 26 1 rYard (rInt .i64) 3 1 (fun x => x.2.1) (fun x y => (x.1, y, x.2.2.1, ())) := ⟨F26_1, fk_Yard_1, by decide⟩
instance : iF ktab 26 2 rYard (rSlice rBool) 24 2 (fun x => x.2.2.1) (fun x y => (x.1, x.2.1, y, ())) := ⟨F26_2, fk_Yard_2, by decide⟩
instance : iF ktab 31 0 rDutyProof (rSlice (rInt .i64)) 29 0 (fun x => x.1) (fun x y => (y, x.2.1, ())) := ⟨F31_0, fk_DutyProof_0, by decide⟩
instance : iF ktab 31 1 rDutyProof (rSlice (rInt .i64)) 29 1 (fun x => x.2.1) (fun x y => (x.1, y, ())) := ⟨F31_1, fk_DutyProof_1, by decide⟩
instance : iF ktab 42 0 rWorkRules (rInt .i64) 3 0 (fun x => x.1) (fun x y => (y, x.2.1, x.2.2.1, x.2.2.2.1, x.2.2.2.2.1, x.2.2.2.2.2.1, ())) := ⟨F42_0, fk_WorkRules_0, by decide⟩
instance : iF ktab 42 1 rWorkRules (rInt .i64) 3 1 (fun x => x.2.1) (fun x y => (x.1, y, x.2.2.1, x.2.2.2.1, x.2.2.2.2.1, x.2.2.2.2.2.1, ())) := ⟨F42_1, fk_WorkRules_1, by decide⟩
instance : iF ktab 42 2 rWorkRules (rInt .i64) 3 2 (fun x => x.2.2.1) (fun x y => (x.1, x.2.1, y, x.2.2.2.1, x.2.2.2.2.1, x.2.2.2.2.2.1, ())) := ⟨F42_2, fk_WorkRules_2, by decide⟩
instance : iF ktab 42 3 rWorkRules (rInt .i64) 3 3 (fun x => x.2.2.2.1) (fun x y => (x.1, x.2.1, x.2.2.1, y, x.2.2.2.2.1, x.2.2.2.2.2.1, ())) := ⟨F42_3, fk_WorkRules_3, by decide⟩
instance : iF ktab 42 4 rWorkRules (rInt .i64) 3 4 (fun x => x.2.2.2.2.1) (fun x y => (x.1, x.2.1, x.2.2.1, x.2.2.2.1, y, x.2.2.2.2.2.1, ())) := ⟨F42_4, fk_WorkRules_4, by decide⟩
instance : iF ktab 42 5 rWorkRules (rInt .i64) 3 5 (fun x => x.2.2.2.2.2.1) (fun x y => (x.1, x.2.1, x.2.2.1, x.2.2.2.1, x.2.2.2.2.1, y, ())) := ⟨F42_5, fk_WorkRules_5, by decide⟩
instance : iF ktab 62 0 rDuty (rSlice rDutyPiece) 60 0 (fun x => x.1) (fun x y => (y, ())) := ⟨F62_0, fk_Duty_0, by decide⟩
instance : iF ktab 78 0 rDutyPiece (rInt .i64) 3 0 (fun x => x.1) (fun x y => (y, x.2.1, x.2.2.1, ())) := ⟨F78_0, fk_DutyPiece_0, by decide⟩
instance : iF ktab 78 1 rDutyPiece (rInt .i64) 3 1 (fun x => x.2.1) (fun x y => (x.1, y, x.2.2.1, ())) := ⟨F78_1, fk_DutyPiece_1, by decide⟩
instance : iF ktab 78 2 rDutyPiece (rInt .i64) 3 2 (fun x => x.2.2.1) (fun x y => (x.1, x.2.1, y, ())) := ⟨F78_2, fk_DutyPiece_2, by decide⟩
instance : iF ktab 81 0 rduty_work (rSlice rTask) 22 0 (fun x => x.1) (fun x y => (y, x.2.1, ())) := ⟨F81_0, fk_duty_work_0, by decide⟩
instance : iF ktab 81 1 rduty_work rYard 26 1 (fun x => x.2.1) (fun x y => (x.1, y, ())) := ⟨F81_1, fk_duty_work_1, by decide⟩
instance : iF ktab 87 0 rTask (rInt .i64) 3 0 (fun x => x.1) (fun x y => (y, x.2.1, x.2.2.1, x.2.2.2.1, ())) := ⟨F87_0, fk_Task_0, by decide⟩
instance : iF ktab 87 1 rTask (rInt .i64) 3 1 (fun x => x.2.1) (fun x y => (x.1, y, x.2.2.1, x.2.2.2.1, ())) := ⟨F87_1, fk_Task_1, by decide⟩
instance : iF ktab 87 2 rTask (rInt .i64) 3 2 (fun x => x.2.2.1) (fun x y => (x.1, x.2.1, y, x.2.2.2.1, ())) := ⟨F87_2, fk_Task_2, by decide⟩
instance : iF ktab 87 3 rTask (rInt .i64) 3 3 (fun x => x.2.2.2.1) (fun x y => (x.1, x.2.1, x.2.2.1, y, ())) := ⟨F87_3, fk_Task_3, by decide⟩
instance : iF ktab 96 0 rduty_cost (rInt .i64) 3 0 (fun x => x.1) (fun x y => (y, x.2.1, ())) := ⟨F96_0, fk_duty_cost_0, by decide⟩
instance : iF ktab 96 1 rduty_cost (rInt .i64) 3 1 (fun x => x.2.1) (fun x y => (x.1, y, ())) := ⟨F96_1, fk_duty_cost_1, by decide⟩
instance : iF ktab 99 0 rduty_option rDuty 62 0 (fun x => x.1) (fun x y => (y, x.2.1, x.2.2.1, ())) := ⟨F99_0, fk_duty_option_0, by decide⟩
instance : iF ktab 99 1 rduty_option (rInt .u64) 94 1 (fun x => x.2.1) (fun x y => (x.1, y, x.2.2.1, ())) := ⟨F99_1, fk_duty_option_1, by decide⟩
instance : iF ktab 99 2 rduty_option (rInt .i64) 3 2 (fun x => x.2.2.1) (fun x y => (x.1, x.2.1, y, ())) := ⟨F99_2, fk_duty_option_2, by decide⟩
instance : iF ktab 119 0 rduty_crew (rPtr rduty_work) 79 0 (fun x => x.1) (fun x y => (y, x.2.1, x.2.2.1, ())) := ⟨F119_0, fk_duty_crew_0, by decide⟩
instance : iF ktab 119 1 rduty_crew (rSlice (rSlice (rInt .i64))) 23 1 (fun x => x.2.1) (fun x y => (x.1, y, x.2.2.1, ())) := ⟨F119_1, fk_duty_crew_1, by decide⟩
instance : iF ktab 119 2 rduty_crew rWorkRules 42 2 (fun x => x.2.2.1) (fun x y => (x.1, x.2.1, y, ())) := ⟨F119_2, fk_duty_crew_2, by decide⟩
instance : iA ktab 129 (rFn ktab (Duty) (Bool) (fun x => [.val rDuty (x)]) (fun y => [.val rBool (y)])) 128 6 := ⟨AR129⟩
instance : iE ktab 77 rDutyPiece (fun x y => x == y) := ⟨E77, rfl⟩
instance : iE ktab 78 rDutyPiece (fun x y => x == y) := ⟨E78, rfl⟩
instance : iE ktab 95 rduty_cost (fun x y => x == y) := ⟨E95, rfl⟩
instance : iE ktab 96 rduty_cost (fun x y => x == y) := ⟨E96, rfl⟩
end Go.Ai.TabYtdhenjdmpacklaa

/- What the rows of this seat ask, of the abstract interpreter. -/
namespace Go.Ai.TabYtdhenjdmpacklaa
open Go Go.Ai Go.Ai.Sx Go.Proofs Go.Proofs.Ytdhenjdmpacklaa
theorem own : ownKnob Try.prog.godebug = none := by kernel_rfl
theorem laidOut : laidOutB Try.prog = true := by kernel_rfl
theorem begun : decide (Try.prog.globals.size < (begin Try.prog (fun _ _ => 0) default).world.heap.size) = true := by kernel_rfl
theorem notEmpty {W : World} (h : W.ShapedOpen Try.prog) : 0 < W.heap.size := by
 obtain ⟨o, _, ho, _⟩ := h.2 Try.prog.globals.size (Nat.le_refl _) (of_decide_eq_true begun)
 have := (Array.getElem?_eq_some_iff.1 ho).1
 omega
theorem opensF_at {P : Program} {A B : Type} {f : Field} {fs : List Field} {o : Nat} {t : TypeId} {R : Rep A} {S : Rep B} (hf : f.offset = o) (ht : f.type = t) (ho : Opens P t R) (hs : OpensF P fs (o + R.sz) S) : OpensF P (f :: fs) o (rPair R S) := by
 subst ht
 exact opensF_cons hf ho hs
theorem o3 : Opens Try.prog 3 (rInt .i64) := opens_int Try.underlying3 (by kernel_rfl)
theorem o4 : Opens Try.prog 4 rBool := opens_bool Try.underlying4 (by kernel_rfl)
theorem o29 : Opens Try.prog 29 (rSlice (rInt .i64)) := opens_slice (by kernel_rfl) (by kernel_rfl) o3 (by decide)
theorem o24 : Opens Try.prog 24 (rSlice rBool) := opens_slice (by kernel_rfl) (by kernel_rfl) o4 (by decide)
theorem o23 : Opens Try.prog 23 (rSlice (rSlice (rInt .i64))) := opens_slice (by kernel_rfl) (by kernel_rfl) o29 (by decide)
theorem o87 : Opens Try.prog 87 rTask := opens_struct (fs := fl86) (by kernel_rfl) (by kernel_rfl) rfl (by
 rw [show fl86.toList = [fi86_0, fi86_1, fi86_2, fi86_3] by kernel_rfl]
 exact opensF_at (by kernel_rfl) (by kernel_rfl) o3 (opensF_at (by kernel_rfl) (by kernel_rfl) o3 (opensF_at (by kernel_rfl) (by kernel_rfl) o3 (opensF_at (by kernel_rfl) (by kernel_rfl) o3 (opensF_nil _)))))
theorem o22 : Opens Try.prog 22 (rSlice rTask) := opens_slice (by kernel_rfl) (by kernel_rfl) o87 (by decide)
theorem o26 : Opens Try.prog 26 rYard := opens_struct (fs := fl25) (by kernel_rfl) (by kernel_rfl) rfl (by
 rw [show fl25.toList = [fi25_0, fi25_1, fi25_2] by kernel_rfl]
 exact opensF_at (by kernel_rfl) (by kernel_rfl) o23 (opensF_at (by kernel_rfl) (by kernel_rfl) o3 (opensF_at (by kernel_rfl) (by kernel_rfl) o24 (opensF_nil _))))
end Go.Ai.TabYtdhenjdmpacklaa

/- What the rows of this seat ask: proofs, rules, duties. -/
namespace Go.Ai.TabYtdhenjdmpacklaa
open Go Go.Ai Go.Ai.Sx Go.Proofs Go.Proofs.Ytdhenjdmpacklaa
theorem o42 : Opens Try.prog 42 rWorkRules := opens_struct (fs := fl41) (by kernel_rfl) (by kernel_rfl) rfl (by
 rw [show fl41.toList = [fi41_0, fi41_1, fi41_2, fi41_3, fi41_4, fi41_5] by kernel_rfl]
 exact opensF_at (by kernel_rfl) (by kernel_rfl) o3 (opensF_at (by kernel_rfl) (by kernel_rfl) o3 (opensF_at (by kernel_rfl) (by kernel_rfl) o3 (opensF_at (by kernel_rfl) (by kernel_rfl) o3 (opensF_at (by kernel_rfl) (by kernel_rfl) o3 (opensF_at (by kernel_rfl) (by kernel_rfl) o3 (opensF_nil _)))))))
theorem o78 : Opens Try.prog 78 rDutyPiece := opens_struct (fs := fl77) (by kernel_rfl) (by kernel_rfl) rfl (by
 rw [show fl77.toList = [fi77_0, fi77_1, fi77_2] by kernel_rfl]
 exact opensF_at (by kernel_rfl) (by kernel_rfl) o3 (opensF_at (by kernel_rfl) (by kernel_rfl) o3 (opensF_at (by kernel_rfl) (by kernel_rfl) o3 (opensF_nil _))))
theorem o60 : Opens Try.prog 60 (rSlice rDutyPiece) := opens_slice (by kernel_rfl) (by kernel_rfl) o78 (by decide)
theorem o62 : Opens Try.prog 62 rDuty := opens_struct (fs := fl61) (by kernel_rfl) (by kernel_rfl) rfl (by
 rw [show fl61.toList = [fi61_0] by kernel_rfl]
 exact opensF_at (by kernel_rfl) (by kernel_rfl) o60 (opensF_nil _))
theorem o44 : Opens Try.prog 44 (rSlice rDuty) := opens_slice (by kernel_rfl) (by kernel_rfl) o62 (by decide)
end Go.Ai.TabYtdhenjdmpacklaa
