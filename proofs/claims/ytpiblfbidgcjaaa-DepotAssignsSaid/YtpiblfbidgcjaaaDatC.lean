/- Written by program: the data of the functions, and the functions as plain Lean. -/
import Derived.Test.YtpiblfbidgcjaaaAiSd
namespace Go.Ai.Sx
abbrev StableTrack : Type := Int × Bool × Unit
abbrev StableCar : Type := Int × Int × Int × Int × Unit
abbrev StableLeave : Type := Int × Int × Unit
abbrev depot_night : Type := (List StableTrack) × (List StableCar) × (List StableLeave) × Unit
abbrev StablePlan : Type := (List Int) × (List Int) × Int × Unit
abbrev WashJob : Type := Int × Int × Int × Unit
abbrev depot_wash : Type := (List Int) × Int × Int × Unit
abbrev StableMove : Type := Int × Int × Int × Unit
abbrev rStableTrack : Rep StableTrack := (rPair (rInt .i64) (rPair rBool rUnit))
theorem fk_StableTrack_0 : FOk rStableTrack 0 (rInt .i64) (fun x => x.1) (fun x y => (y, x.2.1, ())) := FOk.off FOk.here rfl
theorem fk_StableTrack_1 : FOk rStableTrack 1 rBool (fun x => x.2.1) (fun x y => (x.1, y, ())) := FOk.off (FOk.there FOk.here) rfl
abbrev rStableCar : Rep StableCar := (rPair (rInt .i64) (rPair (rInt .i64) (rPair (rInt .i64) (rPair (rInt .i64) rUnit))))
theorem fk_StableCar_0 : FOk rStableCar 0 (rInt .i64) (fun x => x.1) (fun x y => (y, x.2.1, x.2.2.1, x.2.2.2.1, ())) := FOk.off FOk.here rfl
theorem fk_StableCar_1 : FOk rStableCar 1 (rInt .i64) (fun x => x.2.1) (fun x y => (x.1, y, x.2.2.1, x.2.2.2.1, ())) := FOk.off (FOk.there FOk.here) rfl
theorem fk_StableCar_2 : FOk rStableCar 2 (rInt .i64) (fun x => x.2.2.1) (fun x y => (x.1, x.2.1, y, x.2.2.2.1, ())) := FOk.off (FOk.there (FOk.there FOk.here)) rfl
theorem fk_StableCar_3 : FOk rStableCar 3 (rInt .i64) (fun x => x.2.2.2.1) (fun x y => (x.1, x.2.1, x.2.2.1, y, ())) := FOk.off (FOk.there (FOk.there (FOk.there FOk.here))) rfl
abbrev rStableLeave : Rep StableLeave := (rPair (rInt .i64) (rPair (rInt .i64) rUnit))
theorem fk_StableLeave_0 : FOk rStableLeave 0 (rInt .i64) (fun x => x.1) (fun x y => (y, x.2.1, ())) := FOk.off FOk.here rfl
theorem fk_StableLeave_1 : FOk rStableLeave 1 (rInt .i64) (fun x => x.2.1) (fun x y => (x.1, y, ())) := FOk.off (FOk.there FOk.here) rfl
abbrev rdepot_night : Rep depot_night := (rPair (rSlice rStableTrack) (rPair (rSlice rStableCar) (rPair (rSlice rStableLeave) rUnit)))
theorem fk_depot_night_0 : FOk rdepot_night 0 (rSlice rStableTrack) (fun x => x.1) (fun x y => (y, x.2.1, x.2.2.1, ())) := FOk.off FOk.here rfl
theorem fk_depot_night_1 : FOk rdepot_night 1 (rSlice rStableCar) (fun x => x.2.1) (fun x y => (x.1, y, x.2.2.1, ())) := FOk.off (FOk.there FOk.here) rfl
theorem fk_depot_night_2 : FOk rdepot_night 2 (rSlice rStableLeave) (fun x => x.2.2.1) (fun x y => (x.1, x.2.1, y, ())) := FOk.off (FOk.there (FOk.there FOk.here)) rfl
abbrev rStablePlan : Rep StablePlan := (rPair (rSlice (rInt .i64)) (rPair (rSlice (rInt .i64)) (rPair (rInt .i64) rUnit)))
theorem fk_StablePlan_0 : FOk rStablePlan 0 (rSlice (rInt .i64)) (fun x => x.1) (fun x y => (y, x.2.1, x.2.2.1, ())) := FOk.off FOk.here rfl
theorem fk_StablePlan_1 : FOk rStablePlan 1 (rSlice (rInt .i64)) (fun x => x.2.1) (fun x y => (x.1, y, x.2.2.1, ())) := FOk.off (FOk.there FOk.here) rfl
theorem fk_StablePlan_2 : FOk rStablePlan 2 (rInt .i64) (fun x => x.2.2.1) (fun x y => (x.1, x.2.1, y, ())) := FOk.off (FOk.there (FOk.there FOk.here)) rfl
abbrev rWashJob : Rep WashJob := (rPair (rInt .i64) (rPair (rInt .i64) (rPair (rInt .i64) rUnit)))
theorem fk_WashJob_0 : FOk rWashJob 0 (rInt .i64) (fun x => x.1) (fun x y => (y, x.2.1, x.2.2.1, ())) := FOk.off FOk.here rfl
theorem fk_WashJob_1 : FOk rWashJob 1 (rInt .i64) (fun x => x.2.1) (fun x y => (x.1, y, x.2.2.1, ())) := FOk.off (FOk.there FOk.here) rfl
theorem fk_WashJob_2 : FOk rWashJob 2 (rInt .i64) (fun x => x.2.2.1) (fun x y => (x.1, x.2.1, y, ())) := FOk.off (FOk.there (FOk.there FOk.here)) rfl
abbrev rdepot_wash : Rep depot_wash := (rPair (rSlice (rInt .i64)) (rPair (rInt .i64) (rPair (rInt .i64) rUnit)))
theorem fk_depot_wash_0 : FOk rdepot_wash 0 (rSlice (rInt .i64)) (fun x => x.1) (fun x y => (y, x.2.1, x.2.2.1, ())) := FOk.off FOk.here rfl
theorem fk_depot_wash_1 : FOk rdepot_wash 1 (rInt .i64) (fun x => x.2.1) (fun x y => (x.1, y, x.2.2.1, ())) := FOk.off (FOk.there FOk.here) rfl
theorem fk_depot_wash_2 : FOk rdepot_wash 2 (rInt .i64) (fun x => x.2.2.1) (fun x y => (x.1, x.2.1, y, ())) := FOk.off (FOk.there (FOk.there FOk.here)) rfl
abbrev rStableMove : Rep StableMove := (rPair (rInt .i64) (rPair (rInt .i64) (rPair (rInt .i64) rUnit)))
theorem fk_StableMove_0 : FOk rStableMove 0 (rInt .i64) (fun x => x.1) (fun x y => (y, x.2.1, x.2.2.1, ())) := FOk.off FOk.here rfl
theorem fk_StableMove_1 : FOk rStableMove 1 (rInt .i64) (fun x => x.2.1) (fun x y => (x.1, y, x.2.2.1, ())) := FOk.off (FOk.there FOk.here) rfl
theorem fk_StableMove_2 : FOk rStableMove 2 (rInt .i64) (fun x => x.2.2.1) (fun x y => (x.1, x.2.1, y, ())) := FOk.off (FOk.there (FOk.there FOk.here)) rfl
def g_depot_within (n_0 : Int) (low_1 : Int) (high_2 : Int) : Option (Bool) :=
Option.bind (cond ((decide (n_0 ≥ low_1))) (some ((decide (n_0 ≤ high_2)))) (some false)) fun c2 =>
some c2
def g_depot_permutation (l_0 : (List Int)) : Option (Bool) :=
Option.bind (mkO 1 ((lenI l_0)) (false : Bool)) fun x1 =>
Option.bind (iter (σ := (Int × (List Bool))) (τ := ((List Bool)) ⊕ (Bool × (List Bool))) (fun s26 =>
cond ((decide (s26.1 < (lenI l_0)))) (Option.bind (idx l_0 s26.1) fun x29 =>
Option.bind (g_depot_within x29 0 ((w64 ((lenI l_0) - 1)))) fun y33 =>
cond ((!y33)) (some (.inr ((.inr ((false, s26.2)))))) (Option.bind (idx s26.2 x29) fun x36 =>
cond (x36) (some (.inr ((.inr ((false, s26.2)))))) (Option.bind (idx s26.2 x29) fun x38 =>
some (.inl (((w64 (s26.1 + 1)), (s26.2).set (Int.toNat x29) true)))))) (some (.inr ((.inl s26.2))))) big ((0, x1))) fun t39 =>
alt (fun b41 => some true) (fun b42 => some b42.1) t39
def g_depot_leaving_through (l_0 : (List Int)) (i_1 : Int) (j_2 : Int) : Option (Bool) :=
Option.bind (idx l_0 j_2) fun x1 =>
Option.bind (idx l_0 i_1) fun x2 =>
some ((decide (x1 < x2)))
def g_depot_leaving_dead (l_0 : (List Int)) (i_1 : Int) (j_2 : Int) : Option (Bool) :=
Option.bind (idx l_0 i_1) fun x1 =>
Option.bind (idx l_0 j_2) fun x2 =>
some ((decide (x1 < x2)))
def g_depot_leaving_way (l_0 : (List Int)) (through_1 : Bool) : Option (((Int × Int) → Option (Bool))) :=
cond (through_1) (some ((fun x => g_depot_leaving_through l_0 x.1 x.2))) (some ((fun x => g_depot_leaving_dead l_0 x.1 x.2)))
def g_slices_IndexFunc_int_int (s_0 : (List Int)) (f_1 : ((Int) → Option (Bool))) : Option (Int) :=
Option.bind (iter (σ := (Int)) (τ := Unit ⊕ (Int)) (fun s5 =>
cond ((decide (s5 < (lenI s_0)))) (Option.bind (idx s_0 s5) fun x8 =>
Option.bind (f_1 x8) fun y9 =>
cond (y9) (some (.inr ((.inr s5)))) (some (.inl ((w64 (s5 + 1)))))) (some (.inr ((.inl (())))))) big 0) fun t11 =>
alt (fun b13 => some ((-1))) (fun b14 => some b14) t11
def g_slices_ContainsFunc_int_int (s_0 : (List Int)) (f_1 : ((Int) → Option (Bool))) : Option (Bool) :=
Option.bind (g_slices_IndexFunc_int_int s_0 f_1) fun y1 =>
some ((decide (y1 ≥ 0)))
def g_depot_Assign_1 (i_0 : Int) (p_1 : ((Int × Int) → Option (Bool))) (p_2 : Int) : Option (Bool) :=
Option.bind (p_1 ((i_0, p_2))) fun y1 =>
some y1
def g_depot_Assign (p_0 : (List Int)) (p_1 : Bool) : Option ((List Int) × (List Int) × Int) :=
Option.bind (cond ((decide ((lenI p_0) > 200))) (some true) (Option.bind (g_depot_permutation p_0) fun y7 =>
some ((!y7)))) fun c5 =>
cond (c5) (some (([], [], 2))) (Option.bind (g_depot_leaving_way p_0 p_1) fun y11 =>
Option.bind (iter (σ := ((List (List Int)) × (List Int) × Int)) (τ := ((List (List Int)) × (List Int))) (fun s85 =>
cond ((decide (s85.2.2 < (lenI p_0)))) (Option.bind (iter (σ := ((List Int) × Int × (List (List Int)))) (τ := ((List Int) × (List (List Int))) ⊕ ((List Int) × (List (List Int)))) (fun s124 =>
cond ((decide (s124.2.1 < (lenI s85.1)))) (Option.bind (idx s124.2.2 s124.2.1) fun x131 =>
Option.bind (g_slices_ContainsFunc_int_int x131 ((fun x => g_depot_Assign_1 x y11 s85.2.2))) fun y134 =>
cond ((!y134)) (Option.bind (appO 8 x131 ([s85.2.2])) fun x137 =>
Option.bind (appO 8 s124.1 ([s124.2.1])) fun x139 =>
some (.inr ((.inl ((x139, (s124.2.2).set (Int.toNat s124.2.1) x137)))))) (some (.inl ((s124.1, (w64 (s124.2.1 + 1)), s124.2.2))))) (some (.inr ((.inr ((s124.1, s124.2.2))))))) big ((s85.2.1, 0, s85.1))) fun t144 =>
alt (fun b146 => some (.inl ((b146.2, b146.1, (w64 (s85.2.2 + 1)))))) (fun b147 => Option.bind (appO 8 b147.1 ([(lenI b147.2)])) fun x155 =>
Option.bind (appO 24 b147.2 [[s85.2.2]]) fun x159 =>
some (.inl ((x159, x155, (w64 (s85.2.2 + 1)))))) t144) (some (.inr (((s85.1, s85.2.1)))))) big (([], [], 0))) fun t167 =>
Option.bind (mkO 8 ((lenI p_0)) (0 : Int)) fun x173 =>
Option.bind (iter (σ := (Int × (List Int))) (τ := ((List Int))) (fun s228 =>
cond ((decide (s228.1 ≥ 0))) (Option.bind (iter (σ := (Int × (List Int))) (τ := ((List Int))) (fun s243 =>
cond ((decide (s243.1 < (lenI p_0)))) (Option.bind (y11 ((s228.1, s243.1))) fun y246 =>
cond (y246) (Option.bind (idx s243.2 s228.1) fun x248 =>
Option.bind (idx s243.2 s243.1) fun x249 =>
Option.bind (idx s243.2 s228.1) fun x250 =>
some (.inl (((w64 (s243.1 + 1)), (s243.2).set (Int.toNat s228.1) ((max x248 x249)))))) (some (.inl (((w64 (s243.1 + 1)), s243.2))))) (some (.inr s243.2))) big (((w64 (s228.1 + 1)), s228.2))) fun t251 =>
Option.bind (idx t251 s228.1) fun x254 =>
Option.bind (idx t251 s228.1) fun x255 =>
some (.inl (((w64 (s228.1 - 1)), (t251).set (Int.toNat s228.1) ((w64 (x254 + 1))))))) (some (.inr s228.2))) big (((w64 ((lenI p_0) - 1)), x173))) fun t256 =>
Option.bind (iter (σ := ((List Int) × Int × Int)) (τ := ((List Int))) (fun s280 =>
cond ((decide (s280.2.2 < (lenI p_0)))) (Option.bind (idx t256 s280.2.2) fun x291 =>
cond ((x291 == s280.2.1)) (cond (((lenI s280.1) == 0)) (Option.bind (appO 8 s280.1 ([s280.2.2])) fun x295 =>
some (.inl ((x295, (w64 (s280.2.1 - 1)), (w64 (s280.2.2 + 1)))))) (Option.bind (idx s280.1 ((w64 ((lenI s280.1) - 1)))) fun x298 =>
Option.bind (y11 ((x298, s280.2.2))) fun y299 =>
cond (y299) (Option.bind (appO 8 s280.1 ([s280.2.2])) fun x301 =>
some (.inl ((x301, (w64 (s280.2.1 - 1)), (w64 (s280.2.2 + 1)))))) (some (.inl ((s280.1, s280.2.1, (w64 (s280.2.2 + 1)))))))) (some (.inl ((s280.1, s280.2.1, (w64 (s280.2.2 + 1))))))) (some (.inr s280.1))) big (([], (lenI t167.1), 0))) fun t308 =>
some ((t167.2, t308, 0)))
def g_ref09_Same (a_0 : (List Int)) (b_1 : (List Int)) : Option (Bool) :=
cond (((lenI a_0) != (lenI b_1))) (some false) (Option.bind (iter (σ := (Int)) (τ := Unit ⊕ (Bool)) (fun s6 =>
cond ((decide (s6 < (lenI a_0)))) (Option.bind (idx a_0 s6) fun x9 =>
Option.bind (idx b_1 s6) fun x10 =>
cond ((x9 != x10)) (some (.inr ((.inr false)))) (some (.inl ((w64 (s6 + 1)))))) (some (.inr ((.inl (())))))) big 0) fun t12 =>
alt (fun b14 => some true) (fun b15 => some b15) t12)
def g_depot_night_valid (p_0 : depot_night) : Option (Bool) :=
Option.bind (Option.bind (g_depot_within ((lenI p_0.1)) 1 5) fun y5 =>
cond ((!y5)) (some true) (cond (((lenI p_0.2.1) != (lenI p_0.2.2.1))) (some true) (some ((decide ((lenI p_0.2.1) > 9)))))) fun c4 =>
cond (c4) (some false) (Option.bind (iter (σ := (Int)) (τ := Unit ⊕ (Bool)) (fun s15 =>
cond ((decide (s15 < (lenI p_0.1)))) (Option.bind (idx p_0.1 s15) fun x18 =>
Option.bind (g_depot_within x18.1 0 10000000) fun y21 =>
cond ((!y21)) (some (.inr ((.inr false)))) (some (.inl ((w64 (s15 + 1)))))) (some (.inr ((.inl (())))))) big 0) fun t23 =>
alt (fun b25 => Option.bind (iter (σ := (Int)) (τ := Unit ⊕ (Bool)) (fun s58 =>
cond ((decide (s58 < (lenI p_0.2.1)))) (Option.bind (idx p_0.2.1 s58) fun x61 =>
Option.bind (g_depot_within x61.1 0 100) fun y74 =>
cond ((!y74)) (some (.inr ((.inr false)))) (Option.bind (g_depot_within x61.2.1 1 10000000) fun y77 =>
cond ((!y77)) (some (.inr ((.inr false)))) (Option.bind (g_depot_within x61.2.2.1 0 200000) fun y80 =>
cond ((!y80)) (some (.inr ((.inr false)))) (Option.bind (g_depot_within x61.2.2.2.1 0 200000) fun y83 =>
cond ((!y83)) (some (.inr ((.inr false)))) (cond ((decide (s58 > 0))) (Option.bind (idx p_0.2.1 ((w64 (s58 - 1)))) fun x87 =>
cond ((decide (x61.2.2.1 < x87.2.2.1))) (some (.inr ((.inr false)))) (some (.inl ((w64 (s58 + 1)))))) (some (.inl ((w64 (s58 + 1)))))))))) (some (.inr ((.inl (())))))) big 0) fun t90 =>
alt (fun b92 => Option.bind (iter (σ := (Int)) (τ := Unit ⊕ (Bool)) (fun s115 =>
cond ((decide (s115 < (lenI p_0.2.2.1)))) (Option.bind (idx p_0.2.2.1 s115) fun x118 =>
Option.bind (g_depot_within x118.1 0 100) fun y127 =>
cond ((!y127)) (some (.inr ((.inr false)))) (Option.bind (g_depot_within x118.2.1 0 200000) fun y130 =>
cond ((!y130)) (some (.inr ((.inr false)))) (cond ((decide (s115 > 0))) (Option.bind (idx p_0.2.2.1 ((w64 (s115 - 1)))) fun x134 =>
cond ((decide (x118.2.1 < x134.2.1))) (some (.inr ((.inr false)))) (some (.inl ((w64 (s115 + 1)))))) (some (.inl ((w64 (s115 + 1)))))))) (some (.inr ((.inl (())))))) big 0) fun t137 =>
alt (fun b139 => some true) (fun b140 => some b140) t137) (fun b93 => some b93) t90) (fun b26 => some b26) t23)
def g_depot_night_quiet (n_0 : depot_night) : Option (Bool) :=
Option.bind (cond (((lenI n_0.2.1) == 0)) (some true) (Option.bind (idx n_0.2.1 ((w64 ((lenI n_0.2.1) - 1)))) fun x6 =>
Option.bind (idx n_0.2.2.1 0) fun x7 =>
some ((decide (x6.2.2.1 ≤ x7.2.1))))) fun c4 =>
some c4
def g_slices_Clone_int_int (s_0 : (List Int)) : Option (List Int) := appO 8 [] s_0
def g_depot_night_fit (n_0 : depot_night) (tracks_1 : (List Int)) : Option (Bool) :=
Option.bind (mkO 8 ((lenI n_0.1)) (0 : Int)) fun x1 =>
Option.bind (iter (σ := (Int × (List Int))) (τ := ((List Int)) ⊕ (Bool × (List Int))) (fun s20 =>
cond ((decide (s20.1 < (lenI tracks_1)))) (Option.bind (idx tracks_1 s20.1) fun x23 =>
Option.bind (idx s20.2 x23) fun x24 =>
Option.bind (idx n_0.2.1 s20.1) fun x25 =>
Option.bind (idx s20.2 x23) fun x26 =>
Option.bind (idx ((s20.2).set (Int.toNat x23) ((w64 (x24 + x25.2.1)))) x23) fun x27 =>
Option.bind (idx n_0.1 x23) fun x28 =>
cond ((decide (x27 > x28.1))) (some (.inr ((.inr ((false, (s20.2).set (Int.toNat x23) ((w64 (x24 + x25.2.1))))))))) (some (.inl (((w64 (s20.1 + 1)), (s20.2).set (Int.toNat x23) ((w64 (x24 + x25.2.1)))))))) (some (.inr ((.inl s20.2))))) big ((0, x1))) fun t30 =>
alt (fun b32 => some true) (fun b33 => some b33.1) t30
def g_depot_night_tracked_1_1 (tracks_0 : (List Int)) (p_1 : depot_night) (p_2 : (((List Int)) → Option (Bool))) (p_3 : (((List Int)) → Option (Bool))) : Option (Bool) :=
Option.bind (g_depot_night_fit p_1 tracks_0) fun y1 =>
cond ((!y1)) (some true) (cond (((lenI tracks_0) == (lenI p_1.2.1))) (Option.bind (p_2 tracks_0) fun y4 =>
some y4) (Option.bind (iter (σ := (Int)) (τ := Unit ⊕ (Bool)) (fun s13 =>
cond ((decide (s13 < (lenI p_1.1)))) (Option.bind (g_slices_Clone_int_int tracks_0) fun y16 =>
Option.bind (appO 8 y16 ([s13])) fun x19 =>
Option.bind (p_3 x19) fun y21 =>
cond ((!y21)) (some (.inr ((.inr false)))) (some (.inl ((w64 (s13 + 1)))))) (some (.inr ((.inl (())))))) big 0) fun t23 =>
alt (fun b25 => some true) (fun b26 => some b26) t23))
def g_slices_Index_int_int (s_0 : (List Int)) (v_1 : Int) : Option (Int) :=
Option.bind (iter (σ := (Int)) (τ := Unit ⊕ (Int)) (fun s4 =>
cond ((decide (s4 < (lenI s_0)))) (Option.bind (idx s_0 s4) fun x7 =>
cond ((v_1 == x7)) (some (.inr ((.inr s4)))) (some (.inl ((w64 (s4 + 1)))))) (some (.inr ((.inl (())))))) big 0) fun t9 =>
alt (fun b11 => some ((-1))) (fun b12 => some b12) t9
def g_slices_Contains_int_int (s_0 : (List Int)) (v_1 : Int) : Option (Bool) :=
Option.bind (g_slices_Index_int_int s_0 v_1) fun y1 =>
some ((decide (y1 ≥ 0)))
def g_depot_night_takes (n_0 : depot_night) (car_1 : Int) (leave_2 : Int) : Option (Bool) :=
Option.bind (idx n_0.2.1 car_1) fun x1 =>
Option.bind (idx n_0.2.2.1 leave_2) fun x2 =>
Option.bind (cond ((x1.1 == x2.1)) (cond ((decide (x1.2.2.1 ≤ x2.2.1))) (some ((decide (x2.2.1 ≤ x1.2.2.2.1)))) (some false)) (some false)) fun c9 =>
some c9
def g_depot_night_least_1_1 (i_0 : Int) (p_1 : Int) : Option (Bool) :=
Option.bind (shrO .i64 p_1 i_0) fun x1 =>
some (((bAnd .i64 x1 1) == 1))
def g_depot_best_api_StablePlan (l_0 : (List StablePlan)) (better_1 : ((StablePlan × StablePlan) → Option (Bool))) : Option (StablePlan) :=
Option.bind (idx l_0 0) fun x3 =>
Option.bind (slO l_0 1 ((lenI l_0))) fun x6 =>
Option.bind (iter (σ := (Int × (List Int) × (List Int) × Int)) (τ := ((List Int) × (List Int) × Int)) (fun s19 =>
cond ((decide (s19.1 < (lenI x6)))) (Option.bind (idx x6 s19.1) fun x22 =>
Option.bind (better_1 ((x22, (s19.2.1, s19.2.2.1, s19.2.2.2, ())))) fun y25 =>
cond (y25) (some (.inl (((w64 (s19.1 + 1)), x22.1, x22.2.1, x22.2.2.1)))) (some (.inl (((w64 (s19.1 + 1)), s19.2.1, s19.2.2.1, s19.2.2.2))))) (some (.inr (((s19.2.1, s19.2.2.1, s19.2.2.2)))))) big ((0, x3.1, x3.2.1, x3.2.2.1))) fun t27 =>
some ((t27.1, t27.2.1, t27.2.2, ()))
def g_depot_Night_1 (a_0 : StablePlan) (b_1 : StablePlan) : Option (Bool) :=
some ((decide (a_0.2.2.1 < b_1.2.2.1)))
def g_slices_IndexFunc_api_WashJob_api_WashJob (s_0 : (List WashJob)) (f_1 : ((WashJob) → Option (Bool))) : Option (Int) :=
Option.bind (iter (σ := (Int)) (τ := Unit ⊕ (Int)) (fun s5 =>
cond ((decide (s5 < (lenI s_0)))) (Option.bind (idx s_0 s5) fun x8 =>
Option.bind (f_1 x8) fun y9 =>
cond (y9) (some (.inr ((.inr s5)))) (some (.inl ((w64 (s5 + 1)))))) (some (.inr ((.inl (())))))) big 0) fun t11 =>
alt (fun b13 => some ((-1))) (fun b14 => some b14) t11
def g_slices_ContainsFunc_api_WashJob_api_WashJob (s_0 : (List WashJob)) (f_1 : ((WashJob) → Option (Bool))) : Option (Bool) :=
Option.bind (g_slices_IndexFunc_api_WashJob_api_WashJob s_0 f_1) fun y1 =>
some ((decide (y1 ≥ 0)))
def g_depot_jobs_1 (j_0 : WashJob) : Option (Bool) :=
Option.bind (Option.bind (g_depot_within j_0.1 0 j_0.2.1) fun y6 =>
cond ((!y6)) (some true) (cond ((decide (j_0.2.1 > 200000))) (some true) (Option.bind (g_depot_within j_0.2.2.1 1 100000) fun y9 =>
some ((!y9))))) fun c5 =>
some c5
def g_depot_jobs (l_0 : (List WashJob)) : Option (Bool) :=
Option.bind (cond ((decide ((lenI l_0) ≤ 8))) (Option.bind (g_slices_ContainsFunc_api_WashJob_api_WashJob l_0 ((fun x => g_depot_jobs_1 x))) fun y5 =>
some ((!y5))) (some false)) fun c3 =>
some c3
def g_depot_orders_1_1 (order_0 : (List Int)) (p_1 : Int) (p_2 : (((List Int)) → Option (Bool))) (p_3 : (((List Int)) → Option (Bool))) : Option (Bool) :=
cond (((lenI order_0) == p_1)) (Option.bind (p_2 order_0) fun y2 =>
some y2) (Option.bind (iter (σ := (Int)) (τ := Unit ⊕ (Bool)) (fun s22 =>
cond ((decide (s22 < p_1))) (Option.bind (g_slices_Contains_int_int order_0 s22) fun y33 =>
cond ((!y33)) (Option.bind (g_slices_Clone_int_int order_0) fun y35 =>
Option.bind (appO 8 y35 ([s22])) fun x38 =>
Option.bind (p_3 x38) fun y40 =>
cond ((!y40)) (some (.inr ((.inr false)))) (some (.inl ((w64 (s22 + 1)))))) (some (.inl ((w64 (s22 + 1)))))) (some (.inr ((.inl (())))))) big 0) fun t43 =>
alt (fun b45 => some true) (fun b46 => some b46) t43)
def g_depot_best_depot_wash (l_0 : (List depot_wash)) (better_1 : ((depot_wash × depot_wash) → Option (Bool))) : Option (depot_wash) :=
Option.bind (idx l_0 0) fun x3 =>
Option.bind (slO l_0 1 ((lenI l_0))) fun x6 =>
Option.bind (iter (σ := (Int × (List Int) × Int × Int)) (τ := ((List Int) × Int × Int)) (fun s19 =>
cond ((decide (s19.1 < (lenI x6)))) (Option.bind (idx x6 s19.1) fun x22 =>
Option.bind (better_1 ((x22, (s19.2.1, s19.2.2.1, s19.2.2.2, ())))) fun y25 =>
cond (y25) (some (.inl (((w64 (s19.1 + 1)), x22.1, x22.2.1, x22.2.2.1)))) (some (.inl (((w64 (s19.1 + 1)), s19.2.1, s19.2.2.1, s19.2.2.2))))) (some (.inr (((s19.2.1, s19.2.2.1, s19.2.2.2)))))) big ((0, x3.1, x3.2.1, x3.2.2.1))) fun t27 =>
some ((t27.1, t27.2.1, t27.2.2, ()))
def g_depot_washed (l_0 : (List WashJob)) (order_1 : (List Int)) : Option (depot_wash) :=
Option.bind (iter (σ := (Int × Int × Int)) (τ := (Int × Int)) (fun s15 =>
cond ((decide (s15.1 < (lenI order_1)))) (Option.bind (idx order_1 s15.1) fun x18 =>
Option.bind (idx l_0 x18) fun x19 =>
Option.bind (idx l_0 x18) fun x20 =>
Option.bind (idx l_0 x18) fun x21 =>
some (.inl (((w64 (s15.1 + 1)), (max s15.2.1 ((w64 ((w64 ((max s15.2.2 x19.1) + x20.2.2.1)) - x21.2.1)))), (w64 ((max s15.2.2 x19.1) + x20.2.2.1)))))) (some (.inr (((s15.2.1, s15.2.2)))))) big ((0, (((order_1, 0, 0, ()) : depot_wash)).2.1, (((order_1, 0, 0, ()) : depot_wash)).2.2.1))) fun t22 =>
some (((((order_1, 0, 0, ()) : depot_wash)).1, t22.1, t22.2, ()))
def g_depot_Wash_1 (a_0 : depot_wash) (b_1 : depot_wash) : Option (Bool) :=
Option.bind (cond ((decide (a_0.2.1 < b_1.2.1))) (some true) (cond ((a_0.2.1 == b_1.2.1)) (some ((decide (a_0.2.2.1 < b_1.2.2.1)))) (some false))) fun c3 =>
some c3
def g_depot_night_plan (p_0 : depot_night) (p_1 : StablePlan) : Option (Bool) :=
Option.bind (cond (((lenI p_1.1) != (lenI p_0.2.1))) (some true) (cond (((lenI p_1.2.1) != (lenI p_0.2.1))) (some true) (Option.bind (g_depot_permutation p_1.2.1) fun y9 =>
cond ((!y9)) (some true) (Option.bind (g_depot_night_quiet p_0) fun y11 =>
some ((!y11)))))) fun c6 =>
cond (c6) (some false) (Option.bind (iter (σ := (Int)) (τ := Unit ⊕ (Bool)) (fun s25 =>
cond ((decide (s25 < (lenI p_1.1)))) (Option.bind (idx p_1.1 s25) fun x28 =>
Option.bind (g_depot_within x28 0 ((w64 ((lenI p_0.1) - 1)))) fun y33 =>
cond ((!y33)) (some (.inr ((.inr false)))) (Option.bind (idx p_1.2.1 s25) fun x36 =>
Option.bind (g_depot_night_takes p_0 s25 x36) fun y37 =>
cond ((!y37)) (some (.inr ((.inr false)))) (some (.inl ((w64 (s25 + 1))))))) (some (.inr ((.inl (())))))) big 0) fun t39 =>
alt (fun b41 => Option.bind (g_depot_night_fit p_0 p_1.1) fun y44 =>
some y44) (fun b42 => some b42) t39)
def g_depot_night_leave_1_1 (i_0 : Int) (p_1 : (List Bool)) : Option (Bool) :=
Option.bind (idx p_1 i_0) fun x1 =>
some x1
def g_ref09_in (x_0 : Int) (low_1 : Int) (high_2 : Int) : Option (Bool) :=
Option.bind (cond ((decide (x_0 ≥ low_1))) (some ((decide (x_0 ≤ high_2)))) (some false)) fun c2 =>
some c2
def g_ref09_Order (l_0 : (List Int)) : Option (Bool) :=
Option.bind (mkO 1 ((lenI l_0)) (false : Bool)) fun x1 =>
Option.bind (iter (σ := (Int × (List Bool))) (τ := ((List Bool)) ⊕ (Bool × (List Bool))) (fun s34 =>
cond ((decide (s34.1 < (lenI l_0)))) (Option.bind (idx l_0 s34.1) fun x42 =>
Option.bind (g_ref09_in x42 0 ((w64 ((lenI l_0) - 1)))) fun y43 =>
cond ((!y43)) (some (.inr ((.inr ((false, s34.2)))))) (Option.bind (idx l_0 s34.1) fun x46 =>
Option.bind (idx s34.2 x46) fun x47 =>
cond (x47) (some (.inr ((.inr ((false, s34.2)))))) (Option.bind (idx l_0 s34.1) fun x49 =>
Option.bind (idx s34.2 x49) fun x50 =>
some (.inl (((w64 (s34.1 + 1)), (s34.2).set (Int.toNat x49) true)))))) (some (.inr ((.inl s34.2))))) big ((0, x1))) fun t51 =>
alt (fun b53 => some ((decide ((lenI l_0) ≤ 200)))) (fun b54 => some b54.1) t51
def g_ref09_InWay (l_0 : (List Int)) (through_1 : Bool) (i_2 : Int) (j_3 : Int) : Option (Bool) :=
cond (through_1) (Option.bind (idx l_0 j_3) fun x2 =>
Option.bind (idx l_0 i_2) fun x3 =>
some ((decide (x2 < x3)))) (Option.bind (idx l_0 i_2) fun x4 =>
Option.bind (idx l_0 j_3) fun x5 =>
some ((decide (x4 < x5))))
def g_ref09_Assign (l_0 : (List Int)) (through_1 : Bool) : Option ((List Int)) :=
Option.bind (mkO 8 ((lenI l_0)) (0 : Int)) fun x2 =>
Option.bind (iter (σ := (Int × (List Int))) (τ := ((List Int))) (fun s203 =>
cond ((decide (s203.1 < (lenI l_0)))) (Option.bind (iter (σ := (Bool × (List Int))) (τ := ((List Int))) (fun s268 =>
cond (s268.1) (Option.bind (iter (σ := (Bool × Int)) (τ := (Bool)) (fun s282 =>
cond ((decide (s282.2 < s203.1))) (cond (s282.1) (some (.inl ((true, (w64 (s282.2 + 1)))))) (Option.bind (idx s268.2 s282.2) fun x291 =>
Option.bind (idx s268.2 s203.1) fun x292 =>
cond ((x291 == x292)) (Option.bind (g_ref09_InWay l_0 through_1 s282.2 s203.1) fun y294 =>
some (.inl ((y294, (w64 (s282.2 + 1)))))) (some (.inl ((false, (w64 (s282.2 + 1)))))))) (some (.inr s282.1))) big ((false, 0))) fun t295 =>
cond (t295) (Option.bind (idx s268.2 s203.1) fun x299 =>
Option.bind (idx s268.2 s203.1) fun x300 =>
some (.inl ((t295, (s268.2).set (Int.toNat s203.1) ((w64 (x299 + 1))))))) (some (.inl ((t295, s268.2))))) (some (.inr s268.2))) big ((true, s203.2))) fun t301 =>
some (.inl (((w64 (s203.1 + 1)), t301)))) (some (.inr s203.2))) big ((0, x2))) fun t304 =>
some t304
def g_ref09_Proof (p_0 : (List Int)) (p_1 : Bool) : Option ((List Int)) :=
Option.bind (mkO 8 ((lenI p_0)) (0 : Int)) fun x2 =>
Option.bind (iter (σ := (Int × Int × (List Int))) (τ := (Int × (List Int))) (fun s57 =>
cond ((decide (s57.2.1 ≥ 0))) (Option.bind (idx s57.2.2 s57.2.1) fun x60 =>
Option.bind (iter (σ := (Int × (List Int))) (τ := ((List Int))) (fun s73 =>
cond ((decide (s73.1 < (lenI p_0)))) (Option.bind (g_ref09_InWay p_0 p_1 s57.2.1 s73.1) fun y76 =>
cond (y76) (Option.bind (idx s73.2 s57.2.1) fun x78 =>
Option.bind (idx s73.2 s73.1) fun x79 =>
Option.bind (idx s73.2 s57.2.1) fun x80 =>
some (.inl (((w64 (s73.1 + 1)), (s73.2).set (Int.toNat s57.2.1) ((max x78 ((w64 (1 + x79))))))))) (some (.inl (((w64 (s73.1 + 1)), s73.2))))) (some (.inr s73.2))) big (((w64 (s57.2.1 + 1)), (s57.2.2).set (Int.toNat s57.2.1) 1))) fun t81 =>
Option.bind (idx t81 s57.2.1) fun x84 =>
some (.inl (((max s57.1 x84), (w64 (s57.2.1 - 1)), t81)))) (some (.inr (((s57.1, s57.2.2)))))) big ((0, (w64 ((lenI p_0) - 1)), x2))) fun t85 =>
Option.bind (iter (σ := (Int × (List Int) × Int)) (τ := ((List Int))) (fun s109 =>
cond ((decide (s109.2.2 < (lenI p_0)))) (Option.bind (idx t85.2 s109.2.2) fun x120 =>
cond ((x120 == s109.1)) (cond (((lenI s109.2.1) == 0)) (Option.bind (appO 8 s109.2.1 ([s109.2.2])) fun x124 =>
some (.inl (((w64 (s109.1 - 1)), x124, (w64 (s109.2.2 + 1)))))) (Option.bind (idx s109.2.1 ((w64 ((lenI s109.2.1) - 1)))) fun x127 =>
Option.bind (g_ref09_InWay p_0 p_1 x127 s109.2.2) fun y128 =>
cond (y128) (Option.bind (appO 8 s109.2.1 ([s109.2.2])) fun x130 =>
some (.inl (((w64 (s109.1 - 1)), x130, (w64 (s109.2.2 + 1)))))) (some (.inl ((s109.1, s109.2.1, (w64 (s109.2.2 + 1)))))))) (some (.inl ((s109.1, s109.2.1, (w64 (s109.2.2 + 1))))))) (some (.inr s109.2.1))) big ((t85.1, [], 0))) fun t137 =>
some t137
def g_law09_DepotAssigns (order_0 : (List Int)) (through_1 : Bool) : Option (Bool) :=
Option.bind (cond ((decide ((lenI order_0) > 30))) (cond ((decide ((lenI order_0) ≤ 190))) (some true) (some ((decide ((lenI order_0) > 220))))) (some ((decide ((lenI order_0) > 220))))) fun c3 =>
cond (c3) (some true) (Option.bind (g_depot_Assign order_0 through_1) fun y7 =>
Option.bind (g_ref09_Order order_0) fun y12 =>
cond ((!y12)) (Option.bind (cond ((y7.2.2 == 2)) (cond (((w64 ((lenI y7.1) + (lenI y7.2.1))) == 0)) (some true) (some false)) (some false)) fun c16 =>
some c16) (cond ((y7.2.2 == 0)) (Option.bind (g_ref09_Assign order_0 through_1) fun y31 =>
Option.bind (g_ref09_Same y7.1 y31) fun y34 =>
cond (y34) (Option.bind (g_ref09_Proof order_0 through_1) fun y36 =>
Option.bind (g_ref09_Same y7.2.1 y36) fun y39 =>
cond (y39) (some true) (some false)) (some false)) (some false)))
def g_law09_few (t_0 : (List StableTrack)) (c_1 : (List StableCar)) (l_2 : (List StableLeave)) (most_3 : Int) : Option (Bool) :=
Option.bind (cond ((decide ((lenI t_0) ≤ 8))) (cond ((decide ((lenI c_1) ≤ 12))) (cond ((decide ((lenI l_2) ≤ 12))) (cond ((decide ((lenI c_1) ≤ most_3))) (some true) (some ((decide ((lenI c_1) > 9))))) (some false)) (some false)) (some false)) fun c5 =>
some c5
def g_ref09_Night (p_0 : (List StableTrack)) (p_1 : (List StableCar)) (p_2 : (List StableLeave)) : Option (Bool) :=
Option.bind (Option.bind (g_ref09_in ((lenI p_0)) 1 5) fun y5 =>
cond ((!y5)) (some true) (cond (((lenI p_1) != (lenI p_2))) (some true) (some ((decide ((lenI p_1) > 9)))))) fun c4 =>
cond (c4) (some false) (Option.bind (iter (σ := (Int)) (τ := Unit ⊕ (Bool)) (fun s13 =>
cond ((decide (s13 < (lenI p_0)))) (Option.bind (idx p_0 s13) fun x16 =>
Option.bind (g_ref09_in x16.1 0 10000000) fun y17 =>
cond ((!y17)) (some (.inr ((.inr false)))) (some (.inl ((w64 (s13 + 1)))))) (some (.inr ((.inl (())))))) big 0) fun t19 =>
alt (fun b21 => Option.bind (iter (σ := (Int)) (τ := Unit ⊕ (Bool)) (fun s81 =>
cond ((decide (s81 < (lenI p_1)))) (Option.bind (idx p_1 s81) fun x84 =>
Option.bind (idx p_2 s81) fun x85 =>
Option.bind (g_ref09_in x84.1 0 100) fun y100 =>
cond ((!y100)) (some (.inr ((.inr false)))) (Option.bind (g_ref09_in x84.2.1 1 10000000) fun y103 =>
cond ((!y103)) (some (.inr ((.inr false)))) (Option.bind (g_ref09_in x84.2.2.1 0 200000) fun y106 =>
cond ((!y106)) (some (.inr ((.inr false)))) (Option.bind (g_ref09_in x84.2.2.2.1 0 200000) fun y109 =>
cond ((!y109)) (some (.inr ((.inr false)))) (cond ((decide (s81 > 0))) (Option.bind (idx p_1 ((w64 (s81 - 1)))) fun x113 =>
cond ((decide (x84.2.2.1 < x113.2.2.1))) (some (.inr ((.inr false)))) (Option.bind (g_ref09_in x85.1 0 100) fun y120 =>
cond ((!y120)) (some (.inr ((.inr false)))) (Option.bind (g_ref09_in x85.2.1 0 200000) fun y123 =>
cond ((!y123)) (some (.inr ((.inr false)))) (Option.bind (idx p_2 ((w64 (s81 - 1)))) fun x126 =>
cond ((decide (x85.2.1 < x126.2.1))) (some (.inr ((.inr false)))) (some (.inl ((w64 (s81 + 1))))))))) (Option.bind (g_ref09_in x85.1 0 100) fun y133 =>
cond ((!y133)) (some (.inr ((.inr false)))) (Option.bind (g_ref09_in x85.2.1 0 200000) fun y136 =>
cond ((!y136)) (some (.inr ((.inr false)))) (some (.inl ((w64 (s81 + 1)))))))))))) (some (.inr ((.inl (())))))) big 0) fun t140 =>
alt (fun b142 => some true) (fun b143 => some b143) t140) (fun b22 => some b22) t19)
def g_law09_same (a_0 : StablePlan) (b_1 : StablePlan) : Option (Bool) :=
Option.bind (cond ((a_0.2.2.1 == b_1.2.2.1)) (Option.bind (g_ref09_Same a_0.1 b_1.1) fun y7 =>
cond (y7) (Option.bind (g_ref09_Same a_0.2.1 b_1.2.1) fun y9 =>
some y9) (some false)) (some false)) fun c5 =>
some c5
def g_ref09_Moves (p_0 : (List StableTrack)) (p_1 : (List StableCar)) (p_2 : (List StableLeave)) (p_3 : StablePlan) : Option (Int × Bool) :=
Option.bind (cond (((lenI p_3.1) != (lenI p_1))) (some true) (cond (((lenI p_3.2.1) != (lenI p_1))) (some true) (cond ((decide ((lenI p_1) > 0))) (Option.bind (idx p_1 ((w64 ((lenI p_1) - 1)))) fun x10 =>
Option.bind (idx p_2 0) fun x11 =>
some ((decide (x10.2.2.1 > x11.2.1)))) (some false)))) fun c6 =>
cond (c6) (some ((0, false))) (Option.bind (mkO 8 ((lenI p_0)) (0 : Int)) fun x13 =>
Option.bind (mkO 1 ((lenI p_1)) (false : Bool)) fun x16 =>
Option.bind (iter (σ := (Int × (List Bool) × (List Int))) (τ := ((List Bool) × (List Int)) ⊕ (Int × Bool × (List Bool) × (List Int))) (fun s117 =>
cond ((decide (s117.1 < (lenI p_1)))) (Option.bind (idx p_3.1 s117.1) fun x128 =>
Option.bind (g_ref09_in x128 0 ((w64 ((lenI p_0) - 1)))) fun y129 =>
cond ((!y129)) (some (.inr ((.inr ((0, false, s117.2.1, s117.2.2)))))) (Option.bind (idx p_3.2.1 s117.1) fun x132 =>
Option.bind (g_ref09_in x132 0 ((w64 ((lenI p_1) - 1)))) fun y133 =>
cond ((!y133)) (some (.inr ((.inr ((0, false, s117.2.1, s117.2.2)))))) (Option.bind (idx p_3.2.1 s117.1) fun x136 =>
Option.bind (idx s117.2.1 x136) fun x137 =>
cond (x137) (some (.inr ((.inr ((0, false, s117.2.1, s117.2.2)))))) (Option.bind (idx p_3.2.1 s117.1) fun x139 =>
Option.bind (idx s117.2.1 x139) fun x140 =>
Option.bind (idx p_3.2.1 s117.1) fun x141 =>
Option.bind (idx p_2 x141) fun x142 =>
Option.bind (idx p_1 s117.1) fun x150 =>
cond ((x142.1 != x150.1)) (some (.inr ((.inr ((0, false, (s117.2.1).set (Int.toNat x139) true, s117.2.2)))))) (Option.bind (idx p_1 s117.1) fun x153 =>
cond ((decide (x142.2.1 > x153.2.2.2.1))) (some (.inr ((.inr ((0, false, (s117.2.1).set (Int.toNat x139) true, s117.2.2)))))) (Option.bind (idx p_1 s117.1) fun x156 =>
cond ((decide (x142.2.1 < x156.2.2.1))) (some (.inr ((.inr ((0, false, (s117.2.1).set (Int.toNat x139) true, s117.2.2)))))) (Option.bind (idx p_3.1 s117.1) fun x158 =>
Option.bind (idx p_3.1 s117.1) fun x159 =>
Option.bind (idx s117.2.2 x159) fun x160 =>
Option.bind (idx p_1 s117.1) fun x161 =>
Option.bind (idx s117.2.2 x158) fun x162 =>
Option.bind (idx p_3.1 s117.1) fun x163 =>
Option.bind (idx ((s117.2.2).set (Int.toNat x158) ((w64 (x160 + x161.2.1)))) x163) fun x164 =>
Option.bind (idx p_3.1 s117.1) fun x165 =>
Option.bind (idx p_0 x165) fun x166 =>
cond ((decide (x164 > x166.1))) (some (.inr ((.inr ((0, false, (s117.2.1).set (Int.toNat x139) true, (s117.2.2).set (Int.toNat x158) ((w64 (x160 + x161.2.1))))))))) (some (.inl (((w64 (s117.1 + 1)), (s117.2.1).set (Int.toNat x139) true, (s117.2.2).set (Int.toNat x158) ((w64 (x160 + x161.2.1)))))))))))))) (some (.inr ((.inl ((s117.2.1, s117.2.2))))))) big ((0, x16, x13))) fun t168 =>
alt (fun b170 => Option.bind (iter (σ := (Int × Int)) (τ := (Int)) (fun s209 =>
cond ((decide (s209.2 < (lenI p_1)))) (Option.bind (iter (σ := (Int × Int)) (τ := (Int)) (fun s227 =>
cond ((decide (s227.2 < s209.2))) (Option.bind (idx p_3.1 s227.2) fun x236 =>
Option.bind (idx p_3.1 s209.2) fun x237 =>
cond ((x236 == x237)) (Option.bind (idx p_3.1 s227.2) fun x239 =>
Option.bind (idx p_0 x239) fun x240 =>
Option.bind (g_ref09_InWay p_3.2.1 x240.2.1 s227.2 s209.2) fun y241 =>
cond (y241) (some (.inl (((w64 (s227.1 + 1)), (w64 (s227.2 + 1)))))) (some (.inl ((s227.1, (w64 (s227.2 + 1))))))) (some (.inl ((s227.1, (w64 (s227.2 + 1))))))) (some (.inr s227.1))) big ((s209.1, 0))) fun t244 =>
some (.inl ((t244, (w64 (s209.2 + 1)))))) (some (.inr s209.1))) big ((0, 0))) fun t247 =>
some ((t247, true))) (fun b171 => some ((b171.1, b171.2.1))) t168)
def g_ref09_has (l_0 : (List Int)) (x_1 : Int) : Option (Bool) :=
Option.bind (iter (σ := (Int)) (τ := Unit ⊕ (Bool)) (fun s4 =>
cond ((decide (s4 < (lenI l_0)))) (Option.bind (idx l_0 s4) fun x7 =>
cond ((x7 == x_1)) (some (.inr ((.inr true)))) (some (.inl ((w64 (s4 + 1)))))) (some (.inr ((.inl (())))))) big 0) fun t9 =>
alt (fun b11 => some false) (fun b12 => some b12) t9
def g_ref09_lists (n_0 : Int) (bound_1 : Int) (different_2 : Bool) : Option ((List (List Int))) :=
Option.bind (iter (σ := ((List (List Int)) × Int)) (τ := ((List (List Int)))) (fun s153 =>
cond ((decide (s153.2 < n_0))) (Option.bind (iter (σ := ((List (List Int)) × Int)) (τ := ((List (List Int)))) (fun s228 =>
cond ((decide (s228.2 < (lenI s153.1)))) (Option.bind (iter (σ := ((List (List Int)) × Int)) (τ := ((List (List Int)))) (fun s261 =>
cond ((decide (s261.2 < bound_1))) (cond ((!different_2)) (Option.bind (idx s153.1 s228.2) fun x272 =>
Option.bind (appO 8 ([]) x272) fun x274 =>
Option.bind (appO 8 x274 ([s261.2])) fun x276 =>
Option.bind (appO 24 s261.1 ([x276])) fun x278 =>
some (.inl ((x278, (w64 (s261.2 + 1)))))) (Option.bind (idx s153.1 s228.2) fun x281 =>
Option.bind (g_ref09_has x281 s261.2) fun y282 =>
cond ((!y282)) (Option.bind (idx s153.1 s228.2) fun x284 =>
Option.bind (appO 8 ([]) x284) fun x286 =>
Option.bind (appO 8 x286 ([s261.2])) fun x288 =>
Option.bind (appO 24 s261.1 ([x288])) fun x290 =>
some (.inl ((x290, (w64 (s261.2 + 1)))))) (some (.inl ((s261.1, (w64 (s261.2 + 1)))))))) (some (.inr s261.1))) big ((s228.1, 0))) fun t295 =>
some (.inl ((t295, (w64 (s228.2 + 1)))))) (some (.inr s228.1))) big (([], 0))) fun t301 =>
some (.inl ((t301, (w64 (s153.2 + 1)))))) (some (.inr s153.1))) big (([[]], 0))) fun t307 =>
some t307
def g_ref09_Best (p_0 : (List StableTrack)) (p_1 : (List StableCar)) (p_2 : (List StableLeave)) : Option (StablePlan × Bool) :=
Option.bind (g_ref09_lists ((lenI p_1)) ((lenI p_0)) false) fun y3 =>
Option.bind (g_ref09_lists ((lenI p_1)) ((lenI p_1)) true) fun y6 =>
Option.bind (iter (σ := (Bool × Int × (List Int) × (List Int) × Int)) (τ := (Bool × (List Int) × (List Int) × Int)) (fun s101 =>
cond ((decide (s101.2.1 < (lenI y3)))) (Option.bind (iter (σ := (Bool × Int × (List Int) × (List Int) × Int)) (τ := (Bool × (List Int) × (List Int) × Int)) (fun s130 =>
cond ((decide (s130.2.1 < (lenI y6)))) (Option.bind (idx y3 s101.2.1) fun x133 =>
Option.bind (idx y6 s130.2.1) fun x134 =>
Option.bind (g_ref09_Moves p_0 p_1 p_2 (((x133, x134, 0, ()) : StablePlan))) fun y137 =>
cond (y137.2) (cond ((!s130.1)) (some (.inl ((true, (w64 (s130.2.1 + 1)), (((x133, x134, 0, ()) : StablePlan)).1, (((x133, x134, 0, ()) : StablePlan)).2.1, y137.1)))) (cond ((decide (y137.1 < s130.2.2.2.2))) (some (.inl ((true, (w64 (s130.2.1 + 1)), (((x133, x134, 0, ()) : StablePlan)).1, (((x133, x134, 0, ()) : StablePlan)).2.1, y137.1)))) (some (.inl ((s130.1, (w64 (s130.2.1 + 1)), s130.2.2.1, s130.2.2.2.1, s130.2.2.2.2)))))) (some (.inl ((s130.1, (w64 (s130.2.1 + 1)), s130.2.2.1, s130.2.2.2.1, s130.2.2.2.2))))) (some (.inr (((s130.1, s130.2.2.1, s130.2.2.2.1, s130.2.2.2.2)))))) big ((s101.1, 0, s101.2.2.1, s101.2.2.2.1, s101.2.2.2.2))) fun t145 =>
some (.inl ((t145.1, (w64 (s101.2.1 + 1)), t145.2.1, t145.2.2.1, t145.2.2.2)))) (some (.inr (((s101.1, s101.2.2.1, s101.2.2.2.1, s101.2.2.2.2)))))) big ((false, 0, [], [], 0))) fun t148 =>
some (((t148.2.1, t148.2.2.1, t148.2.2.2, ()), t148.1))
def g_ref09_Jobs (l_0 : (List WashJob)) : Option (Bool) :=
Option.bind (iter (σ := (Int)) (τ := Unit ⊕ (Bool)) (fun s24 =>
cond ((decide (s24 < (lenI l_0)))) (Option.bind (idx l_0 s24) fun x36 =>
cond ((decide (x36.1 < 0))) (some (.inr ((.inr false)))) (Option.bind (idx l_0 s24) fun x39 =>
Option.bind (idx l_0 s24) fun x40 =>
cond ((decide (x39.1 > x40.2.1))) (some (.inr ((.inr false)))) (Option.bind (idx l_0 s24) fun x43 =>
cond ((decide (x43.2.1 > 200000))) (some (.inr ((.inr false)))) (Option.bind (idx l_0 s24) fun x46 =>
Option.bind (g_ref09_in x46.2.2.1 1 100000) fun y47 =>
cond ((!y47)) (some (.inr ((.inr false)))) (some (.inl ((w64 (s24 + 1))))))))) (some (.inr ((.inl (())))))) big 0) fun t49 =>
alt (fun b51 => some ((decide ((lenI l_0) ≤ 8)))) (fun b52 => some b52) t49
def g_ref09_Late (l_0 : (List WashJob)) (order_1 : (List Int)) : Option (Int × Int) :=
Option.bind (iter (σ := (Int × Int × Int)) (τ := (Int × Int)) (fun s6 =>
cond ((decide (s6.2.2 < (lenI order_1)))) (Option.bind (idx order_1 s6.2.2) fun x9 =>
Option.bind (idx l_0 x9) fun x10 =>
some (.inl (((max s6.1 ((w64 ((w64 ((max s6.2.1 x10.1) + x10.2.2.1)) - x10.2.1)))), (w64 ((max s6.2.1 x10.1) + x10.2.2.1)), (w64 (s6.2.2 + 1)))))) (some (.inr (((s6.1, s6.2.1)))))) big ((0, 0, 0))) fun t13 =>
some ((t13.1, t13.2))
def g_ref09_Wash (p_0 : (List WashJob)) : Option ((List Int) × Int) :=
Option.bind (g_ref09_lists ((lenI p_0)) ((lenI p_0)) true) fun y1 =>
Option.bind (idx y1 0) fun x4 =>
Option.bind (iter (σ := ((List Int) × Int)) (τ := ((List Int))) (fun s18 =>
cond ((decide (s18.2 < (lenI y1)))) (Option.bind (g_ref09_Late p_0 s18.1) fun y21 =>
Option.bind (idx y1 s18.2) fun x22 =>
Option.bind (g_ref09_Late p_0 x22) fun y23 =>
cond ((decide (y23.1 < y21.1))) (Option.bind (idx y1 s18.2) fun x28 =>
some (.inl ((x28, (w64 (s18.2 + 1)))))) (cond ((y23.1 == y21.1)) (cond ((decide (y23.2 < y21.2))) (Option.bind (idx y1 s18.2) fun x31 =>
some (.inl ((x31, (w64 (s18.2 + 1)))))) (some (.inl ((s18.1, (w64 (s18.2 + 1))))))) (some (.inl ((s18.1, (w64 (s18.2 + 1)))))))) (some (.inr s18.1))) big ((x4, 1))) fun t33 =>
Option.bind (g_ref09_Late p_0 t33) fun y36 =>
some ((t33, y36.1))
def g_depot_Late (l_0 : (List WashJob)) (order_1 : (List Int)) : Option (Int × Int × Int) :=
Option.bind (Option.bind (g_depot_jobs l_0) fun y6 =>
cond ((!y6)) (some true) (cond (((lenI order_1) != (lenI l_0))) (some true) (Option.bind (g_depot_permutation order_1) fun y9 =>
some ((!y9))))) fun c5 =>
cond (c5) (some ((0, 0, 2))) (Option.bind (g_depot_washed l_0 order_1) fun y11 =>
some ((y11.2.1, y11.2.2.1, 0)))
def g_depot_Proves_1 (i_0 : Int) (p_1 : ((Int × Int) → Option (Bool))) (p_2 : Int) : Option (Bool) :=
Option.bind (p_1 ((i_0, p_2))) fun y1 =>
some ((!y1))
def g_depot_Proves (p_0 : (List Int)) (p_1 : Bool) (p_2 : Int) (p_3 : (List Int)) : Option (Bool) :=
Option.bind (cond ((decide ((lenI p_0) > 200))) (some true) (Option.bind (g_depot_permutation p_0) fun y7 =>
cond ((!y7)) (some true) (cond ((decide (p_2 < 0))) (some true) (some ((decide ((lenI p_3) < p_2))))))) fun c5 =>
cond (c5) (some false) (Option.bind (g_depot_leaving_way p_0 p_1) fun y11 =>
Option.bind (iter (σ := (Int)) (τ := Unit ⊕ (Bool)) (fun s40 =>
cond ((decide (s40 < (lenI p_3)))) (Option.bind (idx p_3 s40) fun x43 =>
Option.bind (g_depot_within x43 0 ((w64 ((lenI p_0) - 1)))) fun y55 =>
cond ((!y55)) (some (.inr ((.inr false)))) (cond ((decide (s40 > 0))) (Option.bind (idx p_3 ((w64 (s40 - 1)))) fun x59 =>
cond ((decide (x43 ≤ x59))) (some (.inr ((.inr false)))) (Option.bind (slO p_3 0 s40) fun x62 =>
Option.bind (g_slices_ContainsFunc_int_int x62 ((fun x => g_depot_Proves_1 x y11 x43))) fun y63 =>
cond (y63) (some (.inr ((.inr false)))) (some (.inl ((w64 (s40 + 1))))))) (Option.bind (slO p_3 0 s40) fun x65 =>
Option.bind (g_slices_ContainsFunc_int_int x65 ((fun x => g_depot_Proves_1 x y11 x43))) fun y66 =>
cond (y66) (some (.inr ((.inr false)))) (some (.inl ((w64 (s40 + 1)))))))) (some (.inr ((.inl (())))))) big 0) fun t68 =>
alt (fun b70 => some true) (fun b71 => some b71) t68)
def g_ref09_Proves (p_0 : (List Int)) (p_1 : Bool) (p_2 : Int) (p_3 : (List Int)) : Option (Bool) :=
Option.bind (Option.bind (g_ref09_Order p_0) fun y5 =>
cond ((!y5)) (some true) (cond ((decide (p_2 < 0))) (some true) (some ((decide ((lenI p_3) < p_2)))))) fun c4 =>
cond (c4) (some false) (Option.bind (iter (σ := (Int)) (τ := Unit ⊕ (Bool)) (fun s61 =>
cond ((decide (s61 < (lenI p_3)))) (Option.bind (idx p_3 s61) fun x70 =>
Option.bind (g_ref09_in x70 0 ((w64 ((lenI p_0) - 1)))) fun y71 =>
cond ((!y71)) (some (.inr ((.inr false)))) (cond ((decide (s61 > 0))) (Option.bind (idx p_3 s61) fun x75 =>
Option.bind (idx p_3 ((w64 (s61 - 1)))) fun x76 =>
cond ((decide (x75 ≤ x76))) (some (.inr ((.inr false)))) (Option.bind (iter (σ := (Int)) (τ := Unit ⊕ (Bool)) (fun s83 =>
cond ((decide (s83 < s61))) (Option.bind (idx p_3 s83) fun x86 =>
Option.bind (idx p_3 s61) fun x87 =>
Option.bind (g_ref09_InWay p_0 p_1 x86 x87) fun y88 =>
cond ((!y88)) (some (.inr ((.inr false)))) (some (.inl ((w64 (s83 + 1)))))) (some (.inr ((.inl (())))))) big 0) fun t90 =>
alt (fun b92 => some (.inl ((w64 (s61 + 1))))) (fun b93 => some (.inr ((.inr b93)))) t90)) (Option.bind (iter (σ := (Int)) (τ := Unit ⊕ (Bool)) (fun s102 =>
cond ((decide (s102 < s61))) (Option.bind (idx p_3 s102) fun x105 =>
Option.bind (idx p_3 s61) fun x106 =>
Option.bind (g_ref09_InWay p_0 p_1 x105 x106) fun y107 =>
cond ((!y107)) (some (.inr ((.inr false)))) (some (.inl ((w64 (s102 + 1)))))) (some (.inr ((.inl (())))))) big 0) fun t109 =>
alt (fun b111 => some (.inl ((w64 (s61 + 1))))) (fun b112 => some (.inr ((.inr b112)))) t109))) (some (.inr ((.inl (())))))) big 0) fun t115 =>
alt (fun b117 => some true) (fun b118 => some b118) t115)
def g_law09_DepotProves (order_0 : (List Int)) (through_1 : Bool) (tracks_2 : Int) (proof_3 : (List Int)) : Option (Bool) :=
Option.bind (cond ((decide ((lenI order_0) > 40))) (some true) (some ((decide ((lenI proof_3) > 40))))) fun c2 =>
cond (c2) (some true) (Option.bind (Option.bind (g_depot_Proves order_0 through_1 tracks_2 proof_3) fun y9 =>
Option.bind (g_ref09_Proves order_0 through_1 tracks_2 proof_3) fun y10 =>
cond ((y9 == y10)) (some true) (some false)) fun c8 =>
some c8)
def g_law09_used (order_0 : (List Int)) (through_1 : Bool) (tracks_2 : (List Int)) : Option (Int × Bool) :=
cond (((lenI tracks_2) != (lenI order_0))) (some ((0, false))) (Option.bind (iter (σ := (Int × Int)) (τ := (Int) ⊕ (Int × Bool)) (fun s24 =>
cond ((decide (s24.2 < (lenI order_0)))) (Option.bind (iter (σ := (Bool × Int)) (τ := (Bool) ⊕ (Int × Bool)) (fun s33 =>
cond ((decide (s33.2 < s24.2))) (Option.bind (idx tracks_2 s33.2) fun x36 =>
Option.bind (idx tracks_2 s24.2) fun x37 =>
cond ((x36 == x37)) (Option.bind (g_ref09_InWay order_0 through_1 s33.2 s24.2) fun y39 =>
cond (y39) (some (.inr ((.inr ((0, false)))))) (some (.inl ((false, (w64 (s33.2 + 1))))))) (some (.inl ((s33.1, (w64 (s33.2 + 1))))))) (some (.inr ((.inl s33.1))))) big ((true, 0))) fun t41 =>
alt (fun b43 => cond (b43) (some (.inl (((w64 (s24.1 + 1)), (w64 (s24.2 + 1)))))) (some (.inl ((s24.1, (w64 (s24.2 + 1))))))) (fun b44 => some (.inr ((.inr ((b44.1, b44.2)))))) t41) (some (.inr ((.inl s24.1))))) big ((0, 0))) fun t48 =>
alt (fun b50 => some ((b50, true))) (fun b51 => some ((b51.1, b51.2))) t48)
def g_law09_DepotFewest (p_0 : (List Int)) (p_1 : Bool) (p_2 : (List Int)) (p_3 : Int) (p_4 : (List Int)) : Option (Bool) :=
Option.bind (cond ((decide ((lenI p_0) > 40))) (some true) (Option.bind (g_ref09_Order p_0) fun y7 =>
cond ((!y7)) (some true) (cond ((decide ((lenI p_2) > 40))) (some true) (some ((decide ((lenI p_4) > 40))))))) fun c5 =>
cond (c5) (some true) (Option.bind (g_depot_Assign p_0 p_1) fun y11 =>
cond ((y11.2.2 != 0)) (some false) (Option.bind (g_law09_used p_0 p_1 y11.1) fun y17 =>
Option.bind (cond ((!y17.2)) (some true) (Option.bind (g_depot_Proves p_0 p_1 y17.1 y11.2.1) fun y24 =>
cond ((!y24)) (some true) (Option.bind (g_ref09_Proves p_0 p_1 y17.1 y11.2.1) fun y26 =>
some ((!y26))))) fun c22 =>
cond (c22) (some false) (Option.bind (g_law09_used p_0 p_1 p_2) fun y28 =>
Option.bind (cond (y28.2) (some ((decide (y28.1 < y17.1)))) (some false)) fun c30 =>
cond (c30) (some false) (Option.bind (Option.bind (g_depot_Proves p_0 p_1 p_3 p_4) fun y36 =>
cond (y36) (some ((decide (p_3 > y17.1)))) (some false)) fun c35 =>
cond (c35) (some false) (Option.bind (iter (σ := ((List Int) × Int)) (τ := ((List Int))) (fun s46 =>
cond ((decide (s46.2 ≥ 0))) (Option.bind (idx p_0 s46.2) fun x52 =>
Option.bind (appO 8 s46.1 ([x52])) fun x53 =>
some (.inl ((x53, (w64 (s46.2 - 1)))))) (some (.inr s46.1))) big (([], (w64 ((lenI p_0) - 1))))) fun t57 =>
Option.bind (g_depot_Assign t57 ((!p_1))) fun y61 =>
Option.bind (g_law09_used t57 ((!p_1)) y61.1) fun y66 =>
Option.bind (cond ((y61.2.2 == 0)) (cond (y66.2) (cond ((y66.1 == y17.1)) (some true) (some false)) (some false)) (some false)) fun c70 =>
some c70)))))
def g_ref09_Play (p_0 : (List StableTrack)) (p_1 : (List StableCar)) (p_2 : StablePlan) : Option ((List StableMove)) :=
Option.bind (iter (σ := ((List StableMove) × Int)) (τ := ((List StableMove))) (fun s9 =>
cond ((decide (s9.2 < (lenI p_1)))) (Option.bind (idx p_2.1 s9.2) fun x15 =>
Option.bind (appO 24 s9.1 ([((1, s9.2, x15, ()) : StableMove)])) fun x16 =>
some (.inl ((x16, (w64 (s9.2 + 1)))))) (some (.inr s9.1))) big (([], 0))) fun t20 =>
Option.bind (mkO 1 ((lenI p_1)) (false : Bool)) fun x24 =>
Option.bind (iter (σ := ((List StableMove) × Int × (List Bool))) (τ := ((List StableMove) × (List Bool))) (fun s216 =>
cond ((decide (s216.2.1 < (lenI p_1)))) (Option.bind (iter (σ := (Int)) (τ := (Int)) (fun s224 =>
Option.bind (idx p_2.2.1 s224) fun x226 =>
cond ((x226 != s216.2.1)) (some (.inl ((w64 (s224 + 1))))) (some (.inr s224))) big 0) fun t228 =>
Option.bind (idx p_2.1 t228) fun x231 =>
Option.bind (idx p_0 x231) fun x232 =>
cond (x232.2.1) (Option.bind (iter (σ := ((List StableMove) × Int)) (τ := ((List StableMove))) (fun s247 =>
cond ((decide (s247.2 < t228))) (Option.bind (idx p_2.1 s247.2) fun x256 =>
cond ((x256 == x231)) (Option.bind (idx s216.2.2 s247.2) fun x258 =>
cond ((!x258)) (Option.bind (appO 24 s247.1 ([((2, s247.2, x231, ()) : StableMove)])) fun x260 =>
some (.inl ((x260, (w64 (s247.2 + 1)))))) (some (.inl ((s247.1, (w64 (s247.2 + 1))))))) (some (.inl ((s247.1, (w64 (s247.2 + 1))))))) (some (.inr s247.1))) big ((s216.1, 0))) fun t267 =>
Option.bind (appO 24 t267 ([((3, t228, x231, ()) : StableMove)])) fun x271 =>
Option.bind (idx s216.2.2 t228) fun x273 =>
some (.inl ((x271, (w64 (s216.2.1 + 1)), (s216.2.2).set (Int.toNat t228) true)))) (Option.bind (iter (σ := ((List StableMove) × Int)) (τ := ((List StableMove))) (fun s288 =>
cond ((decide (s288.2 > t228))) (Option.bind (idx p_2.1 s288.2) fun x297 =>
cond ((x297 == x231)) (Option.bind (idx s216.2.2 s288.2) fun x299 =>
cond ((!x299)) (Option.bind (appO 24 s288.1 ([((2, s288.2, x231, ()) : StableMove)])) fun x301 =>
some (.inl ((x301, (w64 (s288.2 - 1)))))) (some (.inl ((s288.1, (w64 (s288.2 - 1))))))) (some (.inl ((s288.1, (w64 (s288.2 - 1))))))) (some (.inr s288.1))) big ((s216.1, (w64 ((lenI p_1) - 1))))) fun t308 =>
Option.bind (appO 24 t308 ([((3, t228, x231, ()) : StableMove)])) fun x312 =>
Option.bind (idx s216.2.2 t228) fun x314 =>
some (.inl ((x312, (w64 (s216.2.1 + 1)), (s216.2.2).set (Int.toNat t228) true))))) (some (.inr (((s216.1, s216.2.2)))))) big ((t20, 0, x24))) fun t317 =>
some t317.1
def g_law09_played (p_0 : (List StableCar)) (p_1 : (List StableLeave)) (p_2 : StablePlan) (p_3 : (List StableMove)) : Option (Bool) :=
Option.bind (cond (((lenI p_3) != (w64 ((w64 (2 * (lenI p_0))) + p_2.2.2.1)))) (some true) (cond (((lenI p_2.2.1) != (lenI p_0))) (some true) (some (((lenI p_2.1) != (lenI p_0)))))) fun c3 =>
cond (c3) (some false) (Option.bind (iter (σ := (Int × Int × Int)) (τ := (Int × Int) ⊕ (Bool)) (fun s46 =>
cond ((decide (s46.2.2 < (lenI p_3)))) (Option.bind (idx p_3 s46.2.2) fun x49 =>
cond ((decide (x49.2.1 < 0))) (some (.inr ((.inr false)))) (cond ((decide (x49.2.1 ≥ (lenI p_0)))) (some (.inr ((.inr false)))) (Option.bind (idx p_2.1 x49.2.1) fun x59 =>
cond ((x49.2.2.1 != x59)) (some (.inr ((.inr false)))) (cond ((x49.1 == 1)) (cond ((x49.2.1 != s46.1)) (some (.inr ((.inr false)))) (cond ((decide (s46.2.1 > 0))) (some (.inr ((.inr false)))) (some (.inl (((w64 (s46.1 + 1)), s46.2.1, (w64 (s46.2.2 + 1)))))))) (cond ((x49.1 == 3)) (Option.bind (idx p_2.2.1 x49.2.1) fun x74 =>
cond ((x74 != s46.2.1)) (some (.inr ((.inr false)))) (Option.bind (idx p_1 s46.2.1) fun x77 =>
Option.bind (idx p_0 x49.2.1) fun x78 =>
cond ((x77.1 != x78.1)) (some (.inr ((.inr false)))) (Option.bind (idx p_0 x49.2.1) fun x81 =>
Option.bind (idx p_1 s46.2.1) fun x82 =>
cond ((decide (x81.2.2.1 > x82.2.1))) (some (.inr ((.inr false)))) (some (.inl ((s46.1, (w64 (s46.2.1 + 1)), (w64 (s46.2.2 + 1))))))))) (cond ((x49.1 == 2)) (Option.bind (idx p_2.2.1 x49.2.1) fun x85 =>
cond ((decide (x85 ≤ s46.2.1))) (some (.inr ((.inr false)))) (some (.inl ((s46.1, s46.2.1, (w64 (s46.2.2 + 1))))))) (some (.inl ((s46.1, s46.2.1, (w64 (s46.2.2 + 1)))))))))))) (some (.inr ((.inl ((s46.1, s46.2.1))))))) big ((0, 0, 0))) fun t87 =>
alt (fun b89 => Option.bind (cond ((b89.1 == (lenI p_0))) (some ((b89.2 == (lenI p_0)))) (some false)) fun c93 =>
some c93) (fun b90 => some b90) t87)
end Go.Ai.Sx
