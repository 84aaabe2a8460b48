/- Written by program: the data of the functions, and the functions as plain Lean. -/
import Derived.Test.YtpiblfbidgcjaaaM7
namespace Go.Ai.Sx
abbrev StableTrack : Type := Int × Bool × Unit
abbrev StableCar : Type := Int × Int × Int × Int × Unit
abbrev StableLeave : Type := Int × Int × Unit
abbrev depot_night : Type := (List StableTrack) × (List StableCar) × (List StableLeave) × Unit
abbrev StablePlanN1 : Type := (List Int) × Unit × Int × Unit
abbrev StablePlan : Type := (List Int) × (List Int) × Int × Unit
abbrev WashJob : Type := Int × Int × Int × Unit
abbrev depot_wash : Type := (List Int) × Int × Int × Unit
abbrev StableMove : Type := Int × Int × Int × Unit
abbrev rStableTrack : Rep StableTrack := (rPair (rInt .i64) (rPair rBool rUnit))
theorem fk_StableTrack_0 : FOk rStableTrack 0 (rInt .i64) (fun x => x.1) (fun x y => (y, x.2.1, ())) := FOk.off FOk.here rfl
theorem fk_StableTrack_1 : FOk rStableTrack 1 rBool (fun x => x.2.1) (fun x y => (x.1, y, ())) := FOk.off (FOk.there FOk.here) rfl
abbrev rStableCar : Rep StableCar := (rPair (rInt .i64) (rPair (rInt .i64) (rPair (rInt .i64) (rPair (rInt .i64) rUnit))))
theorem fk_StableCar_0 : FOk rStableCar 0 (rInt .i64) (fun x => x.1) (fun x y => (y, x.2.1, x.2.2.1, x.2.2.2.1, ())) := FOk.off FOk.here rfl
theorem fk_StableCar_1 : FOk rStableCar 1 (rInt .i64) (fun x => x.2.1) (fun x y => (x.1, y, x.2.2.1, x.2.2.2.1, ())) := FOk.off (FOk.there FOk.here) rfl
theorem fk_StableCar_2 : FOk rStableCar 2 (rInt .i64) (fun x => x.2.2.1) (fun x y => (x.1, x.2.1, y, x.2.2.2.1, ())) := FOk.off (FOk.there (FOk.there FOk.here)) rfl
theorem fk_StableCar_3 : FOk rStableCar 3 (rInt .i64) (fun x => x.2.2.2.1) (fun x y => (x.1, x.2.1, x.2.2.1, y, ())) := FOk.off (FOk.there (FOk.there (FOk.there FOk.here))) rfl
abbrev rStableLeave : Rep StableLeave := (rPair (rInt .i64) (rPair (rInt .i64) rUnit))
theorem fk_StableLeave_0 : FOk rStableLeave 0 (rInt .i64) (fun x => x.1) (fun x y => (y, x.2.1, ())) := FOk.off FOk.here rfl
theorem fk_StableLeave_1 : FOk rStableLeave 1 (rInt .i64) (fun x => x.2.1) (fun x y => (x.1, y, ())) := FOk.off (FOk.there FOk.here) rfl
abbrev rdepot_night : Rep depot_night := (rPair (rSlice rStableTrack) (rPair (rSlice rStableCar) (rPair (rSlice rStableLeave) rUnit)))
theorem fk_depot_night_0 : FOk rdepot_night 0 (rSlice rStableTrack) (fun x => x.1) (fun x y => (y, x.2.1, x.2.2.1, ())) := FOk.off FOk.here rfl
theorem fk_depot_night_1 : FOk rdepot_night 1 (rSlice rStableCar) (fun x => x.2.1) (fun x y => (x.1, y, x.2.2.1, ())) := FOk.off (FOk.there FOk.here) rfl
theorem fk_depot_night_2 : FOk rdepot_night 2 (rSlice rStableLeave) (fun x => x.2.2.1) (fun x y => (x.1, x.2.1, y, ())) := FOk.off (FOk.there (FOk.there FOk.here)) rfl
abbrev rStablePlanN1 : Rep StablePlanN1 := (rPair (rSlice (rInt .i64)) (rPair rNil (rPair (rInt .i64) rUnit)))
theorem fk_StablePlanN1_2 : FOk rStablePlanN1 2 (rInt .i64) (fun x => x.2.2.1) (fun x y => (x.1, x.2.1, y, ())) := FOk.off (FOk.there (FOk.there FOk.here)) rfl
abbrev rStablePlan : Rep StablePlan := (rPair (rSlice (rInt .i64)) (rPair (rSlice (rInt .i64)) (rPair (rInt .i64) rUnit)))
theorem fk_StablePlan_0 : FOk rStablePlan 0 (rSlice (rInt .i64)) (fun x => x.1) (fun x y => (y, x.2.1, x.2.2.1, ())) := FOk.off FOk.here rfl
theorem fk_StablePlan_1 : FOk rStablePlan 1 (rSlice (rInt .i64)) (fun x => x.2.1) (fun x y => (x.1, y, x.2.2.1, ())) := FOk.off (FOk.there FOk.here) rfl
theorem fk_StablePlan_2 : FOk rStablePlan 2 (rInt .i64) (fun x => x.2.2.1) (fun x y => (x.1, x.2.1, y, ())) := FOk.off (FOk.there (FOk.there FOk.here)) rfl
abbrev rWashJob : Rep WashJob := (rPair (rInt .i64) (rPair (rInt .i64) (rPair (rInt .i64) rUnit)))
theorem fk_WashJob_0 : FOk rWashJob 0 (rInt .i64) (fun x => x.1) (fun x y => (y, x.2.1, x.2.2.1, ())) := FOk.off FOk.here rfl
theorem fk_WashJob_1 : FOk rWashJob 1 (rInt .i64) (fun x => x.2.1) (fun x y => (x.1, y, x.2.2.1, ())) := FOk.off (FOk.there FOk.here) rfl
theorem fk_WashJob_2 : FOk rWashJob 2 (rInt .i64) (fun x => x.2.2.1) (fun x y => (x.1, x.2.1, y, ())) := FOk.off (FOk.there (FOk.there FOk.here)) rfl
abbrev rdepot_wash : Rep depot_wash := (rPair (rSlice (rInt .i64)) (rPair (rInt .i64) (rPair (rInt .i64) rUnit)))
theorem fk_depot_wash_0 : FOk rdepot_wash 0 (rSlice (rInt .i64)) (fun x => x.1) (fun x y => (y, x.2.1, x.2.2.1, ())) := FOk.off FOk.here rfl
theorem fk_depot_wash_1 : FOk rdepot_wash 1 (rInt .i64) (fun x => x.2.1) (fun x y => (x.1, y, x.2.2.1, ())) := FOk.off (FOk.there FOk.here) rfl
theorem fk_depot_wash_2 : FOk rdepot_wash 2 (rInt .i64) (fun x => x.2.2.1) (fun x y => (x.1, x.2.1, y, ())) := FOk.off (FOk.there (FOk.there FOk.here)) rfl
abbrev rStableMove : Rep StableMove := (rPair (rInt .i64) (rPair (rInt .i64) (rPair (rInt .i64) rUnit)))
theorem fk_StableMove_0 : FOk rStableMove 0 (rInt .i64) (fun x => x.1) (fun x y => (y, x.2.1, x.2.2.1, ())) := FOk.off FOk.here rfl
theorem fk_StableMove_1 : FOk rStableMove 1 (rInt .i64) (fun x => x.2.1) (fun x y => (x.1, y, x.2.2.1, ())) := FOk.off (FOk.there FOk.here) rfl
theorem fk_StableMove_2 : FOk rStableMove 2 (rInt .i64) (fun x => x.2.2.1) (fun x y => (x.1, x.2.1, y, ())) := FOk.off (FOk.there (FOk.there FOk.here)) rfl
def g_depot_within (n_0 : Int) (low_1 : Int) (high_2 : Int) : Option (Bool) :=
Option.bind (cond ((decide (n_0 ≥ low_1))) (some ((decide (n_0 ≤ high_2)))) (some false)) fun c2 =>
some c2
def g_ref09_Same (a_0 : (List Int)) (b_1 : (List Int)) : Option (Bool) :=
cond (((lenI a_0) != (lenI b_1))) (some false) (Option.bind (iter (σ := (Int)) (τ := Unit ⊕ (Bool)) (fun s6 =>
cond ((decide (s6 < (lenI a_0)))) (Option.bind (idx a_0 s6) fun x9 =>
Option.bind (idx b_1 s6) fun x10 =>
cond ((x9 != x10)) (some (.inr ((.inr false)))) (some (.inl ((w64 (s6 + 1)))))) (some (.inr ((.inl (())))))) big 0) fun t12 =>
alt (fun b14 => some true) (fun b15 => some b15) t12)
def g_depot_night_valid (p_0 : depot_night) : Option (Bool) :=
Option.bind (Option.bind (g_depot_within ((lenI p_0.1)) 1 5) fun y5 =>
cond ((!y5)) (some true) (cond (((lenI p_0.2.1) != (lenI p_0.2.2.1))) (some true) (some ((decide ((lenI p_0.2.1) > 9)))))) fun c4 =>
cond (c4) (some false) (Option.bind (iter (σ := (Int)) (τ := Unit ⊕ (Bool)) (fun s15 =>
cond ((decide (s15 < (lenI p_0.1)))) (Option.bind (idx p_0.1 s15) fun x18 =>
Option.bind (g_depot_within x18.1 0 10000000) fun y21 =>
cond ((!y21)) (some (.inr ((.inr false)))) (some (.inl ((w64 (s15 + 1)))))) (some (.inr ((.inl (())))))) big 0) fun t23 =>
alt (fun b25 => Option.bind (iter (σ := (Int)) (τ := Unit ⊕ (Bool)) (fun s57 =>
cond ((decide (s57 < (lenI p_0.2.1)))) (Option.bind (idx p_0.2.1 s57) fun x60 =>
Option.bind (g_depot_within x60.1 0 100) fun y73 =>
cond ((!y73)) (some (.inr ((.inr false)))) (Option.bind (g_depot_within x60.2.1 1 10000000) fun y76 =>
cond ((!y76)) (some (.inr ((.inr false)))) (Option.bind (g_depot_within x60.2.2.1 0 200000) fun y79 =>
cond ((!y79)) (some (.inr ((.inr false)))) (Option.bind (g_depot_within x60.2.2.2.1 0 200000) fun y82 =>
cond ((!y82)) (some (.inr ((.inr false)))) (cond ((decide (s57 > 0))) (Option.bind (idx p_0.2.1 ((w64 (s57 - 1)))) fun x86 =>
cond ((decide (x60.2.2.1 < x86.2.2.1))) (some (.inr ((.inr false)))) (some (.inl ((w64 (s57 + 1)))))) (some (.inl ((w64 (s57 + 1)))))))))) (some (.inr ((.inl (())))))) big 0) fun t89 =>
alt (fun b91 => Option.bind (iter (σ := (Int)) (τ := Unit ⊕ (Bool)) (fun s113 =>
cond ((decide (s113 < (lenI p_0.2.2.1)))) (Option.bind (idx p_0.2.2.1 s113) fun x116 =>
Option.bind (g_depot_within x116.1 0 100) fun y125 =>
cond ((!y125)) (some (.inr ((.inr false)))) (Option.bind (g_depot_within x116.2.1 0 200000) fun y128 =>
cond ((!y128)) (some (.inr ((.inr false)))) (cond ((decide (s113 > 0))) (Option.bind (idx p_0.2.2.1 ((w64 (s113 - 1)))) fun x132 =>
cond ((decide (x116.2.1 < x132.2.1))) (some (.inr ((.inr false)))) (some (.inl ((w64 (s113 + 1)))))) (some (.inl ((w64 (s113 + 1)))))))) (some (.inr ((.inl (())))))) big 0) fun t135 =>
alt (fun b137 => some true) (fun b138 => some b138) t135) (fun b92 => some b92) t89) (fun b26 => some b26) t23)
def g_depot_night_quiet (n_0 : depot_night) : Option (Bool) :=
Option.bind (cond (((lenI n_0.2.1) == 0)) (some true) (Option.bind (idx n_0.2.1 ((w64 ((lenI n_0.2.1) - 1)))) fun x6 =>
Option.bind (idx n_0.2.2.1 0) fun x7 =>
some ((decide (x6.2.2.1 ≤ x7.2.1))))) fun c4 =>
some c4
def g_slices_Clone_int_int (s_0 : (List Int)) : Option (List Int) := appO 8 [] s_0
def g_depot_night_fit (n_0 : depot_night) (tracks_1 : (List Int)) : Option (Bool) :=
Option.bind (mkO 8 ((lenI n_0.1)) (0 : Int)) fun x1 =>
Option.bind (iter (σ := (Int × (List Int))) (τ := ((List Int)) ⊕ (Bool × (List Int))) (fun s20 =>
cond ((decide (s20.1 < (lenI tracks_1)))) (Option.bind (idx tracks_1 s20.1) fun x23 =>
Option.bind (idx s20.2 x23) fun x24 =>
Option.bind (idx n_0.2.1 s20.1) fun x25 =>
Option.bind (idx s20.2 x23) fun x26 =>
Option.bind (idx ((s20.2).set (Int.toNat x23) ((w64 (x24 + x25.2.1)))) x23) fun x27 =>
Option.bind (idx n_0.1 x23) fun x28 =>
cond ((decide (x27 > x28.1))) (some (.inr ((.inr ((false, (s20.2).set (Int.toNat x23) ((w64 (x24 + x25.2.1))))))))) (some (.inl (((w64 (s20.1 + 1)), (s20.2).set (Int.toNat x23) ((w64 (x24 + x25.2.1)))))))) (some (.inr ((.inl s20.2))))) big ((0, x1))) fun t30 =>
alt (fun b32 => some true) (fun b33 => some b33.1) t30
def g_depot_night_tracked_1_1_body {σ τ : Type} (step : σ → ((List Int)) → Option (σ ⊕ τ)) (rec : σ → (List Int) → depot_night → Option ((Bool) × (σ ⊕ τ))) (s_ : σ) (tracks_0 : (List Int)) (p_1 : depot_night) : Option ((Bool) × (σ ⊕ τ)) :=
Option.bind (g_depot_night_fit p_1 tracks_0) fun y1 =>
cond ((!y1)) (some ((true, (.inl s_)))) (cond (((lenI tracks_0) == (lenI p_1.2.1))) (Option.bind (step s_ tracks_0) fun y4 =>
some (((y4).isLeft, y4))) (Option.bind (iter (σ := (Int × (σ ⊕ τ))) (τ := ((σ ⊕ τ)) ⊕ ((Bool × (σ ⊕ τ)))) (fun s25 =>
cond ((decide (s25.1 < (lenI p_1.1)))) (Option.bind (g_slices_Clone_int_int tracks_0) fun y28 =>
Option.bind (appO 8 y28 ([s25.1])) fun x31 =>
Option.bind (goL s25.2) fun s33 =>
Option.bind (rec s33 x31 p_1) fun y34 =>
cond ((!y34.1)) (some (.inr ((.inr ((false, y34.2)))))) (some (.inl (((w64 (s25.1 + 1)), y34.2))))) (some (.inr ((.inl s25.2))))) big ((0, (.inl s_)))) fun t37 =>
alt (fun b39 => some ((true, b39))) (fun b40 => some ((b40.1, b40.2))) t37))
def g_depot_night_tracked_1_1 {σ τ : Type} (step : σ → ((List Int)) → Option (σ ⊕ τ)) : Nat → σ → (List Int) → depot_night → Option ((Bool) × (σ ⊕ τ))
 | 0 => fun _ _ _ => none
 | k + 1 => g_depot_night_tracked_1_1_body step (g_depot_night_tracked_1_1 step k)
def g_depot_night_tracked_1 {σ τ : Type} (step : σ → ((List Int)) → Option (σ ⊕ τ)) (s_ : σ) (p_1 : depot_night) : Option ((σ ⊕ τ)) :=
Option.bind (g_depot_night_tracked_1_1 step big s_ ([]) p_1) fun y3 =>
some y3.2
def g_depot_night_tracked (n_0 : depot_night) : Option ((depot_night)) :=
some n_0
def g_slices_Index_int_int (s_0 : (List Int)) (v_1 : Int) : Option (Int) :=
Option.bind (iter (σ := (Int)) (τ := Unit ⊕ (Int)) (fun s4 =>
cond ((decide (s4 < (lenI s_0)))) (Option.bind (idx s_0 s4) fun x7 =>
cond ((v_1 == x7)) (some (.inr ((.inr s4)))) (some (.inl ((w64 (s4 + 1)))))) (some (.inr ((.inl (())))))) big 0) fun t9 =>
alt (fun b11 => some ((-1))) (fun b12 => some b12) t9
def g_slices_Contains_int_int (s_0 : (List Int)) (v_1 : Int) : Option (Bool) :=
Option.bind (g_slices_Index_int_int s_0 v_1) fun y1 =>
some ((decide (y1 ≥ 0)))
def g_depot_night_takes (n_0 : depot_night) (car_1 : Int) (leave_2 : Int) : Option (Bool) :=
Option.bind (idx n_0.2.1 car_1) fun x1 =>
Option.bind (idx n_0.2.2.1 leave_2) fun x2 =>
Option.bind (cond ((x1.1 == x2.1)) (cond ((decide (x1.2.2.1 ≤ x2.2.1))) (some ((decide (x2.2.1 ≤ x1.2.2.2.1)))) (some false)) (some false)) fun c9 =>
some c9
def g_slices_Reverse_int_int   (s_0 : (List Int)) : Option ((List Int)) :=
Option.bind (iter (σ := (Int × Int × (List Int))) (τ := ((List Int))) (fun s11 =>
cond ((decide (s11.1 < s11.2.1))) (Option.bind (idx s11.2.2 s11.2.1) fun x14 =>
Option.bind (idx s11.2.2 s11.1) fun x15 =>
Option.bind (idx s11.2.2 s11.1) fun x16 =>
Option.bind (idx ((s11.2.2).set (Int.toNat s11.1) x14) s11.2.1) fun x17 =>
some (.inl (((w64 (s11.1 + 1)), (w64 (s11.2.1 - 1)), ((s11.2.2).set (Int.toNat s11.1) x14).set (Int.toNat s11.2.1) x15)))) (some (.inr s11.2.2))) big ((0, (w64 ((lenI s_0) - 1)), s_0))) fun t18 =>
some t18
def g_depot_night_aside (p_0 : depot_night) (p_1 : (List Int)) (p_2 : Int) (p_3 : ((Int) → Option (Bool))) : Option ((List Int)) :=
Option.bind (iter (σ := ((List Int) × Int × Int)) (τ := ((List Int) × Int)) (fun s20 =>
cond ((decide (s20.2.2 < (lenI p_1)))) (Option.bind (idx p_1 s20.2.2) fun x26 =>
Option.bind (idx p_1 p_2) fun x30 =>
cond ((x26 != x30)) (some (.inl ((s20.1, s20.2.1, (w64 (s20.2.2 + 1)))))) (Option.bind (p_3 s20.2.2) fun y34 =>
cond (y34) (some (.inl ((s20.1, s20.2.1, (w64 (s20.2.2 + 1)))))) (cond ((s20.2.2 == p_2)) (Option.bind (appO 8 s20.1 ([s20.2.2])) fun x38 =>
some (.inl ((x38, (lenI s20.1), (w64 (s20.2.2 + 1)))))) (Option.bind (appO 8 s20.1 ([s20.2.2])) fun x41 =>
some (.inl ((x41, s20.2.1, (w64 (s20.2.2 + 1))))))))) (some (.inr (((s20.1, s20.2.1)))))) big (([], 0, 0))) fun t45 =>
Option.bind (idx p_1 p_2) fun x48 =>
Option.bind (idx p_0.1 x48) fun x49 =>
cond (x49.2.1) (Option.bind (slO3 t45.1 t45.2 t45.2) fun x51 =>
some x51) (Option.bind (slO t45.1 ((w64 (t45.2 + 1))) ((lenI t45.1))) fun x53 =>
Option.bind (g_slices_Clone_int_int x53) fun y54 =>
Option.bind (g_slices_Reverse_int_int y54) fun y57 =>
some y57)
def g_depot_night_least_1_1 (i_0 : Int) (p_1 : Int) : Option (Bool) :=
Option.bind (shrO .i64 p_1 i_0) fun x1 =>
some (((bAnd .i64 x1 1) == 1))
def g_depot_night_least_1_body   (rec : Int → Int → (List (Int × Int)) → depot_night → (List Int) → (List Int) → Option ((Int) × (List (Int × Int)))) (p_0 : Int) (p_1 : Int) (p_2 : (List (Int × Int))) (p_3 : depot_night) (p_4 : (List Int)) (p_5 : (List Int)) : Option ((Int) × (List (Int × Int))) :=
cond (((mget p_2 p_0).isSome)) (some ((((mget p_2 p_0).getD 0), p_2))) (Option.bind (iter (σ := (Int × Int × (List (Int × Int)))) (τ := (Int × (List (Int × Int)))) (fun s110 =>
cond ((decide (s110.2.1 < (lenI p_3.2.1)))) (Option.bind (shrO .i64 p_0 s110.2.1) fun x124 =>
cond (((bAnd .i64 x124 1) == 1)) (some (.inl ((s110.1, (w64 (s110.2.1 + 1)), s110.2.2)))) (Option.bind (g_depot_night_takes p_3 s110.2.1 p_1) fun y127 =>
cond ((!y127)) (some (.inl ((s110.1, (w64 (s110.2.1 + 1)), s110.2.2)))) (cond ((decide (s110.2.1 < (lenI p_4)))) (Option.bind (idx p_4 s110.2.1) fun x131 =>
cond ((x131 != p_1)) (some (.inl ((s110.1, (w64 (s110.2.1 + 1)), s110.2.2)))) (cond ((decide (s110.2.1 ≥ (lenI p_4)))) (Option.bind (g_slices_Contains_int_int p_4 p_1) fun y135 =>
cond (y135) (some (.inl ((s110.1, (w64 (s110.2.1 + 1)), s110.2.2)))) (Option.bind (g_depot_night_aside p_3 p_5 s110.2.1 ((fun x => g_depot_night_least_1_1 x p_0))) fun y137 =>
Option.bind (shlO .i64 1 s110.2.1) fun x140 =>
Option.bind (rec ((bOr .i64 p_0 x140)) ((w64 (p_1 + 1))) s110.2.2 p_3 p_4 p_5) fun y141 =>
some (.inl (((min s110.1 ((w64 ((lenI y137) + y141.1)))), (w64 (s110.2.1 + 1)), y141.2))))) (Option.bind (g_depot_night_aside p_3 p_5 s110.2.1 ((fun x => g_depot_night_least_1_1 x p_0))) fun y144 =>
Option.bind (shlO .i64 1 s110.2.1) fun x147 =>
Option.bind (rec ((bOr .i64 p_0 x147)) ((w64 (p_1 + 1))) s110.2.2 p_3 p_4 p_5) fun y148 =>
some (.inl (((min s110.1 ((w64 ((lenI y144) + y148.1)))), (w64 (s110.2.1 + 1)), y148.2)))))) (cond ((decide (s110.2.1 ≥ (lenI p_4)))) (Option.bind (g_slices_Contains_int_int p_4 p_1) fun y151 =>
cond (y151) (some (.inl ((s110.1, (w64 (s110.2.1 + 1)), s110.2.2)))) (Option.bind (g_depot_night_aside p_3 p_5 s110.2.1 ((fun x => g_depot_night_least_1_1 x p_0))) fun y153 =>
Option.bind (shlO .i64 1 s110.2.1) fun x156 =>
Option.bind (rec ((bOr .i64 p_0 x156)) ((w64 (p_1 + 1))) s110.2.2 p_3 p_4 p_5) fun y157 =>
some (.inl (((min s110.1 ((w64 ((lenI y153) + y157.1)))), (w64 (s110.2.1 + 1)), y157.2))))) (Option.bind (g_depot_night_aside p_3 p_5 s110.2.1 ((fun x => g_depot_night_least_1_1 x p_0))) fun y160 =>
Option.bind (shlO .i64 1 s110.2.1) fun x163 =>
Option.bind (rec ((bOr .i64 p_0 x163)) ((w64 (p_1 + 1))) s110.2.2 p_3 p_4 p_5) fun y164 =>
some (.inl (((min s110.1 ((w64 ((lenI y160) + y164.1)))), (w64 (s110.2.1 + 1)), y164.2)))))))) (some (.inr (((s110.1, s110.2.2)))))) big ((1048576, 0, p_2))) fun t166 =>
some ((((mget ((mset t166.2 p_0 ((min t166.1 1048576)))) p_0).getD 0), (mset t166.2 p_0 ((min t166.1 1048576))))))
def g_depot_night_least_1   : Nat → Int → Int → (List (Int × Int)) → depot_night → (List Int) → (List Int) → Option ((Int) × (List (Int × Int)))
 | 0 => fun _ _ _ _ _ _ => none
 | k + 1 => g_depot_night_least_1_body (g_depot_night_least_1 k)
def g_depot_night_least (n_0 : depot_night) (tracks_1 : (List Int)) (fixed_2 : (List Int)) : Option (Int) :=
Option.bind (shlO .i64 1 ((lenI n_0.2.1))) fun x3 =>
Option.bind (g_depot_night_least_1 big 0 0 ((mset (([] : (List (Int × Int)))) ((w64 (x3 - 1))) 0)) n_0 fixed_2 tracks_1) fun y8 =>
some y8.1
def g_depot_best_api_StablePlan (l_0 : (List StablePlanN1)) (better_1 : ((StablePlanN1 × StablePlanN1) → Option (Bool))) : Option (StablePlanN1) :=
Option.bind (idx l_0 0) fun x3 =>
Option.bind (slO l_0 1 ((lenI l_0))) fun x6 =>
Option.bind (iter (σ := (Int × (List Int) × Unit × Int)) (τ := ((List Int) × Unit × Int)) (fun s19 =>
cond ((decide (s19.1 < (lenI x6)))) (Option.bind (idx x6 s19.1) fun x22 =>
Option.bind (better_1 ((x22, (s19.2.1, s19.2.2.1, s19.2.2.2, ())))) fun y25 =>
cond (y25) (some (.inl (((w64 (s19.1 + 1)), x22.1, x22.2.1, x22.2.2.1)))) (some (.inl (((w64 (s19.1 + 1)), s19.2.1, s19.2.2.1, s19.2.2.2))))) (some (.inr (((s19.2.1, s19.2.2.1, s19.2.2.2)))))) big ((0, x3.1, x3.2.1, x3.2.2.1))) fun t27 =>
some ((t27.1, t27.2.1, t27.2.2, ()))
def g_depot_Night_1 (a_0 : StablePlanN1) (b_1 : StablePlanN1) : Option (Bool) :=
some ((decide (a_0.2.2.1 < b_1.2.2.1)))
def g_depot_Night (p_0 : (List StableTrack)) (p_1 : (List StableCar)) (p_2 : (List StableLeave)) : Option (StablePlan × Int) :=
Option.bind (g_depot_night_valid (((p_0, p_1, p_2, ()) : depot_night))) fun y5 =>
cond ((!y5)) (some (((([], [], 0, ()) : StablePlan), 2))) (Option.bind (g_depot_night_quiet (((p_0, p_1, p_2, ()) : depot_night))) fun y7 =>
cond ((!y7)) (some (((([], [], 0, ()) : StablePlan), 4))) (Option.bind (g_depot_night_tracked (((p_0, p_1, p_2, ()) : depot_night))) fun y14 =>
Option.bind (g_depot_night_tracked_1 (σ := ((List StablePlanN1))) (τ := ((List StablePlanN1))) (fun s36 x15 =>
Option.bind (g_depot_night_least (((p_0, p_1, p_2, ()) : depot_night)) x15 ([])) fun y39 =>
Option.bind (appO 56 s36 ([((x15, (), y39, ()) : StablePlanN1)])) fun x40 =>
Option.bind (g_depot_best_api_StablePlan x40 ((fun x => g_depot_Night_1 x.1 x.2))) fun y42 =>
Option.bind (idx ([y42]) 0) fun x45 =>
cond ((x45.2.2.1 == 0)) (some (.inr ([y42]))) (some (.inl ([y42])))) ([(([], (), 1048576, ()) : StablePlanN1)]) y14) fun t49 =>
alt (fun b51 => Option.bind (idx b51 0) fun x55 =>
cond ((decide (x55.2.2.1 ≥ 1048576))) (some (((([], [], 0, ()) : StablePlan), 4))) (Option.bind (iter (σ := (Int × (List Int))) (τ := ((List Int))) (fun s218 =>
cond ((decide (s218.1 < (lenI p_1)))) (Option.bind (iter (σ := (Int × (List Int))) (τ := ((List Int))) (fun s268 =>
cond ((decide (s268.1 < (lenI p_2)))) (Option.bind (g_slices_Contains_int_int s268.2 s268.1) fun y282 =>
cond ((!y282)) (Option.bind (g_slices_Clone_int_int s268.2) fun y284 =>
Option.bind (appO 8 y284 ([s268.1])) fun x287 =>
Option.bind (g_depot_night_least (((p_0, p_1, p_2, ()) : depot_night)) x55.1 x287) fun y289 =>
cond ((y289 == x55.2.2.1)) (Option.bind (appO 8 s268.2 ([s268.1])) fun x291 =>
some (.inr x291)) (some (.inl (((w64 (s268.1 + 1)), s268.2))))) (some (.inl (((w64 (s268.1 + 1)), s268.2))))) (some (.inr s268.2))) big ((0, s218.2))) fun t298 =>
some (.inl (((w64 (s218.1 + 1)), t298)))) (some (.inr s218.2))) big ((0, []))) fun t303 =>
some (((x55.1, t303, x55.2.2.1, ()), 0)))) (fun b52 => Option.bind (idx b52 0) fun x308 =>
cond ((decide (x308.2.2.1 ≥ 1048576))) (some (((([], [], 0, ()) : StablePlan), 4))) (Option.bind (iter (σ := (Int × (List Int))) (τ := ((List Int))) (fun s471 =>
cond ((decide (s471.1 < (lenI p_1)))) (Option.bind (iter (σ := (Int × (List Int))) (τ := ((List Int))) (fun s521 =>
cond ((decide (s521.1 < (lenI p_2)))) (Option.bind (g_slices_Contains_int_int s521.2 s521.1) fun y535 =>
cond ((!y535)) (Option.bind (g_slices_Clone_int_int s521.2) fun y537 =>
Option.bind (appO 8 y537 ([s521.1])) fun x540 =>
Option.bind (g_depot_night_least (((p_0, p_1, p_2, ()) : depot_night)) x308.1 x540) fun y542 =>
cond ((y542 == x308.2.2.1)) (Option.bind (appO 8 s521.2 ([s521.1])) fun x544 =>
some (.inr x544)) (some (.inl (((w64 (s521.1 + 1)), s521.2))))) (some (.inl (((w64 (s521.1 + 1)), s521.2))))) (some (.inr s521.2))) big ((0, s471.2))) fun t551 =>
some (.inl (((w64 (s471.1 + 1)), t551)))) (some (.inr s471.2))) big ((0, []))) fun t556 =>
some (((x308.1, t556, x308.2.2.1, ()), 0)))) t49))
def g_ref09_in (x_0 : Int) (low_1 : Int) (high_2 : Int) : Option (Bool) :=
Option.bind (cond ((decide (x_0 ≥ low_1))) (some ((decide (x_0 ≤ high_2)))) (some false)) fun c2 =>
some c2
def g_ref09_InWay (l_0 : (List Int)) (through_1 : Bool) (i_2 : Int) (j_3 : Int) : Option (Bool) :=
cond (through_1) (Option.bind (idx l_0 j_3) fun x2 =>
Option.bind (idx l_0 i_2) fun x3 =>
some ((decide (x2 < x3)))) (Option.bind (idx l_0 i_2) fun x4 =>
Option.bind (idx l_0 j_3) fun x5 =>
some ((decide (x4 < x5))))
def g_law09_few (t_0 : (List StableTrack)) (c_1 : (List StableCar)) (l_2 : (List StableLeave)) (most_3 : Int) : Option (Bool) :=
Option.bind (cond ((decide ((lenI t_0) ≤ 8))) (cond ((decide ((lenI c_1) ≤ 12))) (cond ((decide ((lenI l_2) ≤ 12))) (cond ((decide ((lenI c_1) ≤ most_3))) (some true) (some ((decide ((lenI c_1) > 9))))) (some false)) (some false)) (some false)) fun c5 =>
some c5
def g_ref09_Night (p_0 : (List StableTrack)) (p_1 : (List StableCar)) (p_2 : (List StableLeave)) : Option (Bool) :=
Option.bind (Option.bind (g_ref09_in ((lenI p_0)) 1 5) fun y5 =>
cond ((!y5)) (some true) (cond (((lenI p_1) != (lenI p_2))) (some true) (some ((decide ((lenI p_1) > 9)))))) fun c4 =>
cond (c4) (some false) (Option.bind (iter (σ := (Int)) (τ := Unit ⊕ (Bool)) (fun s13 =>
cond ((decide (s13 < (lenI p_0)))) (Option.bind (idx p_0 s13) fun x16 =>
Option.bind (g_ref09_in x16.1 0 10000000) fun y17 =>
cond ((!y17)) (some (.inr ((.inr false)))) (some (.inl ((w64 (s13 + 1)))))) (some (.inr ((.inl (())))))) big 0) fun t19 =>
alt (fun b21 => Option.bind (iter (σ := (Int)) (τ := Unit ⊕ (Bool)) (fun s80 =>
cond ((decide (s80 < (lenI p_1)))) (Option.bind (idx p_1 s80) fun x83 =>
Option.bind (idx p_2 s80) fun x84 =>
Option.bind (g_ref09_in x83.1 0 100) fun y99 =>
cond ((!y99)) (some (.inr ((.inr false)))) (Option.bind (g_ref09_in x83.2.1 1 10000000) fun y102 =>
cond ((!y102)) (some (.inr ((.inr false)))) (Option.bind (g_ref09_in x83.2.2.1 0 200000) fun y105 =>
cond ((!y105)) (some (.inr ((.inr false)))) (Option.bind (g_ref09_in x83.2.2.2.1 0 200000) fun y108 =>
cond ((!y108)) (some (.inr ((.inr false)))) (cond ((decide (s80 > 0))) (Option.bind (idx p_1 ((w64 (s80 - 1)))) fun x112 =>
cond ((decide (x83.2.2.1 < x112.2.2.1))) (some (.inr ((.inr false)))) (Option.bind (g_ref09_in x84.1 0 100) fun y119 =>
cond ((!y119)) (some (.inr ((.inr false)))) (Option.bind (g_ref09_in x84.2.1 0 200000) fun y122 =>
cond ((!y122)) (some (.inr ((.inr false)))) (Option.bind (idx p_2 ((w64 (s80 - 1)))) fun x125 =>
cond ((decide (x84.2.1 < x125.2.1))) (some (.inr ((.inr false)))) (some (.inl ((w64 (s80 + 1))))))))) (Option.bind (g_ref09_in x84.1 0 100) fun y132 =>
cond ((!y132)) (some (.inr ((.inr false)))) (Option.bind (g_ref09_in x84.2.1 0 200000) fun y135 =>
cond ((!y135)) (some (.inr ((.inr false)))) (some (.inl ((w64 (s80 + 1)))))))))))) (some (.inr ((.inl (())))))) big 0) fun t139 =>
alt (fun b141 => some true) (fun b142 => some b142) t139) (fun b22 => some b22) t19)
def g_law09_same (a_0 : StablePlan) (b_1 : StablePlan) : Option (Bool) :=
Option.bind (cond ((a_0.2.2.1 == b_1.2.2.1)) (Option.bind (g_ref09_Same a_0.1 b_1.1) fun y7 =>
cond (y7) (Option.bind (g_ref09_Same a_0.2.1 b_1.2.1) fun y9 =>
some y9) (some false)) (some false)) fun c5 =>
some c5
def g_ref09_Moves (p_0 : (List StableTrack)) (p_1 : (List StableCar)) (p_2 : (List StableLeave)) (p_3 : StablePlan) : Option (Int × Bool) :=
Option.bind (cond (((lenI p_3.1) != (lenI p_1))) (some true) (cond (((lenI p_3.2.1) != (lenI p_1))) (some true) (cond ((decide ((lenI p_1) > 0))) (Option.bind (idx p_1 ((w64 ((lenI p_1) - 1)))) fun x10 =>
Option.bind (idx p_2 0) fun x11 =>
some ((decide (x10.2.2.1 > x11.2.1)))) (some false)))) fun c6 =>
cond (c6) (some ((0, false))) (Option.bind (mkO 8 ((lenI p_0)) (0 : Int)) fun x13 =>
Option.bind (mkO 1 ((lenI p_1)) (false : Bool)) fun x16 =>
Option.bind (iter (σ := (Int × (List Bool) × (List Int))) (τ := ((List Bool) × (List Int)) ⊕ (Int × Bool × (List Bool) × (List Int))) (fun s117 =>
cond ((decide (s117.1 < (lenI p_1)))) (Option.bind (idx p_3.1 s117.1) fun x128 =>
Option.bind (g_ref09_in x128 0 ((w64 ((lenI p_0) - 1)))) fun y129 =>
cond ((!y129)) (some (.inr ((.inr ((0, false, s117.2.1, s117.2.2)))))) (Option.bind (idx p_3.2.1 s117.1) fun x132 =>
Option.bind (g_ref09_in x132 0 ((w64 ((lenI p_1) - 1)))) fun y133 =>
cond ((!y133)) (some (.inr ((.inr ((0, false, s117.2.1, s117.2.2)))))) (Option.bind (idx p_3.2.1 s117.1) fun x136 =>
Option.bind (idx s117.2.1 x136) fun x137 =>
cond (x137) (some (.inr ((.inr ((0, false, s117.2.1, s117.2.2)))))) (Option.bind (idx p_3.2.1 s117.1) fun x139 =>
Option.bind (idx s117.2.1 x139) fun x140 =>
Option.bind (idx p_3.2.1 s117.1) fun x141 =>
Option.bind (idx p_2 x141) fun x142 =>
Option.bind (idx p_1 s117.1) fun x150 =>
cond ((x142.1 != x150.1)) (some (.inr ((.inr ((0, false, (s117.2.1).set (Int.toNat x139) true, s117.2.2)))))) (Option.bind (idx p_1 s117.1) fun x153 =>
cond ((decide (x142.2.1 > x153.2.2.2.1))) (some (.inr ((.inr ((0, false, (s117.2.1).set (Int.toNat x139) true, s117.2.2)))))) (Option.bind (idx p_1 s117.1) fun x156 =>
cond ((decide (x142.2.1 < x156.2.2.1))) (some (.inr ((.inr ((0, false, (s117.2.1).set (Int.toNat x139) true, s117.2.2)))))) (Option.bind (idx p_3.1 s117.1) fun x158 =>
Option.bind (idx p_3.1 s117.1) fun x159 =>
Option.bind (idx s117.2.2 x159) fun x160 =>
Option.bind (idx p_1 s117.1) fun x161 =>
Option.bind (idx s117.2.2 x158) fun x162 =>
Option.bind (idx p_3.1 s117.1) fun x163 =>
Option.bind (idx ((s117.2.2).set (Int.toNat x158) ((w64 (x160 + x161.2.1)))) x163) fun x164 =>
Option.bind (idx p_3.1 s117.1) fun x165 =>
Option.bind (idx p_0 x165) fun x166 =>
cond ((decide (x164 > x166.1))) (some (.inr ((.inr ((0, false, (s117.2.1).set (Int.toNat x139) true, (s117.2.2).set (Int.toNat x158) ((w64 (x160 + x161.2.1))))))))) (some (.inl (((w64 (s117.1 + 1)), (s117.2.1).set (Int.toNat x139) true, (s117.2.2).set (Int.toNat x158) ((w64 (x160 + x161.2.1)))))))))))))) (some (.inr ((.inl ((s117.2.1, s117.2.2))))))) big ((0, x16, x13))) fun t168 =>
alt (fun b170 => Option.bind (iter (σ := (Int × Int)) (τ := (Int)) (fun s207 =>
cond ((decide (s207.2 < (lenI p_1)))) (Option.bind (iter (σ := (Int × Int)) (τ := (Int)) (fun s225 =>
cond ((decide (s225.2 < s207.2))) (Option.bind (idx p_3.1 s225.2) fun x234 =>
Option.bind (idx p_3.1 s207.2) fun x235 =>
cond ((x234 == x235)) (Option.bind (idx p_3.1 s225.2) fun x237 =>
Option.bind (idx p_0 x237) fun x238 =>
Option.bind (g_ref09_InWay p_3.2.1 x238.2.1 s225.2 s207.2) fun y239 =>
cond (y239) (some (.inl (((w64 (s225.1 + 1)), (w64 (s225.2 + 1)))))) (some (.inl ((s225.1, (w64 (s225.2 + 1))))))) (some (.inl ((s225.1, (w64 (s225.2 + 1))))))) (some (.inr s225.1))) big ((s207.1, 0))) fun t242 =>
some (.inl ((t242, (w64 (s207.2 + 1)))))) (some (.inr s207.1))) big ((0, 0))) fun t244 =>
some ((t244, true))) (fun b171 => some ((b171.1, b171.2.1))) t168)
def g_ref09_has (l_0 : (List Int)) (x_1 : Int) : Option (Bool) :=
Option.bind (iter (σ := (Int)) (τ := Unit ⊕ (Bool)) (fun s4 =>
cond ((decide (s4 < (lenI l_0)))) (Option.bind (idx l_0 s4) fun x7 =>
cond ((x7 == x_1)) (some (.inr ((.inr true)))) (some (.inl ((w64 (s4 + 1)))))) (some (.inr ((.inl (())))))) big 0) fun t9 =>
alt (fun b11 => some false) (fun b12 => some b12) t9
def g_ref09_lists (n_0 : Int) (bound_1 : Int) (different_2 : Bool) : Option ((List (List Int))) :=
Option.bind (iter (σ := ((List (List Int)) × Int)) (τ := ((List (List Int)))) (fun s150 =>
cond ((decide (s150.2 < n_0))) (Option.bind (iter (σ := ((List (List Int)) × Int)) (τ := ((List (List Int)))) (fun s224 =>
cond ((decide (s224.2 < (lenI s150.1)))) (Option.bind (iter (σ := ((List (List Int)) × Int)) (τ := ((List (List Int)))) (fun s257 =>
cond ((decide (s257.2 < bound_1))) (cond ((!different_2)) (Option.bind (idx s150.1 s224.2) fun x268 =>
Option.bind (appO 8 ([]) x268) fun x270 =>
Option.bind (appO 8 x270 ([s257.2])) fun x272 =>
Option.bind (appO 24 s257.1 ([x272])) fun x274 =>
some (.inl ((x274, (w64 (s257.2 + 1)))))) (Option.bind (idx s150.1 s224.2) fun x277 =>
Option.bind (g_ref09_has x277 s257.2) fun y278 =>
cond ((!y278)) (Option.bind (idx s150.1 s224.2) fun x280 =>
Option.bind (appO 8 ([]) x280) fun x282 =>
Option.bind (appO 8 x282 ([s257.2])) fun x284 =>
Option.bind (appO 24 s257.1 ([x284])) fun x286 =>
some (.inl ((x286, (w64 (s257.2 + 1)))))) (some (.inl ((s257.1, (w64 (s257.2 + 1)))))))) (some (.inr s257.1))) big ((s224.1, 0))) fun t291 =>
some (.inl ((t291, (w64 (s224.2 + 1)))))) (some (.inr s224.1))) big (([], 0))) fun t296 =>
some (.inl ((t296, (w64 (s150.2 + 1)))))) (some (.inr s150.1))) big (([[]], 0))) fun t301 =>
some t301
def g_ref09_Best (p_0 : (List StableTrack)) (p_1 : (List StableCar)) (p_2 : (List StableLeave)) : Option (StablePlan × Bool) :=
Option.bind (g_ref09_lists ((lenI p_1)) ((lenI p_0)) false) fun y3 =>
Option.bind (g_ref09_lists ((lenI p_1)) ((lenI p_1)) true) fun y6 =>
Option.bind (iter (σ := (Bool × Int × (List Int) × (List Int) × Int)) (τ := (Bool × (List Int) × (List Int) × Int)) (fun s99 =>
cond ((decide (s99.2.1 < (lenI y3)))) (Option.bind (iter (σ := (Bool × Int × (List Int) × (List Int) × Int)) (τ := (Bool × (List Int) × (List Int) × Int)) (fun s128 =>
cond ((decide (s128.2.1 < (lenI y6)))) (Option.bind (idx y3 s99.2.1) fun x131 =>
Option.bind (idx y6 s128.2.1) fun x132 =>
Option.bind (g_ref09_Moves p_0 p_1 p_2 (((x131, x132, 0, ()) : StablePlan))) fun y135 =>
cond (y135.2) (cond ((!s128.1)) (some (.inl ((true, (w64 (s128.2.1 + 1)), (((x131, x132, 0, ()) : StablePlan)).1, (((x131, x132, 0, ()) : StablePlan)).2.1, y135.1)))) (cond ((decide (y135.1 < s128.2.2.2.2))) (some (.inl ((true, (w64 (s128.2.1 + 1)), (((x131, x132, 0, ()) : StablePlan)).1, (((x131, x132, 0, ()) : StablePlan)).2.1, y135.1)))) (some (.inl ((s128.1, (w64 (s128.2.1 + 1)), s128.2.2.1, s128.2.2.2.1, s128.2.2.2.2)))))) (some (.inl ((s128.1, (w64 (s128.2.1 + 1)), s128.2.2.1, s128.2.2.2.1, s128.2.2.2.2))))) (some (.inr (((s128.1, s128.2.2.1, s128.2.2.2.1, s128.2.2.2.2)))))) big ((s99.1, 0, s99.2.2.1, s99.2.2.2.1, s99.2.2.2.2))) fun t143 =>
some (.inl ((t143.1, (w64 (s99.2.1 + 1)), t143.2.1, t143.2.2.1, t143.2.2.2)))) (some (.inr (((s99.1, s99.2.2.1, s99.2.2.2.1, s99.2.2.2.2)))))) big ((false, 0, [], [], 0))) fun t145 =>
some (((t145.2.1, t145.2.2.1, t145.2.2.2, ()), t145.1))
def g_law09_DepotNights (p_0 : (List StableTrack)) (p_1 : (List StableCar)) (p_2 : (List StableLeave)) : Option (Bool) :=
Option.bind (g_law09_few p_0 p_1 p_2 4) fun y1 =>
cond ((!y1)) (some true) (Option.bind (g_depot_Night p_0 p_1 p_2) fun y3 =>
Option.bind (g_ref09_Night p_0 p_1 p_2) fun y6 =>
cond ((!y6)) (Option.bind (cond ((y3.2 == 2)) (Option.bind (g_law09_same y3.1 ((([], [], 0, ()) : StablePlan))) fun y13 =>
cond (y13) (some true) (some false)) (some false)) fun c11 =>
some c11) (Option.bind (g_ref09_Best p_0 p_1 p_2) fun y15 =>
cond ((!y15.2)) (Option.bind (cond ((y3.2 == 4)) (Option.bind (g_law09_same y3.1 ((([], [], 0, ()) : StablePlan))) fun y24 =>
cond (y24) (some true) (some false)) (some false)) fun c22 =>
some c22) (Option.bind (cond ((y3.2 == 0)) (Option.bind (g_law09_same y3.1 y15.1) fun y31 =>
cond (y31) (some true) (some false)) (some false)) fun c29 =>
some c29)))
end Go.Ai.Sx
