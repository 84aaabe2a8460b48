/- Written by program: the data of the functions, and the functions as plain Lean. -/
import Derived.Test.YtafbcffccnjgfaaM6
namespace Go.Ai.Sx
abbrev Task : Type := Int × Int × Int × Int × Unit
abbrev Yard : Type := (List (List Int)) × Int × (List Bool) × Unit
abbrev StableTrack : Type := Int × Bool × Unit
abbrev StableCar : Type := Int × Int × Int × Int × Unit
abbrev StableLeave : Type := Int × Int × Unit
abbrev depot_night : Type := (List StableTrack) × (List StableCar) × (List StableLeave) × Unit
abbrev StablePlan : Type := (List Int) × (List Int) × Int × Unit
abbrev StableMove : Type := Int × Int × Int × Unit
abbrev WashJob : Type := Int × Int × Int × Unit
abbrev depot_wash : Type := (List Int) × Int × Int × Unit
abbrev duty_work : Type := (List Task) × Yard × Unit
abbrev WorkRules : Type := Int × Int × Int × Int × Int × Int × Unit
abbrev duty_crew : Type := duty_work × (List (List Int)) × WorkRules × Unit
abbrev DutyPiece : Type := Int × Int × Int × Unit
abbrev Duty : Type := (List DutyPiece) × Unit
abbrev DutyProof : Type := (List Int) × (List Int) × Unit
abbrev rTask : Rep Task := (rPair (rInt .i64) (rPair (rInt .i64) (rPair (rInt .i64) (rPair (rInt .i64) rUnit))))
theorem fk_Task_0 : FOk rTask 0 (rInt .i64) (fun x => x.1) (fun x y => (y, x.2.1, x.2.2.1, x.2.2.2.1, ())) := FOk.off FOk.here rfl
theorem fk_Task_1 : FOk rTask 1 (rInt .i64) (fun x => x.2.1) (fun x y => (x.1, y, x.2.2.1, x.2.2.2.1, ())) := FOk.off (FOk.there FOk.here) rfl
theorem fk_Task_2 : FOk rTask 2 (rInt .i64) (fun x => x.2.2.1) (fun x y => (x.1, x.2.1, y, x.2.2.2.1, ())) := FOk.off (FOk.there (FOk.there FOk.here)) rfl
theorem fk_Task_3 : FOk rTask 3 (rInt .i64) (fun x => x.2.2.2.1) (fun x y => (x.1, x.2.1, x.2.2.1, y, ())) := FOk.off (FOk.there (FOk.there (FOk.there FOk.here))) rfl
abbrev rYard : Rep Yard := (rPair (rSlice (rSlice (rInt .i64))) (rPair (rInt .i64) (rPair (rSlice rBool) rUnit)))
theorem fk_Yard_0 : FOk rYard 0 (rSlice (rSlice (rInt .i64))) (fun x => x.1) (fun x y => (y, x.2.1, x.2.2.1, ())) := FOk.off FOk.here rfl
theorem fk_Yard_1 : FOk rYard 1 (rInt .i64) (fun x => x.2.1) (fun x y => (x.1, y, x.2.2.1, ())) := FOk.off (FOk.there FOk.here) rfl
theorem fk_Yard_2 : FOk rYard 2 (rSlice rBool) (fun x => x.2.2.1) (fun x y => (x.1, x.2.1, y, ())) := FOk.off (FOk.there (FOk.there FOk.here)) rfl
abbrev rStableTrack : Rep StableTrack := (rPair (rInt .i64) (rPair rBool rUnit))
theorem fk_StableTrack_0 : FOk rStableTrack 0 (rInt .i64) (fun x => x.1) (fun x y => (y, x.2.1, ())) := FOk.off FOk.here rfl
theorem fk_StableTrack_1 : FOk rStableTrack 1 rBool (fun x => x.2.1) (fun x y => (x.1, y, ())) := FOk.off (FOk.there FOk.here) rfl
abbrev rStableCar : Rep StableCar := (rPair (rInt .i64) (rPair (rInt .i64) (rPair (rInt .i64) (rPair (rInt .i64) rUnit))))
theorem fk_StableCar_0 : FOk rStableCar 0 (rInt .i64) (fun x => x.1) (fun x y => (y, x.2.1, x.2.2.1, x.2.2.2.1, ())) := FOk.off FOk.here rfl
theorem fk_StableCar_1 : FOk rStableCar 1 (rInt .i64) (fun x => x.2.1) (fun x y => (x.1, y, x.2.2.1, x.2.2.2.1, ())) := FOk.off (FOk.there FOk.here) rfl
theorem fk_StableCar_2 : FOk rStableCar 2 (rInt .i64) (fun x => x.2.2.1) (fun x y => (x.1, x.2.1, y, x.2.2.2.1, ())) := FOk.off (FOk.there (FOk.there FOk.here)) rfl
theorem fk_StableCar_3 : FOk rStableCar 3 (rInt .i64) (fun x => x.2.2.2.1) (fun x y => (x.1, x.2.1, x.2.2.1, y, ())) := FOk.off (FOk.there (FOk.there (FOk.there FOk.here))) rfl
abbrev rStableLeave : Rep StableLeave := (rPair (rInt .i64) (rPair (rInt .i64) rUnit))
theorem fk_StableLeave_0 : FOk rStableLeave 0 (rInt .i64) (fun x => x.1) (fun x y => (y, x.2.1, ())) := FOk.off FOk.here rfl
theorem fk_StableLeave_1 : FOk rStableLeave 1 (rInt .i64) (fun x => x.2.1) (fun x y => (x.1, y, ())) := FOk.off (FOk.there FOk.here) rfl
abbrev rdepot_night : Rep depot_night := (rPair (rSlice rStableTrack) (rPair (rSlice rStableCar) (rPair (rSlice rStableLeave) rUnit)))
theorem fk_depot_night_0 : FOk rdepot_night 0 (rSlice rStableTrack) (fun x => x.1) (fun x y => (y, x.2.1, x.2.2.1, ())) := FOk.off FOk.here rfl
theorem fk_depot_night_1 : FOk rdepot_night 1 (rSlice rStableCar) (fun x => x.2.1) (fun x y => (x.1, y, x.2.2.1, ())) := FOk.off (FOk.there FOk.here) rfl
theorem fk_depot_night_2 : FOk rdepot_night 2 (rSlice rStableLeave) (fun x => x.2.2.1) (fun x y => (x.1, x.2.1, y, ())) := FOk.off (FOk.there (FOk.there FOk.here)) rfl
abbrev rStablePlan : Rep StablePlan := (rPair (rSlice (rInt .i64)) (rPair (rSlice (rInt .i64)) (rPair (rInt .i64) rUnit)))
theorem fk_StablePlan_0 : FOk rStablePlan 0 (rSlice (rInt .i64)) (fun x => x.1) (fun x y => (y, x.2.1, x.2.2.1, ())) := FOk.off FOk.here rfl
theorem fk_StablePlan_1 : FOk rStablePlan 1 (rSlice (rInt .i64)) (fun x => x.2.1) (fun x y => (x.1, y, x.2.2.1, ())) := FOk.off (FOk.there FOk.here) rfl
theorem fk_StablePlan_2 : FOk rStablePlan 2 (rInt .i64) (fun x => x.2.2.1) (fun x y => (x.1, x.2.1, y, ())) := FOk.off (FOk.there (FOk.there FOk.here)) rfl
abbrev rStableMove : Rep StableMove := (rPair (rInt .i64) (rPair (rInt .i64) (rPair (rInt .i64) rUnit)))
abbrev rWashJob : Rep WashJob := (rPair (rInt .i64) (rPair (rInt .i64) (rPair (rInt .i64) rUnit)))
theorem fk_WashJob_0 : FOk rWashJob 0 (rInt .i64) (fun x => x.1) (fun x y => (y, x.2.1, x.2.2.1, ())) := FOk.off FOk.here rfl
theorem fk_WashJob_1 : FOk rWashJob 1 (rInt .i64) (fun x => x.2.1) (fun x y => (x.1, y, x.2.2.1, ())) := FOk.off (FOk.there FOk.here) rfl
theorem fk_WashJob_2 : FOk rWashJob 2 (rInt .i64) (fun x => x.2.2.1) (fun x y => (x.1, x.2.1, y, ())) := FOk.off (FOk.there (FOk.there FOk.here)) rfl
abbrev rdepot_wash : Rep depot_wash := (rPair (rSlice (rInt .i64)) (rPair (rInt .i64) (rPair (rInt .i64) rUnit)))
theorem fk_depot_wash_0 : FOk rdepot_wash 0 (rSlice (rInt .i64)) (fun x => x.1) (fun x y => (y, x.2.1, x.2.2.1, ())) := FOk.off FOk.here rfl
theorem fk_depot_wash_1 : FOk rdepot_wash 1 (rInt .i64) (fun x => x.2.1) (fun x y => (x.1, y, x.2.2.1, ())) := FOk.off (FOk.there FOk.here) rfl
theorem fk_depot_wash_2 : FOk rdepot_wash 2 (rInt .i64) (fun x => x.2.2.1) (fun x y => (x.1, x.2.1, y, ())) := FOk.off (FOk.there (FOk.there FOk.here)) rfl
abbrev rduty_work : Rep duty_work := (rPair (rSlice rTask) (rPair rYard rUnit))
theorem fk_duty_work_0 : FOk rduty_work 0 (rSlice rTask) (fun x => x.1) (fun x y => (y, x.2.1, ())) := FOk.off FOk.here rfl
theorem fk_duty_work_1 : FOk rduty_work 1 rYard (fun x => x.2.1) (fun x y => (x.1, y, ())) := FOk.off (FOk.there FOk.here) rfl
abbrev rWorkRules : Rep WorkRules := (rPair (rInt .i64) (rPair (rInt .i64) (rPair (rInt .i64) (rPair (rInt .i64) (rPair (rInt .i64) (rPair (rInt .i64) rUnit))))))
theorem fk_WorkRules_0 : FOk rWorkRules 0 (rInt .i64) (fun x => x.1) (fun x y => (y, x.2.1, x.2.2.1, x.2.2.2.1, x.2.2.2.2.1, x.2.2.2.2.2.1, ())) := FOk.off FOk.here rfl
theorem fk_WorkRules_1 : FOk rWorkRules 1 (rInt .i64) (fun x => x.2.1) (fun x y => (x.1, y, x.2.2.1, x.2.2.2.1, x.2.2.2.2.1, x.2.2.2.2.2.1, ())) := FOk.off (FOk.there FOk.here) rfl
theorem fk_WorkRules_2 : FOk rWorkRules 2 (rInt .i64) (fun x => x.2.2.1) (fun x y => (x.1, x.2.1, y, x.2.2.2.1, x.2.2.2.2.1, x.2.2.2.2.2.1, ())) := FOk.off (FOk.there (FOk.there FOk.here)) rfl
theorem fk_WorkRules_3 : FOk rWorkRules 3 (rInt .i64) (fun x => x.2.2.2.1) (fun x y => (x.1, x.2.1, x.2.2.1, y, x.2.2.2.2.1, x.2.2.2.2.2.1, ())) := FOk.off (FOk.there (FOk.there (FOk.there FOk.here))) rfl
theorem fk_WorkRules_4 : FOk rWorkRules 4 (rInt .i64) (fun x => x.2.2.2.2.1) (fun x y => (x.1, x.2.1, x.2.2.1, x.2.2.2.1, y, x.2.2.2.2.2.1, ())) := FOk.off (FOk.there (FOk.there (FOk.there (FOk.there FOk.here)))) rfl
theorem fk_WorkRules_5 : FOk rWorkRules 5 (rInt .i64) (fun x => x.2.2.2.2.2.1) (fun x y => (x.1, x.2.1, x.2.2.1, x.2.2.2.1, x.2.2.2.2.1, y, ())) := FOk.off (FOk.there (FOk.there (FOk.there (FOk.there (FOk.there FOk.here))))) rfl
abbrev rduty_crew : Rep duty_crew := (rPair (rPtr rduty_work) (rPair (rSlice (rSlice (rInt .i64))) (rPair rWorkRules rUnit)))
theorem fk_duty_crew_0 : FOk rduty_crew 0 (rPtr rduty_work) (fun x => x.1) (fun x y => (y, x.2.1, x.2.2.1, ())) := FOk.off FOk.here rfl
theorem fk_duty_crew_1 : FOk rduty_crew 1 (rSlice (rSlice (rInt .i64))) (fun x => x.2.1) (fun x y => (x.1, y, x.2.2.1, ())) := FOk.off (FOk.there FOk.here) rfl
theorem fk_duty_crew_2 : FOk rduty_crew 2 rWorkRules (fun x => x.2.2.1) (fun x y => (x.1, x.2.1, y, ())) := FOk.off (FOk.there (FOk.there FOk.here)) rfl
abbrev rDutyPiece : Rep DutyPiece := (rPair (rInt .i64) (rPair (rInt .i64) (rPair (rInt .i64) rUnit)))
theorem fk_DutyPiece_0 : FOk rDutyPiece 0 (rInt .i64) (fun x => x.1) (fun x y => (y, x.2.1, x.2.2.1, ())) := FOk.off FOk.here rfl
theorem fk_DutyPiece_1 : FOk rDutyPiece 1 (rInt .i64) (fun x => x.2.1) (fun x y => (x.1, y, x.2.2.1, ())) := FOk.off (FOk.there FOk.here) rfl
theorem fk_DutyPiece_2 : FOk rDutyPiece 2 (rInt .i64) (fun x => x.2.2.1) (fun x y => (x.1, x.2.1, y, ())) := FOk.off (FOk.there (FOk.there FOk.here)) rfl
abbrev rDuty : Rep Duty := (rPair (rSlice rDutyPiece) rUnit)
theorem fk_Duty_0 : FOk rDuty 0 (rSlice rDutyPiece) (fun x => x.1) (fun x y => (y, ())) := FOk.off FOk.here rfl
abbrev rDutyProof : Rep DutyProof := (rPair (rSlice (rInt .i64)) (rPair (rSlice (rInt .i64)) rUnit))
theorem fk_DutyProof_0 : FOk rDutyProof 0 (rSlice (rInt .i64)) (fun x => x.1) (fun x y => (y, x.2.1, ())) := FOk.off FOk.here rfl
theorem fk_DutyProof_1 : FOk rDutyProof 1 (rSlice (rInt .i64)) (fun x => x.2.1) (fun x y => (x.1, y, ())) := FOk.off (FOk.there FOk.here) rfl
def g_law09_small (p_0 : (List Task)) (p_1 : Yard) (p_2 : (List (List Int))) (p_3 : (List Int)) (p_4 : (List Int)) : Option (Bool) :=
Option.bind (cond ((decide ((lenI p_0) > 20))) (some true) (cond ((decide ((lenI p_1.2.2.1) > 10))) (some true) (cond ((decide ((lenI p_1.1) > 10))) (some true) (cond ((decide ((lenI p_2) > 20))) (some true) (cond ((decide ((lenI p_3) > 20))) (some true) (some ((decide ((lenI p_4) > 20))))))))) fun c6 =>
cond (c6) (some false) (Option.bind (iter (σ := (Int)) (τ := Unit ⊕ (Bool)) (fun s16 =>
cond ((decide (s16 < (lenI p_1.1)))) (Option.bind (idx p_1.1 s16) fun x19 =>
cond ((decide ((lenI x19) > 10))) (some (.inr ((.inr false)))) (some (.inl ((w64 (s16 + 1)))))) (some (.inr ((.inl (())))))) big 0) fun t21 =>
alt (fun b23 => Option.bind (iter (σ := (Int)) (τ := Unit ⊕ (Bool)) (fun s28 =>
cond ((decide (s28 < (lenI p_2)))) (Option.bind (idx p_2 s28) fun x31 =>
cond ((decide ((lenI x31) > 30))) (some (.inr ((.inr false)))) (some (.inl ((w64 (s28 + 1)))))) (some (.inr ((.inl (())))))) big 0) fun t33 =>
alt (fun b35 => some true) (fun b36 => some b36) t33) (fun b24 => some b24) t21)
def g_ref09_Same (a_0 : (List Int)) (b_1 : (List Int)) : Option (Bool) :=
cond (((lenI a_0) != (lenI b_1))) (some false) (Option.bind (iter (σ := (Int)) (τ := Unit ⊕ (Bool)) (fun s6 =>
cond ((decide (s6 < (lenI a_0)))) (Option.bind (idx a_0 s6) fun x9 =>
Option.bind (idx b_1 s6) fun x10 =>
cond ((x9 != x10)) (some (.inr ((.inr false)))) (some (.inl ((w64 (s6 + 1)))))) (some (.inr ((.inl (())))))) big 0) fun t12 =>
alt (fun b14 => some true) (fun b15 => some b15) t12)
def g_depot_within (n_0 : Int) (low_1 : Int) (high_2 : Int) : Option (Bool) :=
Option.bind (cond ((decide (n_0 ≥ low_1))) (some ((decide (n_0 ≤ high_2)))) (some false)) fun c2 =>
some c2
def g_slices_IndexFunc_int_int (s_0 : (List Int)) (f_1 : ((Int) → Option (Bool))) : Option (Int) :=
Option.bind (iter (σ := (Int)) (τ := Unit ⊕ (Int)) (fun s5 =>
cond ((decide (s5 < (lenI s_0)))) (Option.bind (idx s_0 s5) fun x8 =>
Option.bind (f_1 x8) fun y9 =>
cond (y9) (some (.inr ((.inr s5)))) (some (.inl ((w64 (s5 + 1)))))) (some (.inr ((.inl (())))))) big 0) fun t11 =>
alt (fun b13 => some ((-1))) (fun b14 => some b14) t11
def g_slices_ContainsFunc_int_int (s_0 : (List Int)) (f_1 : ((Int) → Option (Bool))) : Option (Bool) :=
Option.bind (g_slices_IndexFunc_int_int s_0 f_1) fun y1 =>
some ((decide (y1 ≥ 0)))
def g_duty_within (n_0 : Int) (low_1 : Int) (high_2 : Int) : Option (Bool) :=
Option.bind (cond ((decide (n_0 ≥ low_1))) (some ((decide (n_0 ≤ high_2)))) (some false)) fun c2 =>
some c2
def g_duty_Check_1 (d_0 : Int) : Option (Bool) :=
Option.bind (g_duty_within d_0 ((-1)) 20000) fun y1 =>
some ((!y1))
def g_duty_Check (p_0 : (List Task)) (p_1 : Yard) : Option (Int) :=
Option.bind (cond ((decide ((lenI p_0) > 60))) (some true) (Option.bind (g_duty_within ((lenI p_1.2.2.1)) 1 40) fun y8 =>
cond ((!y8)) (some true) (cond (((lenI p_1.1) != (lenI p_1.2.2.1))) (some true) (Option.bind (g_duty_within p_1.2.1 0 3600) fun y11 =>
some ((!y11)))))) fun c6 =>
cond (c6) (some 2) (Option.bind (iter (σ := (Int)) (τ := Unit ⊕ (Int)) (fun s26 =>
cond ((decide (s26 < (lenI p_1.1)))) (Option.bind (idx p_1.1 s26) fun x29 =>
cond (((lenI x29) != (lenI p_1.2.2.1))) (some (.inr ((.inr 2)))) (Option.bind (idx x29 s26) fun x36 =>
cond ((x36 != 0)) (some (.inr ((.inr 2)))) (Option.bind (g_slices_ContainsFunc_int_int x29 ((fun x => g_duty_Check_1 x))) fun y39 =>
cond (y39) (some (.inr ((.inr 2)))) (some (.inl ((w64 (s26 + 1)))))))) (some (.inr ((.inl (())))))) big 0) fun t41 =>
alt (fun b43 => Option.bind (iter (σ := (Int)) (τ := Unit ⊕ (Int)) (fun s72 =>
cond ((decide (s72 < (lenI p_0)))) (Option.bind (idx p_0 s72) fun x75 =>
Option.bind (g_duty_within x75.1 0 ((w64 ((lenI p_1.2.2.1) - 1)))) fun y86 =>
cond ((!y86)) (some (.inr ((.inr 2)))) (Option.bind (g_duty_within x75.2.1 0 ((w64 ((lenI p_1.2.2.1) - 1)))) fun y89 =>
cond ((!y89)) (some (.inr ((.inr 2)))) (Option.bind (g_duty_within x75.2.2.1 0 x75.2.2.2.1) fun y92 =>
cond ((!y92)) (some (.inr ((.inr 2)))) (cond ((decide (x75.2.2.2.1 > 200000))) (some (.inr ((.inr 2)))) (cond ((decide (s72 > 0))) (Option.bind (idx p_0 ((w64 (s72 - 1)))) fun x98 =>
cond ((decide (x75.2.2.1 < x98.2.2.1))) (some (.inr ((.inr 2)))) (some (.inl ((w64 (s72 + 1)))))) (some (.inl ((w64 (s72 + 1)))))))))) (some (.inr ((.inl (())))))) big 0) fun t101 =>
alt (fun b103 => some 0) (fun b104 => some b104) t101) (fun b44 => some b44) t41)
def g_duty_work_follows (w_0 : duty_work) (a_1 : Int) (b_2 : Int) : Option (Bool) :=
Option.bind (idx w_0.1 a_1) fun x1 =>
Option.bind (idx w_0.1 b_2) fun x2 =>
Option.bind (idx w_0.2.1.1 x1.2.1) fun x5 =>
Option.bind (idx x5 x2.1) fun x6 =>
Option.bind (cond ((decide (a_1 < b_2))) (cond ((decide (x6 ≥ 0))) (some ((decide ((w64 ((w64 (x1.2.2.2.1 + w_0.2.1.2.1)) + x6)) ≤ x2.2.2.1)))) (some false)) (some false)) fun c9 =>
some c9
def g_duty_work_planned (p_0 : duty_work) (p_1 : (List (List Int))) : Option (Bool) :=
Option.bind (mkO 1 ((lenI p_0.1)) (false : Bool)) fun x1 =>
Option.bind (iter (σ := (Int × Int × (List Bool))) (τ := (Int × (List Bool)) ⊕ (Bool)) (fun s297 =>
cond ((decide (s297.2.1 < (lenI p_1)))) (Option.bind (idx p_1 s297.2.1) fun x300 =>
cond (((lenI x300) == 0)) (some (.inr ((.inr false)))) (cond ((decide (s297.2.1 > 0))) (Option.bind (idx x300 0) fun x309 =>
Option.bind (idx p_1 ((w64 (s297.2.1 - 1)))) fun x310 =>
Option.bind (idx x310 0) fun x311 =>
cond ((decide (x309 ≤ x311))) (some (.inr ((.inr false)))) (Option.bind (iter (σ := (Int × Int × (List Bool))) (τ := (Int × (List Bool)) ⊕ (Bool × (List Bool))) (fun s357 =>
cond ((decide (s357.2.1 < (lenI x300)))) (Option.bind (idx x300 s357.2.1) fun x360 =>
Option.bind (g_duty_within x360 0 ((w64 ((lenI p_0.1) - 1)))) fun y368 =>
cond ((!y368)) (some (.inr ((.inr ((false, s357.2.2)))))) (Option.bind (idx s357.2.2 x360) fun x371 =>
cond (x371) (some (.inr ((.inr ((false, s357.2.2)))))) (cond ((decide (s357.2.1 > 0))) (Option.bind (idx x300 ((w64 (s357.2.1 - 1)))) fun x375 =>
Option.bind (g_duty_work_follows p_0 x375 x360) fun y376 =>
cond ((!y376)) (some (.inr ((.inr ((false, s357.2.2)))))) (Option.bind (idx s357.2.2 x360) fun x378 =>
some (.inl (((w64 (s357.1 + 1)), (w64 (s357.2.1 + 1)), (s357.2.2).set (Int.toNat x360) true))))) (Option.bind (idx s357.2.2 x360) fun x380 =>
some (.inl (((w64 (s357.1 + 1)), (w64 (s357.2.1 + 1)), (s357.2.2).set (Int.toNat x360) true))))))) (some (.inr ((.inl ((s357.1, s357.2.2))))))) big ((s297.1, 0, s297.2.2))) fun t381 =>
alt (fun b383 => some (.inl ((b383.1, (w64 (s297.2.1 + 1)), b383.2)))) (fun b384 => some (.inr ((.inr b384.1)))) t381)) (Option.bind (iter (σ := (Int × Int × (List Bool))) (τ := (Int × (List Bool)) ⊕ (Bool × (List Bool))) (fun s430 =>
cond ((decide (s430.2.1 < (lenI x300)))) (Option.bind (idx x300 s430.2.1) fun x433 =>
Option.bind (g_duty_within x433 0 ((w64 ((lenI p_0.1) - 1)))) fun y441 =>
cond ((!y441)) (some (.inr ((.inr ((false, s430.2.2)))))) (Option.bind (idx s430.2.2 x433) fun x444 =>
cond (x444) (some (.inr ((.inr ((false, s430.2.2)))))) (cond ((decide (s430.2.1 > 0))) (Option.bind (idx x300 ((w64 (s430.2.1 - 1)))) fun x448 =>
Option.bind (g_duty_work_follows p_0 x448 x433) fun y449 =>
cond ((!y449)) (some (.inr ((.inr ((false, s430.2.2)))))) (Option.bind (idx s430.2.2 x433) fun x451 =>
some (.inl (((w64 (s430.1 + 1)), (w64 (s430.2.1 + 1)), (s430.2.2).set (Int.toNat x433) true))))) (Option.bind (idx s430.2.2 x433) fun x453 =>
some (.inl (((w64 (s430.1 + 1)), (w64 (s430.2.1 + 1)), (s430.2.2).set (Int.toNat x433) true))))))) (some (.inr ((.inl ((s430.1, s430.2.2))))))) big ((s297.1, 0, s297.2.2))) fun t454 =>
alt (fun b456 => some (.inl ((b456.1, (w64 (s297.2.1 + 1)), b456.2)))) (fun b457 => some (.inr ((.inr b457.1)))) t454))) (some (.inr ((.inl ((s297.1, s297.2.2))))))) big ((0, 0, x1))) fun t458 =>
alt (fun b460 => some ((b460.1 == (lenI p_0.1)))) (fun b461 => some b461) t458
def g_duty_crewed_1 (x_0 : Int) : Option (Bool) :=
Option.bind (g_duty_within x_0 0 200000) fun y1 =>
some ((!y1))
def g_duty_crewed (tasks_0 : (List Task)) (y_1 : Yard) (cars_2 : (List (List Int))) (r_3 : WorkRules) : Option ((Option duty_crew) × Bool) :=
Option.bind (g_duty_Check tasks_0 y_1) fun y1 =>
cond ((y1 != 0)) (some (((none : Option duty_crew), false))) (Option.bind (Option.bind (g_duty_work_planned ((((((tasks_0, y_1, ()) : duty_work), cars_2, r_3, ()) : duty_crew)).1) cars_2) fun y7 =>
cond ((!y7)) (some true) (Option.bind (g_slices_ContainsFunc_int_int ([r_3.1, r_3.2.1, r_3.2.2.1, r_3.2.2.2.1, r_3.2.2.2.2.1, r_3.2.2.2.2.2.1]) ((fun x => g_duty_crewed_1 x))) fun y9 =>
some y9)) fun c6 =>
cond (c6) (some (((none : Option duty_crew), false))) (some (((some (((((tasks_0, y_1, ()) : duty_work), cars_2, r_3, ()) : duty_crew))), true))))
def g_duty_crew_pieces (c_0 : duty_crew) : Option ((List DutyPiece)) :=
Option.bind (iter (σ := ((List DutyPiece) × Int)) (τ := ((List DutyPiece))) (fun s29 =>
cond ((decide (s29.2 < (lenI c_0.2.1)))) (Option.bind (idx c_0.2.1 s29.2) fun x32 =>
Option.bind (iter (σ := ((List DutyPiece) × Int)) (τ := ((List DutyPiece))) (fun s44 =>
cond ((decide (s44.2 < (lenI x32)))) (Option.bind (iter (σ := ((List DutyPiece) × Int)) (τ := ((List DutyPiece))) (fun s50 =>
cond ((decide (s50.2 < (lenI x32)))) (Option.bind (appO 24 s50.1 ([((s29.2, s44.2, s50.2, ()) : DutyPiece)])) fun x53 =>
some (.inl ((x53, (w64 (s50.2 + 1)))))) (some (.inr s50.1))) big ((s44.1, s44.2))) fun t55 =>
some (.inl ((t55, (w64 (s44.2 + 1)))))) (some (.inr s44.1))) big ((s29.1, 0))) fun t57 =>
some (.inl ((t57, (w64 (s29.2 + 1)))))) (some (.inr s29.1))) big (([], 0))) fun t59 =>
some t59
def g_slices_IndexFunc_api_DutyPiece_api_DutyPiece (s_0 : (List DutyPiece)) (f_1 : ((DutyPiece) → Option (Bool))) : Option (Int) :=
Option.bind (iter (σ := (Int)) (τ := Unit ⊕ (Int)) (fun s5 =>
cond ((decide (s5 < (lenI s_0)))) (Option.bind (idx s_0 s5) fun x8 =>
Option.bind (f_1 x8) fun y9 =>
cond (y9) (some (.inr ((.inr s5)))) (some (.inl ((w64 (s5 + 1)))))) (some (.inr ((.inl (())))))) big 0) fun t11 =>
alt (fun b13 => some ((-1))) (fun b14 => some b14) t11
def g_slices_ContainsFunc_api_DutyPiece_api_DutyPiece (s_0 : (List DutyPiece)) (f_1 : ((DutyPiece) → Option (Bool))) : Option (Bool) :=
Option.bind (g_slices_IndexFunc_api_DutyPiece_api_DutyPiece s_0 f_1) fun y1 =>
some ((decide (y1 ≥ 0)))
def g_duty_crew_first (c_0 : duty_crew) (p_1 : DutyPiece) : Option (Task) :=
Option.bind (idx c_0.2.1 p_1.1) fun x2 =>
Option.bind (idx x2 p_1.2.1) fun x3 =>
Option.bind (idx c_0.1.1 x3) fun x4 =>
some x4
def g_duty_crew_last (c_0 : duty_crew) (p_1 : DutyPiece) : Option (Task) :=
Option.bind (idx c_0.2.1 p_1.1) fun x2 =>
Option.bind (idx x2 p_1.2.2.1) fun x3 =>
Option.bind (idx c_0.1.1 x3) fun x4 =>
some x4
def g_duty_crew_lasts (c_0 : duty_crew) (p_1 : DutyPiece) : Option (Int) :=
Option.bind (g_duty_crew_last c_0 p_1) fun y1 =>
Option.bind (g_duty_crew_first c_0 p_1) fun y2 =>
some ((w64 (y1.2.2.2.1 - y2.2.2.1)))
def g_duty_crew_piece_1 (p_0 : DutyPiece) (p_1 : duty_crew) : Option (Bool) :=
Option.bind (g_duty_crew_lasts p_1 p_0) fun y1 =>
some ((decide (y1 > p_1.2.2.1.1)))
def g_duty_crew_piece (c_0 : duty_crew) (d_1 : Duty) : Option (Bool) :=
Option.bind (g_slices_ContainsFunc_api_DutyPiece_api_DutyPiece d_1.1 ((fun x => g_duty_crew_piece_1 x c_0))) fun y1 =>
some y1
def g_duty_crew_relief_1 (p_0 : DutyPiece) (p_1 : duty_crew) : Option (Bool) :=
Option.bind (cond ((decide (p_0.2.1 > 0))) (Option.bind (g_duty_crew_first p_1 p_0) fun y15 =>
Option.bind (idx p_1.1.2.1.2.2.1 y15.1) fun x16 =>
cond ((!x16)) (some true) (Option.bind (idx p_1.2.1 p_0.1) fun x18 =>
cond ((decide (p_0.2.2.1 < (w64 ((lenI x18) - 1))))) (Option.bind (g_duty_crew_last p_1 p_0) fun y20 =>
Option.bind (idx p_1.1.2.1.2.2.1 y20.2.1) fun x21 =>
some ((!x21))) (some false))) (Option.bind (idx p_1.2.1 p_0.1) fun x22 =>
cond ((decide (p_0.2.2.1 < (w64 ((lenI x22) - 1))))) (Option.bind (g_duty_crew_last p_1 p_0) fun y24 =>
Option.bind (idx p_1.1.2.1.2.2.1 y24.2.1) fun x25 =>
some ((!x25))) (some false))) fun c13 =>
some c13
def g_duty_crew_relief (c_0 : duty_crew) (d_1 : Duty) : Option (Bool) :=
Option.bind (g_slices_ContainsFunc_api_DutyPiece_api_DutyPiece d_1.1 ((fun x => g_duty_crew_relief_1 x c_0))) fun y1 =>
some y1
def g_duty_crew_between (c_0 : duty_crew) (d_1 : Duty) : Option (Int × Int) :=
Option.bind (idx d_1.1 0) fun x1 =>
Option.bind (g_duty_crew_last c_0 x1) fun y2 =>
Option.bind (idx d_1.1 1) fun x3 =>
Option.bind (g_duty_crew_first c_0 x3) fun y4 =>
Option.bind (idx c_0.1.2.1.1 y2.2.1) fun x7 =>
Option.bind (idx x7 y4.1) fun x8 =>
some (((w64 (y4.2.2.1 - y2.2.2.2.1)), x8))
def g_duty_crew_order (c_0 : duty_crew) (d_1 : Duty) : Option (Bool) :=
cond (((lenI d_1.1) == 1)) (some false) (Option.bind (g_duty_crew_between c_0 d_1) fun y2 =>
Option.bind (cond ((decide (y2.1 < 0))) (some true) (some ((decide (y2.2 < 0))))) fun c4 =>
some c4)
def g_duty_crew_pause (c_0 : duty_crew) (d_1 : Duty) : Option (Bool) :=
Option.bind (cond (((lenI d_1.1) == 1)) (some true) (Option.bind (g_duty_crew_order c_0 d_1) fun y5 =>
some y5)) fun c3 =>
cond (c3) (some false) (Option.bind (g_duty_crew_between c_0 d_1) fun y7 =>
some ((decide (y7.1 < (w64 (c_0.2.2.1.2.2.2.1 + y7.2))))))
def g_duty_crew_span (c_0 : duty_crew) (d_1 : Duty) : Option (Int) :=
Option.bind (idx d_1.1 ((w64 ((lenI d_1.1) - 1)))) fun x1 =>
Option.bind (g_duty_crew_last c_0 x1) fun y2 =>
Option.bind (idx d_1.1 0) fun x3 =>
Option.bind (g_duty_crew_first c_0 x3) fun y4 =>
some ((w64 (y2.2.2.2.1 - y4.2.2.1)))
def g_duty_crew_long (c_0 : duty_crew) (d_1 : Duty) : Option (Bool) :=
Option.bind (g_duty_crew_span c_0 d_1) fun y1 =>
some ((decide ((w64 ((w64 (y1 + c_0.2.2.1.2.2.2.2.1)) + c_0.2.2.1.2.2.2.2.2.1)) > c_0.2.2.1.2.1)))
def g_duty_crew_time (c_0 : duty_crew) (d_1 : Duty) : Option (Bool) :=
Option.bind (iter (σ := (Int × Int)) (τ := (Int)) (fun s5 =>
cond ((decide (s5.2 < (lenI d_1.1)))) (Option.bind (idx d_1.1 s5.2) fun x8 =>
Option.bind (g_duty_crew_lasts c_0 x8) fun y10 =>
some (.inl (((w64 (s5.1 + y10)), (w64 (s5.2 + 1)))))) (some (.inr s5.1))) big (((w64 (c_0.2.2.1.2.2.2.2.1 + c_0.2.2.1.2.2.2.2.2.1)), 0))) fun t11 =>
some ((decide (t11 > c_0.2.2.1.2.2.1)))
def g_duty_crew_faults (c_0 : duty_crew) (d_1 : Duty) : Option ((List Int)) :=
Option.bind (iter (σ := ((List Int) × Int)) (τ := ((List Int))) (fun s8 =>
cond ((decide (s8.2 < 6))) (Option.bind (idx (([(fun x => g_duty_crew_piece c_0 x), (fun x => g_duty_crew_relief c_0 x), (fun x => g_duty_crew_order c_0 x), (fun x => g_duty_crew_pause c_0 x), (fun x => g_duty_crew_long c_0 x), (fun x => g_duty_crew_time c_0 x)] : (List ((Duty) → Option (Bool))))) s8.2) fun x11 =>
Option.bind (x11 d_1) fun y12 =>
cond (y12) (Option.bind (appO 8 s8.1 ([(w64 (1 + s8.2))])) fun x14 =>
some (.inl ((x14, (w64 (s8.2 + 1)))))) (some (.inl ((s8.1, (w64 (s8.2 + 1))))))) (some (.inr s8.1))) big (([], 0))) fun t16 =>
some t16
def g_duty_Bare (p_0 : (List Task)) (p_1 : Yard) (p_2 : (List (List Int))) (p_3 : WorkRules) : Option ((List Int) × Int) :=
Option.bind (g_duty_crewed p_0 p_1 p_2 p_3) fun y1 =>
cond ((!y1.2)) (some (([], 2))) (Option.bind (mkO 1 ((lenI p_0)) (false : Bool)) fun x3 =>
Option.bind (y1.1) fun p5 =>
Option.bind (g_duty_crew_pieces p5) fun y6 =>
Option.bind (iter (σ := (Int × (List Bool))) (τ := ((List Bool))) (fun s52 =>
cond ((decide (s52.1 < (lenI y6)))) (Option.bind (idx y6 s52.1) fun x55 =>
Option.bind (y1.1) fun p57 =>
Option.bind (g_duty_crew_faults p57 ((([x55], ()) : Duty))) fun y58 =>
cond (((lenI y58) == 0)) (Option.bind (idx p_2 x55.1) fun x61 =>
Option.bind (slO x61 x55.2.1 ((w64 (x55.2.2.1 + 1)))) fun x62 =>
Option.bind (iter (σ := (Int × (List Bool))) (τ := ((List Bool))) (fun s69 =>
cond ((decide (s69.1 < (lenI x62)))) (Option.bind (idx x62 s69.1) fun x72 =>
Option.bind (idx s69.2 x72) fun x73 =>
some (.inl (((w64 (s69.1 + 1)), (s69.2).set (Int.toNat x72) true)))) (some (.inr s69.2))) big ((0, s52.2))) fun t74 =>
some (.inl (((w64 (s52.1 + 1)), t74)))) (some (.inl (((w64 (s52.1 + 1)), s52.2))))) (some (.inr s52.2))) big ((0, x3))) fun t76 =>
Option.bind (iter (σ := ((List Int) × Int)) (τ := ((List Int))) (fun s83 =>
cond ((decide (s83.2 < (lenI t76)))) (Option.bind (idx t76 s83.2) fun x86 =>
cond ((!x86)) (Option.bind (appO 8 s83.1 ([s83.2])) fun x88 =>
some (.inl ((x88, (w64 (s83.2 + 1)))))) (some (.inl ((s83.1, (w64 (s83.2 + 1))))))) (some (.inr s83.1))) big (([], 0))) fun t90 =>
some ((t90, 0)))
def g_depot_Home_1 (i_0 : Int) (p_1 : (List Task)) (p_2 : (List (List Int))) : Option (Int) :=
Option.bind (idx p_2 i_0) fun x1 =>
Option.bind (idx p_2 i_0) fun x2 =>
Option.bind (idx x1 ((w64 ((lenI x2) - 1)))) fun x3 =>
Option.bind (idx p_1 x3) fun x4 =>
some x4.2.2.2.1
def g_depot_Home_2 (i_0 : Int) (p_1 : (List Task)) (p_2 : (List (List Int))) (p_3 : Int) : Option (Int) :=
Option.bind (idx p_2 i_0) fun x1 =>
Option.bind (idx x1 0) fun x2 =>
Option.bind (idx p_1 x2) fun x3 =>
some ((w64 (x3.2.2.1 + p_3)))
def g_slices_insertionSortCmpFunc_int   (data_0 : (List Int)) (a_1 : Int) (b_2 : Int) (cmp_3 : ((Int × Int) → Option (Int))) : Option ((List Int)) :=
Option.bind (iter (σ := (Int × (List Int))) (τ := ((List Int))) (fun s95 =>
cond ((decide (s95.1 < b_2))) (Option.bind (iter (σ := (Int × (List Int))) (τ := ((List Int))) (fun s126 =>
cond ((decide (s126.1 > a_1))) (Option.bind (idx s126.2 s126.1) fun x133 =>
Option.bind (idx s126.2 ((w64 (s126.1 - 1)))) fun x134 =>
Option.bind (cmp_3 ((x133, x134))) fun y135 =>
cond ((decide (y135 < 0))) (Option.bind (idx s126.2 ((w64 (s126.1 - 1)))) fun x137 =>
Option.bind (idx s126.2 s126.1) fun x138 =>
Option.bind (idx s126.2 s126.1) fun x139 =>
Option.bind (idx ((s126.2).set (Int.toNat s126.1) x137) ((w64 (s126.1 - 1)))) fun x140 =>
some (.inl (((w64 (s126.1 - 1)), ((s126.2).set (Int.toNat s126.1) x137).set (Int.toNat ((w64 (s126.1 - 1)))) x138)))) (some (.inr s126.2))) (some (.inr s126.2))) big ((s95.1, s95.2))) fun t142 =>
some (.inl (((w64 (s95.1 + 1)), t142)))) (some (.inr s95.2))) big (((w64 (a_1 + 1)), data_0))) fun t144 =>
some t144
def g_slices_swapRangeCmpFunc_int   (data_0 : (List Int)) (a_1 : Int) (b_2 : Int) (n_3 : Int) (cmp_4 : ((Int × Int) → Option (Int))) : Option ((List Int)) :=
Option.bind (iter (σ := (Int × (List Int))) (τ := ((List Int))) (fun s11 =>
cond ((decide (s11.1 < n_3))) (Option.bind (idx s11.2 ((w64 (b_2 + s11.1)))) fun x14 =>
Option.bind (idx s11.2 ((w64 (a_1 + s11.1)))) fun x15 =>
Option.bind (idx s11.2 ((w64 (a_1 + s11.1)))) fun x16 =>
Option.bind (idx ((s11.2).set (Int.toNat ((w64 (a_1 + s11.1)))) x14) ((w64 (b_2 + s11.1)))) fun x17 =>
some (.inl (((w64 (s11.1 + 1)), ((s11.2).set (Int.toNat ((w64 (a_1 + s11.1)))) x14).set (Int.toNat ((w64 (b_2 + s11.1)))) x15)))) (some (.inr s11.2))) big ((0, data_0))) fun t18 =>
some t18
def g_slices_rotateCmpFunc_int   (data_0 : (List Int)) (a_1 : Int) (m_2 : Int) (b_3 : Int) (cmp_4 : ((Int × Int) → Option (Int))) : Option ((List Int)) :=
Option.bind (iter (σ := (Int × Int × (List Int))) (τ := (Int × (List Int))) (fun s13 =>
cond ((s13.1 != s13.2.1)) (cond ((decide (s13.1 > s13.2.1))) (Option.bind (g_slices_swapRangeCmpFunc_int s13.2.2 ((w64 (m_2 - s13.1))) m_2 s13.2.1 cmp_4) fun y17 =>
some (.inl (((w64 (s13.1 - s13.2.1)), s13.2.1, y17)))) (Option.bind (g_slices_swapRangeCmpFunc_int s13.2.2 ((w64 (m_2 - s13.1))) ((w64 ((w64 (m_2 + s13.2.1)) - s13.1))) s13.1 cmp_4) fun y19 =>
some (.inl ((s13.1, (w64 (s13.2.1 - s13.1)), y19))))) (some (.inr (((s13.1, s13.2.2)))))) big (((w64 (m_2 - a_1)), (w64 (b_3 - m_2)), data_0))) fun t21 =>
Option.bind (g_slices_swapRangeCmpFunc_int t21.2 ((w64 (m_2 - t21.1))) m_2 t21.1 cmp_4) fun y23 =>
some y23
def g_slices_symMergeCmpFunc_int_body   (rec : (List Int) → Int → Int → Int → ((Int × Int) → Option (Int)) → Option ((List Int))) (p_0 : (List Int)) (p_1 : Int) (p_2 : Int) (p_3 : Int) (p_4 : ((Int × Int) → Option (Int))) : Option ((List Int)) :=
cond (((w64 (p_2 - p_1)) == 1)) (Option.bind (iter (σ := (Int × Int)) (τ := (Int)) (fun s8 =>
cond ((decide (s8.1 < s8.2))) (Option.bind (shrO .u64 ((IntKind.u64.wrap ((w64 (s8.1 + s8.2))))) 1) fun x11 =>
Option.bind (idx p_0 ((w64 x11))) fun x12 =>
Option.bind (idx p_0 p_1) fun x13 =>
Option.bind (p_4 ((x12, x13))) fun y14 =>
cond ((decide (y14 < 0))) (some (.inl (((w64 ((w64 x11) + 1)), s8.2)))) (some (.inl ((s8.1, (w64 x11)))))) (some (.inr s8.1))) big ((p_2, p_3))) fun t16 =>
Option.bind (iter (σ := (Int × (List Int))) (τ := ((List Int))) (fun s28 =>
cond ((decide (s28.1 < (w64 (t16 - 1))))) (Option.bind (idx s28.2 ((w64 (s28.1 + 1)))) fun x31 =>
Option.bind (idx s28.2 s28.1) fun x32 =>
Option.bind (idx s28.2 s28.1) fun x33 =>
Option.bind (idx ((s28.2).set (Int.toNat s28.1) x31) ((w64 (s28.1 + 1)))) fun x34 =>
some (.inl (((w64 (s28.1 + 1)), ((s28.2).set (Int.toNat s28.1) x31).set (Int.toNat ((w64 (s28.1 + 1)))) x32)))) (some (.inr s28.2))) big ((p_1, p_0))) fun t35 =>
some t35) (cond (((w64 (p_3 - p_2)) == 1)) (Option.bind (iter (σ := (Int × Int)) (τ := (Int)) (fun s44 =>
cond ((decide (s44.1 < s44.2))) (Option.bind (shrO .u64 ((IntKind.u64.wrap ((w64 (s44.1 + s44.2))))) 1) fun x47 =>
Option.bind (idx p_0 p_2) fun x48 =>
Option.bind (idx p_0 ((w64 x47))) fun x49 =>
Option.bind (p_4 ((x48, x49))) fun y50 =>
cond ((!(decide (y50 < 0)))) (some (.inl (((w64 ((w64 x47) + 1)), s44.2)))) (some (.inl ((s44.1, (w64 x47)))))) (some (.inr s44.1))) big ((p_1, p_2))) fun t52 =>
Option.bind (iter (σ := (Int × (List Int))) (τ := ((List Int))) (fun s64 =>
cond ((decide (s64.1 > t52))) (Option.bind (idx s64.2 ((w64 (s64.1 - 1)))) fun x67 =>
Option.bind (idx s64.2 s64.1) fun x68 =>
Option.bind (idx s64.2 s64.1) fun x69 =>
Option.bind (idx ((s64.2).set (Int.toNat s64.1) x67) ((w64 (s64.1 - 1)))) fun x70 =>
some (.inl (((w64 (s64.1 - 1)), ((s64.2).set (Int.toNat s64.1) x67).set (Int.toNat ((w64 (s64.1 - 1)))) x68)))) (some (.inr s64.2))) big ((p_2, p_0))) fun t71 =>
some t71) (Option.bind (shrO .u64 ((IntKind.u64.wrap ((w64 (p_1 + p_3))))) 1) fun x73 =>
cond ((decide (p_2 > (w64 x73)))) (Option.bind (iter (σ := (Int × Int)) (τ := (Int)) (fun s81 =>
cond ((decide (s81.1 < s81.2))) (Option.bind (shrO .u64 ((IntKind.u64.wrap ((w64 (s81.1 + s81.2))))) 1) fun x84 =>
Option.bind (idx p_0 ((w64 ((w64 ((w64 ((w64 x73) + p_2)) - 1)) - (w64 x84))))) fun x85 =>
Option.bind (idx p_0 ((w64 x84))) fun x86 =>
Option.bind (p_4 ((x85, x86))) fun y87 =>
cond ((!(decide (y87 < 0)))) (some (.inl (((w64 ((w64 x84) + 1)), s81.2)))) (some (.inl ((s81.1, (w64 x84)))))) (some (.inr s81.1))) big (((w64 ((w64 ((w64 x73) + p_2)) - p_3)), (w64 x73)))) fun t89 =>
Option.bind (cond ((decide (t89 < p_2))) (some ((decide (p_2 < (w64 ((w64 ((w64 x73) + p_2)) - t89)))))) (some false)) fun c92 =>
cond (c92) (Option.bind (g_slices_rotateCmpFunc_int p_0 t89 p_2 ((w64 ((w64 ((w64 x73) + p_2)) - t89))) p_4) fun y95 =>
Option.bind (cond ((decide (p_1 < t89))) (some ((decide (t89 < (w64 x73))))) (some false)) fun c98 =>
cond (c98) (Option.bind (rec y95 p_1 t89 ((w64 x73)) p_4) fun y101 =>
Option.bind (cond ((decide ((w64 x73) < (w64 ((w64 ((w64 x73) + p_2)) - t89))))) (some ((decide ((w64 ((w64 ((w64 x73) + p_2)) - t89)) < p_3)))) (some false)) fun c104 =>
cond (c104) (Option.bind (rec y101 ((w64 x73)) ((w64 ((w64 ((w64 x73) + p_2)) - t89))) p_3 p_4) fun y107 =>
some y107) (some y101)) (Option.bind (cond ((decide ((w64 x73) < (w64 ((w64 ((w64 x73) + p_2)) - t89))))) (some ((decide ((w64 ((w64 ((w64 x73) + p_2)) - t89)) < p_3)))) (some false)) fun c110 =>
cond (c110) (Option.bind (rec y95 ((w64 x73)) ((w64 ((w64 ((w64 x73) + p_2)) - t89))) p_3 p_4) fun y113 =>
some y113) (some y95))) (Option.bind (cond ((decide (p_1 < t89))) (some ((decide (t89 < (w64 x73))))) (some false)) fun c116 =>
cond (c116) (Option.bind (rec p_0 p_1 t89 ((w64 x73)) p_4) fun y119 =>
Option.bind (cond ((decide ((w64 x73) < (w64 ((w64 ((w64 x73) + p_2)) - t89))))) (some ((decide ((w64 ((w64 ((w64 x73) + p_2)) - t89)) < p_3)))) (some false)) fun c122 =>
cond (c122) (Option.bind (rec y119 ((w64 x73)) ((w64 ((w64 ((w64 x73) + p_2)) - t89))) p_3 p_4) fun y125 =>
some y125) (some y119)) (Option.bind (cond ((decide ((w64 x73) < (w64 ((w64 ((w64 x73) + p_2)) - t89))))) (some ((decide ((w64 ((w64 ((w64 x73) + p_2)) - t89)) < p_3)))) (some false)) fun c128 =>
cond (c128) (Option.bind (rec p_0 ((w64 x73)) ((w64 ((w64 ((w64 x73) + p_2)) - t89))) p_3 p_4) fun y131 =>
some y131) (some p_0)))) (Option.bind (iter (σ := (Int × Int)) (τ := (Int)) (fun s139 =>
cond ((decide (s139.1 < s139.2))) (Option.bind (shrO .u64 ((IntKind.u64.wrap ((w64 (s139.1 + s139.2))))) 1) fun x142 =>
Option.bind (idx p_0 ((w64 ((w64 ((w64 ((w64 x73) + p_2)) - 1)) - (w64 x142))))) fun x143 =>
Option.bind (idx p_0 ((w64 x142))) fun x144 =>
Option.bind (p_4 ((x143, x144))) fun y145 =>
cond ((!(decide (y145 < 0)))) (some (.inl (((w64 ((w64 x142) + 1)), s139.2)))) (some (.inl ((s139.1, (w64 x142)))))) (some (.inr s139.1))) big ((p_1, p_2))) fun t147 =>
Option.bind (cond ((decide (t147 < p_2))) (some ((decide (p_2 < (w64 ((w64 ((w64 x73) + p_2)) - t147)))))) (some false)) fun c150 =>
cond (c150) (Option.bind (g_slices_rotateCmpFunc_int p_0 t147 p_2 ((w64 ((w64 ((w64 x73) + p_2)) - t147))) p_4) fun y153 =>
Option.bind (cond ((decide (p_1 < t147))) (some ((decide (t147 < (w64 x73))))) (some false)) fun c156 =>
cond (c156) (Option.bind (rec y153 p_1 t147 ((w64 x73)) p_4) fun y159 =>
Option.bind (cond ((decide ((w64 x73) < (w64 ((w64 ((w64 x73) + p_2)) - t147))))) (some ((decide ((w64 ((w64 ((w64 x73) + p_2)) - t147)) < p_3)))) (some false)) fun c162 =>
cond (c162) (Option.bind (rec y159 ((w64 x73)) ((w64 ((w64 ((w64 x73) + p_2)) - t147))) p_3 p_4) fun y165 =>
some y165) (some y159)) (Option.bind (cond ((decide ((w64 x73) < (w64 ((w64 ((w64 x73) + p_2)) - t147))))) (some ((decide ((w64 ((w64 ((w64 x73) + p_2)) - t147)) < p_3)))) (some false)) fun c168 =>
cond (c168) (Option.bind (rec y153 ((w64 x73)) ((w64 ((w64 ((w64 x73) + p_2)) - t147))) p_3 p_4) fun y171 =>
some y171) (some y153))) (Option.bind (cond ((decide (p_1 < t147))) (some ((decide (t147 < (w64 x73))))) (some false)) fun c174 =>
cond (c174) (Option.bind (rec p_0 p_1 t147 ((w64 x73)) p_4) fun y177 =>
Option.bind (cond ((decide ((w64 x73) < (w64 ((w64 ((w64 x73) + p_2)) - t147))))) (some ((decide ((w64 ((w64 ((w64 x73) + p_2)) - t147)) < p_3)))) (some false)) fun c180 =>
cond (c180) (Option.bind (rec y177 ((w64 x73)) ((w64 ((w64 ((w64 x73) + p_2)) - t147))) p_3 p_4) fun y183 =>
some y183) (some y177)) (Option.bind (cond ((decide ((w64 x73) < (w64 ((w64 ((w64 x73) + p_2)) - t147))))) (some ((decide ((w64 ((w64 ((w64 x73) + p_2)) - t147)) < p_3)))) (some false)) fun c186 =>
cond (c186) (Option.bind (rec p_0 ((w64 x73)) ((w64 ((w64 ((w64 x73) + p_2)) - t147))) p_3 p_4) fun y189 =>
some y189) (some p_0))))))
def g_slices_symMergeCmpFunc_int   : Nat → (List Int) → Int → Int → Int → ((Int × Int) → Option (Int)) → Option ((List Int))
 | 0 => fun _ _ _ _ _ => none
 | k + 1 => g_slices_symMergeCmpFunc_int_body (g_slices_symMergeCmpFunc_int k)
def g_slices_stableCmpFunc_int   (data_0 : (List Int)) (n_1 : Int) (cmp_2 : ((Int × Int) → Option (Int))) : Option ((List Int)) :=
Option.bind (iter (σ := (Int × Int × (List Int))) (τ := (Int × (List Int))) (fun s7 =>
cond ((decide (s7.2.1 ≤ n_1))) (Option.bind (g_slices_insertionSortCmpFunc_int s7.2.2 s7.1 s7.2.1 cmp_2) fun y10 =>
some (.inl ((s7.2.1, (w64 (s7.2.1 + 20)), y10)))) (some (.inr (((s7.1, s7.2.2)))))) big ((0, 20, data_0))) fun t12 =>
Option.bind (g_slices_insertionSortCmpFunc_int t12.2 t12.1 n_1 cmp_2) fun y14 =>
Option.bind (iter (σ := (Int × (List Int))) (τ := ((List Int))) (fun s50 =>
cond ((decide (s50.1 < n_1))) (Option.bind (iter (σ := (Int × Int × (List Int))) (τ := (Int × (List Int))) (fun s59 =>
cond ((decide (s59.2.1 ≤ n_1))) (Option.bind (g_slices_symMergeCmpFunc_int big s59.2.2 s59.1 ((w64 (s59.1 + s50.1))) s59.2.1 cmp_2) fun y62 =>
some (.inl ((s59.2.1, (w64 (s59.2.1 + (w64 (2 * s50.1)))), y62)))) (some (.inr (((s59.1, s59.2.2)))))) big ((0, (w64 (2 * s50.1)), s50.2))) fun t64 =>
cond ((decide ((w64 (t64.1 + s50.1)) < n_1))) (Option.bind (g_slices_symMergeCmpFunc_int big t64.2 t64.1 ((w64 (t64.1 + s50.1))) n_1 cmp_2) fun y67 =>
some (.inl (((w64 (s50.1 * 2)), y67)))) (some (.inl (((w64 (s50.1 * 2)), t64.2))))) (some (.inr s50.2))) big ((20, y14))) fun t69 =>
some t69
def g_slices_SortStableFunc_int_int   (x_0 : (List Int)) (cmp_1 : ((Int × Int) → Option (Int))) : Option ((List Int)) :=
Option.bind (g_slices_stableCmpFunc_int x_0 ((lenI x_0)) cmp_1) fun y1 =>
some y1
def g_depot_Home_3 (a_0 : Int) (b_1 : Int) (p_2 : ((Int) → Option (Int))) : Option (Int) :=
Option.bind (p_2 a_0) fun y1 =>
Option.bind (p_2 b_1) fun y2 =>
some ((w64 (y1 - y2)))
def g_depot_Home_4 (a_0 : Int) (b_1 : Int) (p_2 : ((Int) → Option (Int))) : Option (Int) :=
Option.bind (p_2 a_0) fun y1 =>
Option.bind (p_2 b_1) fun y2 =>
some ((w64 (y1 - y2)))
def g_depot_Home (p_0 : (List Task)) (p_1 : Yard) (p_2 : (List (List Int))) (p_3 : (List Int)) (p_4 : (List Int)) (p_5 : Int) : Option ((List StableCar) × (List StableLeave) × (List Int) × (List Int) × Int) :=
Option.bind (g_duty_Bare p_0 p_1 p_2 (((0, 0, 0, 0, 0, 0, ()) : WorkRules))) fun y1 =>
Option.bind (cond ((y1.2 != 0)) (some true) (cond (((lenI p_3) != (lenI p_2))) (some true) (cond (((lenI p_4) != (lenI p_2))) (some true) (Option.bind (g_depot_within p_5 0 200000) fun y11 =>
some ((!y11)))))) fun c7 =>
cond (c7) (some (([], [], [], [], 2))) (Option.bind (iter (σ := (Int)) (τ := Unit ⊕ ((List StableCar) × (List StableLeave) × (List Int) × (List Int) × Int)) (fun s26 =>
cond ((decide (s26 < (lenI p_2)))) (Option.bind (idx p_3 s26) fun x34 =>
Option.bind (g_depot_within x34 0 100) fun y35 =>
cond ((!y35)) (some (.inr ((.inr (([], [], [], [], 2)))))) (Option.bind (idx p_4 s26) fun x38 =>
Option.bind (g_depot_within x38 1 10000000) fun y39 =>
cond ((!y39)) (some (.inr ((.inr (([], [], [], [], 2)))))) (some (.inl ((w64 (s26 + 1))))))) (some (.inr ((.inl (())))))) big 0) fun t41 =>
alt (fun b43 => cond ((decide ((lenI p_2) > 9))) (some (([], [], [], [], 4))) (Option.bind (iter (σ := ((List Int) × (List Int) × Int)) (τ := ((List Int) × (List Int))) (fun s53 =>
cond ((decide (s53.2.2 < (lenI p_2)))) (Option.bind (appO 8 s53.1 ([s53.2.2])) fun x56 =>
Option.bind (appO 8 s53.2.1 ([s53.2.2])) fun x58 =>
some (.inl ((x56, x58, (w64 (s53.2.2 + 1)))))) (some (.inr (((s53.1, s53.2.1)))))) big (([], [], 0))) fun t60 =>
Option.bind (g_slices_SortStableFunc_int_int t60.1 ((fun x => g_depot_Home_3 x.1 x.2 ((fun x => g_depot_Home_1 x p_0 p_2))))) fun y62 =>
Option.bind (g_slices_SortStableFunc_int_int t60.2 ((fun x => g_depot_Home_4 x.1 x.2 ((fun x => g_depot_Home_2 x p_0 p_2 p_5))))) fun y64 =>
Option.bind (iter (σ := ((List StableCar) × (List StableLeave) × Int)) (τ := ((List StableCar) × (List StableLeave)) ⊕ ((List StableCar) × (List StableLeave) × (List Int) × (List Int) × Int)) (fun s80 =>
cond ((decide (s80.2.2 < (lenI p_2)))) (Option.bind (idx y62 s80.2.2) fun x83 =>
Option.bind (idx y64 s80.2.2) fun x84 =>
Option.bind (((fun x => g_depot_Home_2 x p_0 p_2 p_5)) x84) fun y85 =>
cond ((decide (y85 > 200000))) (some (.inr ((.inr (([], [], [], [], 4)))))) (Option.bind (idx p_3 x83) fun x87 =>
Option.bind (idx p_4 x83) fun x88 =>
Option.bind (((fun x => g_depot_Home_1 x p_0 p_2)) x83) fun y89 =>
Option.bind (appO 32 s80.1 ([((x87, x88, y89, 200000, ()) : StableCar)])) fun x90 =>
Option.bind (idx p_3 x84) fun x92 =>
Option.bind (((fun x => g_depot_Home_2 x p_0 p_2 p_5)) x84) fun y93 =>
Option.bind (appO 16 s80.2.1 ([((x92, y93, ()) : StableLeave)])) fun x94 =>
some (.inl ((x90, x94, (w64 (s80.2.2 + 1))))))) (some (.inr ((.inl ((s80.1, s80.2.1))))))) big (([], [], 0))) fun t96 =>
alt (fun b98 => some ((b98.1, b98.2, y62, y64, 0))) (fun b99 => some ((b99.1, b99.2.1, b99.2.2.1, b99.2.2.2.1, b99.2.2.2.2))) t96)) (fun b44 => some ((b44.1, b44.2.1, b44.2.2.1, b44.2.2.2.1, b44.2.2.2.2))) t41)
def g_ref08_in (x_0 : Int) (low_1 : Int) (high_2 : Int) : Option (Bool) :=
Option.bind (cond ((decide (x_0 ≥ low_1))) (some ((decide (x_0 ≤ high_2)))) (some false)) fun c2 =>
some c2
def g_ref08_Fine (p_0 : (List Task)) (p_1 : Yard) : Option (Bool) :=
Option.bind (Option.bind (g_ref08_in ((lenI p_1.2.2.1)) 1 40) fun y7 =>
cond ((!y7)) (some true) (cond (((lenI p_1.1) != (lenI p_1.2.2.1))) (some true) (Option.bind (g_ref08_in p_1.2.1 0 3600) fun y10 =>
cond ((!y10)) (some true) (some ((decide ((lenI p_0) > 60))))))) fun c6 =>
cond (c6) (some false) (Option.bind (iter (σ := (Int)) (τ := Unit ⊕ (Bool)) (fun s40 =>
cond ((decide (s40 < (lenI p_1.2.2.1)))) (Option.bind (idx p_1.1 s40) fun x47 =>
cond (((lenI x47) != (lenI p_1.2.2.1))) (some (.inr ((.inr false)))) (Option.bind (idx p_1.1 s40) fun x50 =>
Option.bind (idx x50 s40) fun x51 =>
cond ((x51 != 0)) (some (.inr ((.inr false)))) (Option.bind (iter (σ := (Int)) (τ := Unit ⊕ (Bool)) (fun s58 =>
cond ((decide (s58 < (lenI p_1.2.2.1)))) (Option.bind (idx p_1.1 s40) fun x61 =>
Option.bind (idx x61 s58) fun x62 =>
Option.bind (g_ref08_in x62 ((-1)) 20000) fun y63 =>
cond ((!y63)) (some (.inr ((.inr false)))) (some (.inl ((w64 (s58 + 1)))))) (some (.inr ((.inl (())))))) big 0) fun t65 =>
alt (fun b67 => some (.inl ((w64 (s40 + 1))))) (fun b68 => some (.inr ((.inr b68)))) t65))) (some (.inr ((.inl (())))))) big 0) fun t69 =>
alt (fun b71 => Option.bind (iter (σ := (Int)) (τ := Unit ⊕ (Bool)) (fun s101 =>
cond ((decide (s101 < (lenI p_0)))) (Option.bind (idx p_0 s101) fun x104 =>
Option.bind (g_ref08_in x104.1 0 ((w64 ((lenI p_1.2.2.1) - 1)))) fun y115 =>
cond ((!y115)) (some (.inr ((.inr false)))) (Option.bind (g_ref08_in x104.2.1 0 ((w64 ((lenI p_1.2.2.1) - 1)))) fun y118 =>
cond ((!y118)) (some (.inr ((.inr false)))) (cond ((decide (x104.2.2.1 < 0))) (some (.inr ((.inr false)))) (cond ((decide (x104.2.2.1 > x104.2.2.2.1))) (some (.inr ((.inr false)))) (cond ((decide (x104.2.2.2.1 > 200000))) (some (.inr ((.inr false)))) (cond ((decide (s101 > 0))) (Option.bind (idx p_0 ((w64 (s101 - 1)))) fun x128 =>
cond ((decide (x104.2.2.1 < x128.2.2.1))) (some (.inr ((.inr false)))) (some (.inl ((w64 (s101 + 1)))))) (some (.inl ((w64 (s101 + 1))))))))))) (some (.inr ((.inl (())))))) big 0) fun t131 =>
alt (fun b133 => some true) (fun b134 => some b134) t131) (fun b72 => some b72) t69)
def g_ref08_Follows (tasks_0 : (List Task)) (y_1 : Yard) (a_2 : Int) (b_3 : Int) : Option (Bool) :=
Option.bind (idx tasks_0 a_2) fun x1 =>
Option.bind (idx y_1.1 x1.2.1) fun x2 =>
Option.bind (idx tasks_0 b_3) fun x3 =>
Option.bind (idx x2 x3.1) fun x4 =>
Option.bind (cond ((decide (a_2 < b_3))) (cond ((decide (x4 ≥ 0))) (Option.bind (idx tasks_0 a_2) fun x12 =>
Option.bind (idx tasks_0 b_3) fun x13 =>
some ((decide ((w64 ((w64 (x12.2.2.2.1 + y_1.2.1)) + x4)) ≤ x13.2.2.1)))) (some false)) (some false)) fun c9 =>
some c9
def g_ref08_Plan (p_0 : (List Task)) (p_1 : Yard) (p_2 : (List (List Int))) : Option (Bool) :=
Option.bind (mkO 1 ((lenI p_0)) (false : Bool)) fun x1 =>
Option.bind (iter (σ := (Int × Int × (List Bool))) (τ := (Int × (List Bool)) ⊕ (Bool)) (fun s201 =>
cond ((decide (s201.2.1 < (lenI p_2)))) (Option.bind (idx p_2 s201.2.1) fun x204 =>
cond (((lenI x204) == 0)) (some (.inr ((.inr false)))) (Option.bind (iter (σ := (Int × Int × (List Bool))) (τ := (Int × (List Bool)) ⊕ (Bool × (List Bool))) (fun s258 =>
Option.bind (idx p_2 s201.2.1) fun x260 =>
cond ((decide (s258.2.1 < (lenI x260)))) (Option.bind (idx p_2 s201.2.1) fun x262 =>
Option.bind (idx x262 s258.2.1) fun x263 =>
Option.bind (g_ref08_in x263 0 ((w64 ((lenI p_0) - 1)))) fun y272 =>
cond ((!y272)) (some (.inr ((.inr ((false, s258.2.2)))))) (Option.bind (idx s258.2.2 x263) fun x275 =>
cond (x275) (some (.inr ((.inr ((false, s258.2.2)))))) (cond ((decide (s258.2.1 > 0))) (Option.bind (idx p_2 s201.2.1) fun x279 =>
Option.bind (idx x279 ((w64 (s258.2.1 - 1)))) fun x280 =>
Option.bind (g_ref08_Follows p_0 p_1 x280 x263) fun y281 =>
cond ((!y281)) (some (.inr ((.inr ((false, s258.2.2)))))) (Option.bind (idx s258.2.2 x263) fun x283 =>
some (.inl (((w64 (s258.1 + 1)), (w64 (s258.2.1 + 1)), (s258.2.2).set (Int.toNat x263) true))))) (Option.bind (idx s258.2.2 x263) fun x285 =>
some (.inl (((w64 (s258.1 + 1)), (w64 (s258.2.1 + 1)), (s258.2.2).set (Int.toNat x263) true))))))) (some (.inr ((.inl ((s258.1, s258.2.2))))))) big ((s201.1, 0, s201.2.2))) fun t286 =>
alt (fun b288 => cond ((decide (s201.2.1 > 0))) (Option.bind (idx p_2 s201.2.1) fun x296 =>
Option.bind (idx x296 0) fun x297 =>
Option.bind (idx p_2 ((w64 (s201.2.1 - 1)))) fun x298 =>
Option.bind (idx x298 0) fun x299 =>
cond ((decide (x297 ≤ x299))) (some (.inr ((.inr false)))) (some (.inl ((b288.1, (w64 (s201.2.1 + 1)), b288.2))))) (some (.inl ((b288.1, (w64 (s201.2.1 + 1)), b288.2))))) (fun b289 => some (.inr ((.inr b289.1)))) t286)) (some (.inr ((.inl ((s201.1, s201.2.2))))))) big ((0, 0, x1))) fun t302 =>
alt (fun b304 => some ((b304.1 == (lenI p_0)))) (fun b305 => some b305) t302
def g_ref09_in (x_0 : Int) (low_1 : Int) (high_2 : Int) : Option (Bool) :=
Option.bind (cond ((decide (x_0 ≥ low_1))) (some ((decide (x_0 ≤ high_2)))) (some false)) fun c2 =>
some c2
def g_ref09_Homes (tasks_0 : (List Task)) (y_1 : Yard) (cars_2 : (List (List Int))) (kinds_3 : (List Int)) (lengths_4 : (List Int)) (day_5 : Int) : Option (Bool) :=
Option.bind (Option.bind (g_ref08_Fine tasks_0 y_1) fun y9 =>
cond ((!y9)) (some true) (Option.bind (g_ref08_Plan tasks_0 y_1 cars_2) fun y11 =>
cond ((!y11)) (some true) (cond (((lenI kinds_3) != (lenI cars_2))) (some true) (cond (((lenI lengths_4) != (lenI cars_2))) (some true) (Option.bind (g_ref09_in day_5 0 200000) fun y15 =>
some ((!y15))))))) fun c8 =>
cond (c8) (some false) (Option.bind (iter (σ := (Int)) (τ := Unit ⊕ (Bool)) (fun s30 =>
cond ((decide (s30 < (lenI cars_2)))) (Option.bind (idx kinds_3 s30) fun x38 =>
Option.bind (g_ref09_in x38 0 100) fun y39 =>
cond ((!y39)) (some (.inr ((.inr false)))) (Option.bind (idx lengths_4 s30) fun x42 =>
Option.bind (g_ref09_in x42 1 10000000) fun y43 =>
cond ((!y43)) (some (.inr ((.inr false)))) (some (.inl ((w64 (s30 + 1))))))) (some (.inr ((.inl (())))))) big 0) fun t45 =>
alt (fun b47 => some true) (fun b48 => some b48) t45)
def g_ref09_sorted (l_0 : (List Int)) : Option ((List Int)) :=
Option.bind (iter (σ := ((List Int) × Int)) (τ := ((List Int))) (fun s34 =>
cond ((decide (s34.2 < (lenI l_0)))) (Option.bind (iter (σ := (Int)) (τ := (Int)) (fun s47 =>
cond ((decide (s47 < (lenI s34.1)))) (Option.bind (idx s34.1 s47) fun x54 =>
Option.bind (idx l_0 x54) fun x55 =>
Option.bind (idx l_0 s34.2) fun x56 =>
cond ((decide (x55 ≤ x56))) (some (.inl ((w64 (s47 + 1))))) (some (.inr s47))) (some (.inr s47))) big 0) fun t59 =>
Option.bind (slO s34.1 0 t59) fun x61 =>
Option.bind (appO 8 ([]) x61) fun x62 =>
Option.bind (appO 8 x62 ([s34.2])) fun x64 =>
Option.bind (slO s34.1 t59 ((lenI s34.1))) fun x66 =>
Option.bind (appO 8 x64 x66) fun x67 =>
some (.inl ((x67, (w64 (s34.2 + 1)))))) (some (.inr s34.1))) big (([], 0))) fun t69 =>
some t69
def g_ref09_Home (p_0 : (List Task)) (p_1 : (List (List Int))) (p_2 : (List Int)) (p_3 : (List Int)) (p_4 : Int) : Option ((List StableCar) × (List StableLeave) × (List Int) × (List Int) × Bool) :=
Option.bind (iter (σ := ((List Int) × (List Int) × Int)) (τ := ((List Int) × (List Int)) ⊕ ((List StableCar) × (List StableLeave) × (List Int) × (List Int) × Bool)) (fun s15 =>
cond ((decide (s15.2.2 < (lenI p_1)))) (Option.bind (idx p_1 s15.2.2) fun x18 =>
Option.bind (idx p_1 s15.2.2) fun x19 =>
Option.bind (idx x18 ((w64 ((lenI x19) - 1)))) fun x20 =>
Option.bind (idx p_0 x20) fun x21 =>
Option.bind (appO 8 s15.1 ([x21.2.2.2.1])) fun x22 =>
Option.bind (idx p_1 s15.2.2) fun x24 =>
Option.bind (idx x24 0) fun x25 =>
Option.bind (idx p_0 x25) fun x26 =>
Option.bind (appO 8 s15.2.1 ([(w64 (x26.2.2.1 + p_4))])) fun x27 =>
Option.bind (idx x27 s15.2.2) fun x29 =>
cond ((decide (x29 > 200000))) (some (.inr ((.inr (([], [], [], [], false)))))) (some (.inl ((x22, x27, (w64 (s15.2.2 + 1))))))) (some (.inr ((.inl ((s15.1, s15.2.1))))))) big (([], [], 0))) fun t31 =>
alt (fun b33 => cond ((decide ((lenI p_1) > 9))) (some (([], [], [], [], false))) (Option.bind (g_ref09_sorted b33.1) fun y36 =>
Option.bind (g_ref09_sorted b33.2) fun y38 =>
Option.bind (iter (σ := ((List StableCar) × (List StableLeave) × Int)) (τ := ((List StableCar) × (List StableLeave))) (fun s55 =>
cond ((decide (s55.2.2 < (lenI p_1)))) (Option.bind (idx y36 s55.2.2) fun x58 =>
Option.bind (idx p_2 x58) fun x59 =>
Option.bind (idx y36 s55.2.2) fun x60 =>
Option.bind (idx p_3 x60) fun x61 =>
Option.bind (idx y36 s55.2.2) fun x62 =>
Option.bind (idx b33.1 x62) fun x63 =>
Option.bind (appO 32 s55.1 ([((x59, x61, x63, 200000, ()) : StableCar)])) fun x64 =>
Option.bind (idx y38 s55.2.2) fun x66 =>
Option.bind (idx p_2 x66) fun x67 =>
Option.bind (idx y38 s55.2.2) fun x68 =>
Option.bind (idx b33.2 x68) fun x69 =>
Option.bind (appO 16 s55.2.1 ([((x67, x69, ()) : StableLeave)])) fun x70 =>
some (.inl ((x64, x70, (w64 (s55.2.2 + 1)))))) (some (.inr (((s55.1, s55.2.1)))))) big (([], [], 0))) fun t72 =>
some ((t72.1, t72.2, y36, y38, true)))) (fun b34 => some ((b34.1, b34.2.1, b34.2.2.1, b34.2.2.2.1, b34.2.2.2.2))) t31
def g_law09_DepotHomes (p_0 : (List Task)) (p_1 : Yard) (p_2 : (List (List Int))) (p_3 : (List Int)) (p_4 : (List Int)) (p_5 : Int) : Option (Bool) :=
Option.bind (g_law09_small p_0 p_1 p_2 p_3 p_4) fun y1 =>
cond ((!y1)) (some true) (Option.bind (g_depot_Home p_0 p_1 p_2 p_3 p_4 p_5) fun y3 =>
Option.bind (g_ref09_Homes p_0 p_1 p_2 p_3 p_4 p_5) fun y8 =>
cond ((!y8)) (Option.bind (cond ((y3.2.2.2.2 == 2)) (cond (((w64 ((w64 ((w64 ((lenI y3.1) + (lenI y3.2.1))) + (lenI y3.2.2.1))) + (lenI y3.2.2.2.1))) == 0)) (some true) (some false)) (some false)) fun c12 =>
some c12) (Option.bind (g_ref09_Home p_0 p_2 p_3 p_4 p_5) fun y15 =>
cond ((!y15.2.2.2.2)) (Option.bind (cond ((y3.2.2.2.2 == 4)) (cond (((w64 ((w64 ((w64 ((lenI y3.1) + (lenI y3.2.1))) + (lenI y3.2.2.1))) + (lenI y3.2.2.2.1))) == 0)) (some true) (some false)) (some false)) fun c23 =>
some c23) (Option.bind (cond ((y3.2.2.2.2 != 0)) (some true) (cond (((lenI y3.1) != (lenI y15.1))) (some true) (cond (((lenI y3.2.1) != (lenI y15.2.1))) (some true) (Option.bind (g_ref09_Same y3.2.2.1 y15.2.2.1) fun y36 =>
cond ((!y36)) (some true) (Option.bind (g_ref09_Same y3.2.2.2.1 y15.2.2.2.1) fun y38 =>
some ((!y38))))))) fun c32 =>
cond (c32) (some false) (Option.bind (iter (σ := (Int)) (τ := Unit ⊕ (Bool)) (fun s53 =>
cond ((decide (s53 < (lenI y3.1)))) (Option.bind (idx y3.1 s53) fun x61 =>
Option.bind (idx y15.1 s53) fun x62 =>
cond ((x61 != x62)) (some (.inr ((.inr false)))) (Option.bind (idx y3.2.1 s53) fun x65 =>
Option.bind (idx y15.2.1 s53) fun x66 =>
cond ((x65 != x66)) (some (.inr ((.inr false)))) (some (.inl ((w64 (s53 + 1))))))) (some (.inr ((.inl (())))))) big 0) fun t68 =>
alt (fun b70 => some true) (fun b71 => some b71) t68))))
end Go.Ai.Sx
