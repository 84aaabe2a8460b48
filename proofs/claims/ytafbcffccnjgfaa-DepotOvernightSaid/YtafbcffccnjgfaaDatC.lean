/- Written by program: the data of the functions,and the functions as plain Lean. -/
import Derived.Test.YtafbcffccnjgfaaM7
namespace Go.Ai.Sx
abbrev Task:Type := Int × Int × Int × Int × Unit
abbrev Yard:Type := (List (List Int)) × Int × (List Bool) × Unit
abbrev StableTrack:Type := Int × Bool × Unit
abbrev StableCar:Type := Int × Int × Int × Int × Unit
abbrev StableLeave:Type := Int × Int × Unit
abbrev zi:Type := (List StableTrack) × (List StableCar) × (List StableLeave) × Unit
abbrev StablePlanN1:Type := (List Int) × Unit × Int × Unit
abbrev StablePlan:Type := (List Int) × (List Int) × Int × Unit
abbrev StableMove:Type := Int × Int × Int × Unit
abbrev WashJob:Type := Int × Int × Int × Unit
abbrev zx23:Type := (List Int) × Int × Int × Unit
abbrev za1:Type := (List Task) × Yard × Unit
abbrev WorkRules:Type := Int × Int × Int × Int × Int × Int × Unit
abbrev ze2:Type := za1 × (List (List Int)) × WorkRules × Unit
abbrev DutyPiece:Type := Int × Int × Int × Unit
abbrev Duty:Type := (List DutyPiece) × Unit
abbrev DutyProof:Type := (List Int) × (List Int) × Unit
abbrev rTask:Rep Task := (rPair (rInt .i64) (rPair (rInt .i64) (rPair (rInt .i64) (rPair (rInt .i64) rUnit))))
theorem zt26:FOk rTask 0 (rInt .i64) (fun x => x.1) (fun x y => (y,x.2.1,x.2.2.1,x.2.2.2.1,())) := FOk.off FOk.here rfl
theorem zu26:FOk rTask 1 (rInt .i64) (fun x => x.2.1) (fun x y => (x.1,y,x.2.2.1,x.2.2.2.1,())) := FOk.off (FOk.there FOk.here) rfl
theorem zv26:FOk rTask 2 (rInt .i64) (fun x => x.2.2.1) (fun x y => (x.1,x.2.1,y,x.2.2.2.1,())) := FOk.off (FOk.there (FOk.there FOk.here)) rfl
theorem zw26:FOk rTask 3 (rInt .i64) (fun x => x.2.2.2.1) (fun x y => (x.1,x.2.1,x.2.2.1,y,())) := FOk.off (FOk.there (FOk.there (FOk.there FOk.here))) rfl
abbrev rYard:Rep Yard := (rPair (rSlice (rSlice (rInt .i64))) (rPair (rInt .i64) (rPair (rSlice rBool) rUnit)))
theorem zx26:FOk rYard 0 (rSlice (rSlice (rInt .i64))) (fun x => x.1) (fun x y => (y,x.2.1,x.2.2.1,())) := FOk.off FOk.here rfl
theorem zy26:FOk rYard 1 (rInt .i64) (fun x => x.2.1) (fun x y => (x.1,y,x.2.2.1,())) := FOk.off (FOk.there FOk.here) rfl
theorem zz26:FOk rYard 2 (rSlice rBool) (fun x => x.2.2.1) (fun x y => (x.1,x.2.1,y,())) := FOk.off (FOk.there (FOk.there FOk.here)) rfl
abbrev rStableTrack:Rep StableTrack := (rPair (rInt .i64) (rPair rBool rUnit))
theorem zx11:FOk rStableTrack 0 (rInt .i64) (fun x => x.1) (fun x y => (y,x.2.1,())) := FOk.off FOk.here rfl
theorem zy11:FOk rStableTrack 1 rBool (fun x => x.2.1) (fun x y => (x.1,y,())) := FOk.off (FOk.there FOk.here) rfl
abbrev rStableCar:Rep StableCar := (rPair (rInt .i64) (rPair (rInt .i64) (rPair (rInt .i64) (rPair (rInt .i64) rUnit))))
theorem zs14:FOk rStableCar 0 (rInt .i64) (fun x => x.1) (fun x y => (y,x.2.1,x.2.2.1,x.2.2.2.1,())) := FOk.off FOk.here rfl
theorem zt14:FOk rStableCar 1 (rInt .i64) (fun x => x.2.1) (fun x y => (x.1,y,x.2.2.1,x.2.2.2.1,())) := FOk.off (FOk.there FOk.here) rfl
theorem zu14:FOk rStableCar 2 (rInt .i64) (fun x => x.2.2.1) (fun x y => (x.1,x.2.1,y,x.2.2.2.1,())) := FOk.off (FOk.there (FOk.there FOk.here)) rfl
theorem zv14:FOk rStableCar 3 (rInt .i64) (fun x => x.2.2.2.1) (fun x y => (x.1,x.2.1,x.2.2.1,y,())) := FOk.off (FOk.there (FOk.there (FOk.there FOk.here))) rfl
abbrev rStableLeave:Rep StableLeave := (rPair (rInt .i64) (rPair (rInt .i64) rUnit))
theorem zz11:FOk rStableLeave 0 (rInt .i64) (fun x => x.1) (fun x y => (y,x.2.1,())) := FOk.off FOk.here rfl
theorem za12:FOk rStableLeave 1 (rInt .i64) (fun x => x.2.1) (fun x y => (x.1,y,())) := FOk.off (FOk.there FOk.here) rfl
abbrev zf:Rep zi := (rPair (rSlice rStableTrack) (rPair (rSlice rStableCar) (rPair (rSlice rStableLeave) rUnit)))
theorem zb12:FOk zf 0 (rSlice rStableTrack) (fun x => x.1) (fun x y => (y,x.2.1,x.2.2.1,())) := FOk.off FOk.here rfl
theorem zc12:FOk zf 1 (rSlice rStableCar) (fun x => x.2.1) (fun x y => (x.1,y,x.2.2.1,())) := FOk.off (FOk.there FOk.here) rfl
theorem zd12:FOk zf 2 (rSlice rStableLeave) (fun x => x.2.2.1) (fun x y => (x.1,x.2.1,y,())) := FOk.off (FOk.there (FOk.there FOk.here)) rfl
abbrev rStablePlanN1:Rep StablePlanN1 := (rPair (rSlice (rInt .i64)) (rPair rNil (rPair (rInt .i64) rUnit)))
theorem zw5:FOk rStablePlanN1 2 (rInt .i64) (fun x => x.2.2.1) (fun x y => (x.1,x.2.1,y,())) := FOk.off (FOk.there (FOk.there FOk.here)) rfl
abbrev rStablePlan:Rep StablePlan := (rPair (rSlice (rInt .i64)) (rPair (rSlice (rInt .i64)) (rPair (rInt .i64) rUnit)))
theorem zy13:FOk rStablePlan 0 (rSlice (rInt .i64)) (fun x => x.1) (fun x y => (y,x.2.1,x.2.2.1,())) := FOk.off FOk.here rfl
theorem zz13:FOk rStablePlan 1 (rSlice (rInt .i64)) (fun x => x.2.1) (fun x y => (x.1,y,x.2.2.1,())) := FOk.off (FOk.there FOk.here) rfl
theorem za14:FOk rStablePlan 2 (rInt .i64) (fun x => x.2.2.1) (fun x y => (x.1,x.2.1,y,())) := FOk.off (FOk.there (FOk.there FOk.here)) rfl
abbrev rStableMove:Rep StableMove := (rPair (rInt .i64) (rPair (rInt .i64) (rPair (rInt .i64) rUnit)))
abbrev rWashJob:Rep WashJob := (rPair (rInt .i64) (rPair (rInt .i64) (rPair (rInt .i64) rUnit)))
theorem zy19:FOk rWashJob 0 (rInt .i64) (fun x => x.1) (fun x y => (y,x.2.1,x.2.2.1,())) := FOk.off FOk.here rfl
theorem zz19:FOk rWashJob 1 (rInt .i64) (fun x => x.2.1) (fun x y => (x.1,y,x.2.2.1,())) := FOk.off (FOk.there FOk.here) rfl
theorem za20:FOk rWashJob 2 (rInt .i64) (fun x => x.2.2.1) (fun x y => (x.1,x.2.1,y,())) := FOk.off (FOk.there (FOk.there FOk.here)) rfl
abbrev zk2:Rep zx23 := (rPair (rSlice (rInt .i64)) (rPair (rInt .i64) (rPair (rInt .i64) rUnit)))
theorem zb14:FOk zk2 0 (rSlice (rInt .i64)) (fun x => x.1) (fun x y => (y,x.2.1,x.2.2.1,())) := FOk.off FOk.here rfl
theorem zc14:FOk zk2 1 (rInt .i64) (fun x => x.2.1) (fun x y => (x.1,y,x.2.2.1,())) := FOk.off (FOk.there FOk.here) rfl
theorem zd14:FOk zk2 2 (rInt .i64) (fun x => x.2.2.1) (fun x y => (x.1,x.2.1,y,())) := FOk.off (FOk.there (FOk.there FOk.here)) rfl
abbrev zq:Rep za1 := (rPair (rSlice rTask) (rPair rYard rUnit))
theorem zw14:FOk zq 0 (rSlice rTask) (fun x => x.1) (fun x y => (y,x.2.1,())) := FOk.off FOk.here rfl
theorem zx14:FOk zq 1 rYard (fun x => x.2.1) (fun x y => (x.1,y,())) := FOk.off (FOk.there FOk.here) rfl
abbrev rWorkRules:Rep WorkRules := (rPair (rInt .i64) (rPair (rInt .i64) (rPair (rInt .i64) (rPair (rInt .i64) (rPair (rInt .i64) (rPair (rInt .i64) rUnit))))))
theorem zy14:FOk rWorkRules 0 (rInt .i64) (fun x => x.1) (fun x y => (y,x.2.1,x.2.2.1,x.2.2.2.1,x.2.2.2.2.1,x.2.2.2.2.2.1,())) := FOk.off FOk.here rfl
theorem zz14:FOk rWorkRules 1 (rInt .i64) (fun x => x.2.1) (fun x y => (x.1,y,x.2.2.1,x.2.2.2.1,x.2.2.2.2.1,x.2.2.2.2.2.1,())) := FOk.off (FOk.there FOk.here) rfl
theorem za15:FOk rWorkRules 2 (rInt .i64) (fun x => x.2.2.1) (fun x y => (x.1,x.2.1,y,x.2.2.2.1,x.2.2.2.2.1,x.2.2.2.2.2.1,())) := FOk.off (FOk.there (FOk.there FOk.here)) rfl
theorem zb15:FOk rWorkRules 3 (rInt .i64) (fun x => x.2.2.2.1) (fun x y => (x.1,x.2.1,x.2.2.1,y,x.2.2.2.2.1,x.2.2.2.2.2.1,())) := FOk.off (FOk.there (FOk.there (FOk.there FOk.here))) rfl
theorem zc15:FOk rWorkRules 4 (rInt .i64) (fun x => x.2.2.2.2.1) (fun x y => (x.1,x.2.1,x.2.2.1,x.2.2.2.1,y,x.2.2.2.2.2.1,())) := FOk.off (FOk.there (FOk.there (FOk.there (FOk.there FOk.here)))) rfl
theorem zd15:FOk rWorkRules 5 (rInt .i64) (fun x => x.2.2.2.2.2.1) (fun x y => (x.1,x.2.1,x.2.2.1,x.2.2.2.1,x.2.2.2.2.1,y,())) := FOk.off (FOk.there (FOk.there (FOk.there (FOk.there (FOk.there FOk.here))))) rfl
abbrev zg1:Rep ze2 := (rPair (rPtr zq) (rPair (rSlice (rSlice (rInt .i64))) (rPair rWorkRules rUnit)))
theorem ze15:FOk zg1 0 (rPtr zq) (fun x => x.1) (fun x y => (y,x.2.1,x.2.2.1,())) := FOk.off FOk.here rfl
theorem zf15:FOk zg1 1 (rSlice (rSlice (rInt .i64))) (fun x => x.2.1) (fun x y => (x.1,y,x.2.2.1,())) := FOk.off (FOk.there FOk.here) rfl
theorem zg15:FOk zg1 2 rWorkRules (fun x => x.2.2.1) (fun x y => (x.1,x.2.1,y,())) := FOk.off (FOk.there (FOk.there FOk.here)) rfl
abbrev rDutyPiece:Rep DutyPiece := (rPair (rInt .i64) (rPair (rInt .i64) (rPair (rInt .i64) rUnit)))
theorem zh15:FOk rDutyPiece 0 (rInt .i64) (fun x => x.1) (fun x y => (y,x.2.1,x.2.2.1,())) := FOk.off FOk.here rfl
theorem zi15:FOk rDutyPiece 1 (rInt .i64) (fun x => x.2.1) (fun x y => (x.1,y,x.2.2.1,())) := FOk.off (FOk.there FOk.here) rfl
theorem zj15:FOk rDutyPiece 2 (rInt .i64) (fun x => x.2.2.1) (fun x y => (x.1,x.2.1,y,())) := FOk.off (FOk.there (FOk.there FOk.here)) rfl
abbrev rDuty:Rep Duty := (rPair (rSlice rDutyPiece) rUnit)
theorem za27:FOk rDuty 0 (rSlice rDutyPiece) (fun x => x.1) (fun x y => (y,())) := FOk.off FOk.here rfl
abbrev rDutyProof:Rep DutyProof := (rPair (rSlice (rInt .i64)) (rPair (rSlice (rInt .i64)) rUnit))
theorem zk15:FOk rDutyProof 0 (rSlice (rInt .i64)) (fun x => x.1) (fun x y => (y,x.2.1,())) := FOk.off FOk.here rfl
theorem zl15:FOk rDutyProof 1 (rSlice (rInt .i64)) (fun x => x.2.1) (fun x y => (x.1,y,())) := FOk.off (FOk.there FOk.here) rfl
def zi1 (n_0:Int) (low_1:Int) (high_2:Int):Option (Bool) :=
Option.bind (cond ((decide (n_0 ≥ low_1))) (some ((decide (n_0 ≤ high_2)))) (some false)) fun c2 =>
some c2
def zr3 (p_0:zi):Option (Bool) :=
Option.bind (Option.bind (zi1 ((lenI p_0.1)) 1 5) fun y5 =>
cond ((!y5)) (some true) (cond (((lenI p_0.2.1) != (lenI p_0.2.2.1))) (some true) (some ((decide ((lenI p_0.2.1) > 9)))))) fun c4 =>
cond (c4) (some false) (Option.bind (iter (σ := (Int)) (τ := Unit ⊕ (Bool)) (fun s14 =>
cond ((decide (s14 < (lenI p_0.1)))) (Option.bind (idx p_0.1 s14) fun x17 =>
Option.bind (zi1 x17.1 0 10000000) fun y19 =>
cond ((!y19)) (some (.inr ((.inr false)))) (some (.inl ((w64 (s14 + 1)))))) (some (.inr ((.inl (())))))) big 0) fun t21 =>
alt (fun b23 => Option.bind (iter (σ := (Int)) (τ := Unit ⊕ (Bool)) (fun s54 =>
cond ((decide (s54 < (lenI p_0.2.1)))) (Option.bind (idx p_0.2.1 s54) fun x57 =>
Option.bind (zi1 x57.1 0 100) fun y69 =>
cond ((!y69)) (some (.inr ((.inr false)))) (Option.bind (zi1 x57.2.1 1 10000000) fun y72 =>
cond ((!y72)) (some (.inr ((.inr false)))) (Option.bind (zi1 x57.2.2.1 0 200000) fun y75 =>
cond ((!y75)) (some (.inr ((.inr false)))) (Option.bind (zi1 x57.2.2.2.1 0 200000) fun y78 =>
cond ((!y78)) (some (.inr ((.inr false)))) (cond ((decide (s54 > 0))) (Option.bind (idx p_0.2.1 ((w64 (s54 - 1)))) fun x82 =>
cond ((decide (x57.2.2.1 < x82.2.2.1))) (some (.inr ((.inr false)))) (some (.inl ((w64 (s54 + 1)))))) (some (.inl ((w64 (s54 + 1)))))))))) (some (.inr ((.inl (())))))) big 0) fun t85 =>
alt (fun b87 => Option.bind (iter (σ := (Int)) (τ := Unit ⊕ (Bool)) (fun s108 =>
cond ((decide (s108 < (lenI p_0.2.2.1)))) (Option.bind (idx p_0.2.2.1 s108) fun x111 =>
Option.bind (zi1 x111.1 0 100) fun y119 =>
cond ((!y119)) (some (.inr ((.inr false)))) (Option.bind (zi1 x111.2.1 0 200000) fun y122 =>
cond ((!y122)) (some (.inr ((.inr false)))) (cond ((decide (s108 > 0))) (Option.bind (idx p_0.2.2.1 ((w64 (s108 - 1)))) fun x126 =>
cond ((decide (x111.2.1 < x126.2.1))) (some (.inr ((.inr false)))) (some (.inl ((w64 (s108 + 1)))))) (some (.inl ((w64 (s108 + 1)))))))) (some (.inr ((.inl (())))))) big 0) fun t129 =>
alt (fun b131 => some true) (fun b132 => some b132) t129) (fun b88 => some b88) t85) (fun b24 => some b24) t21)
def zs3 (n_0:zi):Option (Bool) :=
Option.bind (cond (((lenI n_0.2.1) == 0)) (some true) (Option.bind (idx n_0.2.1 ((w64 ((lenI n_0.2.1) - 1)))) fun x6 =>
Option.bind (idx n_0.2.2.1 0) fun x7 =>
some ((decide (x6.2.2.1 ≤ x7.2.1))))) fun c4 =>
some c4
def zk (s_0:(List Int)):Option (List Int) := appO 8 [] s_0
def zp3 (n_0:zi) (tracks_1:(List Int)):Option (Bool) :=
Option.bind (mkO 8 ((lenI n_0.1)) (0:Int)) fun x1 =>
Option.bind (iter (σ := (Int × (List Int))) (τ := ((List Int)) ⊕ (Bool × (List Int))) (fun s19 =>
cond ((decide (s19.1 < (lenI tracks_1)))) (Option.bind (idx tracks_1 s19.1) fun x22 =>
Option.bind (idx s19.2 x22) fun x23 =>
Option.bind (idx n_0.2.1 s19.1) fun x24 =>
Option.bind (idx s19.2 x22) fun x25 =>
Option.bind (idx ((s19.2).set (Int.toNat x22) ((w64 (x23 + x24.2.1)))) x22) fun x26 =>
Option.bind (idx n_0.1 x22) fun x27 =>
cond ((decide (x26 > x27.1))) (some (.inr ((.inr ((false,(s19.2).set (Int.toNat x22) ((w64 (x23 + x24.2.1))))))))) (some (.inl (((w64 (s19.1 + 1)),(s19.2).set (Int.toNat x22) ((w64 (x23 + x24.2.1)))))))) (some (.inr ((.inl s19.2))))) big ((0,x1))) fun t29 =>
alt (fun b31 => some true) (fun b32 => some b32.1) t29
def zb1 {σ τ:Type} (step:σ → ((List Int)) → Option (σ ⊕ τ)) (rec:σ → (List Int) → zi → Option ((Bool) × (σ ⊕ τ))) (s_:σ) (tracks_0:(List Int)) (p_1:zi):Option ((Bool) × (σ ⊕ τ)) :=
Option.bind (zp3 p_1 tracks_0) fun y1 =>
cond ((!y1)) (some ((true,(.inl s_)))) (cond (((lenI tracks_0) == (lenI p_1.2.1))) (Option.bind (step s_ tracks_0) fun y4 =>
some (((y4).isLeft,y4))) (Option.bind (iter (σ := (Int × (σ ⊕ τ))) (τ := ((σ ⊕ τ)) ⊕ ((Bool × (σ ⊕ τ)))) (fun s23 =>
cond ((decide (s23.1 < (lenI p_1.1)))) (Option.bind (zk tracks_0) fun y26 =>
Option.bind (appO 8 y26 ([s23.1])) fun x28 =>
Option.bind (goL s23.2) fun s30 =>
Option.bind (rec s30 x28 p_1) fun y31 =>
cond ((!y31.1)) (some (.inr ((.inr ((false,y31.2)))))) (some (.inl (((w64 (s23.1 + 1)),y31.2))))) (some (.inr ((.inl s23.2))))) big ((0,(.inl s_)))) fun t34 =>
alt (fun b36 => some ((true,b36))) (fun b37 => some ((b37.1,b37.2))) t34))
def zo1 {σ τ:Type} (step:σ → ((List Int)) → Option (σ ⊕ τ)):Nat → σ → (List Int) → zi → Option ((Bool) × (σ ⊕ τ))
 | 0 => fun _ _ _ => none
 | k + 1 => zb1 step (zo1 step k)
def zs1 {σ τ:Type} (step:σ → ((List Int)) → Option (σ ⊕ τ)) (s_:σ) (p_1:zi):Option ((σ ⊕ τ)) :=
Option.bind (zo1 step big s_ ([]) p_1) fun y2 =>
some y2.2
def zx3 (n_0:zi):Option ((zi)) :=
some n_0
def zf3 (s_0:(List Int)) (v_1:Int):Option (Int) :=
Option.bind (iter (σ := (Int)) (τ := Unit ⊕ (Int)) (fun s4 =>
cond ((decide (s4 < (lenI s_0)))) (Option.bind (idx s_0 s4) fun x7 =>
cond ((v_1 == x7)) (some (.inr ((.inr s4)))) (some (.inl ((w64 (s4 + 1)))))) (some (.inr ((.inl (())))))) big 0) fun t9 =>
alt (fun b11 => some ((-1))) (fun b12 => some b12) t9
def zl (s_0:(List Int)) (v_1:Int):Option (Bool) :=
Option.bind (zf3 s_0 v_1) fun y1 =>
some ((decide (y1 ≥ 0)))
def zt3 (n_0:zi) (car_1:Int) (leave_2:Int):Option (Bool) :=
Option.bind (idx n_0.2.1 car_1) fun x1 =>
Option.bind (idx n_0.2.2.1 leave_2) fun x2 =>
Option.bind (cond ((x1.1 == x2.1)) (cond ((decide (x1.2.2.1 ≤ x2.2.1))) (some ((decide (x2.2.1 ≤ x1.2.2.2.1)))) (some false)) (some false)) fun c7 =>
some c7
def zl2   (s_0:(List Int)):Option ((List Int)) :=
Option.bind (iter (σ := (Int × Int × (List Int))) (τ := ((List Int))) (fun s11 =>
cond ((decide (s11.1 < s11.2.1))) (Option.bind (idx s11.2.2 s11.2.1) fun x14 =>
Option.bind (idx s11.2.2 s11.1) fun x15 =>
Option.bind (idx s11.2.2 s11.1) fun x16 =>
Option.bind (idx ((s11.2.2).set (Int.toNat s11.1) x14) s11.2.1) fun x17 =>
some (.inl (((w64 (s11.1 + 1)),(w64 (s11.2.1 - 1)),((s11.2.2).set (Int.toNat s11.1) x14).set (Int.toNat s11.2.1) x15)))) (some (.inr s11.2.2))) big ((0,(w64 ((lenI s_0) - 1)),s_0))) fun t18 =>
some t18
def zt1 (p_0:zi) (p_1:(List Int)) (p_2:Int) (p_3:((Int) → Option (Bool))):Option ((List Int)) :=
Option.bind (iter (σ := ((List Int) × Int × Int)) (τ := ((List Int) × Int)) (fun s16 =>
cond ((decide (s16.2.2 < (lenI p_1)))) (Option.bind (idx p_1 s16.2.2) fun x19 =>
Option.bind (idx p_1 p_2) fun x23 =>
cond ((x19 != x23)) (some (.inl ((s16.1,s16.2.1,(w64 (s16.2.2 + 1)))))) (Option.bind (p_3 s16.2.2) fun y26 =>
cond (y26) (some (.inl ((s16.1,s16.2.1,(w64 (s16.2.2 + 1)))))) (cond ((s16.2.2 == p_2)) (Option.bind (appO 8 s16.1 ([s16.2.2])) fun x29 =>
some (.inl ((x29,(lenI s16.1),(w64 (s16.2.2 + 1)))))) (Option.bind (appO 8 s16.1 ([s16.2.2])) fun x31 =>
some (.inl ((x31,s16.2.1,(w64 (s16.2.2 + 1))))))))) (some (.inr (((s16.1,s16.2.1)))))) big (([],0,0))) fun t33 =>
Option.bind (idx p_1 p_2) fun x35 =>
Option.bind (idx p_0.1 x35) fun x36 =>
cond (x36.2.1) (Option.bind (slO3 t33.1 t33.2 t33.2) fun x38 =>
some x38) (Option.bind (slO t33.1 ((w64 (t33.2 + 1))) ((lenI t33.1))) fun x40 =>
Option.bind (zk x40) fun y41 =>
Option.bind (zl2 y41) fun y43 =>
some y43)
def zu (i_0:Int) (p_1:Int):Option (Bool) :=
Option.bind (shrO .i64 p_1 i_0) fun x1 =>
some (((bAnd .i64 x1 1) == 1))
def zm1   (rec:Int → Int → (List (Int × Int)) → zi → (List Int) → (List Int) → Option ((Int) × (List (Int × Int)))) (p_0:Int) (p_1:Int) (p_2:(List (Int × Int))) (p_3:zi) (p_4:(List Int)) (p_5:(List Int)):Option ((Int) × (List (Int × Int))) :=
cond (((mget p_2 p_0).isSome)) (some ((((mget p_2 p_0).getD 0),p_2))) (Option.bind (iter (σ := (Int × Int × (List (Int × Int)))) (τ := (Int × (List (Int × Int)))) (fun s102 =>
cond ((decide (s102.2.1 < (lenI p_3.2.1)))) (Option.bind (shrO .i64 p_0 s102.2.1) fun x116 =>
cond (((bAnd .i64 x116 1) == 1)) (some (.inl ((s102.1,(w64 (s102.2.1 + 1)),s102.2.2)))) (Option.bind (zt3 p_3 s102.2.1 p_1) fun y119 =>
cond ((!y119)) (some (.inl ((s102.1,(w64 (s102.2.1 + 1)),s102.2.2)))) (cond ((decide (s102.2.1 < (lenI p_4)))) (Option.bind (idx p_4 s102.2.1) fun x123 =>
cond ((x123 != p_1)) (some (.inl ((s102.1,(w64 (s102.2.1 + 1)),s102.2.2)))) (cond ((decide (s102.2.1 ≥ (lenI p_4)))) (Option.bind (zl p_4 p_1) fun y127 =>
cond (y127) (some (.inl ((s102.1,(w64 (s102.2.1 + 1)),s102.2.2)))) (Option.bind (zt1 p_3 p_5 s102.2.1 ((fun x => zu x p_0))) fun y129 =>
Option.bind (shlO .i64 1 s102.2.1) fun x131 =>
Option.bind (rec ((bOr .i64 p_0 x131)) ((w64 (p_1 + 1))) s102.2.2 p_3 p_4 p_5) fun y132 =>
some (.inl (((min s102.1 ((w64 ((lenI y129) + y132.1)))),(w64 (s102.2.1 + 1)),y132.2))))) (Option.bind (zt1 p_3 p_5 s102.2.1 ((fun x => zu x p_0))) fun y135 =>
Option.bind (shlO .i64 1 s102.2.1) fun x137 =>
Option.bind (rec ((bOr .i64 p_0 x137)) ((w64 (p_1 + 1))) s102.2.2 p_3 p_4 p_5) fun y138 =>
some (.inl (((min s102.1 ((w64 ((lenI y135) + y138.1)))),(w64 (s102.2.1 + 1)),y138.2)))))) (cond ((decide (s102.2.1 ≥ (lenI p_4)))) (Option.bind (zl p_4 p_1) fun y141 =>
cond (y141) (some (.inl ((s102.1,(w64 (s102.2.1 + 1)),s102.2.2)))) (Option.bind (zt1 p_3 p_5 s102.2.1 ((fun x => zu x p_0))) fun y143 =>
Option.bind (shlO .i64 1 s102.2.1) fun x145 =>
Option.bind (rec ((bOr .i64 p_0 x145)) ((w64 (p_1 + 1))) s102.2.2 p_3 p_4 p_5) fun y146 =>
some (.inl (((min s102.1 ((w64 ((lenI y143) + y146.1)))),(w64 (s102.2.1 + 1)),y146.2))))) (Option.bind (zt1 p_3 p_5 s102.2.1 ((fun x => zu x p_0))) fun y149 =>
Option.bind (shlO .i64 1 s102.2.1) fun x151 =>
Option.bind (rec ((bOr .i64 p_0 x151)) ((w64 (p_1 + 1))) s102.2.2 p_3 p_4 p_5) fun y152 =>
some (.inl (((min s102.1 ((w64 ((lenI y149) + y152.1)))),(w64 (s102.2.1 + 1)),y152.2)))))))) (some (.inr (((s102.1,s102.2.2)))))) big ((1048576,0,p_2))) fun t154 =>
some ((((mget ((mset t154.2 p_0 ((min t154.1 1048576)))) p_0).getD 0),(mset t154.2 p_0 ((min t154.1 1048576))))))
def zz1  :Nat → Int → Int → (List (Int × Int)) → zi → (List Int) → (List Int) → Option ((Int) × (List (Int × Int)))
 | 0 => fun _ _ _ _ _ _ => none
 | k + 1 => zm1 (zz1 k)
def zz (n_0:zi) (tracks_1:(List Int)) (fixed_2:(List Int)):Option (Int) :=
Option.bind (shlO .i64 1 ((lenI n_0.2.1))) fun x2 =>
Option.bind (zz1 big 0 0 ((mset (([]:(List (Int × Int)))) ((w64 (x2 - 1))) 0)) n_0 fixed_2 tracks_1) fun y5 =>
some y5.1
def zc1 (l_0:(List StablePlanN1)) (better_1:((StablePlanN1 × StablePlanN1) → Option (Bool))):Option (StablePlanN1) :=
Option.bind (idx l_0 0) fun x2 =>
Option.bind (slO l_0 1 ((lenI l_0))) fun x4 =>
Option.bind (iter (σ := (Int × (List Int) × Unit × Int)) (τ := ((List Int) × Unit × Int)) (fun s15 =>
cond ((decide (s15.1 < (lenI x4)))) (Option.bind (idx x4 s15.1) fun x18 =>
Option.bind (better_1 ((x18,(s15.2.1,s15.2.2.1,s15.2.2.2,())))) fun y20 =>
cond (y20) (some (.inl (((w64 (s15.1 + 1)),x18.1,x18.2.1,x18.2.2.1)))) (some (.inl (((w64 (s15.1 + 1)),s15.2.1,s15.2.2.1,s15.2.2.2))))) (some (.inr (((s15.2.1,s15.2.2.1,s15.2.2.2)))))) big ((0,x2.1,x2.2.1,x2.2.2.1))) fun t22 =>
some ((t22.1,t22.2.1,t22.2.2,()))
def zj3 (a_0:StablePlanN1) (b_1:StablePlanN1):Option (Bool) :=
some ((decide (a_0.2.2.1 < b_1.2.2.1)))
def ze4 (p_0:(List StableTrack)) (p_1:(List StableCar)) (p_2:(List StableLeave)):Option (StablePlan × Int) :=
Option.bind (zr3 (((p_0,p_1,p_2,()):zi))) fun y3 =>
cond ((!y3)) (some (((([],[],0,()):StablePlan),2))) (Option.bind (zs3 (((p_0,p_1,p_2,()):zi))) fun y5 =>
cond ((!y5)) (some (((([],[],0,()):StablePlan),4))) (Option.bind (zx3 (((p_0,p_1,p_2,()):zi))) fun y9 =>
Option.bind (zs1 (σ := ((List StablePlanN1))) (τ := ((List StablePlanN1))) (fun s25 x10 =>
Option.bind (zz (((p_0,p_1,p_2,()):zi)) x10 ([])) fun y27 =>
Option.bind (appO 56 s25 ([((x10,(),y27,()):StablePlanN1)])) fun x28 =>
Option.bind (zc1 x28 ((fun x => zj3 x.1 x.2))) fun y30 =>
Option.bind (idx ([y30]) 0) fun x32 =>
cond ((x32.2.2.1 == 0)) (some (.inr ([y30]))) (some (.inl ([y30])))) ([(([],(),1048576,()):StablePlanN1)]) y9) fun t34 =>
alt (fun b36 => Option.bind (idx b36 0) fun x39 =>
cond ((decide (x39.2.2.1 ≥ 1048576))) (some (((([],[],0,()):StablePlan),4))) (Option.bind (iter (σ := (Int × (List Int))) (τ := ((List Int))) (fun s166 =>
cond ((decide (s166.1 < (lenI p_1)))) (Option.bind (iter (σ := (Int × (List Int))) (τ := ((List Int))) (fun s207 =>
cond ((decide (s207.1 < (lenI p_2)))) (Option.bind (zl s207.2 s207.1) fun y217 =>
cond ((!y217)) (Option.bind (zk s207.2) fun y219 =>
Option.bind (appO 8 y219 ([s207.1])) fun x221 =>
Option.bind (zz (((p_0,p_1,p_2,()):zi)) x39.1 x221) fun y223 =>
cond ((y223 == x39.2.2.1)) (Option.bind (appO 8 s207.2 ([s207.1])) fun x225 =>
some (.inr x225)) (some (.inl (((w64 (s207.1 + 1)),s207.2))))) (some (.inl (((w64 (s207.1 + 1)),s207.2))))) (some (.inr s207.2))) big ((0,s166.2))) fun t228 =>
some (.inl (((w64 (s166.1 + 1)),t228)))) (some (.inr s166.2))) big ((0,[]))) fun t230 =>
some (((x39.1,t230,x39.2.2.1,()),0)))) (fun b37 => Option.bind (idx b37 0) fun x233 =>
cond ((decide (x233.2.2.1 ≥ 1048576))) (some (((([],[],0,()):StablePlan),4))) (Option.bind (iter (σ := (Int × (List Int))) (τ := ((List Int))) (fun s360 =>
cond ((decide (s360.1 < (lenI p_1)))) (Option.bind (iter (σ := (Int × (List Int))) (τ := ((List Int))) (fun s401 =>
cond ((decide (s401.1 < (lenI p_2)))) (Option.bind (zl s401.2 s401.1) fun y411 =>
cond ((!y411)) (Option.bind (zk s401.2) fun y413 =>
Option.bind (appO 8 y413 ([s401.1])) fun x415 =>
Option.bind (zz (((p_0,p_1,p_2,()):zi)) x233.1 x415) fun y417 =>
cond ((y417 == x233.2.2.1)) (Option.bind (appO 8 s401.2 ([s401.1])) fun x419 =>
some (.inr x419)) (some (.inl (((w64 (s401.1 + 1)),s401.2))))) (some (.inl (((w64 (s401.1 + 1)),s401.2))))) (some (.inr s401.2))) big ((0,s360.2))) fun t422 =>
some (.inl (((w64 (s360.1 + 1)),t422)))) (some (.inr s360.2))) big ((0,[]))) fun t424 =>
some (((x233.1,t424,x233.2.2.1,()),0)))) t34))
def zc3 (s_0:(List Int)) (f_1:((Int) → Option (Bool))):Option (Int) :=
Option.bind (iter (σ := (Int)) (τ := Unit ⊕ (Int)) (fun s5 =>
cond ((decide (s5 < (lenI s_0)))) (Option.bind (idx s_0 s5) fun x8 =>
Option.bind (f_1 x8) fun y9 =>
cond (y9) (some (.inr ((.inr s5)))) (some (.inl ((w64 (s5 + 1)))))) (some (.inr ((.inl (())))))) big 0) fun t11 =>
alt (fun b13 => some ((-1))) (fun b14 => some b14) t11
def zy (s_0:(List Int)) (f_1:((Int) → Option (Bool))):Option (Bool) :=
Option.bind (zc3 s_0 f_1) fun y1 =>
some ((decide (y1 ≥ 0)))
def zh1 (n_0:Int) (low_1:Int) (high_2:Int):Option (Bool) :=
Option.bind (cond ((decide (n_0 ≥ low_1))) (some ((decide (n_0 ≤ high_2)))) (some false)) fun c2 =>
some c2
def za5 (d_0:Int):Option (Bool) :=
Option.bind (zh1 d_0 ((-1)) 20000) fun y1 =>
some ((!y1))
def zp4 (p_0:(List Task)) (p_1:Yard):Option (Int) :=
Option.bind (cond ((decide ((lenI p_0) > 60))) (some true) (Option.bind (zh1 ((lenI p_1.2.2.1)) 1 40) fun y8 =>
cond ((!y8)) (some true) (cond (((lenI p_1.1) != (lenI p_1.2.2.1))) (some true) (Option.bind (zh1 p_1.2.1 0 3600) fun y11 =>
some ((!y11)))))) fun c6 =>
cond (c6) (some 2) (Option.bind (iter (σ := (Int)) (τ := Unit ⊕ (Int)) (fun s26 =>
cond ((decide (s26 < (lenI p_1.1)))) (Option.bind (idx p_1.1 s26) fun x29 =>
cond (((lenI x29) != (lenI p_1.2.2.1))) (some (.inr ((.inr 2)))) (Option.bind (idx x29 s26) fun x36 =>
cond ((x36 != 0)) (some (.inr ((.inr 2)))) (Option.bind (zy x29 ((fun x => za5 x))) fun y39 =>
cond (y39) (some (.inr ((.inr 2)))) (some (.inl ((w64 (s26 + 1)))))))) (some (.inr ((.inl (())))))) big 0) fun t41 =>
alt (fun b43 => Option.bind (iter (σ := (Int)) (τ := Unit ⊕ (Int)) (fun s72 =>
cond ((decide (s72 < (lenI p_0)))) (Option.bind (idx p_0 s72) fun x75 =>
Option.bind (zh1 x75.1 0 ((w64 ((lenI p_1.2.2.1) - 1)))) fun y86 =>
cond ((!y86)) (some (.inr ((.inr 2)))) (Option.bind (zh1 x75.2.1 0 ((w64 ((lenI p_1.2.2.1) - 1)))) fun y89 =>
cond ((!y89)) (some (.inr ((.inr 2)))) (Option.bind (zh1 x75.2.2.1 0 x75.2.2.2.1) fun y92 =>
cond ((!y92)) (some (.inr ((.inr 2)))) (cond ((decide (x75.2.2.2.1 > 200000))) (some (.inr ((.inr 2)))) (cond ((decide (s72 > 0))) (Option.bind (idx p_0 ((w64 (s72 - 1)))) fun x98 =>
cond ((decide (x75.2.2.1 < x98.2.2.1))) (some (.inr ((.inr 2)))) (some (.inl ((w64 (s72 + 1)))))) (some (.inl ((w64 (s72 + 1)))))))))) (some (.inr ((.inl (())))))) big 0) fun t101 =>
alt (fun b103 => some 0) (fun b104 => some b104) t101) (fun b44 => some b44) t41)
def zp (w_0:za1) (a_1:Int) (b_2:Int):Option (Bool) :=
Option.bind (idx w_0.1 a_1) fun x1 =>
Option.bind (idx w_0.1 b_2) fun x2 =>
Option.bind (idx w_0.2.1.1 x1.2.1) fun x5 =>
Option.bind (idx x5 x2.1) fun x6 =>
Option.bind (cond ((decide (a_1 < b_2))) (cond ((decide (x6 ≥ 0))) (some ((decide ((w64 ((w64 (x1.2.2.2.1 + w_0.2.1.2.1)) + x6)) ≤ x2.2.2.1)))) (some false)) (some false)) fun c9 =>
some c9
def zw (p_0:za1) (p_1:(List (List Int))):Option (Bool) :=
Option.bind (mkO 1 ((lenI p_0.1)) (false:Bool)) fun x1 =>
Option.bind (iter (σ := (Int × Int × (List Bool))) (τ := (Int × (List Bool)) ⊕ (Bool)) (fun s297 =>
cond ((decide (s297.2.1 < (lenI p_1)))) (Option.bind (idx p_1 s297.2.1) fun x300 =>
cond (((lenI x300) == 0)) (some (.inr ((.inr false)))) (cond ((decide (s297.2.1 > 0))) (Option.bind (idx x300 0) fun x309 =>
Option.bind (idx p_1 ((w64 (s297.2.1 - 1)))) fun x310 =>
Option.bind (idx x310 0) fun x311 =>
cond ((decide (x309 ≤ x311))) (some (.inr ((.inr false)))) (Option.bind (iter (σ := (Int × Int × (List Bool))) (τ := (Int × (List Bool)) ⊕ (Bool × (List Bool))) (fun s357 =>
cond ((decide (s357.2.1 < (lenI x300)))) (Option.bind (idx x300 s357.2.1) fun x360 =>
Option.bind (zh1 x360 0 ((w64 ((lenI p_0.1) - 1)))) fun y368 =>
cond ((!y368)) (some (.inr ((.inr ((false,s357.2.2)))))) (Option.bind (idx s357.2.2 x360) fun x371 =>
cond (x371) (some (.inr ((.inr ((false,s357.2.2)))))) (cond ((decide (s357.2.1 > 0))) (Option.bind (idx x300 ((w64 (s357.2.1 - 1)))) fun x375 =>
Option.bind (zp p_0 x375 x360) fun y376 =>
cond ((!y376)) (some (.inr ((.inr ((false,s357.2.2)))))) (Option.bind (idx s357.2.2 x360) fun x378 =>
some (.inl (((w64 (s357.1 + 1)),(w64 (s357.2.1 + 1)),(s357.2.2).set (Int.toNat x360) true))))) (Option.bind (idx s357.2.2 x360) fun x380 =>
some (.inl (((w64 (s357.1 + 1)),(w64 (s357.2.1 + 1)),(s357.2.2).set (Int.toNat x360) true))))))) (some (.inr ((.inl ((s357.1,s357.2.2))))))) big ((s297.1,0,s297.2.2))) fun t381 =>
alt (fun b383 => some (.inl ((b383.1,(w64 (s297.2.1 + 1)),b383.2)))) (fun b384 => some (.inr ((.inr b384.1)))) t381)) (Option.bind (iter (σ := (Int × Int × (List Bool))) (τ := (Int × (List Bool)) ⊕ (Bool × (List Bool))) (fun s430 =>
cond ((decide (s430.2.1 < (lenI x300)))) (Option.bind (idx x300 s430.2.1) fun x433 =>
Option.bind (zh1 x433 0 ((w64 ((lenI p_0.1) - 1)))) fun y441 =>
cond ((!y441)) (some (.inr ((.inr ((false,s430.2.2)))))) (Option.bind (idx s430.2.2 x433) fun x444 =>
cond (x444) (some (.inr ((.inr ((false,s430.2.2)))))) (cond ((decide (s430.2.1 > 0))) (Option.bind (idx x300 ((w64 (s430.2.1 - 1)))) fun x448 =>
Option.bind (zp p_0 x448 x433) fun y449 =>
cond ((!y449)) (some (.inr ((.inr ((false,s430.2.2)))))) (Option.bind (idx s430.2.2 x433) fun x451 =>
some (.inl (((w64 (s430.1 + 1)),(w64 (s430.2.1 + 1)),(s430.2.2).set (Int.toNat x433) true))))) (Option.bind (idx s430.2.2 x433) fun x453 =>
some (.inl (((w64 (s430.1 + 1)),(w64 (s430.2.1 + 1)),(s430.2.2).set (Int.toNat x433) true))))))) (some (.inr ((.inl ((s430.1,s430.2.2))))))) big ((s297.1,0,s297.2.2))) fun t454 =>
alt (fun b456 => some (.inl ((b456.1,(w64 (s297.2.1 + 1)),b456.2)))) (fun b457 => some (.inr ((.inr b457.1)))) t454))) (some (.inr ((.inl ((s297.1,s297.2.2))))))) big ((0,0,x1))) fun t458 =>
alt (fun b460 => some ((b460.1 == (lenI p_0.1)))) (fun b461 => some b461) t458
def zq4 (x_0:Int):Option (Bool) :=
Option.bind (zh1 x_0 0 200000) fun y1 =>
some ((!y1))
def zt4 (tasks_0:(List Task)) (y_1:Yard) (cars_2:(List (List Int))) (r_3:WorkRules):Option ((Option ze2) × Bool) :=
Option.bind (zp4 tasks_0 y_1) fun y1 =>
cond ((y1 != 0)) (some (((none:Option ze2),false))) (Option.bind (Option.bind (zw ((((((tasks_0,y_1,()):za1),cars_2,r_3,()):ze2)).1) cars_2) fun y7 =>
cond ((!y7)) (some true) (Option.bind (zy ([r_3.1,r_3.2.1,r_3.2.2.1,r_3.2.2.2.1,r_3.2.2.2.2.1,r_3.2.2.2.2.2.1]) ((fun x => zq4 x))) fun y9 =>
some y9)) fun c6 =>
cond (c6) (some (((none:Option ze2),false))) (some (((some (((((tasks_0,y_1,()):za1),cars_2,r_3,()):ze2))),true))))
def zy3 (c_0:ze2):Option ((List DutyPiece)) :=
Option.bind (iter (σ := ((List DutyPiece) × Int)) (τ := ((List DutyPiece))) (fun s29 =>
cond ((decide (s29.2 < (lenI c_0.2.1)))) (Option.bind (idx c_0.2.1 s29.2) fun x32 =>
Option.bind (iter (σ := ((List DutyPiece) × Int)) (τ := ((List DutyPiece))) (fun s44 =>
cond ((decide (s44.2 < (lenI x32)))) (Option.bind (iter (σ := ((List DutyPiece) × Int)) (τ := ((List DutyPiece))) (fun s50 =>
cond ((decide (s50.2 < (lenI x32)))) (Option.bind (appO 24 s50.1 ([((s29.2,s44.2,s50.2,()):DutyPiece)])) fun x53 =>
some (.inl ((x53,(w64 (s50.2 + 1)))))) (some (.inr s50.1))) big ((s44.1,s44.2))) fun t55 =>
some (.inl ((t55,(w64 (s44.2 + 1)))))) (some (.inr s44.1))) big ((s29.1,0))) fun t57 =>
some (.inl ((t57,(w64 (s29.2 + 1)))))) (some (.inr s29.1))) big (([],0))) fun t59 =>
some t59
def zd1 (s_0:(List DutyPiece)) (f_1:((DutyPiece) → Option (Bool))):Option (Int) :=
Option.bind (iter (σ := (Int)) (τ := Unit ⊕ (Int)) (fun s5 =>
cond ((decide (s5 < (lenI s_0)))) (Option.bind (idx s_0 s5) fun x8 =>
Option.bind (f_1 x8) fun y9 =>
cond (y9) (some (.inr ((.inr s5)))) (some (.inl ((w64 (s5 + 1)))))) (some (.inr ((.inl (())))))) big 0) fun t11 =>
alt (fun b13 => some ((-1))) (fun b14 => some b14) t11
def zo (s_0:(List DutyPiece)) (f_1:((DutyPiece) → Option (Bool))):Option (Bool) :=
Option.bind (zd1 s_0 f_1) fun y1 =>
some ((decide (y1 ≥ 0)))
def zm2 (c_0:ze2) (p_1:DutyPiece):Option (Task) :=
Option.bind (idx c_0.2.1 p_1.1) fun x2 =>
Option.bind (idx x2 p_1.2.1) fun x3 =>
Option.bind (idx c_0.1.1 x3) fun x4 =>
some x4
def zj2 (c_0:ze2) (p_1:DutyPiece):Option (Task) :=
Option.bind (idx c_0.2.1 p_1.1) fun x2 =>
Option.bind (idx x2 p_1.2.2.1) fun x3 =>
Option.bind (idx c_0.1.1 x3) fun x4 =>
some x4
def zq3 (c_0:ze2) (p_1:DutyPiece):Option (Int) :=
Option.bind (zj2 c_0 p_1) fun y1 =>
Option.bind (zm2 c_0 p_1) fun y2 =>
some ((w64 (y1.2.2.2.1 - y2.2.2.1)))
def zh3 (p_0:DutyPiece) (p_1:ze2):Option (Bool) :=
Option.bind (zq3 p_1 p_0) fun y1 =>
some ((decide (y1 > p_1.2.2.1.1)))
def zn2 (c_0:ze2) (d_1:Duty):Option (Bool) :=
Option.bind (zo d_1.1 ((fun x => zh3 x c_0))) fun y1 =>
some y1
def zv2 (p_0:DutyPiece) (p_1:ze2):Option (Bool) :=
Option.bind (cond ((decide (p_0.2.1 > 0))) (Option.bind (zm2 p_1 p_0) fun y15 =>
Option.bind (idx p_1.1.2.1.2.2.1 y15.1) fun x16 =>
cond ((!x16)) (some true) (Option.bind (idx p_1.2.1 p_0.1) fun x18 =>
cond ((decide (p_0.2.2.1 < (w64 ((lenI x18) - 1))))) (Option.bind (zj2 p_1 p_0) fun y20 =>
Option.bind (idx p_1.1.2.1.2.2.1 y20.2.1) fun x21 =>
some ((!x21))) (some false))) (Option.bind (idx p_1.2.1 p_0.1) fun x22 =>
cond ((decide (p_0.2.2.1 < (w64 ((lenI x22) - 1))))) (Option.bind (zj2 p_1 p_0) fun y24 =>
Option.bind (idx p_1.1.2.1.2.2.1 y24.2.1) fun x25 =>
some ((!x25))) (some false))) fun c13 =>
some c13
def zh2 (c_0:ze2) (d_1:Duty):Option (Bool) :=
Option.bind (zo d_1.1 ((fun x => zv2 x c_0))) fun y1 =>
some y1
def zi3 (c_0:ze2) (d_1:Duty):Option (Int × Int) :=
Option.bind (idx d_1.1 0) fun x1 =>
Option.bind (zj2 c_0 x1) fun y2 =>
Option.bind (idx d_1.1 1) fun x3 =>
Option.bind (zm2 c_0 x3) fun y4 =>
Option.bind (idx c_0.1.2.1.1 y2.2.1) fun x7 =>
Option.bind (idx x7 y4.1) fun x8 =>
some (((w64 (y4.2.2.1 - y2.2.2.2.1)),x8))
def zr1 (c_0:ze2) (d_1:Duty):Option (Bool) :=
cond (((lenI d_1.1) == 1)) (some false) (Option.bind (zi3 c_0 d_1) fun y2 =>
Option.bind (cond ((decide (y2.1 < 0))) (some true) (some ((decide (y2.2 < 0))))) fun c4 =>
some c4)
def zv1 (c_0:ze2) (d_1:Duty):Option (Bool) :=
Option.bind (cond (((lenI d_1.1) == 1)) (some true) (Option.bind (zr1 c_0 d_1) fun y5 =>
some y5)) fun c3 =>
cond (c3) (some false) (Option.bind (zi3 c_0 d_1) fun y7 =>
some ((decide (y7.1 < (w64 (c_0.2.2.1.2.2.2.1 + y7.2))))))
def ze5 (c_0:ze2) (d_1:Duty):Option (Int) :=
Option.bind (idx d_1.1 ((w64 ((lenI d_1.1) - 1)))) fun x1 =>
Option.bind (zj2 c_0 x1) fun y2 =>
Option.bind (idx d_1.1 0) fun x3 =>
Option.bind (zm2 c_0 x3) fun y4 =>
some ((w64 (y2.2.2.2.1 - y4.2.2.1)))
def zx2 (c_0:ze2) (d_1:Duty):Option (Bool) :=
Option.bind (ze5 c_0 d_1) fun y1 =>
some ((decide ((w64 ((w64 (y1 + c_0.2.2.1.2.2.2.2.1)) + c_0.2.2.1.2.2.2.2.2.1)) > c_0.2.2.1.2.1)))
def zb2 (c_0:ze2) (d_1:Duty):Option (Bool) :=
Option.bind (iter (σ := (Int × Int)) (τ := (Int)) (fun s5 =>
cond ((decide (s5.2 < (lenI d_1.1)))) (Option.bind (idx d_1.1 s5.2) fun x8 =>
Option.bind (zq3 c_0 x8) fun y10 =>
some (.inl (((w64 (s5.1 + y10)),(w64 (s5.2 + 1)))))) (some (.inr s5.1))) big (((w64 (c_0.2.2.1.2.2.2.2.1 + c_0.2.2.1.2.2.2.2.2.1)),0))) fun t11 =>
some ((decide (t11 > c_0.2.2.1.2.2.1)))
def zt2 (c_0:ze2) (d_1:Duty):Option ((List Int)) :=
Option.bind (iter (σ := ((List Int) × Int)) (τ := ((List Int))) (fun s8 =>
cond ((decide (s8.2 < 6))) (Option.bind (idx (([(fun x => zn2 c_0 x),(fun x => zh2 c_0 x),(fun x => zr1 c_0 x),(fun x => zv1 c_0 x),(fun x => zx2 c_0 x),(fun x => zb2 c_0 x)]:(List ((Duty) → Option (Bool))))) s8.2) fun x11 =>
Option.bind (x11 d_1) fun y12 =>
cond (y12) (Option.bind (appO 8 s8.1 ([(w64 (1 + s8.2))])) fun x14 =>
some (.inl ((x14,(w64 (s8.2 + 1)))))) (some (.inl ((s8.1,(w64 (s8.2 + 1))))))) (some (.inr s8.1))) big (([],0))) fun t16 =>
some t16
def zn3 (p_0:(List Task)) (p_1:Yard) (p_2:(List (List Int))) (p_3:WorkRules):Option ((List Int) × Int) :=
Option.bind (zt4 p_0 p_1 p_2 p_3) fun y1 =>
cond ((!y1.2)) (some (([],2))) (Option.bind (mkO 1 ((lenI p_0)) (false:Bool)) fun x3 =>
Option.bind (y1.1) fun p5 =>
Option.bind (zy3 p5) fun y6 =>
Option.bind (iter (σ := (Int × (List Bool))) (τ := ((List Bool))) (fun s52 =>
cond ((decide (s52.1 < (lenI y6)))) (Option.bind (idx y6 s52.1) fun x55 =>
Option.bind (y1.1) fun p57 =>
Option.bind (zt2 p57 ((([x55],()):Duty))) fun y58 =>
cond (((lenI y58) == 0)) (Option.bind (idx p_2 x55.1) fun x61 =>
Option.bind (slO x61 x55.2.1 ((w64 (x55.2.2.1 + 1)))) fun x62 =>
Option.bind (iter (σ := (Int × (List Bool))) (τ := ((List Bool))) (fun s69 =>
cond ((decide (s69.1 < (lenI x62)))) (Option.bind (idx x62 s69.1) fun x72 =>
Option.bind (idx s69.2 x72) fun x73 =>
some (.inl (((w64 (s69.1 + 1)),(s69.2).set (Int.toNat x72) true)))) (some (.inr s69.2))) big ((0,s52.2))) fun t74 =>
some (.inl (((w64 (s52.1 + 1)),t74)))) (some (.inl (((w64 (s52.1 + 1)),s52.2))))) (some (.inr s52.2))) big ((0,x3))) fun t76 =>
Option.bind (iter (σ := ((List Int) × Int)) (τ := ((List Int))) (fun s83 =>
cond ((decide (s83.2 < (lenI t76)))) (Option.bind (idx t76 s83.2) fun x86 =>
cond ((!x86)) (Option.bind (appO 8 s83.1 ([s83.2])) fun x88 =>
some (.inl ((x88,(w64 (s83.2 + 1)))))) (some (.inl ((s83.1,(w64 (s83.2 + 1))))))) (some (.inr s83.1))) big (([],0))) fun t90 =>
some ((t90,0)))
def zs2 (i_0:Int) (p_1:(List Task)) (p_2:(List (List Int))):Option (Int) :=
Option.bind (idx p_2 i_0) fun x1 =>
Option.bind (idx p_2 i_0) fun x2 =>
Option.bind (idx x1 ((w64 ((lenI x2) - 1)))) fun x3 =>
Option.bind (idx p_1 x3) fun x4 =>
some x4.2.2.2.1
def zc2 (i_0:Int) (p_1:(List Task)) (p_2:(List (List Int))) (p_3:Int):Option (Int) :=
Option.bind (idx p_2 i_0) fun x1 =>
Option.bind (idx x1 0) fun x2 =>
Option.bind (idx p_1 x2) fun x3 =>
some ((w64 (x3.2.2.1 + p_3)))
def ze1   (data_0:(List Int)) (a_1:Int) (b_2:Int) (cmp_3:((Int × Int) → Option (Int))):Option ((List Int)) :=
Option.bind (iter (σ := (Int × (List Int))) (τ := ((List Int))) (fun s95 =>
cond ((decide (s95.1 < b_2))) (Option.bind (iter (σ := (Int × (List Int))) (τ := ((List Int))) (fun s126 =>
cond ((decide (s126.1 > a_1))) (Option.bind (idx s126.2 s126.1) fun x133 =>
Option.bind (idx s126.2 ((w64 (s126.1 - 1)))) fun x134 =>
Option.bind (cmp_3 ((x133,x134))) fun y135 =>
cond ((decide (y135 < 0))) (Option.bind (idx s126.2 ((w64 (s126.1 - 1)))) fun x137 =>
Option.bind (idx s126.2 s126.1) fun x138 =>
Option.bind (idx s126.2 s126.1) fun x139 =>
Option.bind (idx ((s126.2).set (Int.toNat s126.1) x137) ((w64 (s126.1 - 1)))) fun x140 =>
some (.inl (((w64 (s126.1 - 1)),((s126.2).set (Int.toNat s126.1) x137).set (Int.toNat ((w64 (s126.1 - 1)))) x138)))) (some (.inr s126.2))) (some (.inr s126.2))) big ((s95.1,s95.2))) fun t142 =>
some (.inl (((w64 (s95.1 + 1)),t142)))) (some (.inr s95.2))) big (((w64 (a_1 + 1)),data_0))) fun t144 =>
some t144
def zu1   (data_0:(List Int)) (a_1:Int) (b_2:Int) (n_3:Int) (cmp_4:((Int × Int) → Option (Int))):Option ((List Int)) :=
Option.bind (iter (σ := (Int × (List Int))) (τ := ((List Int))) (fun s11 =>
cond ((decide (s11.1 < n_3))) (Option.bind (idx s11.2 ((w64 (b_2 + s11.1)))) fun x14 =>
Option.bind (idx s11.2 ((w64 (a_1 + s11.1)))) fun x15 =>
Option.bind (idx s11.2 ((w64 (a_1 + s11.1)))) fun x16 =>
Option.bind (idx ((s11.2).set (Int.toNat ((w64 (a_1 + s11.1)))) x14) ((w64 (b_2 + s11.1)))) fun x17 =>
some (.inl (((w64 (s11.1 + 1)),((s11.2).set (Int.toNat ((w64 (a_1 + s11.1)))) x14).set (Int.toNat ((w64 (b_2 + s11.1)))) x15)))) (some (.inr s11.2))) big ((0,data_0))) fun t18 =>
some t18
def zd3   (data_0:(List Int)) (a_1:Int) (m_2:Int) (b_3:Int) (cmp_4:((Int × Int) → Option (Int))):Option ((List Int)) :=
Option.bind (iter (σ := (Int × Int × (List Int))) (τ := (Int × (List Int))) (fun s13 =>
cond ((s13.1 != s13.2.1)) (cond ((decide (s13.1 > s13.2.1))) (Option.bind (zu1 s13.2.2 ((w64 (m_2 - s13.1))) m_2 s13.2.1 cmp_4) fun y17 =>
some (.inl (((w64 (s13.1 - s13.2.1)),s13.2.1,y17)))) (Option.bind (zu1 s13.2.2 ((w64 (m_2 - s13.1))) ((w64 ((w64 (m_2 + s13.2.1)) - s13.1))) s13.1 cmp_4) fun y19 =>
some (.inl ((s13.1,(w64 (s13.2.1 - s13.1)),y19))))) (some (.inr (((s13.1,s13.2.2)))))) big (((w64 (m_2 - a_1)),(w64 (b_3 - m_2)),data_0))) fun t21 =>
Option.bind (zu1 t21.2 ((w64 (m_2 - t21.1))) m_2 t21.1 cmp_4) fun y23 =>
some y23
def zu2   (rec:(List Int) → Int → Int → Int → ((Int × Int) → Option (Int)) → Option ((List Int))) (p_0:(List Int)) (p_1:Int) (p_2:Int) (p_3:Int) (p_4:((Int × Int) → Option (Int))):Option ((List Int)) :=
cond (((w64 (p_2 - p_1)) == 1)) (Option.bind (iter (σ := (Int × Int)) (τ := (Int)) (fun s8 =>
cond ((decide (s8.1 < s8.2))) (Option.bind (shrO .u64 ((IntKind.u64.wrap ((w64 (s8.1 + s8.2))))) 1) fun x11 =>
Option.bind (idx p_0 ((w64 x11))) fun x12 =>
Option.bind (idx p_0 p_1) fun x13 =>
Option.bind (p_4 ((x12,x13))) fun y14 =>
cond ((decide (y14 < 0))) (some (.inl (((w64 ((w64 x11) + 1)),s8.2)))) (some (.inl ((s8.1,(w64 x11)))))) (some (.inr s8.1))) big ((p_2,p_3))) fun t16 =>
Option.bind (iter (σ := (Int × (List Int))) (τ := ((List Int))) (fun s28 =>
cond ((decide (s28.1 < (w64 (t16 - 1))))) (Option.bind (idx s28.2 ((w64 (s28.1 + 1)))) fun x31 =>
Option.bind (idx s28.2 s28.1) fun x32 =>
Option.bind (idx s28.2 s28.1) fun x33 =>
Option.bind (idx ((s28.2).set (Int.toNat s28.1) x31) ((w64 (s28.1 + 1)))) fun x34 =>
some (.inl (((w64 (s28.1 + 1)),((s28.2).set (Int.toNat s28.1) x31).set (Int.toNat ((w64 (s28.1 + 1)))) x32)))) (some (.inr s28.2))) big ((p_1,p_0))) fun t35 =>
some t35) (cond (((w64 (p_3 - p_2)) == 1)) (Option.bind (iter (σ := (Int × Int)) (τ := (Int)) (fun s44 =>
cond ((decide (s44.1 < s44.2))) (Option.bind (shrO .u64 ((IntKind.u64.wrap ((w64 (s44.1 + s44.2))))) 1) fun x47 =>
Option.bind (idx p_0 p_2) fun x48 =>
Option.bind (idx p_0 ((w64 x47))) fun x49 =>
Option.bind (p_4 ((x48,x49))) fun y50 =>
cond ((!(decide (y50 < 0)))) (some (.inl (((w64 ((w64 x47) + 1)),s44.2)))) (some (.inl ((s44.1,(w64 x47)))))) (some (.inr s44.1))) big ((p_1,p_2))) fun t52 =>
Option.bind (iter (σ := (Int × (List Int))) (τ := ((List Int))) (fun s64 =>
cond ((decide (s64.1 > t52))) (Option.bind (idx s64.2 ((w64 (s64.1 - 1)))) fun x67 =>
Option.bind (idx s64.2 s64.1) fun x68 =>
Option.bind (idx s64.2 s64.1) fun x69 =>
Option.bind (idx ((s64.2).set (Int.toNat s64.1) x67) ((w64 (s64.1 - 1)))) fun x70 =>
some (.inl (((w64 (s64.1 - 1)),((s64.2).set (Int.toNat s64.1) x67).set (Int.toNat ((w64 (s64.1 - 1)))) x68)))) (some (.inr s64.2))) big ((p_2,p_0))) fun t71 =>
some t71) (Option.bind (shrO .u64 ((IntKind.u64.wrap ((w64 (p_1 + p_3))))) 1) fun x73 =>
cond ((decide (p_2 > (w64 x73)))) (Option.bind (iter (σ := (Int × Int)) (τ := (Int)) (fun s81 =>
cond ((decide (s81.1 < s81.2))) (Option.bind (shrO .u64 ((IntKind.u64.wrap ((w64 (s81.1 + s81.2))))) 1) fun x84 =>
Option.bind (idx p_0 ((w64 ((w64 ((w64 ((w64 x73) + p_2)) - 1)) - (w64 x84))))) fun x85 =>
Option.bind (idx p_0 ((w64 x84))) fun x86 =>
Option.bind (p_4 ((x85,x86))) fun y87 =>
cond ((!(decide (y87 < 0)))) (some (.inl (((w64 ((w64 x84) + 1)),s81.2)))) (some (.inl ((s81.1,(w64 x84)))))) (some (.inr s81.1))) big (((w64 ((w64 ((w64 x73) + p_2)) - p_3)),(w64 x73)))) fun t89 =>
Option.bind (cond ((decide (t89 < p_2))) (some ((decide (p_2 < (w64 ((w64 ((w64 x73) + p_2)) - t89)))))) (some false)) fun c92 =>
cond (c92) (Option.bind (zd3 p_0 t89 p_2 ((w64 ((w64 ((w64 x73) + p_2)) - t89))) p_4) fun y95 =>
Option.bind (cond ((decide (p_1 < t89))) (some ((decide (t89 < (w64 x73))))) (some false)) fun c98 =>
cond (c98) (Option.bind (rec y95 p_1 t89 ((w64 x73)) p_4) fun y101 =>
Option.bind (cond ((decide ((w64 x73) < (w64 ((w64 ((w64 x73) + p_2)) - t89))))) (some ((decide ((w64 ((w64 ((w64 x73) + p_2)) - t89)) < p_3)))) (some false)) fun c104 =>
cond (c104) (Option.bind (rec y101 ((w64 x73)) ((w64 ((w64 ((w64 x73) + p_2)) - t89))) p_3 p_4) fun y107 =>
some y107) (some y101)) (Option.bind (cond ((decide ((w64 x73) < (w64 ((w64 ((w64 x73) + p_2)) - t89))))) (some ((decide ((w64 ((w64 ((w64 x73) + p_2)) - t89)) < p_3)))) (some false)) fun c110 =>
cond (c110) (Option.bind (rec y95 ((w64 x73)) ((w64 ((w64 ((w64 x73) + p_2)) - t89))) p_3 p_4) fun y113 =>
some y113) (some y95))) (Option.bind (cond ((decide (p_1 < t89))) (some ((decide (t89 < (w64 x73))))) (some false)) fun c116 =>
cond (c116) (Option.bind (rec p_0 p_1 t89 ((w64 x73)) p_4) fun y119 =>
Option.bind (cond ((decide ((w64 x73) < (w64 ((w64 ((w64 x73) + p_2)) - t89))))) (some ((decide ((w64 ((w64 ((w64 x73) + p_2)) - t89)) < p_3)))) (some false)) fun c122 =>
cond (c122) (Option.bind (rec y119 ((w64 x73)) ((w64 ((w64 ((w64 x73) + p_2)) - t89))) p_3 p_4) fun y125 =>
some y125) (some y119)) (Option.bind (cond ((decide ((w64 x73) < (w64 ((w64 ((w64 x73) + p_2)) - t89))))) (some ((decide ((w64 ((w64 ((w64 x73) + p_2)) - t89)) < p_3)))) (some false)) fun c128 =>
cond (c128) (Option.bind (rec p_0 ((w64 x73)) ((w64 ((w64 ((w64 x73) + p_2)) - t89))) p_3 p_4) fun y131 =>
some y131) (some p_0)))) (Option.bind (iter (σ := (Int × Int)) (τ := (Int)) (fun s139 =>
cond ((decide (s139.1 < s139.2))) (Option.bind (shrO .u64 ((IntKind.u64.wrap ((w64 (s139.1 + s139.2))))) 1) fun x142 =>
Option.bind (idx p_0 ((w64 ((w64 ((w64 ((w64 x73) + p_2)) - 1)) - (w64 x142))))) fun x143 =>
Option.bind (idx p_0 ((w64 x142))) fun x144 =>
Option.bind (p_4 ((x143,x144))) fun y145 =>
cond ((!(decide (y145 < 0)))) (some (.inl (((w64 ((w64 x142) + 1)),s139.2)))) (some (.inl ((s139.1,(w64 x142)))))) (some (.inr s139.1))) big ((p_1,p_2))) fun t147 =>
Option.bind (cond ((decide (t147 < p_2))) (some ((decide (p_2 < (w64 ((w64 ((w64 x73) + p_2)) - t147)))))) (some false)) fun c150 =>
cond (c150) (Option.bind (zd3 p_0 t147 p_2 ((w64 ((w64 ((w64 x73) + p_2)) - t147))) p_4) fun y153 =>
Option.bind (cond ((decide (p_1 < t147))) (some ((decide (t147 < (w64 x73))))) (some false)) fun c156 =>
cond (c156) (Option.bind (rec y153 p_1 t147 ((w64 x73)) p_4) fun y159 =>
Option.bind (cond ((decide ((w64 x73) < (w64 ((w64 ((w64 x73) + p_2)) - t147))))) (some ((decide ((w64 ((w64 ((w64 x73) + p_2)) - t147)) < p_3)))) (some false)) fun c162 =>
cond (c162) (Option.bind (rec y159 ((w64 x73)) ((w64 ((w64 ((w64 x73) + p_2)) - t147))) p_3 p_4) fun y165 =>
some y165) (some y159)) (Option.bind (cond ((decide ((w64 x73) < (w64 ((w64 ((w64 x73) + p_2)) - t147))))) (some ((decide ((w64 ((w64 ((w64 x73) + p_2)) - t147)) < p_3)))) (some false)) fun c168 =>
cond (c168) (Option.bind (rec y153 ((w64 x73)) ((w64 ((w64 ((w64 x73) + p_2)) - t147))) p_3 p_4) fun y171 =>
some y171) (some y153))) (Option.bind (cond ((decide (p_1 < t147))) (some ((decide (t147 < (w64 x73))))) (some false)) fun c174 =>
cond (c174) (Option.bind (rec p_0 p_1 t147 ((w64 x73)) p_4) fun y177 =>
Option.bind (cond ((decide ((w64 x73) < (w64 ((w64 ((w64 x73) + p_2)) - t147))))) (some ((decide ((w64 ((w64 ((w64 x73) + p_2)) - t147)) < p_3)))) (some false)) fun c180 =>
cond (c180) (Option.bind (rec y177 ((w64 x73)) ((w64 ((w64 ((w64 x73) + p_2)) - t147))) p_3 p_4) fun y183 =>
some y183) (some y177)) (Option.bind (cond ((decide ((w64 x73) < (w64 ((w64 ((w64 x73) + p_2)) - t147))))) (some ((decide ((w64 ((w64 ((w64 x73) + p_2)) - t147)) < p_3)))) (some false)) fun c186 =>
cond (c186) (Option.bind (rec p_0 ((w64 x73)) ((w64 ((w64 ((w64 x73) + p_2)) - t147))) p_3 p_4) fun y189 =>
some y189) (some p_0))))))
def zr2  :Nat → (List Int) → Int → Int → Int → ((Int × Int) → Option (Int)) → Option ((List Int))
 | 0 => fun _ _ _ _ _ => none
 | k + 1 => zu2 (zr2 k)
def ze3   (data_0:(List Int)) (n_1:Int) (cmp_2:((Int × Int) → Option (Int))):Option ((List Int)) :=
Option.bind (iter (σ := (Int × Int × (List Int))) (τ := (Int × (List Int))) (fun s7 =>
cond ((decide (s7.2.1 ≤ n_1))) (Option.bind (ze1 s7.2.2 s7.1 s7.2.1 cmp_2) fun y10 =>
some (.inl ((s7.2.1,(w64 (s7.2.1 + 20)),y10)))) (some (.inr (((s7.1,s7.2.2)))))) big ((0,20,data_0))) fun t12 =>
Option.bind (ze1 t12.2 t12.1 n_1 cmp_2) fun y14 =>
Option.bind (iter (σ := (Int × (List Int))) (τ := ((List Int))) (fun s50 =>
cond ((decide (s50.1 < n_1))) (Option.bind (iter (σ := (Int × Int × (List Int))) (τ := (Int × (List Int))) (fun s59 =>
cond ((decide (s59.2.1 ≤ n_1))) (Option.bind (zr2 big s59.2.2 s59.1 ((w64 (s59.1 + s50.1))) s59.2.1 cmp_2) fun y62 =>
some (.inl ((s59.2.1,(w64 (s59.2.1 + (w64 (2 * s50.1)))),y62)))) (some (.inr (((s59.1,s59.2.2)))))) big ((0,(w64 (2 * s50.1)),s50.2))) fun t64 =>
cond ((decide ((w64 (t64.1 + s50.1)) < n_1))) (Option.bind (zr2 big t64.2 t64.1 ((w64 (t64.1 + s50.1))) n_1 cmp_2) fun y67 =>
some (.inl (((w64 (s50.1 * 2)),y67)))) (some (.inl (((w64 (s50.1 * 2)),t64.2))))) (some (.inr s50.2))) big ((20,y14))) fun t69 =>
some t69
def zk1   (x_0:(List Int)) (cmp_1:((Int × Int) → Option (Int))):Option ((List Int)) :=
Option.bind (ze3 x_0 ((lenI x_0)) cmp_1) fun y1 =>
some y1
def zj4 (a_0:Int) (b_1:Int) (p_2:((Int) → Option (Int))):Option (Int) :=
Option.bind (p_2 a_0) fun y1 =>
Option.bind (p_2 b_1) fun y2 =>
some ((w64 (y1 - y2)))
def zk4 (a_0:Int) (b_1:Int) (p_2:((Int) → Option (Int))):Option (Int) :=
Option.bind (p_2 a_0) fun y1 =>
Option.bind (p_2 b_1) fun y2 =>
some ((w64 (y1 - y2)))
def zb6 (p_0:(List Task)) (p_1:Yard) (p_2:(List (List Int))) (p_3:(List Int)) (p_4:(List Int)) (p_5:Int):Option ((List StableCar) × (List StableLeave) × (List Int) × (List Int) × Int) :=
Option.bind (zn3 p_0 p_1 p_2 (((0,0,0,0,0,0,()):WorkRules))) fun y1 =>
Option.bind (cond ((y1.2 != 0)) (some true) (cond (((lenI p_3) != (lenI p_2))) (some true) (cond (((lenI p_4) != (lenI p_2))) (some true) (Option.bind (zi1 p_5 0 200000) fun y11 =>
some ((!y11)))))) fun c7 =>
cond (c7) (some (([],[],[],[],2))) (Option.bind (iter (σ := (Int)) (τ := Unit ⊕ ((List StableCar) × (List StableLeave) × (List Int) × (List Int) × Int)) (fun s26 =>
cond ((decide (s26 < (lenI p_2)))) (Option.bind (idx p_3 s26) fun x34 =>
Option.bind (zi1 x34 0 100) fun y35 =>
cond ((!y35)) (some (.inr ((.inr (([],[],[],[],2)))))) (Option.bind (idx p_4 s26) fun x38 =>
Option.bind (zi1 x38 1 10000000) fun y39 =>
cond ((!y39)) (some (.inr ((.inr (([],[],[],[],2)))))) (some (.inl ((w64 (s26 + 1))))))) (some (.inr ((.inl (())))))) big 0) fun t41 =>
alt (fun b43 => cond ((decide ((lenI p_2) > 9))) (some (([],[],[],[],4))) (Option.bind (iter (σ := ((List Int) × (List Int) × Int)) (τ := ((List Int) × (List Int))) (fun s53 =>
cond ((decide (s53.2.2 < (lenI p_2)))) (Option.bind (appO 8 s53.1 ([s53.2.2])) fun x56 =>
Option.bind (appO 8 s53.2.1 ([s53.2.2])) fun x58 =>
some (.inl ((x56,x58,(w64 (s53.2.2 + 1)))))) (some (.inr (((s53.1,s53.2.1)))))) big (([],[],0))) fun t60 =>
Option.bind (zk1 t60.1 ((fun x => zj4 x.1 x.2 ((fun x => zs2 x p_0 p_2))))) fun y62 =>
Option.bind (zk1 t60.2 ((fun x => zk4 x.1 x.2 ((fun x => zc2 x p_0 p_2 p_5))))) fun y64 =>
Option.bind (iter (σ := ((List StableCar) × (List StableLeave) × Int)) (τ := ((List StableCar) × (List StableLeave)) ⊕ ((List StableCar) × (List StableLeave) × (List Int) × (List Int) × Int)) (fun s80 =>
cond ((decide (s80.2.2 < (lenI p_2)))) (Option.bind (idx y62 s80.2.2) fun x83 =>
Option.bind (idx y64 s80.2.2) fun x84 =>
Option.bind (((fun x => zc2 x p_0 p_2 p_5)) x84) fun y85 =>
cond ((decide (y85 > 200000))) (some (.inr ((.inr (([],[],[],[],4)))))) (Option.bind (idx p_3 x83) fun x87 =>
Option.bind (idx p_4 x83) fun x88 =>
Option.bind (((fun x => zs2 x p_0 p_2)) x83) fun y89 =>
Option.bind (appO 32 s80.1 ([((x87,x88,y89,200000,()):StableCar)])) fun x90 =>
Option.bind (idx p_3 x84) fun x92 =>
Option.bind (((fun x => zc2 x p_0 p_2 p_5)) x84) fun y93 =>
Option.bind (appO 16 s80.2.1 ([((x92,y93,()):StableLeave)])) fun x94 =>
some (.inl ((x90,x94,(w64 (s80.2.2 + 1))))))) (some (.inr ((.inl ((s80.1,s80.2.1))))))) big (([],[],0))) fun t96 =>
alt (fun b98 => some ((b98.1,b98.2,y62,y64,0))) (fun b99 => some ((b99.1,b99.2.1,b99.2.2.1,b99.2.2.2.1,b99.2.2.2.2))) t96)) (fun b44 => some ((b44.1,b44.2.1,b44.2.2.1,b44.2.2.2.1,b44.2.2.2.2))) t41)
def zd2 (x_0:Int) (low_1:Int) (high_2:Int):Option (Bool) :=
Option.bind (cond ((decide (x_0 ≥ low_1))) (some ((decide (x_0 ≤ high_2)))) (some false)) fun c2 =>
some c2
def zr4 (p_0:(List Task)) (p_1:Yard):Option (Bool) :=
Option.bind (Option.bind (zd2 ((lenI p_1.2.2.1)) 1 40) fun y7 =>
cond ((!y7)) (some true) (cond (((lenI p_1.1) != (lenI p_1.2.2.1))) (some true) (Option.bind (zd2 p_1.2.1 0 3600) fun y10 =>
cond ((!y10)) (some true) (some ((decide ((lenI p_0) > 60))))))) fun c6 =>
cond (c6) (some false) (Option.bind (iter (σ := (Int)) (τ := Unit ⊕ (Bool)) (fun s40 =>
cond ((decide (s40 < (lenI p_1.2.2.1)))) (Option.bind (idx p_1.1 s40) fun x47 =>
cond (((lenI x47) != (lenI p_1.2.2.1))) (some (.inr ((.inr false)))) (Option.bind (idx p_1.1 s40) fun x50 =>
Option.bind (idx x50 s40) fun x51 =>
cond ((x51 != 0)) (some (.inr ((.inr false)))) (Option.bind (iter (σ := (Int)) (τ := Unit ⊕ (Bool)) (fun s58 =>
cond ((decide (s58 < (lenI p_1.2.2.1)))) (Option.bind (idx p_1.1 s40) fun x61 =>
Option.bind (idx x61 s58) fun x62 =>
Option.bind (zd2 x62 ((-1)) 20000) fun y63 =>
cond ((!y63)) (some (.inr ((.inr false)))) (some (.inl ((w64 (s58 + 1)))))) (some (.inr ((.inl (())))))) big 0) fun t65 =>
alt (fun b67 => some (.inl ((w64 (s40 + 1))))) (fun b68 => some (.inr ((.inr b68)))) t65))) (some (.inr ((.inl (())))))) big 0) fun t69 =>
alt (fun b71 => Option.bind (iter (σ := (Int)) (τ := Unit ⊕ (Bool)) (fun s101 =>
cond ((decide (s101 < (lenI p_0)))) (Option.bind (idx p_0 s101) fun x104 =>
Option.bind (zd2 x104.1 0 ((w64 ((lenI p_1.2.2.1) - 1)))) fun y115 =>
cond ((!y115)) (some (.inr ((.inr false)))) (Option.bind (zd2 x104.2.1 0 ((w64 ((lenI p_1.2.2.1) - 1)))) fun y118 =>
cond ((!y118)) (some (.inr ((.inr false)))) (cond ((decide (x104.2.2.1 < 0))) (some (.inr ((.inr false)))) (cond ((decide (x104.2.2.1 > x104.2.2.2.1))) (some (.inr ((.inr false)))) (cond ((decide (x104.2.2.2.1 > 200000))) (some (.inr ((.inr false)))) (cond ((decide (s101 > 0))) (Option.bind (idx p_0 ((w64 (s101 - 1)))) fun x128 =>
cond ((decide (x104.2.2.1 < x128.2.2.1))) (some (.inr ((.inr false)))) (some (.inl ((w64 (s101 + 1)))))) (some (.inl ((w64 (s101 + 1))))))))))) (some (.inr ((.inl (())))))) big 0) fun t131 =>
alt (fun b133 => some true) (fun b134 => some b134) t131) (fun b72 => some b72) t69)
def zp5 (tasks_0:(List Task)) (y_1:Yard) (a_2:Int) (b_3:Int):Option (Bool) :=
Option.bind (idx tasks_0 a_2) fun x1 =>
Option.bind (idx y_1.1 x1.2.1) fun x2 =>
Option.bind (idx tasks_0 b_3) fun x3 =>
Option.bind (idx x2 x3.1) fun x4 =>
Option.bind (cond ((decide (a_2 < b_3))) (cond ((decide (x4 ≥ 0))) (Option.bind (idx tasks_0 a_2) fun x12 =>
Option.bind (idx tasks_0 b_3) fun x13 =>
some ((decide ((w64 ((w64 (x12.2.2.2.1 + y_1.2.1)) + x4)) ≤ x13.2.2.1)))) (some false)) (some false)) fun c9 =>
some c9
def zf7 (p_0:(List Task)) (p_1:Yard) (p_2:(List (List Int))):Option (Bool) :=
Option.bind (mkO 1 ((lenI p_0)) (false:Bool)) fun x1 =>
Option.bind (iter (σ := (Int × Int × (List Bool))) (τ := (Int × (List Bool)) ⊕ (Bool)) (fun s201 =>
cond ((decide (s201.2.1 < (lenI p_2)))) (Option.bind (idx p_2 s201.2.1) fun x204 =>
cond (((lenI x204) == 0)) (some (.inr ((.inr false)))) (Option.bind (iter (σ := (Int × Int × (List Bool))) (τ := (Int × (List Bool)) ⊕ (Bool × (List Bool))) (fun s258 =>
Option.bind (idx p_2 s201.2.1) fun x260 =>
cond ((decide (s258.2.1 < (lenI x260)))) (Option.bind (idx p_2 s201.2.1) fun x262 =>
Option.bind (idx x262 s258.2.1) fun x263 =>
Option.bind (zd2 x263 0 ((w64 ((lenI p_0) - 1)))) fun y272 =>
cond ((!y272)) (some (.inr ((.inr ((false,s258.2.2)))))) (Option.bind (idx s258.2.2 x263) fun x275 =>
cond (x275) (some (.inr ((.inr ((false,s258.2.2)))))) (cond ((decide (s258.2.1 > 0))) (Option.bind (idx p_2 s201.2.1) fun x279 =>
Option.bind (idx x279 ((w64 (s258.2.1 - 1)))) fun x280 =>
Option.bind (zp5 p_0 p_1 x280 x263) fun y281 =>
cond ((!y281)) (some (.inr ((.inr ((false,s258.2.2)))))) (Option.bind (idx s258.2.2 x263) fun x283 =>
some (.inl (((w64 (s258.1 + 1)),(w64 (s258.2.1 + 1)),(s258.2.2).set (Int.toNat x263) true))))) (Option.bind (idx s258.2.2 x263) fun x285 =>
some (.inl (((w64 (s258.1 + 1)),(w64 (s258.2.1 + 1)),(s258.2.2).set (Int.toNat x263) true))))))) (some (.inr ((.inl ((s258.1,s258.2.2))))))) big ((s201.1,0,s201.2.2))) fun t286 =>
alt (fun b288 => cond ((decide (s201.2.1 > 0))) (Option.bind (idx p_2 s201.2.1) fun x296 =>
Option.bind (idx x296 0) fun x297 =>
Option.bind (idx p_2 ((w64 (s201.2.1 - 1)))) fun x298 =>
Option.bind (idx x298 0) fun x299 =>
cond ((decide (x297 ≤ x299))) (some (.inr ((.inr false)))) (some (.inl ((b288.1,(w64 (s201.2.1 + 1)),b288.2))))) (some (.inl ((b288.1,(w64 (s201.2.1 + 1)),b288.2))))) (fun b289 => some (.inr ((.inr b289.1)))) t286)) (some (.inr ((.inl ((s201.1,s201.2.2))))))) big ((0,0,x1))) fun t302 =>
alt (fun b304 => some ((b304.1 == (lenI p_0)))) (fun b305 => some b305) t302
def zf2   (rec:Int → Int → (List Bool) → (List Bool) → za1 → (List Int) → Option ((Bool) × (List Bool) × (List Int))) (a_0:Int) (p_1:Int) (p_2:(List Bool)) (p_3:(List Bool)) (p_4:za1) (p_5:(List Int)):Option ((Bool) × (List Bool) × (List Int)) :=
Option.bind (iter (σ := (Int × (List Bool) × (List Int))) (τ := ((List Bool) × (List Int)) ⊕ (Bool × (List Bool) × (List Int))) (fun s59 =>
cond ((decide (s59.1 < p_1))) (Option.bind (idx p_2 s59.1) fun x67 =>
cond (x67) (some (.inl (((w64 (s59.1 + 1)),s59.2.1,s59.2.2)))) (Option.bind (idx s59.2.1 s59.1) fun x70 =>
cond (x70) (some (.inl (((w64 (s59.1 + 1)),s59.2.1,s59.2.2)))) (Option.bind (zp p_4 a_0 s59.1) fun y73 =>
cond ((!y73)) (some (.inl (((w64 (s59.1 + 1)),s59.2.1,s59.2.2)))) (Option.bind (idx s59.2.1 s59.1) fun x75 =>
Option.bind (idx s59.2.2 s59.1) fun x81 =>
cond ((decide (x81 < 0))) (Option.bind (idx s59.2.2 s59.1) fun x84 =>
some (.inr ((.inr ((true,(s59.2.1).set (Int.toNat s59.1) true,(s59.2.2).set (Int.toNat s59.1) a_0)))))) (Option.bind (idx s59.2.2 s59.1) fun x85 =>
Option.bind (rec x85 p_1 p_2 ((s59.2.1).set (Int.toNat s59.1) true) p_4 s59.2.2) fun y86 =>
cond (y86.1) (Option.bind (idx y86.2.2 s59.1) fun x89 =>
some (.inr ((.inr ((true,y86.2.1,(y86.2.2).set (Int.toNat s59.1) a_0)))))) (some (.inl (((w64 (s59.1 + 1)),y86.2.1,y86.2.2))))))))) (some (.inr ((.inl ((s59.2.1,s59.2.2))))))) big (((w64 (a_0 + 1)),p_3,p_5))) fun t90 =>
alt (fun b92 => some ((false,b92.1,b92.2))) (fun b93 => some ((b93.1,b93.2.1,b93.2.2))) t90
def zk3  :Nat → Int → Int → (List Bool) → (List Bool) → za1 → (List Int) → Option ((Bool) × (List Bool) × (List Int))
 | 0 => fun _ _ _ _ _ _ => none
 | k + 1 => zf2 (zk3 k)
def za2 (w_0:za1) (fixed_1:(List Int)):Option (Int) :=
Option.bind (mkO 8 ((lenI w_0.1)) (0:Int)) fun x2 =>
Option.bind (iter (σ := (Int × (List Int))) (τ := ((List Int))) (fun s9 =>
cond ((decide (s9.1 < (lenI x2)))) (Option.bind (idx s9.2 s9.1) fun x12 =>
some (.inl (((w64 (s9.1 + 1)),(s9.2).set (Int.toNat s9.1) ((-1)))))) (some (.inr s9.2))) big ((0,x2))) fun t13 =>
Option.bind (mkO 1 ((lenI w_0.1)) (false:Bool)) fun x15 =>
Option.bind (iter (σ := (Int × Int × (List Bool))) (τ := (Int × (List Bool))) (fun s26 =>
cond ((decide (s26.2.1 < (lenI fixed_1)))) (Option.bind (idx fixed_1 s26.2.1) fun x29 =>
cond ((decide (x29 < (lenI w_0.1)))) (Option.bind (idx s26.2.2 x29) fun x31 =>
some (.inl (((w64 (s26.1 + 1)),(w64 (s26.2.1 + 1)),(s26.2.2).set (Int.toNat x29) true)))) (some (.inl ((s26.1,(w64 (s26.2.1 + 1)),s26.2.2))))) (some (.inr (((s26.1,s26.2.2)))))) big ((0,0,x15))) fun t32 =>
Option.bind (iter (σ := (Int × Int × (List Bool) × (List Int))) (τ := (Int × (List Bool) × (List Int))) (fun s48 =>
cond ((decide (s48.2.1 < (lenI w_0.1)))) (Option.bind (mkO 1 ((lenI w_0.1)) (false:Bool)) fun x51 =>
Option.bind (zk3 big s48.2.1 ((lenI w_0.1)) t32.2 x51 w_0 s48.2.2.2) fun y53 =>
cond (y53.1) (some (.inl (((w64 (s48.1 + 1)),(w64 (s48.2.1 + 1)),y53.2.1,y53.2.2)))) (some (.inl ((s48.1,(w64 (s48.2.1 + 1)),y53.2.1,y53.2.2))))) (some (.inr (((s48.1,s48.2.2.1,s48.2.2.2)))))) big ((t32.1,(lenI fixed_1),[],t13))) fun t56 =>
some t56.1
def zo2 (w_0:za1):Option ((List Int)) :=
Option.bind (za2 w_0 ([])) fun y1 =>
Option.bind (iter (σ := ((List Int) × Int)) (τ := ((List Int))) (fun s59 =>
cond ((decide (s59.2 < (lenI w_0.1)))) (Option.bind (iter (σ := ((List Int) × Int)) (τ := ((List Int) × Int × Bool × Bool × za1 × Int × (List Int) × (List Int) × Int × Int × Bool) ⊕ ((List Int))) (fun s86 =>
cond ((decide (s86.2 < (lenI w_0.1)))) (Option.bind (zp w_0 s59.2 s86.2) fun y98 =>
cond (y98) (Option.bind (zl s86.1 s86.2) fun y100 =>
cond ((!y100)) (Option.bind (zk s86.1) fun y102 =>
Option.bind (appO 8 y102 ([s86.2])) fun x104 =>
Option.bind (za2 w_0 x104) fun y106 =>
cond ((y106 == y1)) (Option.bind (appO 8 s86.1 ([s86.2])) fun x108 =>
some (.inr ((.inl ((x108,s86.2,y100,(!y100),w_0,s86.2,[s86.2],x104,y106,y1,(y106 == y1))))))) (some (.inl ((s86.1,(w64 (s86.2 + 1))))))) (some (.inl ((s86.1,(w64 (s86.2 + 1))))))) (some (.inl ((s86.1,(w64 (s86.2 + 1))))))) (some (.inr ((.inr s86.1))))) big ((s59.1,(w64 (s59.2 + 1))))) fun t112 =>
alt (fun b114 => some (.inl ((b114.1,(w64 (s59.2 + 1)))))) (fun b115 => Option.bind (appO 8 b115 ([(lenI w_0.1)])) fun x116 =>
some (.inl ((x116,(w64 (s59.2 + 1)))))) t112) (some (.inr s59.1))) big (([],0))) fun t118 =>
some t118
def zz3   (rec:Int → (List Bool) → Int → za1 → (List Bool) → (List Int) → Option ((List Bool) × (List Bool))) (a_0:Int) (p_1:(List Bool)) (p_2:Int) (p_3:za1) (p_4:(List Bool)) (p_5:(List Int)):Option ((List Bool) × (List Bool)) :=
Option.bind (idx p_1 a_0) fun x1 =>
cond (x1) (some ((p_1,p_4))) (Option.bind (idx p_1 a_0) fun x3 =>
Option.bind (iter (σ := (Int × (List Bool) × (List Bool))) (τ := ((List Bool) × (List Bool))) (fun s34 =>
cond ((decide (s34.1 < p_2))) (Option.bind (zp p_3 a_0 s34.1) fun y40 =>
cond (y40) (Option.bind (idx s34.2.2 s34.1) fun x42 =>
cond ((!x42)) (Option.bind (idx s34.2.2 s34.1) fun x44 =>
Option.bind (idx p_5 s34.1) fun x45 =>
cond ((decide (x45 ≥ 0))) (Option.bind (idx p_5 s34.1) fun x47 =>
Option.bind (rec x47 s34.2.1 p_2 p_3 ((s34.2.2).set (Int.toNat s34.1) true) p_5) fun y48 =>
some (.inl (((w64 (s34.1 + 1)),y48.1,y48.2)))) (some (.inl (((w64 (s34.1 + 1)),s34.2.1,(s34.2.2).set (Int.toNat s34.1) true))))) (some (.inl (((w64 (s34.1 + 1)),s34.2.1,s34.2.2))))) (some (.inl (((w64 (s34.1 + 1)),s34.2.1,s34.2.2))))) (some (.inr (((s34.2.1,s34.2.2)))))) big ((0,(p_1).set (Int.toNat a_0) true,p_4))) fun t51 =>
some ((t51.1,t51.2)))
def zu4  :Nat → Int → (List Bool) → Int → za1 → (List Bool) → (List Int) → Option ((List Bool) × (List Bool))
 | 0 => fun _ _ _ _ _ _ => none
 | k + 1 => zz3 (zu4 k)
def zx5 (p_0:(List Task)) (p_1:Yard):Option ((List (List Int)) × DutyProof × Int) :=
Option.bind (zp4 p_0 p_1) fun y2 =>
cond ((y2 != 0)) (some (([],(([],[],()):DutyProof),2))) (Option.bind (zo2 (((p_0,p_1,()):za1))) fun y6 =>
Option.bind (mkO 8 ((lenI p_0)) (0:Int)) fun x8 =>
Option.bind (iter (σ := (Int × (List Int))) (τ := ((List Int))) (fun s15 =>
cond ((decide (s15.1 < (lenI x8)))) (Option.bind (idx s15.2 s15.1) fun x18 =>
some (.inl (((w64 (s15.1 + 1)),(s15.2).set (Int.toNat s15.1) ((-1)))))) (some (.inr s15.2))) big ((0,x8))) fun t19 =>
Option.bind (iter (σ := (Int × (List Int))) (τ := ((List Int))) (fun s29 =>
cond ((decide (s29.1 < (lenI y6)))) (Option.bind (idx y6 s29.1) fun x32 =>
cond ((decide (x32 < (lenI p_0)))) (Option.bind (idx s29.2 x32) fun x34 =>
some (.inl (((w64 (s29.1 + 1)),(s29.2).set (Int.toNat x32) s29.1)))) (some (.inl (((w64 (s29.1 + 1)),s29.2))))) (some (.inr s29.2))) big ((0,t19))) fun t35 =>
Option.bind (iter (σ := ((List (List Int)) × Int)) (τ := ((List (List Int)))) (fun s54 =>
cond ((decide (s54.2 < (lenI p_0)))) (Option.bind (idx t35 s54.2) fun x57 =>
cond ((decide (x57 ≥ 0))) (some (.inl ((s54.1,(w64 (s54.2 + 1)))))) (Option.bind (iter (σ := ((List Int) × Int)) (τ := ((List Int))) (fun s63 =>
cond ((decide (s63.2 < (lenI p_0)))) (Option.bind (appO 8 s63.1 ([s63.2])) fun x66 =>
Option.bind (idx y6 s63.2) fun x68 =>
some (.inl ((x66,x68)))) (some (.inr s63.1))) big (([],s54.2))) fun t69 =>
Option.bind (appO 24 s54.1 ([t69])) fun x71 =>
some (.inl ((x71,(w64 (s54.2 + 1))))))) (some (.inr s54.1))) big (([],0))) fun t73 =>
Option.bind (mkO 1 ((lenI p_0)) (false:Bool)) fun x75 =>
Option.bind (mkO 1 ((lenI p_0)) (false:Bool)) fun x77 =>
Option.bind (iter (σ := (Int × (List Bool) × (List Bool))) (τ := ((List Bool) × (List Bool))) (fun s92 =>
cond ((decide (s92.1 < (lenI p_0)))) (Option.bind (idx y6 s92.1) fun x95 =>
cond ((x95 == (lenI p_0))) (Option.bind (zu4 big s92.1 s92.2.2 ((lenI p_0)) (((p_0,p_1,()):za1)) s92.2.1 t35) fun y97 =>
some (.inl (((w64 (s92.1 + 1)),y97.2,y97.1)))) (some (.inl (((w64 (s92.1 + 1)),s92.2.1,s92.2.2))))) (some (.inr (((s92.2.1,s92.2.2)))))) big ((0,x77,x75))) fun t99 =>
Option.bind (iter (σ := (Int × (List Int) × (List Int))) (τ := ((List Int) × (List Int))) (fun s128 =>
cond ((decide (s128.1 < (lenI p_0)))) (Option.bind (idx t99.2 s128.1) fun x131 =>
cond ((!x131)) (Option.bind (appO 8 s128.2.2 ([s128.1])) fun x133 =>
Option.bind (idx t99.1 s128.1) fun x135 =>
cond (x135) (Option.bind (appO 8 s128.2.1 ([s128.1])) fun x137 =>
some (.inl (((w64 (s128.1 + 1)),x137,x133)))) (some (.inl (((w64 (s128.1 + 1)),s128.2.1,x133))))) (Option.bind (idx t99.1 s128.1) fun x139 =>
cond (x139) (Option.bind (appO 8 s128.2.1 ([s128.1])) fun x141 =>
some (.inl (((w64 (s128.1 + 1)),x141,s128.2.2)))) (some (.inl (((w64 (s128.1 + 1)),s128.2.1,s128.2.2)))))) (some (.inr (((s128.2.2,s128.2.1)))))) big ((0,[],[]))) fun t143 =>
some ((t73,(t143.1,t143.2,()),0)))
def zu3 (p_0:(List Task)) (p_1:Yard) (p_2:Int) (p_3:Int):Option (Bool) :=
Option.bind (cond ((decide ((lenI p_0) > 12))) (some true) (cond ((decide ((lenI p_1.2.2.1) > 10))) (some true) (Option.bind (zr4 p_0 p_1) fun y11 =>
cond ((!y11)) (some true) (cond ((decide (p_2 < 1))) (some true) (cond ((decide (p_2 > 100000))) (some true) (cond ((decide (p_3 < 0))) (some true) (some ((decide (p_3 > 200000)))))))))) fun c8 =>
cond (c8) (some true) (Option.bind (zx5 p_0 p_1) fun y17 =>
cond ((y17.2.2 != 0)) (some false) (cond ((decide ((lenI y17.1) > 6))) (some true) (Option.bind (mkO 8 ((lenI y17.1)) (0:Int)) fun x22 =>
Option.bind (mkO 8 ((lenI y17.1)) (0:Int)) fun x24 =>
Option.bind (iter (σ := (Int × (List Int))) (τ := ((List Int))) (fun s30 =>
cond ((decide (s30.1 < (lenI y17.1)))) (Option.bind (idx s30.2 s30.1) fun x33 =>
some (.inl (((w64 (s30.1 + 1)),(s30.2).set (Int.toNat s30.1) p_2)))) (some (.inr s30.2))) big ((0,x24))) fun t34 =>
Option.bind (iter (σ := (Int × Int × Int)) (τ := (Int × Int)) (fun s39 =>
cond ((decide (s39.2.2 < (lenI p_0)))) (Option.bind (idx p_0 s39.2.2) fun x42 =>
Option.bind (idx p_0 s39.2.2) fun x43 =>
some (.inl (((max s39.1 x42.2.2.2.1),(min s39.2.1 x43.2.2.1),(w64 (s39.2.2 + 1)))))) (some (.inr (((s39.1,s39.2.1)))))) big ((0,200000,0))) fun t44 =>
Option.bind (zb6 p_0 p_1 y17.1 x22 t34 p_3) fun y46 =>
cond ((y46.2.2.2.2 != 0)) (Option.bind (cond ((y46.2.2.2.2 == 4)) (some true) (some false)) fun c53 =>
some c53) (Option.bind (ze4 ([(((w64 (6 * p_2)),true,()):StableTrack)]) y46.1 y46.2.1) fun y55 =>
cond ((decide (t44.1 > (w64 (t44.2 + p_3))))) (Option.bind (cond ((y55.2 == 0)) (some true) (cond ((y55.2 == 4)) (some true) (some false))) fun c60 =>
some c60) (Option.bind (cond ((y55.2 == 0)) (cond ((y55.1.2.2.1 == 0)) (cond (((lenI y55.1.1) == (lenI y17.1))) (some true) (some false)) (some false)) (some false)) fun c66 =>
some c66)))))
end Go.Ai.Sx
