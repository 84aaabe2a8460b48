/- The examples of this seat's laws, settled once. -/
import Derived.Test.YtmnbnppfidghoaaM6
import Derived.Test.YtmnbnppfidghoaaM2
import Derived.Test.YtmnbnppfidghoaaM7
set_option linter.unusedSimpArgs false
set_option linter.unusedVariables false
set_option linter.unusedSectionVars false
namespace Go.Ai.TabYtmnbnppfidghoaa
open Go Go.Ai Go.Ai.Sx Go.Proofs
def isTrue : Option (CRes × AHeap) → Bool
 | some (.ret (.bool true), _) => true
 | _ => false
theorem isTrue_of {x : Option (CRes × AHeap)} (h : isTrue x = true) : ∃ h', x = some (.ret (.bool true), h') := by
 unfold isTrue at h
 split at h
 ·exact ⟨_, rfl⟩
 ·cases h
theorem known : isTrue (acallFn tab (aexec tab 300) 5 [] ⟨.leaf, 0, 0⟩) = true := by kernel_rfl
noncomputable def tab1 : Tab := { tab with consts := tab.consts.set 5 (konst (.bool true)) }
theorem tab1_ok : tab1.Ok Try.prog := by
 obtain ⟨h', h⟩ := isTrue_of known
 exact tab_ok.const h
noncomputable def ktab : Tab := { tab1 with consts := tab1.consts.set 87 sqrtP }
theorem sqrtP_inv {xs : List AVal} {v : AVal} (h : sqrtP xs = some v) : ∃ b r, xs = [.float .f64 b] ∧ v = .float .f64 r ∧ FloatKind.f64.format.sqrt b = some r := by
 unfold sqrtP at h
 split at h
 ·rename_i b
  cases e : FloatKind.f64.format.sqrt b with
  | none => rw [e] at h; cases h
  | some r => rw [e] at h; cases h; exact ⟨b, r, rfl, rfl, e⟩
 ·cases h
theorem ktab_ok : ktab.Ok Try.prog := tab1_ok.prim ⟨Try.f87, Try.func87, by kernel_rfl, by kernel_rfl⟩ fun xs v h ρ xs' w hx => by
 obtain ⟨b, r, rfl, rfl, hr⟩ := sqrtP_inv h
 have hlen := hx.1
 have hat := hx.2
 cases hl : xs'.toList with
 | nil => rw [hl] at hlen; cases hlen
 | cons x0 rest =>
  have hrest : rest = [] := by
   rw [hl] at hlen
   cases rest with
   | nil => rfl
   | cons y r => simp at hlen
  subst hrest
  have h0 := hat 0 (.float .f64 b) x0 rfl (by rw [hl]; rfl)
  cases h0
  have e2 : xs' = #[.float .f64 b] := Array.toList_inj.1 hl
  rw [e2]
  exact (sqrt_calls hr w).mono fun e w' ⟨h1, h2⟩ => ⟨_, h1, .float .f64 r, h2⟩
end Go.Ai.TabYtmnbnppfidghoaa

/- Written by program: the data of the functions, and the functions as plain Lean. -/
namespace Go.Ai.Sx
abbrev Spot : Type := Int × Int × Unit
abbrev RailEnd : Type := Int × Bool × Unit
abbrev ANode : Type := Spot × Int × (List RailEnd) × Int × Unit
abbrev Rail : Type := Int × Int × (List Spot) × Int × Int × Unit
abbrev Plan : Type := (List ANode) × (List Rail) × Unit
abbrev StableTrack : Type := Int × Bool × Unit
abbrev StableCar : Type := Int × Int × Int × Int × Unit
abbrev StableLeave : Type := Int × Int × Unit
abbrev depot_night : Type := (List StableTrack) × (List StableCar) × (List StableLeave) × Unit
abbrev StablePlan : Type := (List Int) × (List Int) × Int × Unit
abbrev StableMove : Type := Int × Int × Int × Unit
abbrev WashJob : Type := Int × Int × Int × Unit
abbrev depot_wash : Type := (List Int) × Int × Int × Unit
abbrev track_network : Type := Plan × (List Int) × (List (RailEnd × Int)) × Unit
abbrev track_networkN12 : Type := Plan × Unit × AVal × Unit
abbrev AMove : Type := Int × Bool × Unit
abbrev rSpot : Rep Spot := (rPair (rInt .i64) (rPair (rInt .i64) rUnit))
theorem fk_Spot_0 : FOk rSpot 0 (rInt .i64) (fun x => x.1) (fun x y => (y, x.2.1, ())) := FOk.off FOk.here rfl
theorem fk_Spot_1 : FOk rSpot 1 (rInt .i64) (fun x => x.2.1) (fun x y => (x.1, y, ())) := FOk.off (FOk.there FOk.here) rfl
abbrev rRailEnd : Rep RailEnd := (rPair (rInt .i64) (rPair rBool rUnit))
theorem fk_RailEnd_0 : FOk rRailEnd 0 (rInt .i64) (fun x => x.1) (fun x y => (y, x.2.1, ())) := FOk.off FOk.here rfl
theorem fk_RailEnd_1 : FOk rRailEnd 1 rBool (fun x => x.2.1) (fun x y => (x.1, y, ())) := FOk.off (FOk.there FOk.here) rfl
abbrev rANode : Rep ANode := (rPair rSpot (rPair (rInt .i64) (rPair (rSlice rRailEnd) (rPair (rInt .i64) rUnit))))
theorem fk_ANode_0 : FOk rANode 0 rSpot (fun x => x.1) (fun x y => (y, x.2.1, x.2.2.1, x.2.2.2.1, ())) := FOk.off FOk.here rfl
theorem fk_ANode_1 : FOk rANode 2 (rInt .i64) (fun x => x.2.1) (fun x y => (x.1, y, x.2.2.1, x.2.2.2.1, ())) := FOk.off (FOk.there FOk.here) rfl
theorem fk_ANode_2 : FOk rANode 3 (rSlice rRailEnd) (fun x => x.2.2.1) (fun x y => (x.1, x.2.1, y, x.2.2.2.1, ())) := FOk.off (FOk.there (FOk.there FOk.here)) rfl
theorem fk_ANode_3 : FOk rANode 4 (rInt .i64) (fun x => x.2.2.2.1) (fun x y => (x.1, x.2.1, x.2.2.1, y, ())) := FOk.off (FOk.there (FOk.there (FOk.there FOk.here))) rfl
abbrev rRail : Rep Rail := (rPair (rInt .i64) (rPair (rInt .i64) (rPair (rSlice rSpot) (rPair (rInt .i64) (rPair (rInt .i64) rUnit)))))
theorem fk_Rail_0 : FOk rRail 0 (rInt .i64) (fun x => x.1) (fun x y => (y, x.2.1, x.2.2.1, x.2.2.2.1, x.2.2.2.2.1, ())) := FOk.off FOk.here rfl
theorem fk_Rail_1 : FOk rRail 1 (rInt .i64) (fun x => x.2.1) (fun x y => (x.1, y, x.2.2.1, x.2.2.2.1, x.2.2.2.2.1, ())) := FOk.off (FOk.there FOk.here) rfl
theorem fk_Rail_2 : FOk rRail 2 (rSlice rSpot) (fun x => x.2.2.1) (fun x y => (x.1, x.2.1, y, x.2.2.2.1, x.2.2.2.2.1, ())) := FOk.off (FOk.there (FOk.there FOk.here)) rfl
theorem fk_Rail_3 : FOk rRail 3 (rInt .i64) (fun x => x.2.2.2.1) (fun x y => (x.1, x.2.1, x.2.2.1, y, x.2.2.2.2.1, ())) := FOk.off (FOk.there (FOk.there (FOk.there FOk.here))) rfl
theorem fk_Rail_4 : FOk rRail 4 (rInt .i64) (fun x => x.2.2.2.2.1) (fun x y => (x.1, x.2.1, x.2.2.1, x.2.2.2.1, y, ())) := FOk.off (FOk.there (FOk.there (FOk.there (FOk.there FOk.here)))) rfl
abbrev rPlan : Rep Plan := (rPair (rSlice rANode) (rPair (rSlice rRail) rUnit))
theorem fk_Plan_0 : FOk rPlan 0 (rSlice rANode) (fun x => x.1) (fun x y => (y, x.2.1, ())) := FOk.off FOk.here rfl
theorem fk_Plan_1 : FOk rPlan 1 (rSlice rRail) (fun x => x.2.1) (fun x y => (x.1, y, ())) := FOk.off (FOk.there FOk.here) rfl
abbrev rStableTrack : Rep StableTrack := (rPair (rInt .i64) (rPair rBool rUnit))
theorem fk_StableTrack_0 : FOk rStableTrack 0 (rInt .i64) (fun x => x.1) (fun x y => (y, x.2.1, ())) := FOk.off FOk.here rfl
theorem fk_StableTrack_1 : FOk rStableTrack 1 rBool (fun x => x.2.1) (fun x y => (x.1, y, ())) := FOk.off (FOk.there FOk.here) rfl
abbrev rStableCar : Rep StableCar := (rPair (rInt .i64) (rPair (rInt .i64) (rPair (rInt .i64) (rPair (rInt .i64) rUnit))))
theorem fk_StableCar_0 : FOk rStableCar 0 (rInt .i64) (fun x => x.1) (fun x y => (y, x.2.1, x.2.2.1, x.2.2.2.1, ())) := FOk.off FOk.here rfl
theorem fk_StableCar_1 : FOk rStableCar 1 (rInt .i64) (fun x => x.2.1) (fun x y => (x.1, y, x.2.2.1, x.2.2.2.1, ())) := FOk.off (FOk.there FOk.here) rfl
theorem fk_StableCar_2 : FOk rStableCar 2 (rInt .i64) (fun x => x.2.2.1) (fun x y => (x.1, x.2.1, y, x.2.2.2.1, ())) := FOk.off (FOk.there (FOk.there FOk.here)) rfl
theorem fk_StableCar_3 : FOk rStableCar 3 (rInt .i64) (fun x => x.2.2.2.1) (fun x y => (x.1, x.2.1, x.2.2.1, y, ())) := FOk.off (FOk.there (FOk.there (FOk.there FOk.here))) rfl
abbrev rStableLeave : Rep StableLeave := (rPair (rInt .i64) (rPair (rInt .i64) rUnit))
theorem fk_StableLeave_0 : FOk rStableLeave 0 (rInt .i64) (fun x => x.1) (fun x y => (y, x.2.1, ())) := FOk.off FOk.here rfl
theorem fk_StableLeave_1 : FOk rStableLeave 1 (rInt .i64) (fun x => x.2.1) (fun x y => (x.1, y, ())) := FOk.off (FOk.there FOk.here) rfl
abbrev rdepot_night : Rep depot_night := (rPair (rSlice rStableTrack) (rPair (rSlice rStableCar) (rPair (rSlice rStableLeave) rUnit)))
theorem fk_depot_night_0 : FOk rdepot_night 0 (rSlice rStableTrack) (fun x => x.1) (fun x y => (y, x.2.1, x.2.2.1, ())) := FOk.off FOk.here rfl
theorem fk_depot_night_1 : FOk rdepot_night 1 (rSlice rStableCar) (fun x => x.2.1) (fun x y => (x.1, y, x.2.2.1, ())) := FOk.off (FOk.there FOk.here) rfl
theorem fk_depot_night_2 : FOk rdepot_night 2 (rSlice rStableLeave) (fun x => x.2.2.1) (fun x y => (x.1, x.2.1, y, ())) := FOk.off (FOk.there (FOk.there FOk.here)) rfl
abbrev rStablePlan : Rep StablePlan := (rPair (rSlice (rInt .i64)) (rPair (rSlice (rInt .i64)) (rPair (rInt .i64) rUnit)))
theorem fk_StablePlan_0 : FOk rStablePlan 0 (rSlice (rInt .i64)) (fun x => x.1) (fun x y => (y, x.2.1, x.2.2.1, ())) := FOk.off FOk.here rfl
theorem fk_StablePlan_1 : FOk rStablePlan 1 (rSlice (rInt .i64)) (fun x => x.2.1) (fun x y => (x.1, y, x.2.2.1, ())) := FOk.off (FOk.there FOk.here) rfl
theorem fk_StablePlan_2 : FOk rStablePlan 2 (rInt .i64) (fun x => x.2.2.1) (fun x y => (x.1, x.2.1, y, ())) := FOk.off (FOk.there (FOk.there FOk.here)) rfl
abbrev rStableMove : Rep StableMove := (rPair (rInt .i64) (rPair (rInt .i64) (rPair (rInt .i64) rUnit)))
abbrev rWashJob : Rep WashJob := (rPair (rInt .i64) (rPair (rInt .i64) (rPair (rInt .i64) rUnit)))
theorem fk_WashJob_0 : FOk rWashJob 0 (rInt .i64) (fun x => x.1) (fun x y => (y, x.2.1, x.2.2.1, ())) := FOk.off FOk.here rfl
theorem fk_WashJob_1 : FOk rWashJob 1 (rInt .i64) (fun x => x.2.1) (fun x y => (x.1, y, x.2.2.1, ())) := FOk.off (FOk.there FOk.here) rfl
theorem fk_WashJob_2 : FOk rWashJob 2 (rInt .i64) (fun x => x.2.2.1) (fun x y => (x.1, x.2.1, y, ())) := FOk.off (FOk.there (FOk.there FOk.here)) rfl
abbrev rdepot_wash : Rep depot_wash := (rPair (rSlice (rInt .i64)) (rPair (rInt .i64) (rPair (rInt .i64) rUnit)))
theorem fk_depot_wash_0 : FOk rdepot_wash 0 (rSlice (rInt .i64)) (fun x => x.1) (fun x y => (y, x.2.1, x.2.2.1, ())) := FOk.off FOk.here rfl
theorem fk_depot_wash_1 : FOk rdepot_wash 1 (rInt .i64) (fun x => x.2.1) (fun x y => (x.1, y, x.2.2.1, ())) := FOk.off (FOk.there FOk.here) rfl
theorem fk_depot_wash_2 : FOk rdepot_wash 2 (rInt .i64) (fun x => x.2.2.1) (fun x y => (x.1, x.2.1, y, ())) := FOk.off (FOk.there (FOk.there FOk.here)) rfl
abbrev rtrack_network : Rep track_network := (rPair rPlan (rPair (rSlice (rInt .i64)) (rPair (rMap rRailEnd (rInt .i64)) rUnit)))
theorem fk_track_network_0 : FOk rtrack_network 0 rPlan (fun x => x.1) (fun x y => (y, x.2.1, x.2.2.1, ())) := FOk.off FOk.here rfl
theorem fk_track_network_1 : FOk rtrack_network 2 (rSlice (rInt .i64)) (fun x => x.2.1) (fun x y => (x.1, y, x.2.2.1, ())) := FOk.off (FOk.there FOk.here) rfl
theorem fk_track_network_2 : FOk rtrack_network 3 (rMap rRailEnd (rInt .i64)) (fun x => x.2.2.1) (fun x y => (x.1, x.2.1, y, ())) := FOk.off (FOk.there (FOk.there FOk.here)) rfl
abbrev rtrack_networkN12 : Rep track_networkN12 := (rPair rPlan (rPair rNil (rPair rRaw rUnit)))
abbrev rAMove : Rep AMove := (rPair (rInt .i64) (rPair rBool rUnit))
theorem fk_AMove_0 : FOk rAMove 0 (rInt .i64) (fun x => x.1) (fun x y => (y, x.2.1, ())) := FOk.off FOk.here rfl
def g_law09_brief (p_0 : Plan) : Option (Bool) :=
Option.bind (iter (σ := (Int)) (τ := Unit ⊕ (Bool)) (fun s4 =>
cond ((decide (s4 < (lenI p_0.1)))) (Option.bind (idx p_0.1 s4) fun x7 =>
cond ((decide ((lenI x7.2.2.1) > 10))) (some (.inr ((.inr false)))) (some (.inl ((w64 (s4 + 1)))))) (some (.inr ((.inl (())))))) big 0) fun t9 =>
alt (fun b11 => Option.bind (cond ((decide ((lenI p_0.2.1) ≤ 12))) (some ((decide ((lenI p_0.1) ≤ 16)))) (some false)) fun c14 =>
some c14) (fun b12 => some b12) t9
def g_depot_within (n_0 : Int) (low_1 : Int) (high_2 : Int) : Option (Bool) :=
Option.bind (cond ((decide (n_0 ≥ low_1))) (some ((decide (n_0 ≤ high_2)))) (some false)) fun c2 =>
some c2
def g_slices_Index_int_int (s_0 : (List Int)) (v_1 : Int) : Option (Int) :=
Option.bind (iter (σ := (Int)) (τ := Unit ⊕ (Int)) (fun s4 =>
cond ((decide (s4 < (lenI s_0)))) (Option.bind (idx s_0 s4) fun x7 =>
cond ((v_1 == x7)) (some (.inr ((.inr s4)))) (some (.inl ((w64 (s4 + 1)))))) (some (.inr ((.inl (())))))) big 0) fun t9 =>
alt (fun b11 => some ((-1))) (fun b12 => some b12) t9
def g_slices_Contains_int_int (s_0 : (List Int)) (v_1 : Int) : Option (Bool) :=
Option.bind (g_slices_Index_int_int s_0 v_1) fun y1 =>
some ((decide (y1 ≥ 0)))
def g_track_within (x_0 : Int) (low_1 : Int) (high_2 : Int) : Option (Bool) :=
Option.bind (cond ((decide (x_0 ≥ low_1))) (some ((decide (x_0 ≤ high_2)))) (some false)) fun c2 =>
some c2
def g_slices_IndexFunc_api_Node_api_Node (s_0 : (List ANode)) (f_1 : ((ANode) → Option (Bool))) : Option (Int) :=
Option.bind (iter (σ := (Int)) (τ := Unit ⊕ (Int)) (fun s5 =>
cond ((decide (s5 < (lenI s_0)))) (Option.bind (idx s_0 s5) fun x8 =>
Option.bind (f_1 x8) fun y9 =>
cond (y9) (some (.inr ((.inr s5)))) (some (.inl ((w64 (s5 + 1)))))) (some (.inr ((.inl (())))))) big 0) fun t11 =>
alt (fun b13 => some ((-1))) (fun b14 => some b14) t11
def g_slices_ContainsFunc_api_Node_api_Node (s_0 : (List ANode)) (f_1 : ((ANode) → Option (Bool))) : Option (Bool) :=
Option.bind (g_slices_IndexFunc_api_Node_api_Node s_0 f_1) fun y1 =>
some ((decide (y1 ≥ 0)))
def g_track_spot (s_0 : Spot) : Option (Bool) :=
Option.bind (Option.bind (g_track_within s_0.1 ((-10000000)) 10000000) fun y5 =>
cond (y5) (Option.bind (g_track_within s_0.2.1 ((-10000000)) 10000000) fun y7 =>
some y7) (some false)) fun c4 =>
some c4
def g_track_sizes  : Option ((List Int)) :=
some ((List.replicate 1 0 ++ ([1, 2, 4, 3, 3, 3] : (List Int))))
def g_track_node (n_0 : ANode) : Option (Bool) :=
Option.bind (cond ((decide (n_0.2.1 < 1))) (some true) (cond ((decide (n_0.2.1 > 6))) (some true) (Option.bind (g_track_spot n_0.1) fun y16 =>
cond ((!y16)) (some true) (Option.bind (g_track_sizes) fun y18 =>
Option.bind (idx y18 n_0.2.1) fun x19 =>
some (((lenI n_0.2.2.1) != x19)))))) fun c13 =>
cond (c13) (some false) (Option.bind (cond ((n_0.2.1 == 5)) (some true) (some ((n_0.2.1 == 6)))) fun c22 =>
cond (c22) (Option.bind (g_track_within n_0.2.2.2.1 1 2) fun y25 =>
some y25) (some ((n_0.2.2.2.1 == 0))))
def g_track_Check_1 (n_0 : ANode) : Option (Bool) :=
Option.bind (g_track_node n_0) fun y1 =>
some ((!y1))
def g_slices_IndexFunc_api_Rail_api_Rail (s_0 : (List Rail)) (f_1 : ((Rail) → Option (Bool))) : Option (Int) :=
Option.bind (iter (σ := (Int)) (τ := Unit ⊕ (Int)) (fun s5 =>
cond ((decide (s5 < (lenI s_0)))) (Option.bind (idx s_0 s5) fun x8 =>
Option.bind (f_1 x8) fun y9 =>
cond (y9) (some (.inr ((.inr s5)))) (some (.inl ((w64 (s5 + 1)))))) (some (.inr ((.inl (())))))) big 0) fun t11 =>
alt (fun b13 => some ((-1))) (fun b14 => some b14) t11
def g_slices_ContainsFunc_api_Rail_api_Rail (s_0 : (List Rail)) (f_1 : ((Rail) → Option (Bool))) : Option (Bool) :=
Option.bind (g_slices_IndexFunc_api_Rail_api_Rail s_0 f_1) fun y1 =>
some ((decide (y1 ≥ 0)))
def g_slices_Grow_api_Spot_api_Spot (n_1 : Int) : Option ((List Spot)) :=
cond ((decide (n_1 < 0))) (none) (cond ((decide ((w64 (n_1 - (w64 (0 - 0)))) > 0))) (Option.bind (appzO 16 ((w64 (n_1 - (w64 (0 - 0))))) ((0, 0, ()) : Spot)) fun x3 =>
Option.bind (slz x3) fun x5 =>
some (([] : List Spot))) (some ([])))
def g_slices_Concat_api_Spot_api_Spot (slices_0 : (List (List Spot))) : Option ((List Spot)) :=
Option.bind (iter (σ := (Int × Int)) (τ := (Int)) (fun s4 =>
cond ((decide (s4.2 < (lenI slices_0)))) (Option.bind (idx slices_0 s4.2) fun x7 =>
cond ((decide ((w64 (s4.1 + (lenI x7))) < 0))) (none) (some (.inl (((w64 (s4.1 + (lenI x7))), (w64 (s4.2 + 1))))))) (some (.inr s4.1))) big ((0, 0))) fun t9 =>
Option.bind (g_slices_Grow_api_Spot_api_Spot t9) fun y11 =>
Option.bind (iter (σ := ((List Spot) × Int)) (τ := ((List Spot))) (fun s17 =>
cond ((decide (s17.2 < (lenI slices_0)))) (Option.bind (idx slices_0 s17.2) fun x20 =>
Option.bind (appO 16 s17.1 x20) fun x21 =>
some (.inl ((x21, (w64 (s17.2 + 1)))))) (some (.inr s17.1))) big ((y11, 0))) fun t23 =>
some t23
def g_track_line (p_0 : Plan) (r_1 : Rail) : Option ((List Spot)) :=
Option.bind (idx p_0.1 r_1.1) fun x5 =>
Option.bind (idx p_0.1 r_1.2.1) fun x6 =>
Option.bind (g_slices_Concat_api_Spot_api_Spot ([[x5.1], r_1.2.2.1, [x6.1]])) fun y7 =>
some y7
def g_track_root (n_0 : Int) : Option (Int) :=
Option.bind (FloatKind.f64.format.sqrt ((FloatKind.f64.nearest n_0))) fun x1 =>
Option.bind (f2i x1) fun x2 =>
Option.bind (iter (σ := (Int)) (τ := (Int)) (fun s4 =>
cond ((decide ((w64 (s4 * s4)) > n_0))) (some (.inl ((w64 (s4 - 1))))) (some (.inr s4))) big x2) fun t7 =>
Option.bind (iter (σ := (Int)) (τ := (Int)) (fun s10 =>
cond ((decide ((w64 ((w64 (s10 + 1)) * (w64 (s10 + 1)))) ≤ n_0))) (some (.inl ((w64 (s10 + 1))))) (some (.inr s10))) big t7) fun t13 =>
some t13
def g_track_span (a_0 : Spot) (b_1 : Spot) : Option (Int) :=
Option.bind (g_track_root ((w64 ((w64 ((w64 (a_0.1 - b_1.1)) * (w64 (a_0.1 - b_1.1)))) + (w64 ((w64 (a_0.2.1 - b_1.2.1)) * (w64 (a_0.2.1 - b_1.2.1)))))))) fun y1 =>
some y1
def g_track_rail (p_0 : Plan) (p_1 : Rail) : Option (Bool) :=
Option.bind (Option.bind (g_track_within p_1.1 0 ((w64 ((lenI p_0.1) - 1)))) fun y10 =>
cond ((!y10)) (some true) (Option.bind (g_track_within p_1.2.1 0 ((w64 ((lenI p_0.1) - 1)))) fun y12 =>
cond ((!y12)) (some true) (cond ((decide ((lenI p_1.2.2.1) > 30))) (some true) (Option.bind (g_track_within p_1.2.2.2.1 1 50000) fun y15 =>
cond ((!y15)) (some true) (Option.bind (g_track_within p_1.2.2.2.2.1 ((-120)) 120) fun y17 =>
some ((!y17))))))) fun c9 =>
cond (c9) (some false) (Option.bind (g_track_line p_0 p_1) fun y19 =>
Option.bind (iter (σ := (Int)) (τ := Unit ⊕ (Bool)) (fun s45 =>
cond ((decide (s45 < (lenI y19)))) (Option.bind (idx y19 s45) fun x48 =>
Option.bind (g_track_spot x48) fun y62 =>
cond ((!y62)) (some (.inr ((.inr false)))) (cond ((decide (s45 > 0))) (Option.bind (idx y19 ((w64 (s45 - 1)))) fun x66 =>
Option.bind (g_track_span x66 x48) fun y67 =>
Option.bind (g_track_within y67 1 1000000) fun y68 =>
cond ((!y68)) (some (.inr ((.inr false)))) (some (.inl ((w64 (s45 + 1)))))) (some (.inl ((w64 (s45 + 1))))))) (some (.inr ((.inl (())))))) big 0) fun t71 =>
alt (fun b73 => some true) (fun b74 => some b74) t71)
def g_track_Check_2 (r_0 : Rail) (p_1 : Plan) : Option (Bool) :=
Option.bind (g_track_rail p_1 r_0) fun y1 =>
some ((!y1))
def g_track_ending (p_0 : Plan) (e_1 : RailEnd) : Option (Int) :=
cond (e_1.2.1) (Option.bind (idx p_0.2.1 e_1.1) fun x2 =>
some x2.2.1) (Option.bind (idx p_0.2.1 e_1.1) fun x3 =>
some x3.1)
def g_track_Check (p_0 : Plan) : Option (Int) :=
Option.bind (Option.bind (g_track_within ((lenI p_0.1)) 1 300) fun y5 =>
cond ((!y5)) (some true) (Option.bind (g_track_within ((lenI p_0.2.1)) 1 400) fun y7 =>
some ((!y7)))) fun c4 =>
cond (c4) (some 2) (Option.bind (Option.bind (g_slices_ContainsFunc_api_Node_api_Node p_0.1 ((fun x => g_track_Check_1 x))) fun y13 =>
cond (y13) (some true) (Option.bind (g_slices_ContainsFunc_api_Rail_api_Rail p_0.2.1 ((fun x => g_track_Check_2 x p_0))) fun y15 =>
some y15)) fun c12 =>
cond (c12) (some 2) (Option.bind (iter (σ := (Int × (List (RailEnd × Bool)))) (τ := ((List (RailEnd × Bool))) ⊕ (Int)) (fun s120 =>
cond ((decide (s120.1 < (lenI p_0.1)))) (Option.bind (idx p_0.1 s120.1) fun x123 =>
Option.bind (iter (σ := (Int × (List (RailEnd × Bool)))) (τ := ((List (RailEnd × Bool))) ⊕ (Int × (List (RailEnd × Bool)))) (fun s153 =>
cond ((decide (s153.1 < (lenI x123.2.2.1)))) (Option.bind (idx x123.2.2.1 s153.1) fun x156 =>
Option.bind (g_track_within x156.1 0 ((w64 ((lenI p_0.2.1) - 1)))) fun y162 =>
cond ((!y162)) (some (.inr ((.inr ((2, s153.2)))))) (cond (((mget s153.2 x156).getD false)) (some (.inr ((.inr ((2, s153.2)))))) (Option.bind (g_track_ending p_0 x156) fun y167 =>
cond ((y167 != s120.1)) (some (.inr ((.inr ((2, s153.2)))))) (some (.inl (((w64 (s153.1 + 1)), (mset s153.2 x156 true)))))))) (some (.inr ((.inl s153.2))))) big ((0, s120.2))) fun t169 =>
alt (fun b171 => some (.inl (((w64 (s120.1 + 1)), b171)))) (fun b172 => some (.inr ((.inr b172.1)))) t169) (some (.inr ((.inl s120.2))))) big ((0, ([] : (List (RailEnd × Bool)))))) fun t173 =>
alt (fun b175 => Option.bind (lenmO b175) fun x177 =>
cond ((x177 != (w64 (2 * (lenI p_0.2.1))))) (some 2) (some 0)) (fun b176 => some b176) t173))
def g_track_open (p_0 : Plan) : Option ((Option track_network) × Bool) :=
Option.bind (g_track_Check p_0) fun y1 =>
cond ((y1 != 0)) (some (((none : Option track_network), false))) (Option.bind (iter (σ := (Int × (List Int))) (τ := ((List Int))) (fun s55 =>
cond ((decide (s55.1 < (lenI p_0.2.1)))) (Option.bind (idx p_0.2.1 s55.1) fun x58 =>
Option.bind (g_track_line p_0 x58) fun y60 =>
Option.bind (iter (σ := (Int × Int)) (τ := (Int)) (fun s69 =>
cond ((decide (s69.2 < (lenI y60)))) (Option.bind (idx y60 ((w64 (s69.2 - 1)))) fun x75 =>
Option.bind (idx y60 s69.2) fun x76 =>
Option.bind (g_track_span x75 x76) fun y77 =>
some (.inl (((w64 (s69.1 + y77)), (w64 (s69.2 + 1)))))) (some (.inr s69.1))) big ((0, 1))) fun t78 =>
Option.bind (appO 8 s55.2 ([t78])) fun x80 =>
some (.inl (((w64 (s55.1 + 1)), x80)))) (some (.inr s55.2))) big ((0, []))) fun t82 =>
Option.bind (iter (σ := (Int × (List (RailEnd × Int)))) (τ := ((List (RailEnd × Int)))) (fun s116 =>
cond ((decide (s116.1 < (lenI p_0.1)))) (Option.bind (idx p_0.1 s116.1) fun x119 =>
Option.bind (iter (σ := (Int × (List (RailEnd × Int)))) (τ := ((List (RailEnd × Int)))) (fun s127 =>
cond ((decide (s127.1 < (lenI x119.2.2.1)))) (Option.bind (idx x119.2.2.1 s127.1) fun x130 =>
some (.inl (((w64 (s127.1 + 1)), (mset s127.2 x130 s127.1))))) (some (.inr s127.2))) big ((0, s116.2))) fun t132 =>
some (.inl (((w64 (s116.1 + 1)), t132)))) (some (.inr s116.2))) big ((0, ([] : (List (RailEnd × Int)))))) fun t134 =>
some (((some (((p_0.1, p_0.2.1, ()), t82, t134, ()))), true)))
def g_track_network_has (n_0 : track_network) (m_1 : AMove) : Option (Bool) :=
Option.bind (g_track_within m_1.1 0 ((w64 ((lenI n_0.1.2.1) - 1)))) fun y2 =>
some y2
def g_track_Length (p_0 : Plan) (rail_1 : Int) : Option (Int × Int) :=
Option.bind (g_track_open p_0) fun y1 =>
Option.bind (cond ((!y1.2)) (some true) (Option.bind (y1.1) fun p7 =>
Option.bind (g_track_network_has p7 (((rail_1, false, ()) : AMove))) fun y8 =>
some ((!y8)))) fun c5 =>
cond (c5) (some ((0, 2))) (Option.bind (y1.1) fun p10 =>
Option.bind (idx p10.2.1 rail_1) fun x11 =>
some ((x11, 0)))
def g_depot_Tracks_1 (node_0 : Int) (p_1 : Plan) : Option (Bool) :=
Option.bind (idx p_1.1 node_0) fun x1 =>
some ((x1.2.1 == 1))
def g_depot_Tracks (p_0 : Plan) (p_1 : (List Int)) : Option ((List StableTrack) × Int) :=
Option.bind (Option.bind (g_track_Check p_0) fun y5 =>
cond ((y5 != 0)) (some true) (Option.bind (g_depot_within ((lenI p_1)) 1 5) fun y7 =>
some ((!y7)))) fun c4 =>
cond (c4) (some (([], 2))) (Option.bind (iter (σ := ((List StableTrack) × Int)) (τ := ((List StableTrack)) ⊕ ((List StableTrack) × Int)) (fun s38 =>
cond ((decide (s38.2 < (lenI p_1)))) (Option.bind (idx p_1 s38.2) fun x41 =>
Option.bind (g_track_Length p_0 x41) fun y42 =>
cond ((y42.2 != 0)) (some (.inr ((.inr (([], 2)))))) (Option.bind (slO p_1 0 s38.2) fun x48 =>
Option.bind (g_slices_Contains_int_int x48 x41) fun y49 =>
cond (y49) (some (.inr ((.inr (([], 2)))))) (Option.bind (idx p_0.2.1 x41) fun x60 =>
Option.bind (((fun x => g_depot_Tracks_1 x p_0)) x60.1) fun y61 =>
cond ((!y61)) (Option.bind (idx p_0.2.1 x41) fun x63 =>
Option.bind (((fun x => g_depot_Tracks_1 x p_0)) x63.2.1) fun y64 =>
Option.bind (appO 16 s38.1 ([(((min y42.1 10000000), (!y64), ()) : StableTrack)])) fun x65 =>
some (.inl ((x65, (w64 (s38.2 + 1)))))) (Option.bind (appO 16 s38.1 ([(((min y42.1 10000000), false, ()) : StableTrack)])) fun x67 =>
some (.inl ((x67, (w64 (s38.2 + 1))))))))) (some (.inr ((.inl s38.1))))) big (([], 0))) fun t69 =>
alt (fun b71 => some ((b71, 0))) (fun b72 => some ((b72.1, b72.2))) t69)
def g_ref01_in (n_0 : Int) (low_1 : Int) (high_2 : Int) : Option (Bool) :=
Option.bind (cond ((decide (n_0 ≥ low_1))) (some ((decide (n_0 ≤ high_2)))) (some false)) fun c2 =>
some c2
def g_ref01_spot (s_0 : Spot) : Option (Bool) :=
Option.bind (Option.bind (g_ref01_in s_0.1 ((-10000000)) 10000000) fun y5 =>
cond (y5) (Option.bind (g_ref01_in s_0.2.1 ((-10000000)) 10000000) fun y7 =>
some y7) (some false)) fun c4 =>
some c4
def g_ref01_ends (k_0 : Int) : Option (Int) :=
cond ((k_0 == 1)) (some 1) (cond ((k_0 == 2)) (some 2) (cond ((k_0 == 3)) (some 4) (cond ((k_0 == 4)) (cond ((k_0 == 4)) (some 3) (some 0)) (cond ((k_0 == 5)) (cond ((k_0 == 5)) (some 3) (some 0)) (cond ((k_0 == 6)) (some 3) (some 0))))))
def g_ref01_Line (p_0 : Plan) (rail_1 : Int) : Option ((List Spot)) :=
Option.bind (idx p_0.2.1 rail_1) fun x1 =>
Option.bind (idx p_0.1 x1.1) fun x3 =>
Option.bind (appO 16 ([x3.1]) x1.2.2.1) fun x5 =>
Option.bind (idx p_0.1 x1.2.1) fun x7 =>
Option.bind (appO 16 x5 ([x7.1])) fun x8 =>
some x8
def g_ref01_Root (n_0 : Int) : Option (Int) :=
Option.bind (iter (σ := (Int × Int)) (τ := (Int)) (fun s4 =>
cond ((decide ((w64 (s4.2 - s4.1)) > 1))) (Option.bind (divO .i64 ((w64 (s4.1 + s4.2))) 2) fun x7 =>
cond ((decide ((w64 (x7 * x7)) ≤ n_0))) (some (.inl ((x7, s4.2)))) (some (.inl ((s4.1, x7))))) (some (.inr s4.1))) big ((0, 30000000))) fun t9 =>
some t9
def g_ref01_Far (a_0 : Spot) (b_1 : Spot) : Option (Int) :=
Option.bind (g_ref01_Root ((w64 ((w64 ((w64 (a_0.1 - b_1.1)) * (w64 (a_0.1 - b_1.1)))) + (w64 ((w64 (a_0.2.1 - b_1.2.1)) * (w64 (a_0.2.1 - b_1.2.1)))))))) fun y1 =>
some y1
def g_ref01_at (p_0 : Plan) (e_1 : RailEnd) : Option (Int) :=
cond (e_1.2.1) (Option.bind (idx p_0.2.1 e_1.1) fun x2 =>
some x2.2.1) (Option.bind (idx p_0.2.1 e_1.1) fun x3 =>
some x3.1)
def g_ref01_Valid (p_0 : Plan) : Option (Bool) :=
Option.bind (Option.bind (g_ref01_in ((lenI p_0.1)) 1 300) fun y5 =>
cond ((!y5)) (some true) (Option.bind (g_ref01_in ((lenI p_0.2.1)) 1 400) fun y7 =>
some ((!y7)))) fun c4 =>
cond (c4) (some false) (Option.bind (iter (σ := (Int)) (τ := Unit ⊕ (Bool)) (fun s84 =>
cond ((decide (s84 < (lenI p_0.1)))) (Option.bind (idx p_0.1 s84) fun x87 =>
cond ((x87.2.1 == 5)) (Option.bind (g_ref01_in x87.2.2.2.1 1 2) fun y92 =>
Option.bind (g_ref01_spot x87.1) fun y105 =>
cond ((!y105)) (some (.inr ((.inr false)))) (Option.bind (g_ref01_ends x87.2.1) fun y108 =>
cond ((y108 == 0)) (some (.inr ((.inr false)))) (Option.bind (g_ref01_ends x87.2.1) fun y111 =>
cond (((lenI x87.2.2.1) != y111)) (some (.inr ((.inr false)))) (cond ((!y92)) (some (.inr ((.inr false)))) (some (.inl ((w64 (s84 + 1))))))))) (cond ((x87.2.1 == 6)) (Option.bind (g_ref01_in x87.2.2.2.1 1 2) fun y116 =>
Option.bind (g_ref01_spot x87.1) fun y129 =>
cond ((!y129)) (some (.inr ((.inr false)))) (Option.bind (g_ref01_ends x87.2.1) fun y132 =>
cond ((y132 == 0)) (some (.inr ((.inr false)))) (Option.bind (g_ref01_ends x87.2.1) fun y135 =>
cond (((lenI x87.2.2.1) != y135)) (some (.inr ((.inr false)))) (cond ((!y116)) (some (.inr ((.inr false)))) (some (.inl ((w64 (s84 + 1))))))))) (Option.bind (g_ref01_spot x87.1) fun y151 =>
cond ((!y151)) (some (.inr ((.inr false)))) (Option.bind (g_ref01_ends x87.2.1) fun y154 =>
cond ((y154 == 0)) (some (.inr ((.inr false)))) (Option.bind (g_ref01_ends x87.2.1) fun y157 =>
cond (((lenI x87.2.2.1) != y157)) (some (.inr ((.inr false)))) (cond ((!(x87.2.2.2.1 == 0))) (some (.inr ((.inr false)))) (some (.inl ((w64 (s84 + 1))))))))))) (some (.inr ((.inl (())))))) big 0) fun t161 =>
alt (fun b163 => Option.bind (iter (σ := (Int)) (τ := Unit ⊕ (Bool)) (fun s231 =>
cond ((decide (s231 < (lenI p_0.2.1)))) (Option.bind (idx p_0.2.1 s231) fun x234 =>
Option.bind (g_ref01_in x234.1 0 ((w64 ((lenI p_0.1) - 1)))) fun y244 =>
cond ((!y244)) (some (.inr ((.inr false)))) (Option.bind (g_ref01_in x234.2.1 0 ((w64 ((lenI p_0.1) - 1)))) fun y247 =>
cond ((!y247)) (some (.inr ((.inr false)))) (cond ((decide ((lenI x234.2.2.1) > 30))) (some (.inr ((.inr false)))) (Option.bind (g_ref01_in x234.2.2.2.1 1 50000) fun y252 =>
cond ((!y252)) (some (.inr ((.inr false)))) (Option.bind (g_ref01_in x234.2.2.2.2.1 ((-120)) 120) fun y255 =>
cond ((!y255)) (some (.inr ((.inr false)))) (Option.bind (iter (σ := (Int)) (τ := Unit ⊕ (Bool)) (fun s261 =>
cond ((decide (s261 < (lenI x234.2.2.1)))) (Option.bind (idx x234.2.2.1 s261) fun x264 =>
Option.bind (g_ref01_spot x264) fun y265 =>
cond ((!y265)) (some (.inr ((.inr false)))) (some (.inl ((w64 (s261 + 1)))))) (some (.inr ((.inl (())))))) big 0) fun t267 =>
alt (fun b269 => Option.bind (g_ref01_Line p_0 s231) fun y271 =>
Option.bind (iter (σ := (Int)) (τ := Unit ⊕ (Bool)) (fun s283 =>
cond ((decide (s283 < (lenI y271)))) (Option.bind (idx y271 ((w64 (s283 - 1)))) fun x290 =>
Option.bind (idx y271 s283) fun x291 =>
Option.bind (g_ref01_Far x290 x291) fun y292 =>
Option.bind (g_ref01_in y292 1 1000000) fun y293 =>
cond ((!y293)) (some (.inr ((.inr false)))) (some (.inl ((w64 (s283 + 1)))))) (some (.inr ((.inl (())))))) big 1) fun t295 =>
alt (fun b297 => some (.inl ((w64 (s231 + 1))))) (fun b298 => some (.inr ((.inr b298)))) t295) (fun b270 => some (.inr ((.inr b270)))) t267)))))) (some (.inr ((.inl (())))))) big 0) fun t299 =>
alt (fun b301 => Option.bind (iter (σ := ((List RailEnd) × Int)) (τ := ((List RailEnd)) ⊕ (Bool)) (fun s368 =>
cond ((decide (s368.2 < (lenI p_0.1)))) (Option.bind (iter (σ := ((List RailEnd) × Int)) (τ := ((List RailEnd)) ⊕ (Bool)) (fun s400 =>
Option.bind (idx p_0.1 s368.2) fun x402 =>
cond ((decide (s400.2 < (lenI x402.2.2.1)))) (Option.bind (idx p_0.1 s368.2) fun x404 =>
Option.bind (idx x404.2.2.1 s400.2) fun x405 =>
Option.bind (g_ref01_in x405.1 0 ((w64 ((lenI p_0.2.1) - 1)))) fun y410 =>
cond ((!y410)) (some (.inr ((.inr false)))) (Option.bind (g_ref01_at p_0 x405) fun y413 =>
cond ((y413 != s368.2)) (some (.inr ((.inr false)))) (Option.bind (iter (σ := (Int)) (τ := Unit ⊕ (Bool)) (fun s419 =>
cond ((decide (s419 < (lenI s400.1)))) (Option.bind (idx s400.1 s419) fun x423 =>
cond ((x423 == x405)) (some (.inr ((.inr false)))) (some (.inl ((w64 (s419 + 1)))))) (some (.inr ((.inl (())))))) big 0) fun t425 =>
alt (fun b427 => Option.bind (appO 16 s400.1 ([x405])) fun x429 =>
some (.inl ((x429, (w64 (s400.2 + 1)))))) (fun b428 => some (.inr ((.inr b428)))) t425))) (some (.inr ((.inl s400.1))))) big ((s368.1, 0))) fun t431 =>
alt (fun b433 => some (.inl ((b433, (w64 (s368.2 + 1)))))) (fun b434 => some (.inr ((.inr b434)))) t431) (some (.inr ((.inl s368.1))))) big (([], 0))) fun t435 =>
alt (fun b437 => some (((lenI b437) == (w64 (2 * (lenI p_0.2.1)))))) (fun b438 => some b438) t435) (fun b302 => some b302) t299) (fun b164 => some b164) t161)
def g_ref09_in (x_0 : Int) (low_1 : Int) (high_2 : Int) : Option (Bool) :=
Option.bind (cond ((decide (x_0 ≥ low_1))) (some ((decide (x_0 ≤ high_2)))) (some false)) fun c2 =>
some c2
def g_ref09_has (l_0 : (List Int)) (x_1 : Int) : Option (Bool) :=
Option.bind (iter (σ := (Int)) (τ := Unit ⊕ (Bool)) (fun s4 =>
cond ((decide (s4 < (lenI l_0)))) (Option.bind (idx l_0 s4) fun x7 =>
cond ((x7 == x_1)) (some (.inr ((.inr true)))) (some (.inl ((w64 (s4 + 1)))))) (some (.inr ((.inl (())))))) big 0) fun t9 =>
alt (fun b11 => some false) (fun b12 => some b12) t9
def g_ref09_Rails (p_0 : Plan) (l_1 : (List Int)) : Option (Bool) :=
Option.bind (iter (σ := (Int)) (τ := Unit ⊕ (Bool)) (fun s22 =>
cond ((decide (s22 < (lenI l_1)))) (Option.bind (idx l_1 s22) fun x37 =>
Option.bind (g_ref09_in x37 0 ((w64 ((lenI p_0.2.1) - 1)))) fun y38 =>
cond ((!y38)) (some (.inr ((.inr false)))) (Option.bind (slO l_1 0 s22) fun x41 =>
Option.bind (idx l_1 s22) fun x42 =>
Option.bind (g_ref09_has x41 x42) fun y43 =>
cond (y43) (some (.inr ((.inr false)))) (some (.inl ((w64 (s22 + 1))))))) (some (.inr ((.inl (())))))) big 0) fun t45 =>
alt (fun b47 => Option.bind (g_ref09_in ((lenI l_1)) 1 5) fun y49 =>
some y49) (fun b48 => some b48) t45
def g_ref01_Length (p_0 : Plan) (rail_1 : Int) : Option (Int) :=
Option.bind (g_ref01_Line p_0 rail_1) fun y1 =>
Option.bind (iter (σ := (Int × Int)) (τ := (Int)) (fun s10 =>
cond ((decide (s10.2 < (lenI y1)))) (Option.bind (idx y1 ((w64 (s10.2 - 1)))) fun x16 =>
Option.bind (idx y1 s10.2) fun x17 =>
Option.bind (g_ref01_Far x16 x17) fun y18 =>
some (.inl (((w64 (s10.1 + y18)), (w64 (s10.2 + 1)))))) (some (.inr s10.1))) big ((0, 1))) fun t19 =>
some t19
def g_ref09_Tracks (p_0 : Plan) (l_1 : (List Int)) : Option ((List StableTrack)) :=
Option.bind (iter (σ := ((List StableTrack) × Int)) (τ := ((List StableTrack))) (fun s30 =>
cond ((decide (s30.2 < (lenI l_1)))) (Option.bind (idx l_1 s30.2) fun x36 =>
Option.bind (idx p_0.2.1 x36) fun x37 =>
Option.bind (idx p_0.1 x37.1) fun x42 =>
cond ((x42.2.1 != 1)) (Option.bind (idx p_0.1 x37.2.1) fun x44 =>
Option.bind (idx l_1 s30.2) fun x49 =>
Option.bind (g_ref01_Length p_0 x49) fun y50 =>
Option.bind (appO 16 s30.1 ([(((min 10000000 y50), (x44.2.1 != 1), ()) : StableTrack)])) fun x51 =>
some (.inl ((x51, (w64 (s30.2 + 1)))))) (Option.bind (idx l_1 s30.2) fun x57 =>
Option.bind (g_ref01_Length p_0 x57) fun y58 =>
Option.bind (appO 16 s30.1 ([(((min 10000000 y58), false, ()) : StableTrack)])) fun x59 =>
some (.inl ((x59, (w64 (s30.2 + 1))))))) (some (.inr s30.1))) big (([], 0))) fun t61 =>
some t61
def g_law09_DepotTracks (p_0 : Plan) (p_1 : (List Int)) : Option (Bool) :=
Option.bind (Option.bind (g_law09_brief p_0) fun y4 =>
cond ((!y4)) (some true) (some ((decide ((lenI p_1) > 10))))) fun c3 =>
cond (c3) (some true) (Option.bind (g_depot_Tracks p_0 p_1) fun y7 =>
Option.bind (Option.bind (g_ref01_Valid p_0) fun y13 =>
cond ((!y13)) (some true) (Option.bind (g_ref09_Rails p_0 p_1) fun y15 =>
some ((!y15)))) fun c12 =>
cond (c12) (Option.bind (cond ((y7.2 == 2)) (cond (((lenI y7.1) == 0)) (some true) (some false)) (some false)) fun c19 =>
some c19) (Option.bind (g_ref09_Tracks p_0 p_1) fun y22 =>
Option.bind (cond ((y7.2 != 0)) (some true) (some (((lenI y7.1) != (lenI y22))))) fun c25 =>
cond (c25) (some false) (Option.bind (iter (σ := (Int)) (τ := Unit ⊕ (Bool)) (fun s34 =>
cond ((decide (s34 < (lenI y7.1)))) (Option.bind (idx y7.1 s34) fun x39 =>
Option.bind (idx y22 s34) fun x40 =>
cond ((x39 != x40)) (some (.inr ((.inr false)))) (some (.inl ((w64 (s34 + 1)))))) (some (.inr ((.inl (())))))) big 0) fun t42 =>
alt (fun b44 => some true) (fun b45 => some b45) t42)))
end Go.Ai.Sx
