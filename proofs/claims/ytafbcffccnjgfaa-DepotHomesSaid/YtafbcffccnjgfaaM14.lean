/- The depot: the night of a plan of cars. -/
import Derived.Test.YtafbcffccnjgfaaM13
namespace Go.Ai.Sx
open Du (InR T0 Few fine PlanS getD_memx)
def r0 : WorkRules := (0, 0, 0, 0, 0, 0, ())
theorem few_of {t : List Task} {y : Yard} (ht : t.length < 200) (hr : y.2.2.1.length ≤ 50) (hf : fine t y = true) : Few t y := by
 unfold Du.fine Du.head at hf
 simp only [Bool.and_eq_true, decide_eq_true_eq] at hf
 obtain ⟨⟨h1, h2⟩, _⟩ := hf
 rw [List.all_eq_true] at h2
 have hl : y.1.length = y.2.2.1.length := h1.1.2
 refine ⟨ht, hr, by omega, fun x hx => ?_⟩
 obtain ⟨i, hi, rfl⟩ := List.getElem_of_mem hx
 have := h2 i (List.mem_range.2 (by omega))
 unfold Du.rowOk at this
 simp only [Bool.and_eq_true, decide_eq_true_eq] at this
 have h3 := this.1.1
 rw [show y.1.getD i [] = y.1[i] by simp [List.getD, hi]] at h3
 omega
theorem bare_zero {t : List Task} {y : Yard} {p : List (List Int)} (hF : Few t y) (hp : p.length ≤ 80) (hrow : ∀ r ∈ p, r.length ≤ 80) :
    (fine t y = false ∧ g_duty_Bare t y p r0 = some ([], 2)) ∨ (fine t y = true ∧ ∃ b, g_ref08_Plan t y p = some b ∧ g_duty_work_planned (t, y, ()) p = some b ∧ (b = false → g_duty_Bare t y p r0 = some ([], 2)) ∧ (b = true → PlanS t y p ∧ ∃ q, g_duty_Bare t y p r0 = some (q, 0))) := by
  obtain ⟨b, e1, e2, e3⟩ := Du.crewed_eq (r := r0) hF hp hrow
  have no : b = false → g_duty_Bare t y p r0 = some ([], 2) := fun h => by
    subst h
    unfold g_duty_Bare
    rw [e1]; rfl
  rw [Du.fine_eq t y hF] at e3
  cases hf : fine t y with
  | false =>
    rw [hf] at e3
    left
    refine ⟨rfl, no ?_⟩
    cases b
    · rfl
    · cases e3
  | true =>
    right
    obtain ⟨b', k1, k2, k3⟩ := Du.plan_eq hF hf hp hrow
    rw [hf, k2, Du.rules_ref, show Du.rulesB r0 = true by decide] at e3
    have hbb : b = b' := by
      cases b <;> cases b' <;> first | rfl | cases e3
    subst hbb
    refine ⟨rfl, b, k2, k1, no, fun hb => ?_⟩
    subst hb
    have hS := Du.plan_seen hF hf hp hrow k1
    exact ⟨hS, _, Du.bare_prog hF hf (e2 rfl).2.1 hS hp hrow (by rw [e1]; rfl)⟩
section
variable {t : List Task} {y : Yard} {p : List (List Int)} {k l : List Int} {day : Int}
def hlast (t : List Task) (p : List (List Int)) (x : Int) : Task := t.getD ((p.getD x.toNat []).getD ((p.getD x.toNat []).length - 1) 0).toNat T0
def hfirst (t : List Task) (p : List (List Int)) (x : Int) : Task := t.getD ((p.getD x.toNat []).getD 0 0).toNat T0
def fc (t : List Task) (p : List (List Int)) (x : Int) : Int := (hlast t p x).2.2.2.1
def fl (t : List Task) (p : List (List Int)) (day : Int) (x : Int) : Int := (hfirst t p x).2.2.1 + day
def ids (n : Nat) : List Int := rl n fun i => (i : Int)
theorem mem_ids {n : Nat} {x : Int} : x ∈ ids n ↔ 0 ≤ x ∧ x < n := by
 unfold ids rl
 rw [List.mem_map]
 constructor
 ·rintro ⟨i, hi, rfl⟩
  have := List.mem_range.1 hi
  omega
 ·intro h
  exact ⟨x.toNat, List.mem_range.2 (by omega), by omega⟩
theorem fine_task (hf : fine t y = true) {i : Nat} (hi : i < t.length) : 0 ≤ (t.getD i T0).2.2.1 ∧ (t.getD i T0).2.2.1 ≤ (t.getD i T0).2.2.2.1 ∧ (t.getD i T0).2.2.2.1 ≤ 200000 := by
 unfold Du.fine at hf
 simp only [Bool.and_eq_true, List.all_eq_true] at hf
 have := hf.2 i (List.mem_range.2 hi)
 unfold Du.taskOk at this
 simp only [Bool.and_eq_true, decide_eq_true_eq] at this
 exact ⟨this.1.1.2.1, this.1.1.2.2, this.1.2⟩
theorem row_in (hS : PlanS t y p) {x : Int} (hx : 0 ≤ x ∧ x < p.length) : 0 < (p.getD x.toNat []).length ∧ ∀ j, j < (p.getD x.toNat []).length → InR t.length ((p.getD x.toNat []).getD j 0) := by
 refine ⟨hS.nz _ (by omega), fun j hj => hS.rng _ ?_⟩
 rw [List.mem_flatten]
 exact ⟨_, getD_memx (by omega), getD_memx hj⟩
theorem hlast_in (hf : fine t y = true) (hS : PlanS t y p) {x : Int} (hx : 0 ≤ x ∧ x < p.length) : 0 ≤ fc t p x ∧ fc t p x ≤ 200000 := by
 obtain ⟨h1, h2⟩ := row_in hS hx
 obtain ⟨h3, h4⟩ := h2 ((p.getD x.toNat []).length - 1) (by omega)
 have := fine_task hf (i := ((p.getD x.toNat []).getD ((p.getD x.toNat []).length - 1) 0).toNat) (by omega)
 unfold fc hlast
 omega
theorem hfirst_in (hf : fine t y = true) (hS : PlanS t y p) (hd : 0 ≤ day ∧ day ≤ 200000) {x : Int} (hx : 0 ≤ x ∧ x < p.length) : 0 ≤ fl t p day x ∧ fl t p day x ≤ 400000 := by
 obtain ⟨h1, h2⟩ := row_in hS hx
 obtain ⟨h3, h4⟩ := h2 0 (by omega)
 have := fine_task hf (i := ((p.getD x.toNat []).getD 0 0).toNat) (by omega)
 unfold fl hfirst
 omega
theorem home1 (hS : PlanS t y p) (hrow : ∀ r ∈ p, r.length ≤ 80) {x : Int} (hx : 0 ≤ x ∧ x < p.length) : g_depot_Home_1 x t p = some (fc t p x) := by
 obtain ⟨h1, h2⟩ := row_in hS hx
 obtain ⟨h3, h4⟩ := h2 ((p.getD x.toNat []).length - 1) (by omega)
 have h5 := hrow _ (getD_memx (l := p) (i := x.toNat) (d := ([] : List Int)) (by omega))
 have hw : w64 ((lenI (p.getD x.toNat [])) - 1) = (((p.getD x.toNat []).length - 1 : Nat) : Int) := by rw [lenI_eq, w64_in (by omega) (by omega)]; omega
 unfold g_depot_Home_1
 simp only [idx_getD (l := p) (d := ([] : List Int)) hx.1 hx.2, Option.bind_some, hw]
 rw [idx_natD (0 : Int) (show (p.getD x.toNat []).length - 1 < (p.getD x.toNat []).length by omega), Option.bind_some, idx_getD (l := t) (d := T0) h3 h4]
 rfl
theorem home2 (hf : fine t y = true) (hS : PlanS t y p) (hd : 0 ≤ day ∧ day ≤ 200000) {x : Int} (hx : 0 ≤ x ∧ x < p.length) : g_depot_Home_2 x t p day = some (fl t p day x) := by
 obtain ⟨h1, h2⟩ := row_in hS hx
 obtain ⟨h3, h4⟩ := h2 0 (by omega)
 have h5 := hfirst_in hf hS hd hx
 unfold g_depot_Home_2
 simp only [idx_getD (l := p) (d := ([] : List Int)) hx.1 hx.2, Option.bind_some]
 rw [show (0 : Int) = ((0 : Nat) : Int) from rfl, idx_natD (0 : Int) (show 0 < (p.getD x.toNat []).length by omega), Option.bind_some, idx_getD (l := t) (d := T0) h3 h4, Option.bind_some]
 have : w64 ((t.getD ((p.getD x.toNat []).getD 0 0).toNat T0).2.2.1 + day) = fl t p day x := w64_in (by unfold fl hfirst at h5; omega) (by unfold fl hfirst at h5; omega)
 rw [this]
def hcars (t : List Task) (p : List (List Int)) (k l : List Int) (C : List Int) : List StableCar := C.map fun x => (k.getD x.toNat 0, l.getD x.toNat 0, fc t p x, 200000, ())
def hleaves (t : List Task) (p : List (List Int)) (k : List Int) (day : Int) (L : List Int) : List StableLeave := L.map fun x => (k.getD x.toNat 0, fl t p day x, ())
def inTime (t : List Task) (p : List (List Int)) (day : Int) : Bool := (ids p.length).all fun x => decide (fl t p day x ≤ 200000)
def kOk (p : List (List Int)) (k l : List Int) : Bool := (List.range p.length).all fun i => (decide (0 ≤ k.getD i 0) && decide (k.getD i 0 ≤ 100)) && (decide (1 ≤ l.getD i 0) && decide (l.getD i 0 ≤ 10000000))
theorem kinds_loop {ρ : Type} {r : ρ} (hk : k.length = p.length) (hl : l.length = p.length) (hp : p.length < 1000) : iter (σ := Int) (τ := Unit ⊕ ρ) (fun s26 =>
cond ((decide (s26 < (lenI p)))) (Option.bind (idx k s26) fun x34 =>
Option.bind (g_depot_within x34 0 100) fun y35 =>
cond ((!y35)) (some (.inr ((.inr r)))) (Option.bind (idx l s26) fun x38 =>
Option.bind (g_depot_within x38 1 10000000) fun y39 =>
cond ((!y39)) (some (.inr ((.inr r)))) (some (.inl ((w64 (s26 + 1))))))) (some (.inr ((.inl (())))))) big 0 = some (if kOk p k l then .inl () else .inr r) := by
 refine iter_all p.length _ r (by simp only [big]; omega) (fun i hi => ?_) ?_
 ·have hw : w64 ((i : Int) + 1) = i + 1 := w64_in (by omega) (by omega)
  simp only [decide_eq_true (show (i : Int) < lenI p by rw [lenI_eq]; omega), cond_true, idx_natD (l := k) 0 (show i < k.length by omega), idx_natD (l := l) 0 (show i < l.length by omega), Option.bind_some, within_eq, hw]
  generalize (decide (0 ≤ k.getD i 0) && decide (k.getD i 0 ≤ 100)) = b1
  generalize (decide (1 ≤ l.getD i 0) && decide (l.getD i 0 ≤ 10000000)) = b2
  cases b1 <;> cases b2 <;> rfl
 ·simp only [decide_eq_false (show ¬ ((p.length : Nat) : Int) < lenI p by rw [lenI_eq]; omega), cond_false]
theorem kinds_ref (hk : k.length = p.length) (hl : l.length = p.length) (hp : p.length < 1000) : iter (σ := Int) (τ := Unit ⊕ Bool) (fun s30 =>
cond ((decide (s30 < (lenI p)))) (Option.bind (idx k s30) fun x38 =>
Option.bind (g_ref09_in x38 0 100) fun y39 =>
cond ((!y39)) (some (.inr ((.inr false)))) (Option.bind (idx l s30) fun x42 =>
Option.bind (g_ref09_in x42 1 10000000) fun y43 =>
cond ((!y43)) (some (.inr ((.inr false)))) (some (.inl ((w64 (s30 + 1))))))) (some (.inr ((.inl (())))))) big 0 = some (if kOk p k l then .inl () else .inr false) := by
 refine iter_all p.length _ false (by simp only [big]; omega) (fun i hi => ?_) ?_
 ·have hw : w64 ((i : Int) + 1) = i + 1 := w64_in (by omega) (by omega)
  simp only [decide_eq_true (show (i : Int) < lenI p by rw [lenI_eq]; omega), cond_true, idx_natD (l := k) 0 (show i < k.length by omega), idx_natD (l := l) 0 (show i < l.length by omega), Option.bind_some, in_eq, hw]
  generalize (decide (0 ≤ k.getD i 0) && decide (k.getD i 0 ≤ 100)) = b1
  generalize (decide (1 ≤ l.getD i 0) && decide (l.getD i 0 ≤ 10000000)) = b2
  cases b1 <;> cases b2 <;> rfl
 ·simp only [decide_eq_false (show ¬ ((p.length : Nat) : Int) < lenI p by rw [lenI_eq]; omega), cond_false]
abbrev hno : List StableCar × List StableLeave × List Int × List Int × Int := ([], [], [], [], 4)
def homeR (t : List Task) (p : List (List Int)) (k l : List Int) (day : Int) : List StableCar × List StableLeave × List Int × List Int × Int :=
 if decide (p.length ≤ 9) && inTime t p day then (hcars t p k l (sortF (fc t p) (ids p.length)), hleaves t p k day (sortF (fl t p day) (ids p.length)), sortF (fc t p) (ids p.length), sortF (fl t p day) (ids p.length), 0) else hno
theorem map_take_succ {A B : Type} {f : A → B} {C : List A} {i : Nat} (h : i < C.length) : (C.take (i + 1)).map f = (C.take i).map f ++ [f C[i]] := by
 rw [List.take_succ_eq_append_getElem h, List.map_append]; rfl
theorem home_run (hf : fine t y = true) (hS : PlanS t y p) (hrow : ∀ r ∈ p, r.length ≤ 80) (hp : p.length ≤ 80) (hB : ∃ q, g_duty_Bare t y p r0 = some (q, 0)) (hk : k.length = p.length) (hl : l.length = p.length) (hd : 0 ≤ day ∧ day ≤ 200000) (hkl : kOk p k l = true) :
    g_depot_Home t y p k l day = some (homeR t p k l day) := by
  obtain ⟨q, hB⟩ := hB
  apply Tot.eq
  unfold g_depot_Home
  rw [show (((0, 0, 0, 0, 0, 0, ()) : WorkRules)) = r0 from rfl, hB, Option.bind_some]
  simp only [show (((0 : Int) != 0)) = false from rfl, cond_false, show (lenI k != lenI p) = false by simp [lenI_eq, hk], show (lenI l != lenI p) = false by simp [lenI_eq, hl], within_eq day 0 200000, Option.bind_some, decide_eq_true hd.1, decide_eq_true hd.2, Bool.and_self, Bool.not_true]
  rw [kinds_loop hk hl (by omega), hkl, if_pos rfl, Option.bind_some, alt_inl]
  by_cases h9 : p.length ≤ 9
  case neg =>
    rw [decide_eq_true (show lenI p > 9 by rw [lenI_eq]; omega), cond_true]
    refine Tot.some ?_
    unfold homeR
    rw [decide_eq_false h9]; rfl
  rw [decide_eq_false (show ¬ lenI p > 9 by rw [lenI_eq]; omega), cond_false]
  refine Tot.bind (Q := fun r => r = (ids p.length, ids p.length)) ?_ ?_
  · refine Tot.iter (fun s : List Int × List Int × Int => ∃ i : Nat, i ≤ p.length ∧ s = (ids i, ids i, (i : Int))) _ (fun s => p.length - s.2.2.toNat) ⟨0, by omega, rfl⟩ (by simp only [big]; omega) ?_
    rintro _ ⟨i, hi, rfl⟩
    by_cases hin : i < p.length
    · have hw : w64 ((i : Int) + 1) = ((i + 1 : Nat) : Int) := by rw [w64_in (by omega) (by omega)]; rfl
      have hs : ids i ++ [(i : Int)] = ids (i + 1) := by unfold ids rl; rw [List.range_succ, List.map_append]; rfl
      have hle : (ids i).length = i := rl_len _ _
      simp only [decide_eq_true (show (i : Int) < lenI p by rw [lenI_eq]; omega), cond_true, hw]
      rw [appO_some (by rw [hle]; simp; omega), Option.bind_some, Option.bind_some, hs]
      exact Tot.some ⟨⟨i + 1, by omega, rfl⟩, by simp only [Int.toNat_natCast]; omega⟩
    · obtain rfl : i = p.length := by omega
      simp only [decide_eq_false (show ¬ ((p.length : Nat) : Int) < lenI p by rw [lenI_eq]; omega), cond_false]
      exact Tot.some rfl
  rintro _ rfl
  have hil : (ids p.length).length = p.length := rl_len _ _
  rw [stable_right (f := fc t p) (by show (ids p.length).length < 20; omega) (fun x hx a ha => by
    have h1 := mem_ids.1 hx
    have h2 := mem_ids.1 ha
    have r1 := hlast_in hf hS h1
    have r2 := hlast_in hf hS h2
    refine ⟨fc t p x - fc t p a, ?_, ?_⟩
    · show g_depot_Home_3 x a _ = _
      unfold g_depot_Home_3
      simp only [home1 hS hrow h1, Option.bind_some, home1 hS hrow h2]
      rw [w64_in (by omega) (by omega)]
    · rw [Bool.eq_iff_iff, decide_eq_true_eq, decide_eq_true_eq]; omega), Option.bind_some]
  rw [stable_right (f := fl t p day) (by show (ids p.length).length < 20; omega) (fun x hx a ha => by
    have h1 := mem_ids.1 hx
    have h2 := mem_ids.1 ha
    have r1 := hfirst_in hf hS hd h1
    have r2 := hfirst_in hf hS hd h2
    refine ⟨fl t p day x - fl t p day a, ?_, ?_⟩
    · show g_depot_Home_4 x a _ = _
      unfold g_depot_Home_4
      simp only [home2 hf hS hd h1, Option.bind_some, home2 hf hS hd h2]
      rw [w64_in (by omega) (by omega)]
    · rw [Bool.eq_iff_iff, decide_eq_true_eq, decide_eq_true_eq]; omega), Option.bind_some]
  obtain ⟨C, hC⟩ : ∃ C, C = sortF (fc t p) (ids p.length) := ⟨_, rfl⟩
  obtain ⟨L, hL⟩ : ∃ L, L = sortF (fl t p day) (ids p.length) := ⟨_, rfl⟩
  have hCl : C.length = p.length := by rw [hC, sortF_len, hil]
  have hLl : L.length = p.length := by rw [hL, sortF_len, hil]
  have hCm : ∀ x, x ∈ C ↔ x ∈ ids p.length := fun x => by rw [hC]; exact (sortF_perm _).mem_iff
  have hLm : ∀ x, x ∈ L ↔ x ∈ ids p.length := fun x => by rw [hL]; exact (sortF_perm _).mem_iff
  have hR : homeR t p k l day = if inTime t p day then (hcars t p k l C, hleaves t p k day L, C, L, 0) else hno := by
    unfold homeR
    rw [decide_eq_true h9, ← hC, ← hL]; rfl
  rw [← hC, ← hL, hR]
  refine Tot.bind (Q := fun r : (List StableCar × List StableLeave) ⊕ (List StableCar × List StableLeave × List Int × List Int × Int) => r = if inTime t p day then .inl (hcars t p k l C, hleaves t p k day L) else .inr hno) ?_ ?_
  · refine Tot.iter (fun s : List StableCar × List StableLeave × Int => ∃ i : Nat, i ≤ p.length ∧ s = (hcars t p k l (C.take i), hleaves t p k day (L.take i), (i : Int)) ∧ ∀ x ∈ L.take i, fl t p day x ≤ 200000) _ (fun s => p.length - s.2.2.toNat) ⟨0, by omega, by simp [hcars, hleaves], fun x hx => by simp at hx⟩ (by simp only [big]; omega) ?_
    rintro _ ⟨i, hi, rfl, hall⟩
    by_cases hin : i < p.length
    · have hw : w64 ((i : Int) + 1) = ((i + 1 : Nat) : Int) := by rw [w64_in (by omega) (by omega)]; rfl
      have hiC : i < C.length := by omega
      have hiL : i < L.length := by omega
      have hc := mem_ids.1 ((hCm _).1 (List.getElem_mem hiC))
      have hl' := mem_ids.1 ((hLm _).1 (List.getElem_mem hiL))
      simp only [decide_eq_true (show (i : Int) < lenI p by rw [lenI_eq]; omega), cond_true, idx_some hiC, idx_some hiL, Option.bind_some, home2 hf hS hd hl', home1 hS hrow hc, hw,
        idx_getD (l := k) (d := (0 : Int)) hc.1 (show C[i] < (k.length : Int) by omega), idx_getD (l := l) (d := (0 : Int)) hc.1 (show C[i] < (l.length : Int) by omega), idx_getD (l := k) (d := (0 : Int)) hl'.1 (show L[i] < (k.length : Int) by omega)]
      by_cases hle : fl t p day L[i] ≤ 200000
      · have l1 : (hcars t p k l (C.take i)).length = i := by unfold hcars; rw [List.length_map, List.length_take]; omega
        have l2 : (hleaves t p k day (L.take i)).length = i := by unfold hleaves; rw [List.length_map, List.length_take]; omega
        rw [decide_eq_false (show ¬ fl t p day L[i] > 200000 by omega), cond_false, appO_some (by rw [l1]; simp; omega), Option.bind_some, appO_some (by rw [l2]; simp; omega), Option.bind_some]
        refine Tot.some ⟨⟨i + 1, by omega, ?_, fun x hx => ?_⟩, by simp only [Int.toNat_natCast]; omega⟩
        · unfold hcars hleaves
          rw [map_take_succ hiC, map_take_succ hiL]
        · rw [List.take_succ_eq_append_getElem hiL] at hx
          rcases List.mem_append.1 hx with hx | hx
          · exact hall x hx
          · rw [List.mem_singleton.1 hx]; exact hle
      · rw [decide_eq_true (show fl t p day L[i] > 200000 by omega), cond_true]
        have : inTime t p day = false := by
          unfold inTime
          rw [List.all_eq_false]
          exact ⟨L[i], (hLm _).1 (List.getElem_mem hiL), by simpa using hle⟩
        rw [this]
        exact Tot.some rfl
    · obtain rfl : i = p.length := by omega
      simp only [decide_eq_false (show ¬ ((p.length : Nat) : Int) < lenI p by rw [lenI_eq]; omega), cond_false]
      have : inTime t p day = true := by
        unfold inTime
        rw [List.all_eq_true]
        intro x hx
        exact decide_eq_true (hall x (by rw [List.take_of_length_le (by omega)]; exact (hLm x).2 hx))
      rw [this]
      refine Tot.some ?_
      show _ = _
      rw [if_pos rfl, List.take_of_length_le (show C.length ≤ p.length by omega), List.take_of_length_le (show L.length ≤ p.length by omega)]
  rintro _ rfl
  cases inTime t p day with
  | true => exact Tot.some rfl
  | false => exact Tot.some rfl
end
end Go.Ai.Sx

/- The depot: the night of a plan of cars: the specification's, and the law. -/
namespace Go.Ai.Sx
open Du (InR T0 Few fine PlanS getD_memx)
section
variable {t : List Task} {y : Yard} {p : List (List Int)} {k l : List Int} {day : Int}
theorem ids_succ (i : Nat) : ids (i + 1) = ids i ++ [(i : Int)] := by unfold ids rl; rw [List.range_succ, List.map_append]; rfl
theorem ids_len (n : Nat) : (ids n).length = n := rl_len _ _
theorem getD_mapids {g : Int → Int} {n : Nat} {x : Int} (hx : 0 ≤ x ∧ x < n) : ((ids n).map g).getD x.toNat 0 = g x := by
 have h : x.toNat < n := by omega
 have : ((x.toNat : Nat) : Int) = x := by omega
 simp [List.getD, ids, rl_get, h, this]
theorem home_ref (hf : fine t y = true) (hS : PlanS t y p) (hrow : ∀ r ∈ p, r.length ≤ 80) (hp : p.length ≤ 80) (hk : k.length = p.length) (hl : l.length = p.length) (hd : 0 ≤ day ∧ day ≤ 200000) :
    g_ref09_Home t p k l day = some (if decide (p.length ≤ 9) && inTime t p day then (hcars t p k l (sortF (fc t p) (ids p.length)), hleaves t p k day (sortF (fl t p day) (ids p.length)), sortF (fc t p) (ids p.length), sortF (fl t p day) (ids p.length), true) else ([], [], [], [], false)) := by
  apply Tot.eq
  unfold g_ref09_Home
  refine Tot.bind (Q := fun r : (List Int × List Int) ⊕ (List StableCar × List StableLeave × List Int × List Int × Bool) => r = if inTime t p day then .inl ((ids p.length).map (fc t p), (ids p.length).map (fl t p day)) else .inr ([], [], [], [], false)) ?_ ?_
  · refine Tot.iter (fun s : List Int × List Int × Int => ∃ i : Nat, i ≤ p.length ∧ s = ((ids i).map (fc t p), (ids i).map (fl t p day), (i : Int)) ∧ ∀ x ∈ ids i, fl t p day x ≤ 200000) _ (fun s => p.length - s.2.2.toNat) ⟨0, by omega, rfl, fun x hx => by have := mem_ids.1 hx; omega⟩ (by simp only [big]; omega) ?_
    rintro _ ⟨i, hi, rfl, hall⟩
    by_cases hin : i < p.length
    · have hw : w64 ((i : Int) + 1) = ((i + 1 : Nat) : Int) := by rw [w64_in (by omega) (by omega)]; rfl
      have hx : 0 ≤ (i : Int) ∧ (i : Int) < p.length := by omega
      obtain ⟨h1, h2⟩ := row_in hS hx
      obtain ⟨h3, h4⟩ := h2 ((p.getD (i : Int).toNat []).length - 1) (by omega)
      obtain ⟨h5, h6⟩ := h2 0 (by omega)
      have h7 := hrow _ (getD_memx (l := p) (i := (i : Int).toNat) (d := ([] : List Int)) (by omega))
      have hw2 : w64 ((lenI (p.getD (i : Int).toNat [])) - 1) = (((p.getD (i : Int).toNat []).length - 1 : Nat) : Int) := by rw [lenI_eq, w64_in (by omega) (by omega)]; omega
      have hfi := hfirst_in hf hS hd hx
      have hl1 : ∀ g : Int → Int, ((ids i).map g).length = i := fun g => by rw [List.length_map, ids_len]
      simp only [decide_eq_true (show (i : Int) < lenI p by rw [lenI_eq]; omega), cond_true, idx_getD (l := p) (d := ([] : List Int)) hx.1 hx.2, Option.bind_some, hw2, hw]
      rw [idx_natD (0 : Int) (show (p.getD (i : Int).toNat []).length - 1 < (p.getD (i : Int).toNat []).length by omega), Option.bind_some, idx_getD (l := t) (d := T0) h3 h4, Option.bind_some]
      rw [appO_some (by rw [hl1]; simp; omega), Option.bind_some]
      rw [show idx (p.getD (i : Int).toNat []) 0 = some ((p.getD (i : Int).toNat []).getD 0 0) from idx_natD (0 : Int) h1, Option.bind_some, idx_getD (l := t) (d := T0) h5 h6, Option.bind_some]
      have hw3 : w64 ((t.getD ((p.getD (i : Int).toNat []).getD 0 0).toNat T0).2.2.1 + day) = fl t p day (i : Int) := w64_in (by unfold fl hfirst at hfi; omega) (by unfold fl hfirst at hfi; omega)
      rw [hw3, appO_some (by rw [hl1]; simp; omega), Option.bind_some]
      have e1 : (ids i).map (fc t p) ++ [(t.getD ((p.getD (i : Int).toNat []).getD ((p.getD (i : Int).toNat []).length - 1) 0).toNat T0).2.2.2.1] = (ids (i + 1)).map (fc t p) := by rw [ids_succ, List.map_append]; rfl
      have e2 : (ids i).map (fl t p day) ++ [fl t p day (i : Int)] = (ids (i + 1)).map (fl t p day) := by rw [ids_succ, List.map_append]; rfl
      rw [e1, e2, idx_natD (0 : Int) (by rw [List.length_map, ids_len]; omega), Option.bind_some]
      have e3 : ((ids (i + 1)).map (fl t p day)).getD i 0 = fl t p day (i : Int) := by
        have := getD_mapids (g := fl t p day) (n := i + 1) (x := (i : Int)) (by omega)
        simpa using this
      rw [e3]
      by_cases hle : fl t p day (i : Int) ≤ 200000
      · rw [decide_eq_false (show ¬ fl t p day (i : Int) > 200000 by omega), cond_false]
        refine Tot.some ⟨⟨i + 1, by omega, rfl, fun x hx => ?_⟩, by simp only [Int.toNat_natCast]; omega⟩
        rw [ids_succ] at hx
        rcases List.mem_append.1 hx with hx | hx
        · exact hall x hx
        · rw [List.mem_singleton.1 hx]; exact hle
      · rw [decide_eq_true (show fl t p day (i : Int) > 200000 by omega), cond_true]
        have : inTime t p day = false := by
          unfold inTime
          rw [List.all_eq_false]
          exact ⟨(i : Int), mem_ids.2 hx, by simpa using hle⟩
        rw [this]
        exact Tot.some rfl
    · obtain rfl : i = p.length := by omega
      simp only [decide_eq_false (show ¬ ((p.length : Nat) : Int) < lenI p by rw [lenI_eq]; omega), cond_false]
      have : inTime t p day = true := by
        unfold inTime
        rw [List.all_eq_true]
        exact fun x hx => decide_eq_true (hall x hx)
      rw [this]
      exact Tot.some rfl
  rintro _ rfl
  cases hT : inTime t p day with
  | false =>
    simp only [Bool.false_eq_true, if_false, Bool.and_false, alt_inr]
    exact Tot.some rfl
  | true =>
    simp only [if_true, Bool.and_true, alt_inl]
    by_cases h9 : p.length ≤ 9
    case neg =>
      rw [decide_eq_true (show lenI p > 9 by rw [lenI_eq]; omega), decide_eq_false h9]
      exact Tot.some rfl
    rw [decide_eq_false (show ¬ lenI p > 9 by rw [lenI_eq]; omega), decide_eq_true h9, cond_false, if_pos rfl]
    have hml : ∀ g : Int → Int, ((ids p.length).map g).length = p.length := fun g => by rw [List.length_map, ids_len]
    rw [sort_left (by rw [hml]; omega), Option.bind_some, sort_left (by rw [hml]; omega), Option.bind_some, hml, hml]
    rw [show (rl p.length fun i => (i : Int)) = ids p.length from rfl]
    rw [sortF_congr (g := fc t p) (fun x hx => getD_mapids (mem_ids.1 hx)), sortF_congr (g := fl t p day) (fun x hx => getD_mapids (mem_ids.1 hx))]
    obtain ⟨C, hC⟩ : ∃ C, C = sortF (fc t p) (ids p.length) := ⟨_, rfl⟩
    obtain ⟨L, hL⟩ : ∃ L, L = sortF (fl t p day) (ids p.length) := ⟨_, rfl⟩
    have hCl : C.length = p.length := by rw [hC, sortF_len, ids_len]
    have hLl : L.length = p.length := by rw [hL, sortF_len, ids_len]
    have hCm : ∀ x, x ∈ C ↔ x ∈ ids p.length := fun x => by rw [hC]; exact (sortF_perm _).mem_iff
    have hLm : ∀ x, x ∈ L ↔ x ∈ ids p.length := fun x => by rw [hL]; exact (sortF_perm _).mem_iff
    rw [← hC, ← hL]
    refine Tot.bind (Q := fun r : List StableCar × List StableLeave => r = (hcars t p k l C, hleaves t p k day L)) ?_ ?_
    · refine Tot.iter (fun s : List StableCar × List StableLeave × Int => ∃ i : Nat, i ≤ p.length ∧ s = (hcars t p k l (C.take i), hleaves t p k day (L.take i), (i : Int))) _ (fun s => p.length - s.2.2.toNat) ⟨0, by omega, by simp [hcars, hleaves]⟩ (by simp only [big]; omega) ?_
      rintro _ ⟨i, hi, rfl⟩
      by_cases hin : i < p.length
      · have hw : w64 ((i : Int) + 1) = ((i + 1 : Nat) : Int) := by rw [w64_in (by omega) (by omega)]; rfl
        have hiC : i < C.length := by omega
        have hiL : i < L.length := by omega
        have hc := mem_ids.1 ((hCm _).1 (List.getElem_mem hiC))
        have hl' := mem_ids.1 ((hLm _).1 (List.getElem_mem hiL))
        simp only [decide_eq_true (show (i : Int) < lenI p by rw [lenI_eq]; omega), cond_true, idx_some hiC, idx_some hiL, Option.bind_some, hw,
          idx_getD (l := k) (d := (0 : Int)) hc.1 (show C[i] < (k.length : Int) by omega), idx_getD (l := l) (d := (0 : Int)) hc.1 (show C[i] < (l.length : Int) by omega), idx_getD (l := k) (d := (0 : Int)) hl'.1 (show L[i] < (k.length : Int) by omega),
          idx_getD (l := (ids p.length).map (fc t p)) (d := (0 : Int)) hc.1 (by rw [hml]; exact hc.2), idx_getD (l := (ids p.length).map (fl t p day)) (d := (0 : Int)) hl'.1 (by rw [hml]; exact hl'.2), getD_mapids hc, getD_mapids hl']
        have l1 : (hcars t p k l (C.take i)).length = i := by unfold hcars; rw [List.length_map, List.length_take]; omega
        have l2 : (hleaves t p k day (L.take i)).length = i := by unfold hleaves; rw [List.length_map, List.length_take]; omega
        rw [appO_some (by rw [l1]; simp; omega), Option.bind_some, appO_some (by rw [l2]; simp; omega), Option.bind_some]
        refine Tot.some ⟨⟨i + 1, by omega, ?_⟩, by simp only [Int.toNat_natCast]; omega⟩
        unfold hcars hleaves
        rw [map_take_succ hiC, map_take_succ hiL]
      · obtain rfl : i = p.length := by omega
        simp only [decide_eq_false (show ¬ ((p.length : Nat) : Int) < lenI p by rw [lenI_eq]; omega), cond_false]
        refine Tot.some ?_
        show _ = _
        rw [List.take_of_length_le (show C.length ≤ p.length by omega), List.take_of_length_le (show L.length ≤ p.length by omega)]
    rintro _ rfl
    exact Tot.some rfl
theorem small_eq (t : List Task) (y : Yard) (p : List (List Int)) (k l : List Int) : ∃ b, g_law09_small t y p k l = some b ∧ (b = true → t.length ≤ 20 ∧ y.2.2.1.length ≤ 10 ∧ p.length ≤ 20 ∧ (∀ r ∈ p, r.length ≤ 80)) := by
  unfold g_law09_small
  by_cases h1 : t.length ≤ 20
  case neg => rw [decide_eq_true (show lenI t > 20 by rw [lenI_eq]; omega)]; exact ⟨false, rfl, fun h => by cases h⟩
  by_cases h2 : y.2.2.1.length ≤ 10
  case neg => rw [decide_eq_true (show lenI y.2.2.1 > 10 by rw [lenI_eq]; omega)]; exact ⟨false, by cases decide (lenI t > 20) <;> rfl, fun h => by cases h⟩
  by_cases h3 : y.1.length ≤ 10
  case neg => rw [decide_eq_true (show lenI y.1 > 10 by rw [lenI_eq]; omega)]; exact ⟨false, by cases decide (lenI t > 20) <;> cases decide (lenI y.2.2.1 > 10) <;> rfl, fun h => by cases h⟩
  by_cases h4 : p.length ≤ 20
  case neg => rw [decide_eq_true (show lenI p > 20 by rw [lenI_eq]; omega)]; exact ⟨false, by cases decide (lenI t > 20) <;> cases decide (lenI y.2.2.1 > 10) <;> cases decide (lenI y.1 > 10) <;> rfl, fun h => by cases h⟩
  rw [decide_eq_false (show ¬ lenI t > 20 by rw [lenI_eq]; omega), decide_eq_false (show ¬ lenI y.2.2.1 > 10 by rw [lenI_eq]; omega), decide_eq_false (show ¬ lenI y.1 > 10 by rw [lenI_eq]; omega), decide_eq_false (show ¬ lenI p > 20 by rw [lenI_eq]; omega)]
  simp only [cond_false]
  have key : ∀ b : Bool, ∃ c, (Option.bind (cond b (some true) (some (decide (lenI l > 20)))) fun c6 => cond c6 (some false) (Option.bind (iter (σ := (Int)) (τ := Unit ⊕ (Bool)) (fun s16 =>
cond ((decide (s16 < (lenI y.1)))) (Option.bind (idx y.1 s16) fun x19 =>
cond ((decide ((lenI x19) > 10))) (some (.inr ((.inr false)))) (some (.inl ((w64 (s16 + 1)))))) (some (.inr ((.inl (())))))) big 0) fun t21 =>
alt (fun _ => Option.bind (iter (σ := (Int)) (τ := Unit ⊕ (Bool)) (fun s28 =>
cond ((decide (s28 < (lenI p)))) (Option.bind (idx p s28) fun x31 =>
cond ((decide ((lenI x31) > 30))) (some (.inr ((.inr false)))) (some (.inl ((w64 (s28 + 1)))))) (some (.inr ((.inl (())))))) big 0) fun t33 =>
alt (fun _ => some true) (fun b36 => some b36) t33) (fun b24 => some b24) t21)) = some c ∧ (c = true → ∀ r ∈ p, r.length ≤ 80) := by
    intro b
    have hz : ∀ z : Bool, ∃ c, (cond z (some false) (Option.bind (iter (σ := (Int)) (τ := Unit ⊕ (Bool)) (fun s16 =>
cond ((decide (s16 < (lenI y.1)))) (Option.bind (idx y.1 s16) fun x19 =>
cond ((decide ((lenI x19) > 10))) (some (.inr ((.inr false)))) (some (.inl ((w64 (s16 + 1)))))) (some (.inr ((.inl (())))))) big 0) fun t21 =>
alt (fun _ => Option.bind (iter (σ := (Int)) (τ := Unit ⊕ (Bool)) (fun s28 =>
cond ((decide (s28 < (lenI p)))) (Option.bind (idx p s28) fun x31 =>
cond ((decide ((lenI x31) > 30))) (some (.inr ((.inr false)))) (some (.inl ((w64 (s28 + 1)))))) (some (.inr ((.inl (())))))) big 0) fun t33 =>
alt (fun _ => some true) (fun b36 => some b36) t33) (fun b24 => some b24) t21)) = some c ∧ (c = true → ∀ r ∈ p, r.length ≤ 80) := by
      intro z
      cases z with
      | true => exact ⟨false, rfl, fun h => by cases h⟩
      | false =>
        rw [cond_false]
        rw [iter_all y.1.length (fun i => decide ((y.1.getD i []).length ≤ 10)) false (by simp only [big]; omega) (fun i hi => by
          have hw : w64 ((i : Int) + 1) = i + 1 := w64_in (by omega) (by omega)
          simp only [decide_eq_true (show (i : Int) < lenI y.1 by rw [lenI_eq]; omega), cond_true, idx_natD (l := y.1) [] hi, Option.bind_some, hw]
          by_cases e : (y.1.getD i []).length ≤ 10
          · rw [decide_eq_false (show ¬ lenI (y.1.getD i []) > 10 by rw [lenI_eq]; omega), decide_eq_true e]; rfl
          · rw [decide_eq_true (show lenI (y.1.getD i []) > 10 by rw [lenI_eq]; omega), decide_eq_false e]; rfl) (by simp only [decide_eq_false (show ¬ ((y.1.length : Nat) : Int) < lenI y.1 by rw [lenI_eq]; omega), cond_false])]
        rw [iter_all p.length (fun i => decide ((p.getD i []).length ≤ 30)) false (by simp only [big]; omega) (fun i hi => by
          have hw : w64 ((i : Int) + 1) = i + 1 := w64_in (by omega) (by omega)
          simp only [decide_eq_true (show (i : Int) < lenI p by rw [lenI_eq]; omega), cond_true, idx_natD (l := p) [] hi, Option.bind_some, hw]
          by_cases e : (p.getD i []).length ≤ 30
          · rw [decide_eq_false (show ¬ lenI (p.getD i []) > 30 by rw [lenI_eq]; omega), decide_eq_true e]; rfl
          · rw [decide_eq_true (show lenI (p.getD i []) > 30 by rw [lenI_eq]; omega), decide_eq_false e]; rfl) (by simp only [decide_eq_false (show ¬ ((p.length : Nat) : Int) < lenI p by rw [lenI_eq]; omega), cond_false])]
        cases h1 : (List.range y.1.length).all fun i => decide ((y.1.getD i []).length ≤ 10) with
        | false => exact ⟨false, rfl, fun h => by cases h⟩
        | true =>
          cases h2 : (List.range p.length).all fun i => decide ((p.getD i []).length ≤ 30) with
          | false => exact ⟨false, rfl, fun h => by cases h⟩
          | true =>
            refine ⟨true, rfl, fun _ r hr => ?_⟩
            obtain ⟨i, hi, rfl⟩ := List.getElem_of_mem hr
            have := (List.all_eq_true.1 h2) i (List.mem_range.2 hi)
            simp [List.getD, hi] at this
            omega
    cases b with
    | true => exact hz true
    | false => exact hz (decide (lenI l > 20))
  obtain ⟨c, hc1, hc2⟩ := key (decide (lenI k > 20))
  exact ⟨c, hc1, fun h => ⟨h1, h2, h4, hc2 h⟩⟩
theorem same9 (a : List Int) (h : a.length < 1000) : g_ref09_Same a a = some true := same_self a (by omega)
theorem law_homes (t : List Task) (y : Yard) (p : List (List Int)) (k l : List Int) (day : Int) : g_law09_DepotHomes t y p k l day = some true := by
  unfold g_law09_DepotHomes
  obtain ⟨b, hb, hs⟩ := small_eq t y p k l
  rw [hb, Option.bind_some]
  cases b with
  | false => rfl
  | true =>
    obtain ⟨ht, hr, hp, hrow⟩ := hs rfl
    simp only [Bool.not_true, cond_false]
    have hwz : w64 (w64 (w64 (lenI ([] : List StableCar) + lenI ([] : List StableLeave)) + lenI ([] : List Int)) + lenI ([] : List Int)) = 0 := by decide
    -- the arguments are not as defined
    have bad : g_depot_Home t y p k l day = some ([], [], [], [], 2) → g_ref09_Homes t y p k l day = some false → (Option.bind (g_depot_Home t y p k l day) fun y3 => Option.bind (g_ref09_Homes t y p k l day) fun y8 => cond (!y8) (Option.bind (cond ((y3.2.2.2.2 == 2)) (cond (((w64 ((w64 ((w64 ((lenI y3.1) + (lenI y3.2.1))) + (lenI y3.2.2.1))) + (lenI y3.2.2.2.1))) == 0)) (some true) (some false)) (some false)) fun c12 => some c12) (Option.bind (g_ref09_Home t p k l day) fun y15 =>
cond ((!y15.2.2.2.2)) (Option.bind (cond ((y3.2.2.2.2 == 4)) (cond (((w64 ((w64 ((w64 ((lenI y3.1) + (lenI y3.2.1))) + (lenI y3.2.2.1))) + (lenI y3.2.2.2.1))) == 0)) (some true) (some false)) (some false)) fun c23 =>
some c23) (Option.bind (cond ((y3.2.2.2.2 != 0)) (some true) (cond (((lenI y3.1) != (lenI y15.1))) (some true) (cond (((lenI y3.2.1) != (lenI y15.2.1))) (some true) (Option.bind (g_ref09_Same y3.2.2.1 y15.2.2.1) fun y36 =>
cond ((!y36)) (some true) (Option.bind (g_ref09_Same y3.2.2.2.1 y15.2.2.2.1) fun y38 =>
some ((!y38))))))) fun c32 =>
cond (c32) (some false) (Option.bind (iter (σ := (Int)) (τ := Unit ⊕ (Bool)) (fun s53 =>
cond ((decide (s53 < (lenI y3.1)))) (Option.bind (idx y3.1 s53) fun x61 =>
Option.bind (idx y15.1 s53) fun x62 =>
cond ((x61 != x62)) (some (.inr ((.inr false)))) (Option.bind (idx y3.2.1 s53) fun x65 =>
Option.bind (idx y15.2.1 s53) fun x66 =>
cond ((x65 != x66)) (some (.inr ((.inr false)))) (some (.inl ((w64 (s53 + 1))))))) (some (.inr ((.inl (())))))) big 0) fun t68 =>
alt (fun _ => some true) (fun b71 => some b71) t68)))) = some true := fun h1 h2 => by
      rw [h1, h2]
      simp only [Option.bind_some, Bool.not_false, cond_true, hwz]
      rfl
    have hfe := Du.fine_eq' t y (by omega) (by omega)
    have ref_bad : g_ref08_Fine t y = some false ∨ (g_ref08_Fine t y = some true ∧ g_ref08_Plan t y p = some false) → g_ref09_Homes t y p k l day = some false := by
      rintro (h | ⟨h, h'⟩)
      · unfold g_ref09_Homes; rw [h]; rfl
      · unfold g_ref09_Homes; rw [h, Option.bind_some, h']; rfl
    have prog_bad : g_duty_Bare t y p r0 = some ([], 2) → g_depot_Home t y p k l day = some ([], [], [], [], 2) := fun h => by
      unfold g_depot_Home
      rw [show (((0, 0, 0, 0, 0, 0, ()) : WorkRules)) = r0 from rfl, h]; rfl
    cases hf : fine t y with
    | false =>
      rw [hf] at hfe
      refine bad (prog_bad ?_) (ref_bad (.inl hfe))
      unfold g_duty_Bare g_duty_crewed
      rw [Du.check_eq' t y (by omega) (by omega), hf]
      rfl
    | true =>
      rw [hf] at hfe
      have hF := few_of (by omega) (by omega) hf
      rcases bare_zero hF (by omega) hrow with ⟨h, _⟩ | ⟨_, b, k1, _, k2, k3⟩
      · rw [hf] at h; cases h
      cases b with
      | false => exact bad (prog_bad (k2 rfl)) (ref_bad (.inr ⟨hfe, k1⟩))
      | true =>
        obtain ⟨hS, hB⟩ := k3 rfl
        -- the lists' lengths, the day
        by_cases hk : k.length = p.length
        case neg =>
          refine bad ?_ ?_
          · obtain ⟨q, hB⟩ := hB
            unfold g_depot_Home
            rw [show (((0, 0, 0, 0, 0, 0, ()) : WorkRules)) = r0 from rfl, hB, Option.bind_some]
            simp only [show (lenI k != lenI p) = true by rw [bne_iff_ne]; simp only [lenI_eq]; omega]
            rfl
          · unfold g_ref09_Homes
            rw [hfe, Option.bind_some, k1]
            simp only [show (lenI k != lenI p) = true by rw [bne_iff_ne]; simp only [lenI_eq]; omega]
            rfl
        by_cases hl : l.length = p.length
        case neg =>
          refine bad ?_ ?_
          · obtain ⟨q, hB⟩ := hB
            unfold g_depot_Home
            rw [show (((0, 0, 0, 0, 0, 0, ()) : WorkRules)) = r0 from rfl, hB, Option.bind_some]
            simp only [show (lenI k != lenI p) = false by simp [lenI_eq, hk], show (lenI l != lenI p) = true by rw [bne_iff_ne]; simp only [lenI_eq]; omega]
            rfl
          · unfold g_ref09_Homes
            rw [hfe, Option.bind_some, k1]
            simp only [show (lenI k != lenI p) = false by simp [lenI_eq, hk], show (lenI l != lenI p) = true by rw [bne_iff_ne]; simp only [lenI_eq]; omega]
            rfl
        by_cases hd : 0 ≤ day ∧ day ≤ 200000
        case neg =>
          have hdb : (decide (0 ≤ day) && decide (day ≤ 200000)) = false := by rw [Bool.and_eq_false_iff, decide_eq_false_iff_not, decide_eq_false_iff_not]; omega
          refine bad ?_ ?_
          · obtain ⟨q, hB⟩ := hB
            unfold g_depot_Home
            rw [show (((0, 0, 0, 0, 0, 0, ()) : WorkRules)) = r0 from rfl, hB, Option.bind_some]
            simp only [show (lenI k != lenI p) = false by simp [lenI_eq, hk], show (lenI l != lenI p) = false by simp [lenI_eq, hl], within_eq day 0 200000, hdb]
            rfl
          · unfold g_ref09_Homes
            rw [hfe, Option.bind_some, k1]
            simp only [show (lenI k != lenI p) = false by simp [lenI_eq, hk], show (lenI l != lenI p) = false by simp [lenI_eq, hl], in_eq day 0 200000, hdb]
            rfl
        have hdb : (decide (0 ≤ day) && decide (day ≤ 200000)) = true := by rw [decide_eq_true hd.1, decide_eq_true hd.2]; rfl
        have hHs : g_ref09_Homes t y p k l day = some (kOk p k l) := by
          unfold g_ref09_Homes
          rw [hfe, Option.bind_some, k1]
          simp only [show (lenI k != lenI p) = false by simp [lenI_eq, hk], show (lenI l != lenI p) = false by simp [lenI_eq, hl], in_eq day 0 200000, hdb, Bool.not_true, cond_false, Option.bind_some]
          rw [kinds_ref hk hl (by omega)]
          cases kOk p k l <;> rfl
        cases hkl : kOk p k l with
        | false =>
          refine bad ?_ (by rw [hHs, hkl])
          obtain ⟨q, hB⟩ := hB
          unfold g_depot_Home
          rw [show (((0, 0, 0, 0, 0, 0, ()) : WorkRules)) = r0 from rfl, hB, Option.bind_some]
          simp only [show (((0 : Int) != 0)) = false from rfl, cond_false, show (lenI k != lenI p) = false by simp [lenI_eq, hk], show (lenI l != lenI p) = false by simp [lenI_eq, hl], within_eq day 0 200000, Option.bind_some, hdb, Bool.not_true]
          rw [kinds_loop hk hl (by omega), hkl]
          rfl
        | true =>
          rw [home_run hf hS hrow (by omega) hB hk hl hd hkl, hHs, hkl, home_ref hf hS hrow (by omega) hk hl hd]
          simp only [Option.bind_some, Bool.not_true, cond_false]
          unfold homeR
          cases hT : decide (p.length ≤ 9) && inTime t p day with
          | false =>
            simp only [Bool.false_eq_true, if_false, Bool.not_false, cond_true, hwz]
            rfl
          | true =>
            simp only [if_true, Bool.not_true, cond_false]
            rw [Bool.and_eq_true, decide_eq_true_eq] at hT
            have c1 : (hcars t p k l (sortF (fc t p) (ids p.length))).length = p.length := by unfold hcars; rw [List.length_map, sortF_len, ids_len]
            have c2 : (hleaves t p k day (sortF (fl t p day) (ids p.length))).length = p.length := by unfold hleaves; rw [List.length_map, sortF_len, ids_len]
            rw [same9 _ (by rw [sortF_len, ids_len]; omega), same9 _ (by rw [sortF_len, ids_len]; omega)]
            simp only [bne_self_eq_false, cond_false, Option.bind_some, Bool.not_true]
            generalize hcars t p k l (sortF (fc t p) (ids p.length)) = A at *
            generalize hleaves t p k day (sortF (fl t p day) (ids p.length)) = B at *
            rw [iter_all A.length (fun _ => true) false (by simp only [big]; omega) (fun i hi => by
              have hw : w64 ((i : Int) + 1) = i + 1 := w64_in (by omega) (by omega)
              simp only [decide_eq_true (show (i : Int) < lenI A by rw [lenI_eq]; omega), cond_true, idx_some hi, idx_some (show i < B.length by omega), Option.bind_some, bne_self_eq_false, cond_false, hw, if_true]) (by simp only [decide_eq_false (show ¬ ((A.length : Nat) : Int) < lenI A by rw [lenI_eq]; omega), cond_false])]
            rw [List.all_eq_true.2 (fun _ _ => rfl)]
            rfl
end
end Go.Ai.Sx
