/- The depot: lists that prove how many tracks are needed. -/
import Derived.Test.YtpiblfbidgcjaaaAiPl
import Derived.Test.YtpiblfbidgcjaaaDatC
namespace Go.Ai.Sx

theorem within_eq (n a b : Int) : g_depot_within n a b = some (decide (a ≤ n) && decide (n ≤ b)) := by
  unfold g_depot_within
  by_cases h : a ≤ n <;> simp [h]
theorem in_eq (n a b : Int) : g_ref09_in n a b = some (decide (a ≤ n) && decide (n ≤ b)) := by
  unfold g_ref09_in
  by_cases h : a ≤ n <;> simp [h]

theorem order_eq (l : List Int) (hl : l.length ≤ 200) : RelS (fun a b => a = b) (g_depot_permutation l) (g_ref09_Order l) := by
  unfold g_depot_permutation g_ref09_Order
  rw [mkO_some (by simp only [lenI_eq]; omega)]
  simp only [Option.bind_some]
  refine RelS.bind (Q := fun t t' => t = t' ∧ ∀ q, t = .inr q → q.1 = false) ?_ ?_
  · refine RelS.iter (fun (s s' : Int × List Bool) => s = s' ∧ 0 ≤ s.1 ∧ s.1 ≤ (l.length : Int) ∧ s.2.length = l.length) _ (fun s => ((l.length : Int) - s.1).toNat) ⟨rfl, by simp, by simp, by simp [lenI]⟩ (by simp only [big]; omega) ?_
    rintro ⟨i, seen⟩ _ ⟨rfl, h0, h1, h2⟩
    simp only at h0 h1 h2
    by_cases hi : i < (l.length : Int)
    · simp only [lenI_eq, hi, decide_true, cond_true, idx_int h0 hi, Option.bind_some, within_eq, in_eq]
      have hw : w64 ((l.length : Int) - 1) = l.length - 1 := w64_in (by omega) (by omega)
      rw [hw]
      generalize hx : l[i.toNat]'(by omega) = x
      by_cases hr : 0 ≤ x ∧ x ≤ (l.length : Int) - 1
      · simp only [hr.1, hr.2, decide_true, Bool.and_true, Bool.not_true, cond_false]
        have hs : idx seen x = some (seen[x.toNat]'(by omega)) := idx_int hr.1 (by omega)
        simp only [hs, Option.bind_some]
        cases hb : seen[x.toNat]'(by omega) with
        | true => exact .some ⟨rfl, fun q hq => by cases hq; rfl⟩
        | false =>
          have hw2 : w64 (i + 1) = i + 1 := w64_in (by omega) (by omega)
          exact .some ⟨⟨rfl, by simp only [hw2]; omega, by simp only [hw2]; omega, by simpa using h2⟩, by simp only [hw2]; omega⟩
      · have : (decide (0 ≤ x) && decide (x ≤ (l.length : Int) - 1)) = false := by
          simp only [Bool.and_eq_false_iff, decide_eq_false_iff_not]; omega
        simp only [this, Bool.not_false, cond_true]
        exact .some ⟨rfl, fun q hq => by cases hq; rfl⟩
    · simp only [lenI_eq, hi, decide_false, cond_false]
      exact .some ⟨rfl, fun q hq => by cases hq⟩
  · rintro t _ ⟨rfl, h3⟩
    cases t with
    | inl a => exact ⟨true, true, rfl, congrArg some (decide_eq_true (show lenI l ≤ 200 by simp only [lenI_eq]; omega)), rfl⟩
    | inr b => exact ⟨false, false, by simp [alt_inr, h3 b rfl], by simp [alt_inr, h3 b rfl], rfl⟩

theorem indexFunc_eq {xs : List Int} {p : Int → Option Bool} {q : Int → Bool} (hl : xs.length < 4611686018427387904) (hp : ∀ x ∈ xs, p x = some (q x)) : ∃ r, g_slices_IndexFunc_int_int xs p = some r ∧ decide (r ≥ 0) = xs.any q := by
  unfold g_slices_IndexFunc_int_int
  rw [iter_search xs.length (fun i => if h : i < xs.length then (if q xs[i] then some (i : Int) else none) else none) hl]
  · simp only [Option.bind_some]
    cases hf : (List.range xs.length).findSome? (fun i => if h : i < xs.length then (if q xs[i] then some (i : Int) else none) else none) with
    | none =>
      refine ⟨_, rfl, ?_⟩
      rw [List.findSome?_eq_none_iff] at hf
      simp only [show decide ((-1 : Int) ≥ 0) = false from rfl]
      symm
      rw [List.any_eq_false]
      intro x hx
      obtain ⟨i, hi, rfl⟩ := List.getElem_of_mem hx
      have := hf i (by simpa using hi)
      rw [dif_pos hi] at this
      intro hq
      rw [if_pos hq] at this
      cases this
    | some r =>
      refine ⟨r, rfl, ?_⟩
      obtain ⟨i, hi, h2⟩ := List.exists_of_findSome?_eq_some hf
      simp only [List.mem_range] at hi
      rw [dif_pos hi] at h2
      split at h2
      · cases h2
        rename_i hq
        rw [decide_eq_true (by omega)]
        symm
        exact List.any_eq_true.2 ⟨_, List.getElem_mem hi, hq⟩
      · cases h2
  · intro i hi
    have hw2 : w64 ((i : Int) + 1) = i + 1 := w64_in (by omega) (by omega)
    have : decide ((i : Int) < lenI xs) = true := by simp only [lenI_eq]; exact decide_eq_true (by omega)
    simp only [this, cond_true, idx_some hi, Option.bind_some, hp _ (List.getElem_mem hi), hw2, dif_pos hi]
    cases q xs[i] <;> rfl
  · have : decide ((xs.length : Int) < lenI xs) = false := by simp only [lenI_eq]; exact decide_eq_false (by omega)
    simp only [this, cond_false]

theorem containsFunc_eq {xs : List Int} {p : Int → Option Bool} {q : Int → Bool} (hl : xs.length < 4611686018427387904) (hp : ∀ x ∈ xs, p x = some (q x)) : g_slices_ContainsFunc_int_int xs p = some (xs.any q) := by
  unfold g_slices_ContainsFunc_int_int
  obtain ⟨r, h1, h2⟩ := indexFunc_eq hl hp
  rw [h1, Option.bind_some, h2]

/- who is in whose way -/
def wayB (l : List Int) (through : Bool) (i j : Int) : Bool := if through then decide (l.getD j.toNat 0 < l.getD i.toNat 0) else decide (l.getD i.toNat 0 < l.getD j.toNat 0)
theorem inWay_eq {l : List Int} {through : Bool} {i j : Int} (hi : 0 ≤ i ∧ i < (l.length : Int)) (hj : 0 ≤ j ∧ j < (l.length : Int)) : g_ref09_InWay l through i j = some (wayB l through i j) := by
  unfold g_ref09_InWay wayB
  rw [idx_getD (d := 0) hi.1 hi.2, idx_getD (d := 0) hj.1 hj.2]
  cases through <;> rfl
theorem way_eq (l : List Int) (through : Bool) : ∃ w, g_depot_leaving_way l through = some w ∧ ∀ i j : Int, (0 ≤ i ∧ i < (l.length : Int)) → (0 ≤ j ∧ j < (l.length : Int)) → w (i, j) = some (wayB l through i j) := by
  unfold g_depot_leaving_way
  cases through with
  | true =>
    refine ⟨_, rfl, fun i j hi hj => ?_⟩
    simp only [g_depot_leaving_through, wayB, idx_getD (d := 0) hi.1 hi.2, idx_getD (d := 0) hj.1 hj.2]
    rfl
  | false =>
    refine ⟨_, rfl, fun i j hi hj => ?_⟩
    simp only [g_depot_leaving_dead, wayB, idx_getD (d := 0) hi.1 hi.2, idx_getD (d := 0) hj.1 hj.2]
    rfl

theorem proves_eq (l : List Int) (through : Bool) (n : Int) (p : List Int) (hl : l.length ≤ 40) (hp : p.length ≤ 40) : RelS (fun a b => a = b) (g_depot_Proves l through n p) (g_ref09_Proves l through n p) := by
  unfold g_depot_Proves g_ref09_Proves
  have h200 : decide (lenI l > 200) = false := decide_eq_false (by simp only [lenI_eq]; omega)
  simp only [h200, cond_false]
  refine RelS.bind (Q := fun a b => a = b) ?_ ?_
  · refine RelS.bind (order_eq l (by omega)) ?_
    rintro x _ rfl
    cases x <;> simp only [Bool.not_false, Bool.not_true, cond_true, cond_false]
    · exact .some rfl
    · cases decide (n < 0) <;> exact .some rfl
  · rintro c _ rfl
    cases c with
    | true => exact .some rfl
    | false =>
      simp only [cond_false]
      obtain ⟨w, hw, hway⟩ := way_eq l through
      rw [hw, Option.bind_some]
      refine RelS.bind (Q := fun t t' => t = t') ?_ (fun t t' e => by subst e; cases t <;> exact .some rfl)
      refine RelS.iter (fun (s s' : Int) => s = s' ∧ 0 ≤ s ∧ s ≤ (p.length : Int) ∧ ∀ j : Int, 0 ≤ j → j < s → 0 ≤ p.getD j.toNat 0 ∧ p.getD j.toNat 0 < (l.length : Int)) _ (fun s => ((p.length : Int) - s).toNat) ⟨rfl, by simp, by simp, fun j h1 h2 => by omega⟩ (by simp only [big]; omega) ?_
      rintro k _ ⟨rfl, h0, h1, hin⟩
      by_cases hk : k < (p.length : Int)
      · have hwl : w64 ((l.length : Int) - 1) = l.length - 1 := w64_in (by omega) (by omega)
        simp only [lenI_eq, hk, decide_true, cond_true, idx_getD (d := 0) h0 hk, Option.bind_some, within_eq, in_eq, hwl]
        generalize hx : p.getD k.toNat 0 = x
        by_cases hr : 0 ≤ x ∧ x ≤ (l.length : Int) - 1
        · simp only [hr.1, hr.2, decide_true, Bool.and_true, Bool.not_true, cond_false]
          have hw2 : w64 (k + 1) = k + 1 := w64_in (by omega) (by omega)
          have hsl : slO p 0 k = some (p.take k.toNat) := by rw [slO_some ⟨by omega, h0, h1⟩]; simp
          -- the elements before
          have hmem : ∀ y ∈ p.take k.toNat, ∃ j : Nat, j < k.toNat ∧ y = p.getD j 0 ∧ (0 ≤ y ∧ y < (l.length : Int)) := by
            intro y hy
            obtain ⟨j, hj, rfl⟩ := List.getElem_of_mem hy
            simp only [List.length_take] at hj
            have := hin j (by omega) (by omega)
            have e : (p.take k.toNat)[j]'(by simp only [List.length_take]; omega) = p.getD j 0 := by
              rw [List.getElem_take]
              have hj' : j < p.length := by omega
              simp [List.getD, hj']
            rw [e]
            exact ⟨j, by omega, rfl, by simpa using this⟩
          have hcf : g_slices_ContainsFunc_int_int (p.take k.toNat) (fun y => g_depot_Proves_1 y w x) = some ((p.take k.toNat).any fun y => !wayB l through y x) := by
            refine containsFunc_eq (by simp only [List.length_take]; omega) (fun y hy => ?_)
            obtain ⟨j, _, _, hy2⟩ := hmem y hy
            unfold g_depot_Proves_1
            rw [hway y x hy2 ⟨hr.1, by omega⟩]
            rfl
          -- the specification's loop
          have hin' : iter (σ := Int) (τ := Unit ⊕ Bool) (fun s83 =>
cond ((decide (s83 < k))) (Option.bind (idx p s83) fun x86 =>
Option.bind (g_ref09_InWay l through x86 x) fun y88 =>
cond ((!y88)) (some (.inr ((.inr false)))) (some (.inl ((w64 (s83 + 1)))))) (some (.inr ((.inl (())))))) big 0 = some (if ((p.take k.toNat).any fun y => !wayB l through y x) then .inr false else .inl ()) := by
            rw [iter_search k.toNat (fun j => if wayB l through (p.getD j 0) x then none else some false) (by simp only [big]; omega)]
            · congr 1
              cases hf : (List.range k.toNat).findSome? (fun j => if wayB l through (p.getD j 0) x then none else some false) with
              | none =>
                rw [List.findSome?_eq_none_iff] at hf
                have : ((p.take k.toNat).any fun y => !wayB l through y x) = false := by
                  rw [List.any_eq_false]
                  intro y hy
                  obtain ⟨j, hj, rfl, _⟩ := hmem y hy
                  have := hf j (by simpa using hj)
                  split at this
                  · simp_all
                  · cases this
                rw [this]; rfl
              | some r =>
                obtain ⟨j, hj, h2⟩ := List.exists_of_findSome?_eq_some hf
                simp only [List.mem_range] at hj
                split at h2
                · cases h2
                · cases h2
                  rename_i hq
                  have : ((p.take k.toNat).any fun y => !wayB l through y x) = true := by
                    rw [List.any_eq_true]
                    have hj' : j < p.length := by omega
                    refine ⟨p.getD j 0, ?_, by simp_all⟩
                    rw [show p.getD j 0 = (p.take k.toNat)[j]'(by simp only [List.length_take]; omega) from by rw [List.getElem_take]; simp [List.getD, hj']]
                    exact List.getElem_mem _
                  rw [this]; rfl
            · intro j hj
              have hj1 : decide ((j : Int) < k) = true := decide_eq_true (by omega)
              have hj2 := hin j (by omega) (by omega)
              simp only [Int.toNat_natCast] at hj2
              have hw3 : w64 ((j : Int) + 1) = j + 1 := w64_in (by omega) (by omega)
              simp only [hj1, cond_true, idx_getD (d := 0) (l := p) (i := (j : Int)) (by omega) (by omega), Int.toNat_natCast, Option.bind_some, inWay_eq ⟨hj2.1, hj2.2⟩ ⟨hr.1, (show x < (l.length : Int) by omega)⟩, hw3]
              cases wayB l through (p.getD j 0) x <;> rfl
            · have hj1 : decide (((k.toNat : Nat) : Int) < k) = false := decide_eq_false (by omega)
              simp only [hj1, cond_false]
          have next : StepR (fun (s s' : Int) => s = s' ∧ 0 ≤ s ∧ s ≤ (p.length : Int) ∧ ∀ j : Int, 0 ≤ j → j < s → 0 ≤ p.getD j.toNat 0 ∧ p.getD j.toNat 0 < (l.length : Int)) (fun (t t' : Unit ⊕ Bool) => t = t') (fun s => ((p.length : Int) - s).toNat) k (.inl (k + 1)) (.inl (k + 1)) := by
            refine ⟨⟨rfl, by omega, by omega, fun j hj1 hj2 => ?_⟩, by simp only; omega⟩
            by_cases e : j = k
            · subst e; rw [hx]; omega
            · exact hin j hj1 (by omega)
          by_cases hk0 : 0 < k
          · have hw3 : w64 (k - 1) = k - 1 := w64_in (by omega) (by omega)
            simp only [show decide (k > 0) = true from decide_eq_true hk0, cond_true, hw3, idx_getD (d := 0) (l := p) (i := k - 1) (by omega) (by omega), Option.bind_some]
            cases decide (x ≤ p.getD (k - 1).toNat 0) with
            | true => exact .some rfl
            | false =>
              simp only [cond_false, hsl, Option.bind_some, hcf]
              rw [hin', Option.bind_some]
              cases ((p.take k.toNat).any fun y => !wayB l through y x) with
              | true => exact .some rfl
              | false => simp only [cond_false, hw2]; exact .some next
          · simp only [show decide (k > 0) = false from decide_eq_false hk0, cond_false, hsl, Option.bind_some, hcf]
            rw [hin', Option.bind_some]
            cases ((p.take k.toNat).any fun y => !wayB l through y x) with
            | true => exact .some rfl
            | false => simp only [cond_false, hw2]; exact .some next
        · have : (decide (0 ≤ x) && decide (x ≤ (l.length : Int) - 1)) = false := by
            simp only [Bool.and_eq_false_iff, decide_eq_false_iff_not]; omega
          simp only [this, Bool.not_false, cond_true]
          exact .some rfl
      · simp only [lenI_eq, hk, decide_false, cond_false]
        exact .some rfl

theorem law_proves (l : List Int) (through : Bool) (n : Int) (p : List Int) : g_law09_DepotProves l through n p = some true := by
  unfold g_law09_DepotProves
  by_cases h1 : l.length ≤ 40
  · by_cases h2 : p.length ≤ 40
    · have e1 : decide (lenI l > 40) = false := decide_eq_false (by simp only [lenI_eq]; omega)
      have e2 : decide (lenI p > 40) = false := decide_eq_false (by simp only [lenI_eq]; omega)
      obtain ⟨a, _, h3, h4, rfl⟩ := proves_eq l through n p h1 h2
      simp [e1, e2, h3, h4]
    · have e1 : decide (lenI l > 40) = false := decide_eq_false (by simp only [lenI_eq]; omega)
      have e2 : decide (lenI p > 40) = true := decide_eq_true (by simp only [lenI_eq]; omega)
      simp [e1, e2]
  · have e1 : decide (lenI l > 40) = true := decide_eq_true (by simp only [lenI_eq]; omega)
    simp [e1]
end Go.Ai.Sx
