/- Motion: what is as defined. -/
import Derived.Test.YtcokdbcdlaofbaaGreatM12
import Derived.Test.YtcokdbcdlaofbaaGreatM9
set_option linter.unusedSimpArgs false
set_option linter.unusedVariables false
set_option linter.unusedSectionVars false
namespace Go.Ai.Sx
def inB (n a b : Int) : Bool := decide (a ≤ n) && decide (n ≤ b)
theorem inB_iff {n a b : Int} : inB n a b = true ↔ a ≤ n ∧ n ≤ b := by
 unfold inB
 rw [Bool.and_eq_true, decide_eq_true_eq, decide_eq_true_eq]
theorem inB_not {n a b : Int} : inB n a b = false ↔ n < a ∨ b < n := by
 unfold inB
 rw [Bool.and_eq_false_iff, decide_eq_false_iff_not, decide_eq_false_iff_not]
 omega
theorem within_gen (n a b : Int) : (Option.bind (cond (decide (n ≥ a)) (some (decide (n ≤ b))) (some false)) fun c2 => some c2) = some (inB n a b) := by
 unfold inB
 by_cases h : a ≤ n <;> simp [h]
theorem mwithin (n a b : Int) : g_motion_within n a b = some (inB n a b) := within_gen n a b
theorem rin (n a b : Int) : g_ref03_in n a b = some (inB n a b) := within_gen n a b
theorem index_gen {A : Type} (s : List A) (hs : s.length ≤ 9223372036854775807) (f : A → Option Bool) (p : A → Bool) (hf : ∀ x ∈ s, f x = some (p x)) :
    ∃ k : Int, (Option.bind (iter (σ := (Int)) (τ := Unit ⊕ (Int)) (fun s5 =>
cond ((decide (s5 < (lenI s)))) (Option.bind (idx s s5) fun x8 =>
Option.bind (f x8) fun y9 =>
cond (y9) (some (.inr ((.inr s5)))) (some (.inl ((w64 (s5 + 1)))))) (some (.inr ((.inl (())))))) big 0) fun t11 =>
alt (fun b13 => some ((-1))) (fun b14 => some b14) t11) = some k ∧ decide (k ≥ 0) = s.any p := by
  rw [iter_search s.length (fun i : Nat => match s[i]? with | some x => if p x then some (i : Int) else none | none => none) (by simp only [big]; omega)]
  · cases h : (List.range s.length).findSome? (fun i : Nat => match s[i]? with | some x => if p x then some (i : Int) else none | none => none) with
    | none =>
      simp only [Option.bind_some, alt]
      refine ⟨-1, rfl, ?_⟩
      have : s.any p = false := by
        rw [List.any_eq_false]
        intro x hx hp
        obtain ⟨i, hi, rfl⟩ := List.getElem_of_mem hx
        rw [List.findSome?_eq_none_iff] at h
        have := h i (List.mem_range.2 hi)
        rw [List.getElem?_eq_getElem hi] at this
        simp only [hp, if_true] at this
        cases this
      rw [this]
      rfl
    | some k =>
      simp only [Option.bind_some, alt]
      refine ⟨k, rfl, ?_⟩
      obtain ⟨i, hi, h2⟩ := List.exists_of_findSome?_eq_some h
      have hi := List.mem_range.1 hi
      rw [List.getElem?_eq_getElem hi] at h2
      simp only [] at h2
      split at h2
      · rename_i hp
        cases h2
        rw [decide_eq_true (Int.natCast_nonneg i)]
        exact (List.any_eq_true.2 ⟨_, List.getElem_mem hi, hp⟩).symm
      · cases h2
  · intro i hi
    rw [decide_eq_true (show (i : Int) < lenI s by rw [lenI_eq]; omega), cond_true, idx_some hi, Option.bind_some, hf _ (List.getElem_mem hi), Option.bind_some, List.getElem?_eq_getElem hi]
    simp only []
    rw [w64_in (by omega) (by omega)]
    cases p s[i] <;> rfl
  · rw [decide_eq_false (show ¬ (s.length : Int) < lenI s by rw [lenI_eq]; omega), cond_false]
theorem contains_int (s : List Int) (hs : s.length ≤ 9223372036854775807) (f : Int → Option Bool) (p : Int → Bool) (hf : ∀ x ∈ s, f x = some (p x)) : g_slices_ContainsFunc_int_int s f = some (s.any p) := by
 obtain ⟨k, h1, h2⟩ := index_gen s hs f p hf
 unfold g_slices_ContainsFunc_int_int g_slices_IndexFunc_int_int
 rw [h1, Option.bind_some, h2]
def trB (t : Train) : Bool := inB t.1 1000 80000 && inB t.2.1 1 60000 && inB t.2.2.1 1 25000 && inB t.2.2.2.1 1 200000 && inB t.2.2.2.2.1 1 200000 && inB t.2.2.2.2.2.1 1 2000000 && inB t.2.2.2.2.2.2.1 0 100000 && inB t.2.2.2.2.2.2.2.1 0 10000 && inB t.2.2.2.2.2.2.2.2.1 0 100 && (inB t.2.2.2.2.2.2.2.2.2.1.length 1 8 && t.2.2.2.2.2.2.2.2.2.1.all fun g => inB g 1 1000)
theorem check_eq (t : Train) : g_motion_Check t = some (if trB t then 0 else 2) := by
 unfold g_motion_Check trB
 simp only [mwithin, Option.bind_some, lenI_eq]
 cases inB t.1 1000 80000
 ·rfl
 cases inB t.2.1 1 60000
 ·rfl
 cases inB t.2.2.1 1 25000
 ·rfl
 cases inB t.2.2.2.1 1 200000
 ·rfl
 cases inB t.2.2.2.2.1 1 200000
 ·rfl
 cases inB t.2.2.2.2.2.1 1 2000000
 ·rfl
 cases inB t.2.2.2.2.2.2.1 0 100000
 ·rfl
 cases inB t.2.2.2.2.2.2.2.1 0 10000
 ·rfl
 cases inB t.2.2.2.2.2.2.2.2.1 0 100
 ·rfl
 cases hl : inB (t.2.2.2.2.2.2.2.2.2.1.length : Int) 1 8
 ·rfl
 have hl := inB_iff.1 hl
 simp only [Bool.not_true, cond_false, Option.bind_some, Bool.true_and]
 rw [contains_int _ (by omega) _ (fun g => !inB g 1 1000) (fun x _ => by unfold g_motion_Check_1; rw [mwithin]; rfl)]
 simp only [Option.bind_some]
 rw [List.any_eq_not_all_not]
 simp only [Bool.not_not]
 cases t.2.2.2.2.2.2.2.2.2.1.all fun g => inB g 1 1000 <;> rfl
theorem iter_all0 {ρ : Type} {f : Int → Option (Int ⊕ (Unit ⊕ ρ))} {A : Type} (l : List A) (p : A → Bool) (r0 : ρ) (hN : l.length ≤ 9223372036854775807) (hf : ∀ (i : Nat) (h : i < l.length), f i = some (if p l[i] then .inl ((i : Int) + 1) else .inr (.inr r0))) (he : f l.length = some (.inr (.inl ()))) :
    iter f big 0 = some (if l.all p then .inl () else .inr r0) := by
  rw [iter_all l.length (fun i => if h : i < l.length then p l[i] else true) r0 (by simp only [big]; omega) (fun i hi => by rw [hf i hi, dif_pos hi]) he]
  congr 1
  have : ((List.range l.length).all fun i => if h : i < l.length then p l[i] else true) = l.all p := by
    rw [Bool.eq_iff_iff, List.all_eq_true, List.all_eq_true]
    constructor
    · intro h x hx
      obtain ⟨i, hi, rfl⟩ := List.getElem_of_mem hx
      have := h i (List.mem_range.2 hi)
      rwa [dif_pos hi] at this
    · intro h i hi
      have hi := List.mem_range.1 hi
      rw [dif_pos hi]
      exact h _ (List.getElem_mem hi)
  rw [this]
theorem train_eq (t : Train) : g_ref03_Train t = some (trB t) := by
 unfold g_ref03_Train trB
 simp only [rin, Option.bind_some]
 rw [show ((t.2.2.2.2.2.2.2.2.2.1.length : Nat) : Int) = lenI t.2.2.2.2.2.2.2.2.2.1 from rfl]
 cases inB t.1 1000 80000
 ·rfl
 cases inB t.2.1 1 60000
 ·rfl
 cases inB t.2.2.1 1 25000
 ·rfl
 cases inB t.2.2.2.1 1 200000
 ·rfl
 cases inB t.2.2.2.2.1 1 200000
 ·rfl
 cases inB t.2.2.2.2.2.1 1 2000000
 ·rfl
 cases inB t.2.2.2.2.2.2.1 0 100000
 ·rfl
 cases inB t.2.2.2.2.2.2.2.1 0 10000
 ·rfl
 cases inB t.2.2.2.2.2.2.2.2.1 0 100
 ·rfl
 cases hl : inB (lenI t.2.2.2.2.2.2.2.2.2.1) 1 8
 ·rfl
 have hl := inB_iff.1 hl
 rw [lenI_eq] at hl
 simp only [Bool.not_true, cond_false, Option.bind_some, Bool.true_and]
 rw [iter_all0 t.2.2.2.2.2.2.2.2.2.1 (fun g => inB g 1 1000) false (by omega)]
 ·cases t.2.2.2.2.2.2.2.2.2.1.all fun g => inB g 1 1000 <;> rfl
 ·intro i h
  rw [decide_eq_true (show (i : Int) < lenI t.2.2.2.2.2.2.2.2.2.1 by rw [lenI_eq]; omega), cond_true, idx_some h, Option.bind_some, w64_in (by omega) (by omega)]
  cases inB _ 1 1000 <;> rfl
 ·rw [decide_eq_false (show ¬ ((t.2.2.2.2.2.2.2.2.2.1.length : Nat) : Int) < lenI t.2.2.2.2.2.2.2.2.2.1 by rw [lenI_eq]; omega), cond_false]
structure TrOk (t : Train) : Prop where
 m : 1000 ≤ t.1 ∧ t.1 ≤ 80000
 len : 1 ≤ t.2.1 ∧ t.2.1 ≤ 60000
 sp : 1 ≤ t.2.2.1 ∧ t.2.2.1 ≤ 25000
 ef : 1 ≤ t.2.2.2.1 ∧ t.2.2.2.1 ≤ 200000
 br : 1 ≤ t.2.2.2.2.1 ∧ t.2.2.2.2.1 ≤ 200000
 po : 1 ≤ t.2.2.2.2.2.1 ∧ t.2.2.2.2.2.1 ≤ 2000000
 re : 0 ≤ t.2.2.2.2.2.2.1 ∧ t.2.2.2.2.2.2.1 ≤ 100000
 ri : 0 ≤ t.2.2.2.2.2.2.2.1 ∧ t.2.2.2.2.2.2.2.1 ≤ 10000
 ba : 0 ≤ t.2.2.2.2.2.2.2.2.1 ∧ t.2.2.2.2.2.2.2.2.1 ≤ 100
 gl : 1 ≤ (t.2.2.2.2.2.2.2.2.2.1.length : Int) ∧ (t.2.2.2.2.2.2.2.2.2.1.length : Int) ≤ 8
 gr : ∀ g ∈ t.2.2.2.2.2.2.2.2.2.1, 1 ≤ g ∧ g ≤ 1000
theorem trB_iff {t : Train} : trB t = true ↔ TrOk t := by
 unfold trB
 simp only [Bool.and_eq_true, inB_iff, List.all_eq_true]
 constructor
 ·rintro ⟨⟨⟨⟨⟨⟨⟨⟨⟨a, b⟩, c⟩, d⟩, e⟩, f⟩, g⟩, h⟩, i⟩, j, k⟩
  exact ⟨a, b, c, d, e, f, g, h, i, j, k⟩
 ·rintro ⟨a, b, c, d, e, f, g, h, i, j, k⟩
  exact ⟨⟨⟨⟨⟨⟨⟨⟨⟨a, b⟩, c⟩, d⟩, e⟩, f⟩, g⟩, h⟩, i⟩, j, k⟩
end Go.Ai.Sx
