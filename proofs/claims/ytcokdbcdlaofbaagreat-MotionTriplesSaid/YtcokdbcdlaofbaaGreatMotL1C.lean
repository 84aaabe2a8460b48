/- Motion: the laws of couples, steps, the ledger. -/
import Derived.Test.YtcokdbcdlaofbaaGreatM15
set_option linter.unusedSimpArgs false
set_option linter.unusedVariables false
set_option linter.unusedSectionVars false
namespace Go.Ai.Sx
theorem short_eq (t : Train) : g_law03_short t = some (decide (lenI t.2.2.2.2.2.2.2.2.2.1 ≤ 20)) := rfl
theorem zero_train : (((0, 0, 0, 0, 0, 0, 0, 0, 0, [], ()) : Train)).2.2.2.2.2.2.2.2.2.1.length ≤ 9223372036854775807 := by decide
theorem law_couples (known3 : g_law03_known = some true) (a b : Train) : g_law03_MotionCouples a b = some true := by
 unfold g_law03_MotionCouples
 simp only [short_eq, Option.bind_some, known3]
 by_cases sa : lenI a.2.2.2.2.2.2.2.2.2.1 ≤ 20
 case neg => rw [decide_eq_false sa]; rfl
 by_cases sb : lenI b.2.2.2.2.2.2.2.2.2.1 ≤ 20
 case neg => rw [decide_eq_true sa, decide_eq_false sb]; rfl
 rw [decide_eq_true sa, decide_eq_true sb]
 rw [lenI_eq] at sa sb
 simp only [Bool.not_true, cond_false, Option.bind_some, check_eq, train_eq]
 by_cases h : trB a = false ∨ trB b = false ∨ a.2.2.2.2.2.2.2.2.2.1.length ≠ b.2.2.2.2.2.2.2.2.2.1.length
 ·rw [couple_no h, Option.bind_some]
  simp only [same_refl _ zero_train]
  cases ha : trB a with
  | false => rfl
  | true =>
   cases hb : trB b with
   | false => rfl
   | true =>
    have hl : a.2.2.2.2.2.2.2.2.2.1.length ≠ b.2.2.2.2.2.2.2.2.2.1.length := by
     rcases h with h | h | h
     ·rw [ha] at h; cases h
     ·rw [hb] at h; cases h
     ·exact h
    have e : (lenI a.2.2.2.2.2.2.2.2.2.1 != lenI b.2.2.2.2.2.2.2.2.2.1) = true := by
     rw [bne_iff_ne, lenI_eq, lenI_eq]; omega
    rw [e]
    rfl
 ·have ha : trB a = true := by cases q : trB a with | true => rfl | false => exact absurd (.inl q) h
  have hb : trB b = true := by cases q : trB b with | true => rfl | false => exact absurd (.inr (.inl q)) h
  have hl : a.2.2.2.2.2.2.2.2.2.1.length = b.2.2.2.2.2.2.2.2.2.1.length := Classical.byContradiction fun q => h (.inr (.inr q))
  have e : (lenI a.2.2.2.2.2.2.2.2.2.1 != lenI b.2.2.2.2.2.2.2.2.2.1) = false := by
   rw [bne_eq_false_iff_eq, lenI_eq, lenI_eq, hl]
  have hc : (coupS a b).2.2.2.2.2.2.2.2.2.1.length ≤ 9223372036854775807 := by
   show (List.zipWith min _ _).length ≤ _
   rw [List.length_zipWith]
   omega
  rw [couple_eq (trB_iff.1 ha) (trB_iff.1 hb) hl, ha, hb, e]
  simp only [Option.bind_some, rcouple_eq (trB_iff.1 ha) (trB_iff.1 hb) hl, Bool.not_true, cond_false, train_eq]
  cases hs : trB (coupS a b) with
  | true =>
   simp only [if_true, cond_true, same_refl _ hc]
   rfl
  | false =>
   simp only [Bool.false_eq_true, if_false, cond_false, same_refl _ zero_train]
   rfl
theorem zip_comm (a b : List Int) : List.zipWith min a b = List.zipWith min b a := by
 induction a generalizing b with
 | nil => simp
 | cons x a ih =>
  cases b with
  | nil => simp
  | cons y b => rw [List.zipWith_cons_cons, List.zipWith_cons_cons, ih, Int.min_comm]
theorem zip_assoc (a b c : List Int) : List.zipWith min (List.zipWith min a b) c = List.zipWith min a (List.zipWith min b c) := by
 induction a generalizing b c with
 | nil => simp
 | cons x a ih =>
  cases b with
  | nil => simp
  | cons y b =>
   cases c with
   | nil => simp
   | cons z c => rw [List.zipWith_cons_cons, List.zipWith_cons_cons, List.zipWith_cons_cons, List.zipWith_cons_cons, ih, Int.min_assoc]
theorem coup_comm (a b : Train) : coupS a b = coupS b a := by
 unfold coupS
 rw [zip_comm, Int.add_comm a.1, Int.add_comm a.2.1, Int.min_comm a.2.2.1, Int.add_comm a.2.2.2.1, Int.add_comm a.2.2.2.2.1, Int.add_comm a.2.2.2.2.2.1, Int.add_comm a.2.2.2.2.2.2.1, Int.add_comm a.2.2.2.2.2.2.2.1, Int.min_comm a.2.2.2.2.2.2.2.2.1]
theorem coup_assoc (a b c : Train) : coupS (coupS a b) c = coupS a (coupS b c) := by
 unfold coupS
 simp only [zip_assoc, Int.add_assoc, Int.min_assoc]
theorem coup_len {a b : Train} (h : a.2.2.2.2.2.2.2.2.2.1.length = b.2.2.2.2.2.2.2.2.2.1.length) : (coupS a b).2.2.2.2.2.2.2.2.2.1.length = a.2.2.2.2.2.2.2.2.2.1.length := by
 show (List.zipWith min _ _).length = _
 rw [List.length_zipWith]
 omega
theorem law_triples (known3 : g_law03_known = some true) (a b c : Train) : g_law03_MotionTriples a b c = some true := by
 unfold g_law03_MotionTriples
 simp only [short_eq, Option.bind_some, known3, train_eq]
 by_cases sa : lenI a.2.2.2.2.2.2.2.2.2.1 ≤ 20
 case neg => rw [decide_eq_false sa]; rfl
 by_cases sb : lenI b.2.2.2.2.2.2.2.2.2.1 ≤ 20
 case neg => rw [decide_eq_true sa, decide_eq_false sb]; rfl
 by_cases sc : lenI c.2.2.2.2.2.2.2.2.2.1 ≤ 20
 case neg => rw [decide_eq_true sa, decide_eq_true sb, decide_eq_false sc]; rfl
 rw [decide_eq_true sa, decide_eq_true sb, decide_eq_true sc]
 rw [lenI_eq] at sa sb sc
 cases ha : trB a with
 | false => rfl
 | true =>
 cases hb : trB b with
 | false => rfl
 | true =>
 cases hc : trB c with
 | false => rfl
 | true =>
 by_cases h1 : a.2.2.2.2.2.2.2.2.2.1.length = b.2.2.2.2.2.2.2.2.2.1.length
 case neg =>
  have e : (lenI a.2.2.2.2.2.2.2.2.2.1 != lenI b.2.2.2.2.2.2.2.2.2.1) = true := by
   rw [bne_iff_ne, lenI_eq, lenI_eq]; omega
  rw [e]; rfl
 by_cases h2 : b.2.2.2.2.2.2.2.2.2.1.length = c.2.2.2.2.2.2.2.2.2.1.length
 case neg =>
  have e1 : (lenI a.2.2.2.2.2.2.2.2.2.1 != lenI b.2.2.2.2.2.2.2.2.2.1) = false := by
   rw [bne_eq_false_iff_eq, lenI_eq, lenI_eq, h1]
  have e : (lenI b.2.2.2.2.2.2.2.2.2.1 != lenI c.2.2.2.2.2.2.2.2.2.1) = true := by
   rw [bne_iff_ne, lenI_eq, lenI_eq]; omega
  rw [e1, e]; rfl
 have e1 : (lenI a.2.2.2.2.2.2.2.2.2.1 != lenI b.2.2.2.2.2.2.2.2.2.1) = false := by
  rw [bne_eq_false_iff_eq, lenI_eq, lenI_eq, h1]
 have e2 : (lenI b.2.2.2.2.2.2.2.2.2.1 != lenI c.2.2.2.2.2.2.2.2.2.1) = false := by
  rw [bne_eq_false_iff_eq, lenI_eq, lenI_eq, h2]
 have ta := trB_iff.1 ha
 have tb := trB_iff.1 hb
 have tc := trB_iff.1 hc
 rw [e1, e2, couple_eq ta tb h1, couple_eq tb ta h1.symm, couple_eq tb tc h2, coup_comm b a]
 simp only [Bool.not_true, cond_false, Option.bind_some, bne_self_eq_false]
 have lab := coup_len h1
 have lbc := coup_len h2
 cases hs : trB (coupS a b) with
 | false =>
  simp only [Bool.false_eq_true, if_false, same_refl _ zero_train]
  rfl
 | true =>
  simp only [if_true, same_refl (coupS a b) (by omega), Option.bind_some, Bool.not_true, cond_false, show ((0 : Int) != 0) = false from rfl]
  cases ht : trB (coupS b c) with
  | false => rfl
  | true =>
   simp only [if_true, cond_false, show ((0 : Int) != 0) = false from rfl]
   rw [couple_eq (trB_iff.1 hs) tc (by omega), couple_eq ta (trB_iff.1 ht) (by omega), coup_assoc]
   simp only [Option.bind_some, beq_self_eq_true, cond_true]
   have lx : (coupS a (coupS b c)).2.2.2.2.2.2.2.2.2.1.length = a.2.2.2.2.2.2.2.2.2.1.length := coup_len (by omega)
   cases hx : trB (coupS a (coupS b c)) with
   | true => simp only [if_true, same_refl (coupS a (coupS b c)) (by omega)]; rfl
   | false => simp only [Bool.false_eq_true, if_false, same_refl _ zero_train]; rfl
end Go.Ai.Sx
