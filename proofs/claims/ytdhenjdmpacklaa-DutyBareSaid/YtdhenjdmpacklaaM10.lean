/- The duties: the tasks that cannot be covered; and the law. -/
import Derived.Test.YtdhenjdmpacklaaM9
namespace Go.Ai.Sx
def marks (c : List Bool) (xs : List Int) : List Bool := xs.foldl (fun c x => c.set x.toNat true) c
theorem marks_len (c : List Bool) (xs : List Int) : (marks c xs).length = c.length := by
 unfold marks
 induction xs generalizing c with
 | nil => rfl
 | cons x xs ih => rw [List.foldl_cons, ih, List.length_set]
theorem marks_app (c : List Bool) (xs ys : List Int) : marks c (xs ++ ys) = marks (marks c xs) ys := List.foldl_append
theorem marks_flat {X : Type} (g : X → List Int) (l : List X) (c : List Bool) : l.foldl (fun c q => marks c (g q)) c = marks c (l.flatMap g) := by
 induction l generalizing c with
 | nil => rfl
 | cons q l ih => rw [List.foldl_cons, ih, List.flatMap_cons, marks_app]
theorem sb_marks {n : Nat} {c : List Bool} (hc : c.length = n) {xs : List Int} (hx : ∀ x ∈ xs, InR n x) {z : Int} (hz : InR n z) : sb (marks c xs) z = true ↔ sb c z = true ∨ z ∈ xs := by
 induction xs generalizing c with
 | nil => simp [marks]
 | cons x xs ih =>
  have h1 := ih (c := c.set x.toNat true) (by rw [List.length_set]; exact hc) fun w hw => hx w (List.mem_cons_of_mem _ hw)
  show sb (marks (c.set x.toNat true) xs) z = true ↔ _
  rw [h1, sb_set hc (hx x List.mem_cons_self) hz, List.mem_cons]
  by_cases e : x = z
  ·rw [if_pos e]; simp [e]
  ·rw [if_neg e]
   constructor
   ·rintro (h | h)
    ·exact .inl h
    ·exact .inr (.inr h)
   ·rintro (h | h | h)
    ·exact .inl h
    ·exact (e h.symm).elim
    ·exact .inr h
theorem fold_list {X σ : Type} (F : σ → X → σ) (d : X) (xs : List X) (c : σ) : (List.range xs.length).foldl (fun c i => F c (xs.getD i d)) c = xs.foldl F c := by
 have e : xs = (List.range xs.length).map fun i => xs.getD i d := by
  apply List.ext_getElem (by simp)
  intro i h1 h2
  rw [List.getElem_map, List.getElem_range, getD_get h1]
 conv => rhs; rw [e, List.foldl_map]
def tsk (p : List (List Int)) (q : DutyPiece) : List Int := ((p.getD q.1.toNat []).take (q.2.2.1 + 1).toNat).drop q.2.1.toNat
section
variable {n : Nat} {t : List Task} {y : Yard} {p : List (List Int)} {r : WorkRules} {q : DutyPiece}
theorem tsk_len (h : PcOk t y p q) : (tsk p q).length = (q.2.2.1 + 1 - q.2.1).toNat := by
 have h1 := h.le
 have h2 := h.i.to
 have h3 := h.i.fr
 unfold tsk
 rw [List.length_drop, List.length_take]
 omega
theorem tsk_get (h : PcOk t y p q) {k : Nat} (hk : k < (tsk p q).length) : (tsk p q).getD k 0 = (p.getD q.1.toNat []).getD (q.2.1.toNat + k) 0 := by
 have h0 := tsk_len h
 have h1 := h.le
 have h2 := h.i.to
 have h3 := h.i.fr
 unfold tsk List.getD
 rw [List.getElem?_drop, List.getElem?_take, if_pos (by omega)]
theorem tsk_rng (h : PcOk t y p q) {x : Int} (hx : x ∈ tsk p q) : InR t.length x := h.rng x (List.mem_of_mem_take (List.mem_of_mem_drop hx))
theorem mark_prog {xs : List Int} (hx : ∀ x ∈ xs, InR n x) (hl : xs.length < 1000) {c : List Bool} (hc : c.length = n) :
    iter (σ := (Int × (List Bool))) (τ := ((List Bool))) (fun s79 =>
cond ((decide (s79.1 < (lenI xs)))) (Option.bind (idx xs s79.1) fun x82 =>
Option.bind (idx s79.2 x82) fun _ =>
some (.inl (((w64 (s79.1 + 1)), (s79.2).set (Int.toNat x82) true)))) (some (.inr s79.2))) big ((0, c)) = some (marks c xs) := by
 rw [iter_fold (s0 := ((0 : Int), c)) (fun k c => ((k : Int), c)) (fun k c => c.set (xs.getD k 0).toNat true) xs.length (fun _ c => c.length = n) c id rfl (by simp only [big]; omega) hc]
 ·simp only [id]
  rw [fold_list (fun (c : List Bool) (x : Int) => c.set x.toNat true) 0 xs c]
  rfl
 ·intro k c hk hc
  have hw : w64 ((k : Int) + 1) = ((k + 1 : Nat) : Int) := by rw [w64_in (by omega) (by omega)]; omega
  have hm := hx _ (getD_memx (d := (0 : Int)) hk)
  refine ⟨?_, by rw [List.length_set]; exact hc⟩
  simp only [decide_eq_true (show (k : Int) < lenI xs by rw [lenI_eq]; omega), cond_true, idx_natD 0 hk, Option.bind_some, idx_getD (l := c) (d := false) hm.1 (by have := hm.2; omega), hw]
 ·intro c _
  simp only [decide_eq_false (show ¬ (xs.length : Int) < lenI xs by rw [lenI_eq]; omega), cond_false, id]
theorem mark_ref (hq : PcOk t y p q) (hn : t.length = n) (hrow : ∀ r ∈ p, r.length ≤ 80) {c : List Bool} (hc : c.length = n) :
    iter (σ := (Int × (List Bool))) (τ := ((List Bool))) (fun s213 =>
cond ((decide (s213.1 ≤ q.2.2.1))) (Option.bind (idx p q.1) fun x216 =>
Option.bind (idx x216 s213.1) fun x217 =>
Option.bind (idx s213.2 x217) fun _ =>
some (.inl (((w64 (s213.1 + 1)), (s213.2).set (Int.toNat x217) true)))) (some (.inr s213.2))) big ((q.2.1, c)) = some (marks c (tsk p q)) := by
 have h0 := tsk_len hq
 have h1 := hq.le
 have h2 := hq.i.to
 have h3 := hq.i.fr
 have h4 := hq.i.car
 have h5 := hrow _ (getD_memx (l := p) (i := q.1.toNat) (d := ([] : List Int)) (by omega))
 rw [iter_fold (s0 := (q.2.1, c)) (fun k c => (((q.2.1.toNat + k : Nat) : Int), c)) (fun k c => c.set ((tsk p q).getD k 0).toNat true) (tsk p q).length (fun _ c => c.length = n) c id (by rw [Nat.add_zero, Int.toNat_of_nonneg h3.1]) (by simp only [big]; omega) hc]
 ·simp only [id]
  rw [fold_list (fun (c : List Bool) (x : Int) => c.set x.toNat true) 0 (tsk p q) c]
  rfl
 ·intro k c hk hc
  have hw : w64 (((q.2.1.toNat + k : Nat) : Int) + 1) = ((q.2.1.toNat + (k + 1) : Nat) : Int) := by rw [w64_in (by omega) (by omega)]; omega
  have hm := tsk_rng hq (getD_memx (d := (0 : Int)) hk)
  rw [hn] at hm
  refine ⟨?_, by rw [List.length_set]; exact hc⟩
  simp only [decide_eq_true (show ((q.2.1.toNat + k : Nat) : Int) ≤ q.2.2.1 by omega), cond_true, idx_getD (l := p) (d := ([] : List Int)) h4.1 h4.2, idx_natD (l := p.getD q.1.toNat []) 0 (show q.2.1.toNat + k < (p.getD q.1.toNat []).length by omega), Option.bind_some, hw]
  rw [← tsk_get hq hk, idx_getD (l := c) (d := false) hm.1 (by have := hm.2; omega), Option.bind_some]
 ·intro c _
  simp only [decide_eq_false (show ¬ ((q.2.1.toNat + (tsk p q).length : Nat) : Int) ≤ q.2.2.1 by omega), cond_false, id]
theorem unm_loop {c : List Bool} (hc : c.length = n) (hn : n < 1000) : iter (σ := ((List Int) × Int)) (τ := ((List Int))) (fun s96 =>
cond ((decide (s96.2 < (n : Int)))) (Option.bind (idx c s96.2) fun x102 =>
cond ((!x102)) (Option.bind (appO 8 s96.1 ([s96.2])) fun x104 =>
some (.inl ((x104, (w64 (s96.2 + 1)))))) (some (.inl ((s96.1, (w64 (s96.2 + 1))))))) (some (.inr s96.1))) big (([], 0)) = some (sel (fun x => !c.getD x false) n) := by
 refine iter_chain (fun k => (sel (fun x => !c.getD x false) k, (k : Int))) n _ rfl (by simp only [big]; omega) (fun k hk => ?_) ?_
 ·have hw : w64 ((k : Int) + 1) = ((k + 1 : Nat) : Int) := by rw [w64_in (by omega) (by omega)]; omega
  have hl := sel_len (fun x => !c.getD x false) k
  simp only [decide_eq_true (show (k : Int) < n by omega), cond_true, idx_natD (l := c) false (show k < c.length by omega), Option.bind_some, hw, sel_succ]
  cases c.getD k false with
  | true => rfl
  | false =>
   rw [Bool.not_false, cond_true, appO_some (by rw [List.length_singleton]; omega)]
   rfl
 ·simp only [decide_eq_false (show ¬ (n : Int) < n by omega), cond_false]
def covP (t : List Task) (y : Yard) (p : List (List Int)) (r : WorkRules) : List Int := (pcs p).flatMap fun q => if ok1 t y p r q then tsk p q else []
theorem bare_prog (hF : Few t y) (hf : fine t y = true) (hr : rulesB r = true) (hS : PlanS t y p) (hp : p.length ≤ 80) (hrow : ∀ r ∈ p, r.length ≤ 80) (hcr : g_duty_crewed t y p r = some (some ((t, y, ()), p, r, ()), true)) :
    g_duty_Bare t y p r = some (sel (fun x => !(marks (List.replicate t.length false) (covP t y p r)).getD x false) t.length, 0) := by
  have ht := hF.t
  have hl := pcs_len hp hrow
  have hm : mkO 1 (lenI t) (false : Bool) = some (List.replicate t.length false) := by
    rw [lenI_eq, mkO_some (by omega)]; simp
  unfold g_duty_Bare
  simp only [hcr, Option.bind_some, Bool.not_true, cond_false, hm, pieces_eq hp hrow]
  have hP : ∀ x ∈ pcs p, PcOk t y p x := fun x hx => mem_pcOk hS hx
  unfold covP
  generalize pcs p = P at *
  rw [iter_fold (s0 := ((0 : Int), List.replicate t.length false)) (fun k c => ((k : Int), c)) (fun k c => marks c (if ok1 t y p r (P.getD k P0) then tsk p (P.getD k P0) else [])) P.length (fun _ c => c.length = t.length) (List.replicate t.length false) id rfl (by simp only [big]; omega) (by simp)]
  · simp only [id, Option.bind_some]
    rw [fold_list (fun (c : List Bool) (x : DutyPiece) => marks c (if ok1 t y p r x then tsk p x else [])) P0 P, marks_flat]
    rw [show lenI (marks (List.replicate t.length false) (P.flatMap fun q => if ok1 t y p r q then tsk p q else [])) = (t.length : Int) by rw [lenI_eq, marks_len, List.length_replicate], unm_loop (by rw [marks_len, List.length_replicate]) (by omega)]
    rfl
  · intro k c hk hc
    have hw : w64 ((k : Int) + 1) = ((k + 1 : Nat) : Int) := by rw [w64_in (by omega) (by omega)]; omega
    have hq := hP _ (getD_memx (d := P0) hk)
    obtain ⟨q, hqe⟩ : ∃ q, P.getD k P0 = q := ⟨_, rfl⟩
    rw [hqe] at hq
    have h1 := hq.le
    have h2 := hq.i.to
    have h3 := hq.i.fr
    have h4 := hq.i.car
    have h5 := hrow _ (getD_memx (l := p) (i := q.1.toNat) (d := ([] : List Int)) (by omega))
    refine ⟨?_, by rw [marks_len]; exact hc⟩
    simp only [decide_eq_true (show (k : Int) < lenI P by rw [lenI_eq]; omega), cond_true, idx_natD P0 hk, hqe, Option.bind_some, prog_one hf hr hq.i, hw]
    have hb : (lenI (F1 t y p r q) == 0) = ok1 t y p r q := rfl
    rw [hb]
    cases ok1 t y p r q with
    | false => rfl
    | true =>
      have hw2 : w64 (q.2.2.1 + 1) = q.2.2.1 + 1 := w64_in (by omega) (by omega)
      have hsl : slO (p.getD q.1.toNat []) q.2.1 (q.2.2.1 + 1) = some (tsk p q) := slO_some (by omega)
      have h0 := tsk_len hq
      simp only [cond_true, idx_getD (l := p) (d := ([] : List Int)) h4.1 h4.2, Option.bind_some, hw2, hsl]
      rw [mark_prog (n := t.length) (fun x hx => tsk_rng hq hx) (by omega) hc]
      rfl
  · intro c _
    simp only [decide_eq_false (show ¬ (P.length : Int) < lenI P by rw [lenI_eq]; omega), cond_false, id]
def covR (p : List (List Int)) (D : List Duty) : List Int := D.flatMap fun d => d.1.flatMap (tsk p)
theorem bare_ref (hF : Few t y) (hf : fine t y = true) (hr : rulesB r = true) (hS : PlanS t y p) (hp : p.length ≤ 80) (hrow : ∀ r ∈ p, r.length ≤ 80) :
    g_ref08_Bare t y p r = some (sel (fun x => !(marks (List.replicate t.length false) (covR p (lawf (pcs p) (ok1 t y p r) (ok2 t y p r)))).getD x false) t.length) := by
  have ht := hF.t
  have hl := pcs_len hp hrow
  have hm : mkO 1 (lenI t) (false : Bool) = some (List.replicate t.length false) := by
    rw [lenI_eq, mkO_some (by omega)]; simp
  unfold g_ref08_Bare
  simp only [hm, Option.bind_some, lawful_eq hf hr hS hp hrow]
  have hD : ∀ d ∈ lawf (pcs p) (ok1 t y p r) (ok2 t y p r), d.1.length ≤ 2 ∧ ∀ x ∈ d.1, PcOk t y p x := fun d hd => by
    rcases mem_lawf.1 hd with ⟨a, ha, _, rfl⟩ | ⟨a, ha, b, hb, _, rfl⟩
    · exact ⟨by simp, fun x hx => by rw [List.mem_singleton.1 hx]; exact mem_pcOk hS ha⟩
    · refine ⟨by simp, fun x hx => ?_⟩
      rcases List.mem_cons.1 hx with rfl | hx
      · exact mem_pcOk hS ha
      · rw [List.mem_singleton.1 hx]; exact mem_pcOk hS hb
  have hDl : (lawf (pcs p) (ok1 t y p r) (ok2 t y p r)).length ≤ 512000 * 512001 := by
    unfold lawf
    refine Nat.le_trans (flat_len (B := 512001) fun i _ => ?_) (Nat.mul_le_mul_right _ hl)
    have hfl := flat_len (g := two1 (pcs p) (ok2 t y p r) ((pcs p).getD i P0)) (N := (pcs p).length) (B := 1) (fun j _ => two1_len _ _ _ j)
    rw [List.length_append]
    have : (if ok1 t y p r ((pcs p).getD i P0) = true then [(([(pcs p).getD i P0], ()) : Duty)] else []).length ≤ 1 := by split <;> simp
    omega
  unfold covR
  generalize lawf (pcs p) (ok1 t y p r) (ok2 t y p r) = D at *
  rw [iter_fold (s0 := ((0 : Int), List.replicate t.length false)) (fun k c => ((k : Int), c)) (fun k c => marks c ((D.getD k ([], ())).1.flatMap (tsk p))) D.length (fun _ c => c.length = t.length) (List.replicate t.length false) id rfl (by simp only [big]; omega) (by simp)]
  · simp only [id, Option.bind_some]
    rw [fold_list (fun (c : List Bool) (d : Duty) => marks c (d.1.flatMap (tsk p))) ([], ()) D, marks_flat]
    rw [lenI_eq, unm_loop (by rw [marks_len, List.length_replicate]) (by omega)]
    rfl
  · intro k c hk hc
    have hw : w64 ((k : Int) + 1) = ((k + 1 : Nat) : Int) := by rw [w64_in (by omega) (by omega)]; omega
    obtain ⟨h1, h2⟩ := hD _ (getD_memx (d := ([], ())) hk)
    refine ⟨?_, by rw [marks_len]; exact hc⟩
    simp only [decide_eq_true (show (k : Int) < lenI D by rw [lenI_eq]; omega), cond_true, idx_natD (([], ()) : Duty) hk, Option.bind_some, hw]
    generalize D.getD k ([], ()) = d at *
    rw [iter_fold (s0 := ((0 : Int), c)) (fun j c => ((j : Int), c)) (fun j c => marks c (tsk p (d.1.getD j P0))) d.1.length (fun _ c => c.length = t.length) c id rfl (by simp only [big]; omega) hc]
    · simp only [id, Option.bind_some]
      rw [fold_list (fun (c : List Bool) (q : DutyPiece) => marks c (tsk p q)) P0 d.1, marks_flat]
    · intro j c hj hc
      have hw : w64 ((j : Int) + 1) = ((j + 1 : Nat) : Int) := by rw [w64_in (by omega) (by omega)]; omega
      refine ⟨?_, by rw [marks_len]; exact hc⟩
      simp only [decide_eq_true (show (j : Int) < lenI d.1 by rw [lenI_eq]; omega), cond_true, idx_natD P0 hj, Option.bind_some, hw]
      rw [mark_ref (h2 _ (getD_memx hj)) rfl hrow hc]
      rfl
    · intro c _
      simp only [decide_eq_false (show ¬ (d.1.length : Int) < lenI d.1 by rw [lenI_eq]; omega), cond_false, id]
  · intro c _
    simp only [decide_eq_false (show ¬ (D.length : Int) < lenI D by rw [lenI_eq]; omega), cond_false, id]
theorem cov_same (hf : fine t y = true) (hr : rulesB r = true) (hS : PlanS t y p) (x : Int) : x ∈ covP t y p r ↔ x ∈ covR p (lawf (pcs p) (ok1 t y p r) (ok2 t y p r)) := by
 unfold covP covR
 simp only [List.mem_flatMap]
 constructor
 ·rintro ⟨q, hq, h⟩
  split at h
  ·rename_i ho
   exact ⟨([q], ()), mem_lawf.2 (.inl ⟨q, hq, ho, rfl⟩), q, by simp, h⟩
  ·cases h
 ·rintro ⟨d, hd, q, hq, h⟩
  rcases mem_lawf.1 hd with ⟨a, ha, ho, rfl⟩ | ⟨a, ha, b, hb, ho, rfl⟩
  ·rw [List.mem_singleton.1 hq] at h
   exact ⟨a, ha, by rw [if_pos ho]; exact h⟩
  ·have h2 := ok2_ok1 hf hr (mem_pcOk hS ha) (mem_pcOk hS hb) ho
   rcases List.mem_cons.1 hq with rfl | hq
   ·exact ⟨q, ha, by rw [if_pos h2.1]; exact h⟩
   ·rw [List.mem_singleton.1 hq] at h
    exact ⟨b, hb, by rw [if_pos h2.2]; exact h⟩
theorem bare_same (hf : fine t y = true) (hr : rulesB r = true) (hS : PlanS t y p) : sel (fun x => !(marks (List.replicate t.length false) (covP t y p r)).getD x false) t.length = sel (fun x => !(marks (List.replicate t.length false) (covR p (lawf (pcs p) (ok1 t y p r) (ok2 t y p r)))).getD x false) t.length := by
 apply sel_congr
 intro i hi
 have hi2 : InR t.length (i : Int) := ⟨by omega, by omega⟩
 have hB : ∀ x ∈ covP t y p r, InR t.length x := fun x hx => by
  unfold covP at hx
  obtain ⟨q, hq, h⟩ := List.mem_flatMap.1 hx
  split at h
  ·exact tsk_rng (mem_pcOk hS hq) h
  ·cases h
 have h1 := sb_marks (c := List.replicate t.length false) (by simp) hB hi2
 have h2 := sb_marks (c := List.replicate t.length false) (by simp) (fun x hx => hB x ((cov_same hf hr hS x).2 hx)) hi2
 rw [cov_same hf hr hS, ← h2] at h1
 unfold sb at h1
 simp only [Int.toNat_natCast] at h1
 rw [Bool.eq_iff_iff.2 h1]
end
theorem law_bare (t : List Task) (y : Yard) (p : List (List Int)) (r : WorkRules) (hpb : p.length ≤ 9223372036854775807) : g_law08_DutyBare t y p r = some true := by
 unfold g_law08_DutyBare
 simp only [known_true, Option.bind_some]
 obtain ⟨q, hq, hfew⟩ := few_eq t y 12
 obtain ⟨q2, hq2, hpl⟩ := plans_eq p hpb
 simp only [hq, hq2, Option.bind_some]
 cases q with
 | false => rfl
 | true =>
  cases q2 with
  | false => rfl
  | true =>
   simp only [Bool.not_true, cond_false, Option.bind_some]
   obtain ⟨h1, h2, h3, h4⟩ := hfew rfl
   have hF : Few t y := ⟨by omega, h1, h2, h3⟩
   obtain ⟨hp, hrow⟩ := hpl rfl
   obtain ⟨b, e1, e2, e3⟩ := crewed_eq (r := r) hF hp hrow
   have e4 : (Option.bind (g_ref08_Fine t y) fun y19 => cond (!y19) (some true) (Option.bind (g_ref08_Plan t y p) fun y21 => cond (!y21) (some true) (Option.bind (g_ref08_Rules r) fun y23 => some (!y23)))) = some (!b) := by
    revert e3
    cases g_ref08_Fine t y with
    | none => intro h; cases h
    | some b1 =>
     cases b1 with
     | false => intro h; exact h
     | true =>
      simp only [Option.bind_some]
      cases g_ref08_Plan t y p with
      | none => intro h; cases h
      | some b1 =>
       cases b1 with
       | false => intro h; exact h
       | true =>
        simp only [Option.bind_some, rules_ref]
        cases rulesB r <;> exact fun h => h
   rw [e4]
   cases b with
   | false =>
    have : g_duty_Bare t y p r = some ([], 2) := by
     unfold g_duty_Bare
     rw [e1]; rfl
    rw [this]; rfl
   | true =>
    obtain ⟨hf, hr, hok⟩ := e2 rfl
    have hpl : g_duty_work_planned (t, y, ()) p = some true := by
     obtain ⟨b, k1, k2, k3⟩ := plan_eq hF hf hp hrow
     revert e3
     rw [fine_eq t y hF, hf, k2, rules_ref, k1]
     cases b
     ·intro h; cases h
     ·intro _; rfl
    have hS := plan_seen hF hf hp hrow hpl
    simp only [if_true] at e1
    rw [bare_prog hF hf hr hS hp hrow e1, bare_ref hF hf hr hS hp hrow, bare_same hf hr hS]
    have ht := hF.t
    have hl := sel_len (fun x => !(marks (List.replicate t.length false) (covR p (lawf (pcs p) (ok1 t y p r) (ok2 t y p r)))).getD x false) t.length
    simp only [Option.bind_some, Bool.not_true, cond_false, same_self (Nat.lt_of_le_of_lt hl (show t.length < 1000 by omega))]
    rfl
end Go.Ai.Sx
