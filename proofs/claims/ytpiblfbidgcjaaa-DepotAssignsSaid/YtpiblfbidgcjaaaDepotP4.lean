/- The depot: the specification's assignment and proof. -/
import Derived.Test.YtpiblfbidgcjaaaDepotP3
namespace Go.Ai.Sx

theorem ref_assign_tot (l : List Int) (th : Bool) (hn : l.length ≤ 200) : g_ref09_Assign l th = some (rl l.length fun i => (dep (wy l th) i : Int)) := by
  refine Tot.eq ?_
  unfold g_ref09_Assign
  generalize hd : dep (wy l th) = d
  have dle : ∀ j, d j ≤ j := fun j => by rw [← hd]; exact dep_le j
  rw [mkO_some (by simp only [lenI_eq]; omega), Option.bind_some, lenI_eq, Int.toNat_natCast, rl_repl]
  refine Tot.bind (Q := fun t => t = rl l.length fun i => (d i : Int)) ?_ (fun t ht => by subst ht; exact Tot.some rfl)
  refine Tot.iter (fun s => ∃ j : Nat, j ≤ l.length ∧ s = ((j : Int), rl l.length fun i => if i < j then (d i : Int) else 0)) _ (fun s => l.length - s.1.toNat) ⟨0, by omega, ?_⟩ (by simp only [big]; omega) ?_
  · congr 1
  rintro _ ⟨j, hj, rfl⟩
  by_cases hjn : j < l.length
  · have e1 : decide ((j : Int) < (l.length : Int)) = true := decide_eq_true (by omega)
    have hw1 : w64 ((j : Int) + 1) = ((j + 1 : Nat) : Int) := by rw [w64_in (by omega) (by omega)]; rfl
    simp only [e1, cond_true, hw1]
    refine Tot.bind (Q := fun t => t = rl l.length fun i => if i < j + 1 then (d i : Int) else 0) ?_ (fun t ht => by
      subst ht; exact Tot.some ⟨⟨j + 1, by omega, rfl⟩, by simp only [Int.toNat_natCast]; omega⟩)
    let m : Bool × List Int → Nat := fun s => if s.1 then d j + 1 - (s.2.getD j 0).toNat else 0
    have mle : ∀ s, m s ≤ d j + 1 := fun s => by
      show (if s.1 then _ else 0) ≤ _
      split
      · exact Nat.sub_le _ _
      · omega
    have m0 : ∀ tr, m (false, tr) = 0 := fun _ => rfl
    have m1 : ∀ t : Nat, m (true, rl l.length fun i => if i < j then (d i : Int) else if i = j then (t : Int) else 0) = d j + 1 - t := fun t => by
      have h1 : ((rl l.length fun i => if i < j then (d i : Int) else if i = j then (t : Int) else 0).getD j 0) = t := by
        rw [List.getD_eq_getElem?_getD, rl_get, if_pos hjn]; simp
      show d j + 1 - ((rl l.length fun i => if i < j then (d i : Int) else if i = j then (t : Int) else 0).getD j 0).toNat = _
      rw [h1, Int.toNat_natCast]
    refine Tot.iter (fun s => ∃ t : Nat, t ≤ d j ∧ (s.1 = false → t = d j) ∧ s.2 = rl l.length fun i => if i < j then (d i : Int) else if i = j then (t : Int) else 0) _ m ⟨0, by omega, by simp, ?_⟩ ?_ ?_
    · exact rl_congr fun i hi => by
        by_cases q : i < j
        · rw [if_pos q, if_pos q]
        · rw [if_neg q, if_neg q]; split <;> rfl
    · have := dle j
      have := mle (true, rl l.length fun i => if i < j then (d i : Int) else 0)
      refine Nat.lt_of_le_of_lt this ?_
      simp only [big]; omega
    rintro ⟨ag, tr⟩ ⟨t, ht, hag, htr⟩
    simp only at htr hag
    subst htr
    cases ag with
    | false =>
      simp only [cond_false]
      refine Tot.some ?_
      rw [hag rfl]
      refine rl_congr fun i hi => ?_
      by_cases q : i < j
      · rw [if_pos q, if_pos (by omega)]
      · rw [if_neg q]
        by_cases q2 : i = j
        · rw [if_pos q2, if_pos (by omega), q2]
        · rw [if_neg q2, if_neg (by omega)]
    | true =>
      simp only [cond_true]
      refine Tot.bind (Q := fun b => b = decide (t ≠ d j)) ?_ ?_
      · refine Tot.iter (fun s => ∃ i : Nat, i ≤ j ∧ s.2 = (i : Int) ∧ (s.1 = true ↔ ∃ x, x < i ∧ d x = t ∧ wy l th x j = true)) _ (fun s => j - s.2.toNat) ⟨0, by omega, rfl, by simp⟩ (by simp only [big]; omega) ?_
        rintro ⟨b, _⟩ ⟨i, hi, rfl, hb⟩
        simp only at hb
        by_cases hij : i < j
        · have e2 : decide ((i : Int) < (j : Int)) = true := decide_eq_true (by omega)
          have hw2 : w64 ((i : Int) + 1) = ((i + 1 : Nat) : Int) := by rw [w64_in (by omega) (by omega)]; rfl
          simp only [e2, cond_true, hw2]
          cases b with
          | true =>
            simp only [cond_true]
            obtain ⟨x, h1, h2, h3⟩ := hb.1 rfl
            exact Tot.some ⟨⟨i + 1, by omega, rfl, by simp only [true_iff]; exact ⟨x, by omega, h2, h3⟩⟩, by simp only [Int.toNat_natCast]; omega⟩
          | false =>
            simp only [cond_false]
            rw [rl_idx (by omega), Option.bind_some, rl_idx hjn, Option.bind_some, if_pos hij, if_neg (by omega), if_pos rfl]
            have hno : ¬ ∃ x, x < i ∧ d x = t ∧ wy l th x j = true := fun q => by have := hb.2 q; cases this
            by_cases q : d i = t
            · rw [show ((d i : Int) == (t : Int)) = true by rw [q]; exact beq_self_eq_true _, cond_true, inWay_eq (by omega) (by omega), Option.bind_some]
              refine Tot.some ⟨⟨i + 1, by omega, rfl, ?_⟩, by simp only [Int.toNat_natCast]; omega⟩
              simp only
              constructor
              · intro h; exact ⟨i, by omega, q, h⟩
              · rintro ⟨x, h1, h2, h3⟩
                by_cases qx : x = i
                · subst qx; exact h3
                · exact (hno ⟨x, by omega, h2, h3⟩).elim
            · rw [show ((d i : Int) == (t : Int)) = false by simp; omega, cond_false]
              refine Tot.some ⟨⟨i + 1, by omega, rfl, ?_⟩, by simp only [Int.toNat_natCast]; omega⟩
              simp only [Bool.false_eq_true, false_iff]
              rintro ⟨x, h1, h2, h3⟩
              by_cases qx : x = i
              · subst qx; exact q h2
              · exact hno ⟨x, by omega, h2, h3⟩
        · have e2 : decide ((i : Int) < (j : Int)) = false := decide_eq_false (by omega)
          simp only [e2, cond_false]
          obtain rfl : i = j := by omega
          refine Tot.some ?_
          show b = _
          rw [Bool.eq_iff_iff, hb, decide_eq_true_eq]
          constructor
          · rintro ⟨x, h1, h2, h3⟩
            have := dep_ge h1 h3
            rw [hd] at this; omega
          · intro q
            obtain ⟨x, h1, h2, h3⟩ := dep_below (wy_way l th) hjn (t := t) (by rw [hd]; omega)
            rw [hd] at h3
            exact ⟨x, h1, h3, h2⟩
      · rintro _ rfl
        by_cases q : t = d j
        · rw [show decide (t ≠ d j) = false from decide_eq_false (fun h => h q)]
          simp only [cond_false]
          refine Tot.some ⟨⟨t, ht, fun _ => q, rfl⟩, ?_⟩
          rw [m0, m1]; omega
        · rw [show decide (t ≠ d j) = true from decide_eq_true q]
          simp only [cond_true]
          rw [rl_idx hjn, Option.bind_some, Option.bind_some, if_neg (by omega), if_pos rfl]
          have := dle j
          have hw2 : w64 ((t : Int) + 1) = ((t + 1 : Nat) : Int) := by rw [w64_in (by omega) (by omega)]; rfl
          rw [hw2, Int.toNat_natCast, rl_set]
          have e3 : (rl l.length fun x => if x = j then ((t + 1 : Nat) : Int) else if x < j then (d x : Int) else if x = j then (t : Int) else 0) = rl l.length fun i => if i < j then (d i : Int) else if i = j then ((t + 1 : Nat) : Int) else 0 := rl_congr fun i hi => by
            by_cases q : i = j
            · rw [if_pos q, if_neg (by omega), if_pos q]
            · rw [if_neg q, if_neg q, if_neg q]
          rw [e3]
          refine Tot.some ⟨⟨t + 1, by omega, by simp, rfl⟩, ?_⟩
          rw [m1, m1]; omega
  · have e1 : decide ((j : Int) < (l.length : Int)) = false := decide_eq_false (by omega)
    simp only [e1, cond_false]
    obtain rfl : j = l.length := by omega
    exact Tot.some (rl_congr fun i hi => by rw [if_pos hi])

theorem ref_proof_tot (l : List Int) (th : Bool) (hn : l.length ≤ 200) : g_ref09_Proof l th = some (casts (pk (wy l th) (lng l.length (wy l th)) (top (dep (wy l th)) l.length) l.length).1) := by
  refine Tot.eq ?_
  unfold g_ref09_Proof
  rw [mkO_some (by simp only [lenI_eq]; omega), Option.bind_some, lenI_eq]
  have htop : ∀ b : Nat, (∀ x, x < l.length → lng l.length (wy l th) x ≤ b) → (b = 0 ∨ ∃ x, x < l.length ∧ lng l.length (wy l th) x = b) → b = top (dep (wy l th)) l.length := by
    intro b h1 h2
    rcases Nat.eq_zero_or_pos l.length with q | q
    · rw [q]; simp only [top]
      rcases h2 with h2 | ⟨x, h2, _⟩
      · exact h2
      · omega
    · obtain ⟨i, h3, h4⟩ := lng_top (W := wy l th) q
      have h5 := h1 i h3
      rcases h2 with h2 | ⟨x, h6, h7⟩
      · have := lng_pos (n := l.length) (W := wy l th) (i := i); omega
      · have := lng_dep (W := wy l th) h6; omega
  generalize he : lng l.length (wy l th) = e
  rw [he] at htop
  have ele : ∀ i, i < l.length → e i ≤ l.length - i := fun i hi => by rw [← he]; exact lng_le hi
  have epos : ∀ i, 0 < e i := fun i => by rw [← he]; exact lng_pos
  have epm : ∀ i, i < l.length → pm e (wy l th) i l.length + 1 = e i := fun i hi => by rw [← he]; exact pm_all hi
  have tn := top_le (W := wy l th) l.length
  refine Tot.bind (Q := fun t => t = ((top (dep (wy l th)) l.length : Int), rl l.length fun x => (e x : Int))) ?_ ?_
  · refine Tot.iter (fun s => ∃ k b : Nat, k ≤ l.length ∧ (∀ x, k ≤ x → x < l.length → e x ≤ b) ∧ (b = 0 ∨ ∃ x, k ≤ x ∧ x < l.length ∧ e x = b) ∧ s = ((b : Int), (k : Int) - 1, rl l.length fun x => if k ≤ x then (e x : Int) else 0)) _ (fun s => (s.2.1 + 1).toNat) ⟨l.length, 0, by omega, fun x h1 h2 => by omega, .inl rfl, ?_⟩ (by rw [w64_in (by omega) (by omega)]; simp only [big]; omega) ?_
    · rw [w64_in (by omega) (by omega), Int.toNat_natCast, rl_repl]
      refine congrArg _ (congrArg _ ?_)
      exact rl_congr fun i hi => by rw [if_neg (by omega)]
    rintro _ ⟨k, b, hk, hb1, hb2, rfl⟩
    by_cases hk0 : 0 < k
    · obtain ⟨k, rfl⟩ : ∃ q, k = q + 1 := ⟨k - 1, by omega⟩
      have ek : (((k + 1 : Nat) : Int) - 1) = (k : Int) := by omega
      simp only [ek]
      have e1 : decide ((k : Int) ≥ 0) = true := decide_eq_true (by omega)
      have hw1 : w64 ((k : Int) + 1) = ((k + 1 : Nat) : Int) := by rw [w64_in (by omega) (by omega)]; rfl
      have hw2 : w64 ((k : Int) - 1) = (k : Int) - 1 := by rw [w64_in (by omega) (by omega)]
      simp only [e1, cond_true, hw1, hw2]
      rw [rl_idx (by omega), Option.bind_some]
      refine Tot.bind (Q := fun t => t = rl l.length fun x => if k + 1 ≤ x then (e x : Int) else if x = k then ((pm e (wy l th) k l.length + 1 : Nat) : Int) else 0) ?_ ?_
      · refine Tot.iter (fun s => ∃ j : Nat, k + 1 ≤ j ∧ j ≤ l.length ∧ s = ((j : Int), rl l.length fun x => if k + 1 ≤ x then (e x : Int) else if x = k then ((pm e (wy l th) k j + 1 : Nat) : Int) else 0)) _ (fun s => l.length - s.1.toNat) ⟨k + 1, by omega, by omega, ?_⟩ (by simp only [big]; omega) ?_
        · rw [Int.toNat_natCast, rl_set]
          congr 1
          refine rl_congr fun i hi => ?_
          have : pm e (wy l th) k (k + 1) = 0 := by
            rcases pm_ex (W := wy l th) (e := e) (i := k) (j := k + 1) with h | ⟨x, h1, h2, _⟩
            · exact h
            · omega
          rw [this]
          by_cases q : i = k
          · rw [if_pos q, if_neg (by omega), if_pos q]; rfl
          · rw [if_neg q, if_neg q]
        rintro _ ⟨j, hj1, hj2, rfl⟩
        by_cases hjn : j < l.length
        · have e2 : decide ((j : Int) < (l.length : Int)) = true := decide_eq_true (by omega)
          have hw3 : w64 ((j : Int) + 1) = ((j + 1 : Nat) : Int) := by rw [w64_in (by omega) (by omega)]; rfl
          simp only [e2, cond_true]
          rw [inWay_eq (by omega) (by omega), Option.bind_some]
          cases hb : wayB l th (k : Int) (j : Int) with
          | true =>
            simp only [cond_true]
            have := ele j hjn
            have hw5 : w64 (1 + (e j : Int)) = ((e j + 1 : Nat) : Int) := by rw [w64_in (by omega) (by omega)]; omega
            rw [rl_idx (by omega), Option.bind_some, rl_idx hjn, Option.bind_some, Option.bind_some, hw3, if_pos (show k + 1 ≤ j by omega), if_neg (show ¬ k + 1 ≤ k by omega), if_pos rfl, hw5]
            refine Tot.some ⟨⟨j + 1, by omega, by omega, ?_⟩, by simp only [Int.toNat_natCast]; omega⟩
            rw [Int.toNat_natCast, rl_set]
            congr 1
            refine rl_congr fun i hi => ?_
            by_cases q : i = k
            · rw [if_pos q, if_neg (by omega), if_pos q]
              simp only [pm]
              rw [if_pos ⟨by omega, hb⟩]
              omega
            · rw [if_neg q, if_neg q, if_neg q]
          | false =>
            simp only [cond_false]
            rw [hw3]
            refine Tot.some ⟨⟨j + 1, by omega, by omega, ?_⟩, by simp only [Int.toNat_natCast]; omega⟩
            congr 1
            refine rl_congr fun i hi => ?_
            rw [show pm e (wy l th) k (j + 1) = pm e (wy l th) k j by
              simp only [pm]
              rw [if_neg (fun q => by have := q.2; unfold wy at this; rw [hb] at this; cases this)]]
        · have e2 : decide ((j : Int) < (l.length : Int)) = false := decide_eq_false (by omega)
          simp only [e2, cond_false]
          obtain rfl : j = l.length := by omega
          exact Tot.some rfl
      · rintro _ rfl
        rw [rl_idx (by omega), Option.bind_some, if_neg (show ¬ k + 1 ≤ k by omega), if_pos rfl, epm k (by omega)]
        refine Tot.some ⟨⟨k, max b (e k), by omega, fun x h1 h2 => ?_, ?_, ?_⟩, by simp only []; omega⟩
        · by_cases q : x = k
          · subst q; omega
          · have := hb1 x (by omega) h2; omega
        · rcases Nat.le_total b (e k) with q | q
          · right; exact ⟨k, by omega, by omega, by omega⟩
          · rcases hb2 with h | ⟨x, h1, h2, h3⟩
            · have := epos k; omega
            · right; exact ⟨x, by omega, h2, by omega⟩
        · refine Prod.ext (by simp only; omega) (Prod.ext rfl ?_)
          refine rl_congr fun i hi => ?_
          by_cases q2 : k + 1 ≤ i
          · rw [if_pos q2, if_pos (by omega)]
          · by_cases q : i = k
            · rw [if_neg q2, if_pos q, if_pos (by omega), q]
            · rw [if_neg q2, if_neg q, if_neg (by omega)]
    · obtain rfl : k = 0 := by omega
      have e1 : decide ((((0 : Nat) : Int) - 1) ≥ 0) = false := by decide
      simp only [e1, cond_false]
      refine Tot.some ?_
      have := htop b (fun x hx => hb1 x (by omega) hx) (by
        rcases hb2 with h | ⟨x, _, h2, h3⟩
        · exact .inl h
        · exact .inr ⟨x, h2, h3⟩)
      rw [this]
      exact congrArg _ (rl_congr fun i hi => by rw [if_pos (by omega)])
  · rintro _ rfl
    refine Tot.bind (Q := fun t => t = casts (pk (wy l th) e (top (dep (wy l th)) l.length) l.length).1) ?_ (fun t ht => by subst ht; exact Tot.some rfl)
    refine Tot.iter (fun s => ∃ k : Nat, k ≤ l.length ∧ s = (((pk (wy l th) e (top (dep (wy l th)) l.length) k).2 : Int), casts (pk (wy l th) e (top (dep (wy l th)) l.length) k).1, (k : Int))) _ (fun s => l.length - s.2.2.toNat) ⟨0, by omega, rfl⟩ (by simp only [big]; omega) ?_
    rintro _ ⟨k, hk, rfl⟩
    by_cases hkn : k < l.length
    · have e1 : decide ((k : Int) < (l.length : Int)) = true := decide_eq_true (by omega)
      simp only [e1, cond_true]
      rw [rl_idx hkn, Option.bind_some]
      have hw3 : w64 ((k : Int) + 1) = ((k + 1 : Nat) : Int) := by rw [w64_in (by omega) (by omega)]; rfl
      have := pick_step (e := e) (N := top (dep (wy l th)) l.length) hkn hn (epos k) (fun i j => g_ref09_InWay l th i j) (fun i j hi hj => inWay_eq hi hj)
        (Option.bind (appO 8 (casts (pk (wy l th) e (top (dep (wy l th)) l.length) k).1) [(k : Int)]) fun x => some (Sum.inl (w64 (((pk (wy l th) e (top (dep (wy l th)) l.length) k).2 : Int) - 1), x, w64 ((k : Int) + 1)) : (Int × List Int × Int) ⊕ List Int))
        (some (.inl (((pk (wy l th) e (top (dep (wy l th)) l.length) k).2 : Int), casts (pk (wy l th) e (top (dep (wy l th)) l.length) k).1, w64 ((k : Int) + 1))))
      rw [this, hw3]
      have hpl := pk_len (W := wy l th) (e := e) (N := top (dep (wy l th)) l.length) (k := k)
      have hpw := pk_want (W := wy l th) (e := e) (N := top (dep (wy l th)) l.length) (k := k)
      split
      · rename_i q
        rw [appO_some (by rw [casts_len, List.length_singleton]; omega), Option.bind_some]
        have := epos k
        refine Tot.some ⟨⟨k + 1, by omega, ?_⟩, by simp only [Int.toNat_natCast]; omega⟩
        simp only [pk]
        rw [if_pos q, w64_in (by omega) (by omega)]
        refine Prod.ext (by simp only; omega) (Prod.ext (by simp [casts]) rfl)
      · rename_i q
        refine Tot.some ⟨⟨k + 1, by omega, ?_⟩, by simp only [Int.toNat_natCast]; omega⟩
        simp only [pk]
        rw [if_neg q]
    · have e1 : decide ((k : Int) < (l.length : Int)) = false := decide_eq_false (by omega)
      simp only [e1, cond_false]
      obtain rfl : k = l.length := by omega
      exact Tot.some rfl

theorem same_self (a : List Int) (h : a.length < 4611686018427387904) : g_ref09_Same a a = some true := by
  unfold g_ref09_Same
  rw [show (lenI a != lenI a) = false by simp, cond_false, iter_search a.length (fun _ => none) h]
  · rw [show (List.range a.length).findSome? (fun _ => (none : Option Bool)) = none from List.findSome?_eq_none_iff.2 (fun _ _ => rfl)]
    rfl
  · intro i hi
    have e1 : decide ((i : Int) < lenI a) = true := decide_eq_true (by simp only [lenI_eq]; omega)
    have hw : w64 ((i : Int) + 1) = (i : Int) + 1 := w64_in (by omega) (by omega)
    simp [e1, idx_some hi, hw]
  · have e1 : decide ((a.length : Int) < lenI a) = false := decide_eq_false (by simp only [lenI_eq]; omega)
    simp [e1]

theorem order_long (l : List Int) (hl : 200 < l.length) (hl2 : l.length ≤ 230) : g_ref09_Order l = some false := by
  refine Tot.eq ?_
  unfold g_ref09_Order
  rw [mkO_some (by simp only [lenI_eq]; omega), Option.bind_some]
  refine Tot.bind (Q := fun t => ∀ q, t = .inr q → q.1 = false) ?_ ?_
  · refine Tot.iter (fun s => 0 ≤ s.1 ∧ s.1 ≤ (l.length : Int) ∧ s.2.length = l.length) _ (fun s => l.length - s.1.toNat) ⟨by simp, by simp, by simp [lenI]⟩ (by simp only [big]; omega) ?_
    rintro ⟨i, seen⟩ ⟨h0, h1, h2⟩
    simp only at h0 h1 h2
    by_cases hi : i < (l.length : Int)
    · simp only [lenI_eq, hi, decide_true, cond_true, idx_int h0 hi, Option.bind_some, in_eq]
      have hw : w64 ((l.length : Int) - 1) = l.length - 1 := w64_in (by omega) (by omega)
      rw [hw]
      generalize hx : l[i.toNat]'(by omega) = x
      by_cases hr : 0 ≤ x ∧ x ≤ (l.length : Int) - 1
      · simp only [hr.1, hr.2, decide_true, Bool.and_true, Bool.not_true, cond_false]
        have hs : idx seen x = some (seen[x.toNat]'(by omega)) := idx_int hr.1 (by omega)
        simp only [hs, Option.bind_some]
        have hw2 : w64 (i + 1) = i + 1 := w64_in (by omega) (by omega)
        cases seen[x.toNat]'(by omega) with
        | true => exact .some (fun q hq => by cases hq; rfl)
        | false => exact .some ⟨⟨by simp only [hw2]; omega, by simp only [hw2]; omega, by simpa using h2⟩, by simp only [hw2]; omega⟩
      · have : (decide (0 ≤ x) && decide (x ≤ (l.length : Int) - 1)) = false := by
          simp only [Bool.and_eq_false_iff, decide_eq_false_iff_not]; omega
        simp only [this, Bool.not_false, cond_true]
        exact .some (fun q hq => by cases hq; rfl)
    · simp only [lenI_eq, hi, decide_false, cond_false]
      exact .some (fun q hq => by cases hq)
  · rintro t h3
    cases t with
    | inl a => exact ⟨false, congrArg some (decide_eq_false (show ¬ lenI l ≤ 200 by simp only [lenI_eq]; omega)), rfl⟩
    | inr b => exact ⟨false, by simp [alt_inr, h3 b rfl], rfl⟩

theorem law_assigns (l : List Int) (th : Bool) : g_law09_DepotAssigns l th = some true := by
  unfold g_law09_DepotAssigns
  by_cases h1 : l.length ≤ 200
  · by_cases h0 : 30 < l.length ∧ l.length ≤ 190
    · have e1 : decide (lenI l > 30) = true := decide_eq_true (by simp only [lenI_eq]; omega)
      have e2 : decide (lenI l ≤ 190) = true := decide_eq_true (by simp only [lenI_eq]; omega)
      simp [e1, e2]
    · have e3 : (Option.bind (cond (decide (lenI l > 30)) (cond (decide (lenI l ≤ 190)) (some true) (some (decide (lenI l > 220)))) (some (decide (lenI l > 220)))) fun c => some c) = some false := by
        have e4 : decide (lenI l > 220) = false := decide_eq_false (by simp only [lenI_eq]; omega)
        by_cases h2 : 30 < l.length
        · have e2 : decide (lenI l ≤ 190) = false := decide_eq_false (by simp only [lenI_eq]; omega)
          cases decide (lenI l > 30) <;> simp [e2, e4]
        · have e1 : decide (lenI l > 30) = false := decide_eq_false (by simp only [lenI_eq]; omega)
          simp [e1, e4]
      rw [show ∀ {β : Type} (x : Option Bool) (k : Bool → Option β), (Option.bind x fun c => some c) = some false → Option.bind x k = k false from fun x k h => by
        cases x with
        | none => simp at h
        | some b => simp at h; subst h; rfl]
      · simp only [cond_false]
        obtain ⟨a, b, h2, h3, rfl⟩ := order_eq l h1
        rw [h3]
        cases a with
        | false =>
          have h200 : decide (lenI l > 200) = false := decide_eq_false (by simp only [lenI_eq]; omega)
          have : g_depot_Assign l th = some ([], [], 2) := by
            unfold g_depot_Assign
            simp [h200, h2]
          rw [this]
          rfl
        | true =>
          rw [assign_tot l th h1 h2, Option.bind_some, Option.bind_some]
          have hpl := pk_len (W := wy l th) (e := lng l.length (wy l th)) (N := top (dep (wy l th)) l.length) (k := l.length)
          simp only [Bool.not_true, cond_false, ref_assign_tot l th h1, ref_proof_tot l th h1, Option.bind_some]
          rw [show ((0 : Int) == 0) = true by rfl, cond_true, same_self _ (by rw [rl_len]; omega), Option.bind_some, cond_true, same_self _ (by rw [casts_len]; omega), Option.bind_some, cond_true]
      · exact e3
  · by_cases h2 : l.length ≤ 220
    · have e1 : decide (lenI l > 30) = true := decide_eq_true (by simp only [lenI_eq]; omega)
      have e2 : decide (lenI l ≤ 190) = false := decide_eq_false (by simp only [lenI_eq]; omega)
      have e4 : decide (lenI l > 220) = false := decide_eq_false (by simp only [lenI_eq]; omega)
      have h200 : decide (lenI l > 200) = true := decide_eq_true (by simp only [lenI_eq]; omega)
      have : g_depot_Assign l th = some ([], [], 2) := by
        unfold g_depot_Assign
        simp [h200]
      simp only [e1, e2, e4, cond_true, cond_false, Option.bind_some, this, order_long l (by omega) (by omega), Bool.not_false]
      rfl
    · have e1 : decide (lenI l > 30) = true := decide_eq_true (by simp only [lenI_eq]; omega)
      have e2 : decide (lenI l ≤ 190) = false := decide_eq_false (by simp only [lenI_eq]; omega)
      have e4 : decide (lenI l > 220) = true := decide_eq_true (by simp only [lenI_eq]; omega)
      simp [e1, e2, e4]
end Go.Ai.Sx
