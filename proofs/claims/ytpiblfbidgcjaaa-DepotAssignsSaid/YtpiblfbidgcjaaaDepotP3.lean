/- The depot: what the function Assign and the specification come to. -/
import Derived.Test.YtpiblfbidgcjaaaDepotP2
namespace Go.Ai.Sx

def wy (l : List Int) (th : Bool) (i j : Nat) : Bool := wayB l th (i : Int) (j : Int)
theorem wy_way (l : List Int) (th : Bool) : IsWay l.length (wy l th) := by
  refine ⟨fun i j k _ _ _ h1 h2 => ?_⟩
  unfold wy wayB at *
  simp only [Int.toNat_natCast] at *
  cases th <;> simp only [if_true, Bool.false_eq_true, if_false, decide_eq_true_eq] at * <;> omega

/- the cars on each track -/
def onS (d : Nat → Nat) (j : Nat) : List (List Int) := rl (top d j) fun t => ((List.range j).filter fun i => d i == t).map fun (i : Nat) => (i : Int)

theorem on_mem {d : Nat → Nat} {j t : Nat} {x : Int} (h : x ∈ ((List.range j).filter fun i => d i == t).map fun (i : Nat) => (i : Int)) : ∃ i : Nat, i < j ∧ d i = t ∧ x = i := by
  obtain ⟨i, hi, rfl⟩ := List.mem_map.1 h
  obtain ⟨h1, h2⟩ := List.mem_filter.1 hi
  exact ⟨i, List.mem_range.1 h1, by simpa using h2, rfl⟩
theorem on_any {l : List Int} {th : Bool} {j : Nat} (hj : j < l.length) {t : Nat} (ht : t ≤ dep (wy l th) j) :
    (((List.range j).filter fun i => dep (wy l th) i == t).map fun (i : Nat) => (i : Int)).any (fun x => wayB l th x j) = decide (t ≠ dep (wy l th) j) := by
  rw [Bool.eq_iff_iff, List.any_eq_true, decide_eq_true_eq]
  constructor
  · rintro ⟨x, hx, hq⟩
    obtain ⟨i, h1, h2, rfl⟩ := on_mem hx
    have := dep_ge (W := wy l th) h1 hq
    omega
  · intro h
    obtain ⟨i, h1, h2, h3⟩ := dep_below (wy_way l th) hj (t := t) (by omega)
    exact ⟨(i : Int), List.mem_map.2 ⟨i, List.mem_filter.2 ⟨List.mem_range.2 h1, by simpa using h3⟩, rfl⟩, h2⟩

theorem on_old {d : Nat → Nat} {j : Nat} (h : d j < top d j) : (onS d j).set (d j) ((((List.range j).filter fun i => d i == d j).map fun (i : Nat) => (i : Int)) ++ [(j : Int)]) = onS d (j + 1) := by
  unfold onS
  rw [rl_set]
  have : top d (j + 1) = top d j := by simp only [top]; omega
  rw [this]
  refine rl_congr fun t ht => ?_
  rw [List.range_succ, List.filter_append, List.map_append]
  by_cases q : t = d j
  · rw [if_pos q, q]; simp
  · rw [if_neg q, show List.filter (fun i => d i == t) [j] = [] by simp [Ne.symm q]]; simp
theorem on_new {d : Nat → Nat} {j : Nat} (h : d j = top d j) : onS d j ++ [[(j : Int)]] = onS d (j + 1) := by
  unfold onS
  have : top d (j + 1) = top d j + 1 := by simp only [top]; omega
  rw [this, rl_succ]
  congr 1
  · refine rl_congr fun t ht => ?_
    rw [List.range_succ, List.filter_append, List.map_append, show List.filter (fun i => d i == t) [j] = [] by simp; omega]; simp
  · rw [List.range_succ, List.filter_append, List.map_append, show List.filter (fun i => d i == top d j) [j] = [j] by simp [h]]
    have : List.filter (fun i => d i == top d j) (List.range j) = [] := by
      rw [List.filter_eq_nil_iff]
      intro i hi
      have := top_gt (d := d) (List.mem_range.1 hi)
      simp; omega
    rw [this]; rfl

/- the list that is picked -/
def lastW (W : Nat → Nat → Bool) (p : List Nat) (i : Nat) : Bool := match p.getLast? with
  | none => true
  | some x => W x i
def pk (W : Nat → Nat → Bool) (e : Nat → Nat) (N : Nat) : Nat → List Nat × Nat
  | 0 => ([], N)
  | k + 1 => if e k = (pk W e N k).2 ∧ lastW W (pk W e N k).1 k = true then ((pk W e N k).1 ++ [k], (pk W e N k).2 - 1) else pk W e N k
theorem pk_lt {W : Nat → Nat → Bool} {e : Nat → Nat} {N : Nat} : ∀ {k x : Nat}, x ∈ (pk W e N k).1 → x < k
  | 0, x, h => by simp [pk] at h
  | k + 1, x, h => by
    simp only [pk] at h
    split at h
    · rcases List.mem_append.1 h with h | h
      · have := pk_lt h; omega
      · simp at h; omega
    · have := pk_lt h; omega
theorem pk_len {W : Nat → Nat → Bool} {e : Nat → Nat} {N : Nat} : ∀ {k : Nat}, (pk W e N k).1.length ≤ k
  | 0 => by simp [pk]
  | k + 1 => by
    simp only [pk]
    split
    · simp; exact pk_len
    · have := pk_len (W := W) (e := e) (N := N) (k := k); omega
theorem pk_want {W : Nat → Nat → Bool} {e : Nat → Nat} {N : Nat} : ∀ {k : Nat}, (pk W e N k).2 ≤ N
  | 0 => by simp [pk]
  | k + 1 => by
    simp only [pk]
    split
    · have := pk_want (W := W) (e := e) (N := N) (k := k); simp; omega
    · exact pk_want

def casts (p : List Nat) : List Int := p.map fun (i : Nat) => (i : Int)
theorem casts_len (p : List Nat) : (casts p).length = p.length := by simp [casts]

/- one step of picking, whoever looks -/
theorem pick_step {l : List Int} {th : Bool} {e : Nat → Nat} {N k : Nat} (hk : k < l.length) (hn : l.length ≤ 200) (he : 0 < e k) {β : Type} (look : Int → Int → Option Bool) (hl : ∀ i j : Int, (0 ≤ i ∧ i < (l.length : Int)) → (0 ≤ j ∧ j < (l.length : Int)) → look i j = some (wayB l th i j)) (A B : Option β) :
    (cond ((e k : Int) == ((pk (wy l th) e N k).2 : Int)) (cond (lenI (casts (pk (wy l th) e N k).1) == 0) A (Option.bind (idx (casts (pk (wy l th) e N k).1) (w64 (lenI (casts (pk (wy l th) e N k).1) - 1))) fun x => Option.bind (look x (k : Int)) fun y => cond y A B)) B)
      = if e k = (pk (wy l th) e N k).2 ∧ lastW (wy l th) (pk (wy l th) e N k).1 k = true then A else B := by
  generalize hp : pk (wy l th) e N k = s
  have hlt : ∀ x, x ∈ s.1 → x < k := fun x hx => pk_lt (W := wy l th) (e := e) (N := N) (by rw [hp]; exact hx)
  have hle : s.1.length ≤ k := by rw [← hp]; exact pk_len
  by_cases h1 : e k = s.2
  · rw [show ((e k : Int) == (s.2 : Int)) = true by rw [h1]; exact beq_self_eq_true _, cond_true]
    rcases List.eq_nil_or_concat s.1 with h2 | ⟨q, x, h2⟩
    · rw [h2]
      rw [show (lenI (casts []) == 0) = true by rfl, cond_true, if_pos ⟨h1, rfl⟩]
    · rw [List.concat_eq_append] at h2
      rw [h2] at hlt hle ⊢
      rw [List.length_append, List.length_singleton] at hle
      have hx := hlt x (by simp)
      have hlen : lenI (casts (q ++ [x])) = (q.length : Int) + 1 := by simp [lenI_eq, casts]
      rw [hlen, show (((q.length : Int) + 1) == 0) = false by simp; omega, cond_false, show w64 ((q.length : Int) + 1 - 1) = (q.length : Nat) by rw [w64_in (by omega) (by omega)]; omega]
      rw [show idx (casts (q ++ [x])) ((q.length : Nat) : Int) = some (x : Int) by rw [idx_nat]; simp [casts]]
      rw [Option.bind_some, hl x k (by omega) (by omega), Option.bind_some]
      simp only [lastW, List.getLast?_concat, wy, h1, true_and]
      cases wayB l th x k <;> rfl
  · rw [show ((e k : Int) == (s.2 : Int)) = false by simp; omega, cond_false, if_neg (fun q => h1 q.1)]

/- what the depot answers -/
theorem assign_tot (l : List Int) (th : Bool) (hn : l.length ≤ 200) (hp : g_depot_permutation l = some true) :
    g_depot_Assign l th = some (rl l.length (fun i => (dep (wy l th) i : Int)), casts (pk (wy l th) (lng l.length (wy l th)) (top (dep (wy l th)) l.length) l.length).1, 0) := by
  obtain ⟨w, hw, hway⟩ := way_eq l th
  generalize hd : dep (wy l th) = d
  have dtop : ∀ j, d j ≤ top d j := fun j => by rw [← hd]; exact dep_le_top j
  have dle : ∀ j, d j ≤ j := fun j => by rw [← hd]; exact dep_le j
  have tle : ∀ j, top d j ≤ j := fun j => by rw [← hd]; exact top_le j
  refine Tot.eq ?_
  unfold g_depot_Assign
  have h200 : decide (lenI l > 200) = false := decide_eq_false (by simp only [lenI_eq]; omega)
  simp only [h200, cond_false, hp, Option.bind_some, Bool.not_true, hw]
  refine Tot.bind (Q := fun t => t = (onS d l.length, rl l.length fun i => (d i : Int))) ?_ ?_
  · refine Tot.iter (fun s => ∃ j : Nat, j ≤ l.length ∧ s = (onS d j, rl j (fun i => (d i : Int)), (j : Int))) _ (fun s => l.length - s.2.2.toNat) ⟨0, by omega, rfl⟩ (by simp only [big]; omega) ?_
    rintro _ ⟨j, hj, rfl⟩
    by_cases hjn : j < l.length
    · have e1 : decide ((j : Int) < lenI l) = true := decide_eq_true (by simp only [lenI_eq]; omega)
      simp only [e1, cond_true]
      have hw1 : w64 ((j : Int) + 1) = ((j + 1 : Nat) : Int) := by rw [w64_in (by omega) (by omega)]; rfl
      refine Tot.bind (Q := fun t => t = if d j < top d j then .inl (rl (j + 1) (fun i => (d i : Int)), onS d (j + 1)) else .inr (rl j (fun i => (d i : Int)), onS d j)) ?_ ?_
      · refine Tot.iter (fun s => ∃ t : Nat, t ≤ d j ∧ t ≤ top d j ∧ s = (rl j (fun i => (d i : Int)), (t : Int), onS d j)) _ (fun s => top d j - s.2.1.toNat) ⟨0, by omega, by omega, rfl⟩ (by have := tle j; simp only [big]; omega) ?_
        rintro _ ⟨t, ht, ht2, rfl⟩
        have hlen : lenI (onS d j) = (top d j : Int) := by rw [lenI_eq]; unfold onS; rw [rl_len]
        have := tle j
        by_cases htt : t < top d j
        · have e2 : decide ((t : Int) < lenI (onS d j)) = true := decide_eq_true (by rw [hlen]; omega)
          have e3 : idx (onS d j) (t : Int) = some (((List.range j).filter fun i => d i == t).map fun (i : Nat) => (i : Int)) := by unfold onS; rw [rl_idx htt]
          have e4 : g_slices_ContainsFunc_int_int (((List.range j).filter fun i => d i == t).map fun (i : Nat) => (i : Int)) (fun x => g_depot_Assign_1 x w (j : Int)) = some (decide (t ≠ d j)) := by
            rw [containsFunc_eq (q := fun x => wayB l th x j)]
            · have := on_any (th := th) hjn (t := t) (by rw [hd]; exact ht)
              rw [hd] at this
              rw [this]
            · have h1 := List.length_filter_le (fun i => d i == t) (List.range j)
              rw [List.length_range] at h1
              rw [List.length_map]; omega
            · intro x hx
              obtain ⟨i, h1, h2, rfl⟩ := on_mem hx
              unfold g_depot_Assign_1
              rw [hway _ _ (by omega) (by omega)]; rfl
          have hlf : (((List.range j).filter fun i => d i == t).map fun (i : Nat) => (i : Int)).length ≤ j := by
            have h1 := List.length_filter_le (fun i => d i == t) (List.range j)
            rw [List.length_range] at h1
            rw [List.length_map]; exact h1
          simp only [e2, cond_true, e3, Option.bind_some, e4]
          by_cases q : t = d j
          · subst q
            simp only [ne_eq, not_true_eq_false, decide_false, Bool.not_false, cond_true]
            rw [appO_some (by simp only [List.length_singleton]; omega), Option.bind_some, appO_some (by rw [rl_len, List.length_singleton]; omega), Option.bind_some]
            refine Tot.some ?_
            show Sum.inl _ = _
            rw [if_pos htt, Int.toNat_natCast, on_old htt, rl_succ]
          · rw [show decide (t ≠ d j) = true from decide_eq_true q]
            simp only [Bool.not_true, cond_false]
            have hw2 : w64 ((t : Int) + 1) = ((t + 1 : Nat) : Int) := by rw [w64_in (by omega) (by omega)]; rfl
            rw [hw2]
            exact Tot.some ⟨⟨t + 1, by omega, by omega, rfl⟩, by simp only [Int.toNat_natCast]; omega⟩
        · have e2 : decide ((t : Int) < lenI (onS d j)) = false := decide_eq_false (by rw [hlen]; omega)
          simp only [e2, cond_false]
          refine Tot.some ?_
          show Sum.inr _ = _
          rw [if_neg (by omega)]
      · rintro _ rfl
        by_cases q : d j < top d j
        · rw [if_pos q, alt_inl, hw1]
          exact Tot.some ⟨⟨j + 1, by omega, rfl⟩, by simp only [Int.toNat_natCast]; omega⟩
        · have qe : d j = top d j := by have := dtop j; omega
          rw [if_neg q, alt_inr, hw1]
          have hlen : lenI (onS d j) = (top d j : Int) := by rw [lenI_eq]; unfold onS; rw [rl_len]
          have hlen' : (onS d j).length = top d j := by unfold onS; rw [rl_len]
          have := tle j
          simp only [hlen]
          rw [appO_some (by rw [rl_len, List.length_singleton]; omega), Option.bind_some, appO_some (by rw [hlen', List.length_singleton]; omega), Option.bind_some]
          refine Tot.some ⟨⟨j + 1, by omega, ?_⟩, by simp only [Int.toNat_natCast]; omega⟩
          rw [on_new qe, rl_succ, ← qe]
    · have e1 : decide ((j : Int) < lenI l) = false := decide_eq_false (by simp only [lenI_eq]; omega)
      simp only [e1, cond_false]
      obtain rfl : j = l.length := by omega
      exact Tot.some rfl
  · rintro _ rfl
    rw [mkO_some (by simp only [lenI_eq]; omega), Option.bind_some]
    generalize he : lng l.length (wy l th) = e
    have ele : ∀ i, i < l.length → e i ≤ l.length - i := fun i hi => by rw [← he]; exact lng_le hi
    have epos : ∀ i, 0 < e i := fun i => by rw [← he]; exact lng_pos
    have epm : ∀ i, i < l.length → pm e (wy l th) i l.length + 1 = e i := fun i hi => by rw [← he]; exact pm_all hi
    have pmle : ∀ i, i < l.length → ∀ j, j ≤ l.length → pm e (wy l th) i j ≤ l.length := fun i hi j hj => by rw [← he]; exact pm_le hi hj
    refine Tot.bind (Q := fun t => t = rl l.length fun x => (e x : Int)) ?_ ?_
    · refine Tot.iter (fun s => ∃ k : Nat, k ≤ l.length ∧ s = ((k : Int) - 1, rl l.length fun x => if k ≤ x then (e x : Int) else 0)) _ (fun s => (s.1 + 1).toNat) ⟨l.length, by omega, ?_⟩ (by simp only [lenI_eq]; rw [w64_in (by omega) (by omega)]; simp only [big]; omega) ?_
      · rw [lenI_eq, w64_in (by omega) (by omega), Int.toNat_natCast, rl_repl]
        congr 1
        exact rl_congr fun i hi => by rw [if_neg (by omega)]
      rintro _ ⟨k, hk, rfl⟩
      by_cases hk0 : 0 < k
      · obtain ⟨k, rfl⟩ : ∃ q, k = q + 1 := ⟨k - 1, by omega⟩
        have ek : (((k + 1 : Nat) : Int) - 1) = (k : Int) := by omega
        simp only [ek]
        have e1 : decide ((k : Int) ≥ 0) = true := decide_eq_true (by omega)
        have hw1 : w64 ((k : Int) + 1) = ((k + 1 : Nat) : Int) := by rw [w64_in (by omega) (by omega)]; rfl
        have hw2 : w64 ((k : Int) - 1) = (k : Int) - 1 := by rw [w64_in (by omega) (by omega)]
        simp only [e1, cond_true, hw1, hw2]
        refine Tot.bind (Q := fun t => t = rl l.length fun x => if k + 1 ≤ x then (e x : Int) else if x = k then (pm e (wy l th) k l.length : Int) else 0) ?_ ?_
        · refine Tot.iter (fun s => ∃ j : Nat, k + 1 ≤ j ∧ j ≤ l.length ∧ s = ((j : Int), rl l.length fun x => if k + 1 ≤ x then (e x : Int) else if x = k then (pm e (wy l th) k j : Int) else 0)) _ (fun s => l.length - s.1.toNat) ⟨k + 1, by omega, by omega, ?_⟩ (by simp only [big]; omega) ?_
          · congr 1
            refine rl_congr fun i hi => ?_
            by_cases q : k + 1 ≤ i
            · rw [if_pos q, if_pos q]
            · rw [if_neg q, if_neg q]
              split
              · rename_i q2
                have : pm e (wy l th) k (k + 1) = 0 := by
                  rcases pm_ex (W := wy l th) (e := e) (i := k) (j := k + 1) with h | ⟨x, h1, h2, _⟩
                  · exact h
                  · omega
                rw [this]; rfl
              · rfl
          rintro _ ⟨j, hj1, hj2, rfl⟩
          by_cases hjn : j < l.length
          · have e2 : decide ((j : Int) < lenI l) = true := decide_eq_true (by simp only [lenI_eq]; omega)
            have hw3 : w64 ((j : Int) + 1) = ((j + 1 : Nat) : Int) := by rw [w64_in (by omega) (by omega)]; rfl
            simp only [e2, cond_true]
            rw [hway _ _ (by omega) (by omega), Option.bind_some]
            cases hb : wayB l th (k : Int) (j : Int) with
            | true =>
              simp only [cond_true]
              rw [rl_idx (by omega), Option.bind_some, rl_idx hjn, Option.bind_some, Option.bind_some, hw3, if_pos (show k + 1 ≤ j by omega), if_neg (show ¬ k + 1 ≤ k by omega), if_pos rfl]
              refine Tot.some ⟨⟨j + 1, by omega, by omega, ?_⟩, by simp only [Int.toNat_natCast]; omega⟩
              rw [Int.toNat_natCast, rl_set]
              congr 1
              refine rl_congr fun i hi => ?_
              by_cases q : i = k
              · rw [if_pos q, if_neg (by omega), if_pos q]
                simp only [pm]
                rw [if_pos ⟨by omega, hb⟩]
                omega
              · rw [if_neg q, if_neg q, if_neg q]
            | false =>
              simp only [cond_false]
              rw [hw3]
              refine Tot.some ⟨⟨j + 1, by omega, by omega, ?_⟩, by simp only [Int.toNat_natCast]; omega⟩
              congr 1
              refine rl_congr fun i hi => ?_
              rw [show pm e (wy l th) k (j + 1) = pm e (wy l th) k j by
                simp only [pm]
                rw [if_neg (fun q => by have := q.2; unfold wy at this; rw [hb] at this; cases this)]]
          · have e2 : decide ((j : Int) < lenI l) = false := decide_eq_false (by simp only [lenI_eq]; omega)
            simp only [e2, cond_false]
            obtain rfl : j = l.length := by omega
            exact Tot.some rfl
        · rintro _ rfl
          rw [rl_idx (by omega), Option.bind_some, Option.bind_some, if_neg (show ¬ k + 1 ≤ k by omega), if_pos rfl]
          have hw4 : w64 ((pm e (wy l th) k l.length : Int) + 1) = (e k : Int) := by
            have := epm k (by omega)
            have := ele k (by omega)
            rw [w64_in (by omega) (by omega)]; omega
          rw [hw4]
          refine Tot.some ⟨⟨k, by omega, ?_⟩, by simp only []; omega⟩
          congr 1
          rw [Int.toNat_natCast, rl_set]
          refine rl_congr fun i hi => ?_
          by_cases q : i = k
          · rw [if_pos q, if_pos (by omega), q]
          · rw [if_neg q, if_neg q]
            by_cases q2 : k + 1 ≤ i
            · rw [if_pos q2, if_pos (by omega)]
            · rw [if_neg q2, if_neg (by omega)]
      · obtain rfl : k = 0 := by omega
        have e1 : decide ((((0 : Nat) : Int) - 1) ≥ 0) = false := by decide
        simp only [e1, cond_false]
        refine Tot.some ?_
        exact rl_congr fun i hi => by rw [if_pos (by omega)]
    · rintro _ rfl
      refine Tot.bind (Q := fun t => t = casts (pk (wy l th) e (top d l.length) l.length).1) ?_ ?_
      · have hlen : lenI (onS d l.length) = (top d l.length : Int) := by rw [lenI_eq]; unfold onS; rw [rl_len]
        have tn := tle l.length
        refine Tot.iter (fun s => ∃ k : Nat, k ≤ l.length ∧ s = (casts (pk (wy l th) e (top d l.length) k).1, ((pk (wy l th) e (top d l.length) k).2 : Int), (k : Int))) _ (fun s => l.length - s.2.2.toNat) ⟨0, by omega, by rw [hlen]; rfl⟩ (by simp only [big]; omega) ?_
        rintro _ ⟨k, hk, rfl⟩
        by_cases hkn : k < l.length
        · have e1 : decide ((k : Int) < lenI l) = true := decide_eq_true (by simp only [lenI_eq]; omega)
          simp only [e1, cond_true]
          rw [rl_idx hkn, Option.bind_some]
          have hw3 : w64 ((k : Int) + 1) = ((k + 1 : Nat) : Int) := by rw [w64_in (by omega) (by omega)]; rfl
          have := pick_step (e := e) (N := top d l.length) hkn hn (epos k) (fun i j => w (i, j)) hway
            (Option.bind (appO 8 (casts (pk (wy l th) e (top d l.length) k).1) [(k : Int)]) fun x => some (Sum.inl (x, w64 (((pk (wy l th) e (top d l.length) k).2 : Int) - 1), w64 ((k : Int) + 1)) : (List Int × Int × Int) ⊕ List Int))
            (some (.inl (casts (pk (wy l th) e (top d l.length) k).1, ((pk (wy l th) e (top d l.length) k).2 : Int), w64 ((k : Int) + 1))))
          rw [this, hw3]
          have hpl := pk_len (W := wy l th) (e := e) (N := top d l.length) (k := k)
          have hpw := pk_want (W := wy l th) (e := e) (N := top d l.length) (k := k)
          split
          · rename_i q
            rw [appO_some (by rw [casts_len, List.length_singleton]; omega), Option.bind_some]
            have := epos k
            refine Tot.some ⟨⟨k + 1, by omega, ?_⟩, by simp only [Int.toNat_natCast]; omega⟩
            simp only [pk]
            rw [if_pos q, w64_in (by omega) (by omega)]
            congr 1
            · simp [casts]
            · congr 1; omega
          · rename_i q
            refine Tot.some ⟨⟨k + 1, by omega, ?_⟩, by simp only [Int.toNat_natCast]; omega⟩
            simp only [pk]
            rw [if_neg q]
        · have e1 : decide ((k : Int) < lenI l) = false := decide_eq_false (by simp only [lenI_eq]; omega)
          simp only [e1, cond_false]
          obtain rfl : k = l.length := by omega
          exact Tot.some rfl
      · rintro _ rfl
        exact Tot.some rfl
end Go.Ai.Sx
