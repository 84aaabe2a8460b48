/- The depot: the cars in the way of one that leaves, for any cars on tracks. -/
import Derived.Test.YtpiblfbidgcjaaaM12
import Derived.Test.YtpiblfbidgcjaaaM13
namespace Go.Ai.Sx
def onT (tr : List Int) (left : Nat → Bool) (car i : Nat) : Bool := decide (tr.getD i 0 = tr.getD car 0) && !left i
def asdL (t : List StableTrack) (n : Nat) (tr : List Int) (left : Nat → Bool) (car : Nat) : List Nat :=
 if (t.getD (tr.getD car 0).toNat trk0).2.1 then (List.range car).filter (onT tr left car)
 else (((List.range (n - (car + 1))).map fun d => car + 1 + d).filter (onT tr left car)).reverse
def asd (t : List StableTrack) (n : Nat) (tr : List Int) (left : Nat → Bool) (car : Nat) : Nat :=
 if (t.getD (tr.getD car 0).toNat trk0).2.1 then cnt (onT tr left car) car else cnt (fun d => onT tr left car (car + 1 + d)) (n - (car + 1))
theorem asdL_len {t : List StableTrack} {n : Nat} {tr : List Int} {left : Nat → Bool} {car : Nat} : (asdL t n tr left car).length = asd t n tr left car := by
 unfold asdL asd
 cases (t.getD (tr.getD car 0).toNat trk0).2.1 with
 | true => simp only [if_true]; exact filter_cnt _ _
 | false => simp only [Bool.false_eq_true, if_false, List.length_reverse]; exact filter_cnt' _ _ _
theorem asd_le {t : List StableTrack} {n : Nat} {tr : List Int} {left : Nat → Bool} {car : Nat} (h : car < n) : asd t n tr left car ≤ n := by
 unfold asd
 split
 ·exact Nat.le_trans (cnt_le _ _) (by omega)
 ·exact Nat.le_trans (cnt_le _ _) (by omega)
section
variable {t : List StableTrack} {c : List StableCar} {l : List StableLeave} {tr : List Int}
theorem aside_gen (hn : NightOk t c l) (l1 : tr.length = c.length) (ht : ∀ i, i < c.length → 0 ≤ tr.getD i 0 ∧ tr.getD i 0 < (t.length : Int)) {car : Nat} (hc : car < c.length) {left : Nat → Bool} {f : Int → Option Bool} (h3 : ∀ i : Nat, i < c.length → f (i : Int) = some (left i)) (hl : left car = false) :
    g_depot_night_aside (t, c, l, ()) tr (car : Int) f = some (casts (asdL t c.length tr left car)) := by
  have h9 := hn.c9
  obtain ⟨on, hon⟩ : ∃ on : Nat → Bool, on = onT tr left car := ⟨_, rfl⟩
  have hself : on car = true := by rw [hon]; unfold onT; rw [hl]; simp
  unfold asdL
  rw [← hon]
  replace hon : ∀ i, on i = (decide (tr.getD i 0 = tr.getD car 0) && !left i) := fun i => by rw [hon]; rfl
  refine Tot.eq ?_
  unfold g_depot_night_aside
  simp only []
  have hfl : ∀ i, ((List.range i).filter on).length ≤ i := fun i => by
    have := List.length_filter_le on (List.range i)
    rwa [List.length_range] at this
  refine Tot.bind (Q := fun q => q = (casts ((List.range c.length).filter on), (((List.range car).filter on).length : Int))) ?_ ?_
  · refine Tot.iter (fun s => ∃ i : Nat, i ≤ c.length ∧ s = (casts ((List.range i).filter on), (if car < i then (((List.range car).filter on).length : Int) else 0), (i : Int))) _ (fun s => c.length - s.2.2.toNat) ⟨0, by omega, rfl⟩ (by simp only [big]; omega) ?_
    rintro _ ⟨i, hi, rfl⟩
    by_cases hin : i < c.length
    · have hw1 : w64 ((i : Int) + 1) = ((i + 1 : Nat) : Int) := by rw [w64_in (by omega) (by omega)]; rfl
      have hsucc : (List.range (i + 1)).filter on = (List.range i).filter on ++ (if on i then [i] else []) := by
        rw [List.range_succ, List.filter_append]
        cases h : on i <;> simp [h]
      have hfi := hfl i
      simp only [show decide ((i : Int) < lenI tr) = true from decide_eq_true (by simp only [lenI_eq]; omega), cond_true, hw1]
      rw [idx_natD 0 (by omega), Option.bind_some, idx_natD 0 (by omega), Option.bind_some]
      have hlcl := h3 i hin
      rw [show (tr.getD i 0 != tr.getD car 0) = !decide (tr.getD i 0 = tr.getD car 0) from rfl]
      have skip : on i = false → i ≠ car ∧ Tot (StepT (fun s => ∃ i : Nat, i ≤ c.length ∧ s = (casts ((List.range i).filter on), (if car < i then (((List.range car).filter on).length : Int) else 0), (i : Int))) (fun q => q = (casts ((List.range c.length).filter on), (((List.range car).filter on).length : Int))) (fun s => c.length - s.2.2.toNat) (casts ((List.range i).filter on), (if car < i then (((List.range car).filter on).length : Int) else 0), (i : Int)))
          (some (.inl (casts ((List.range i).filter on), (if car < i then (((List.range car).filter on).length : Int) else 0), ((i + 1 : Nat) : Int)))) := by
        intro hb
        have hne : i ≠ car := fun e => by subst e; rw [hself] at hb; cases hb
        refine ⟨hne, Tot.some ⟨⟨i + 1, by omega, ?_⟩, by simp only [Int.toNat_natCast]; omega⟩⟩
        rw [hsucc, hb]
        simp only [Bool.false_eq_true, if_false, List.append_nil]
        congr 2
        by_cases q : car < i
        · rw [if_pos q, if_pos (by omega)]
        · rw [if_neg q, if_neg (by omega)]
      cases h1 : decide (tr.getD i 0 = tr.getD car 0) with
      | false =>
        simp only [Bool.not_false, cond_true]
        exact (skip (by rw [hon, h1]; rfl)).2
      | true =>
        simp only [Bool.not_true, cond_false]
        rw [hlcl, Option.bind_some]
        cases h2 : left i with
        | true =>
          simp only [cond_true]
          exact (skip (by rw [hon, h1, h2]; rfl)).2
        | false =>
          have hb : on i = true := by rw [hon, h1, h2]; rfl
          simp only [cond_false]
          have happ : appO 8 (casts ((List.range i).filter on)) [(i : Int)] = some (casts ((List.range (i + 1)).filter on)) := by
            rw [appO_some (by rw [casts_len, List.length_singleton]; omega), casts_app, hsucc, hb]; rfl
          rw [happ, Option.bind_some, Option.bind_some]
          by_cases q : i = car
          · rw [show ((i : Int) == (car : Int)) = true by rw [q]; exact beq_self_eq_true _]
            simp only [cond_true]
            refine Tot.some ⟨⟨i + 1, by omega, ?_⟩, by simp only [Int.toNat_natCast]; omega⟩
            rw [if_pos (by omega), lenI_eq, casts_len, q]
          · rw [show ((i : Int) == (car : Int)) = false from beq_false_of_ne (by omega)]
            simp only [cond_false]
            refine Tot.some ⟨⟨i + 1, by omega, ?_⟩, by simp only [Int.toNat_natCast]; omega⟩
            congr 2
            by_cases q2 : car < i
            · rw [if_pos q2, if_pos (by omega)]
            · rw [if_neg q2, if_neg (by omega)]
    · obtain rfl : i = c.length := by omega
      simp only [show decide ((c.length : Int) < lenI tr) = false from decide_eq_false (by simp only [lenI_eq]; omega), cond_false]
      refine Tot.some ?_
      rw [if_pos hc]
      rfl
  · rintro _ rfl
    have htr := ht car hc
    rw [idx_natD 0 (by omega), Option.bind_some, idx_getD (d := trk0) htr.1 htr.2, Option.bind_some]
    simp only []
    have hsplit : (List.range c.length).filter on = (List.range car).filter on ++ car :: (((List.range (c.length - (car + 1))).map fun d => car + 1 + d).filter on) := by
      rw [range_at hc, List.filter_append, List.filter_cons, if_pos hself]
    have hA := hfl car
    have hN := hfl c.length
    show Tot (fun x => x = casts (if (t.getD (tr.getD car 0).toNat trk0).2.1 then (List.range car).filter on else ((((List.range (c.length - (car + 1))).map fun d => car + 1 + d).filter on)).reverse)) _
    rw [hsplit] at hN ⊢
    generalize (List.range car).filter on = A at *
    generalize (((List.range (c.length - (car + 1))).map fun d => car + 1 + d).filter on) = B at *
    rw [List.length_append, List.length_cons] at hN
    have hlen : (casts (A ++ car :: B)).length = A.length + (B.length + 1) := by rw [casts_len]; simp
    cases (t.getD (tr.getD car 0).toNat trk0).2.1 with
    | true =>
      simp only [cond_true, if_true]
      have : slO3 (casts (A ++ car :: B)) (A.length : Int) (A.length : Int) = some (casts A) := by
        unfold slO3
        rw [if_pos (by
          refine ⟨fun e => ?_, by omega, by omega, by rw [hlen]; omega⟩
          rw [e] at hlen; simp at hlen)]
        congr 1
        unfold casts
        rw [Int.toNat_natCast, List.map_append, List.take_append_of_le_length (by simp), List.take_of_length_le (by simp)]
      rw [this, Option.bind_some]
      exact Tot.some rfl
    | false =>
      simp only [cond_false, Bool.false_eq_true, if_false]
      have hw : w64 ((A.length : Int) + 1) = ((A.length + 1 : Nat) : Int) := by rw [w64_in (by omega) (by omega)]; rfl
      have : slO (casts (A ++ car :: B)) ((A.length + 1 : Nat) : Int) (lenI (casts (A ++ car :: B))) = some (casts B) := by
        rw [slO_some (by rw [lenI_eq, hlen]; omega), lenI_eq, Int.toNat_natCast, Int.toNat_natCast, List.take_length]
        congr 1
        unfold casts
        rw [← List.map_drop]
        congr 1
        simp [List.drop_append]
      rw [hw, this, Option.bind_some]
      have ecl : g_slices_Clone_int_int (casts B) = some (casts B) := by
        unfold g_slices_Clone_int_int
        rw [appO_some (by rw [casts_len]; simp only [List.length_nil]; omega)]; rfl
      rw [ecl, Option.bind_some, reverse_tot _ (by rw [casts_len]; omega), Option.bind_some]
      refine Tot.some ?_
      unfold casts
      rw [List.map_reverse]
end
end Go.Ai.Sx

/- The depot: the fewest moves for cars on tracks: what the table of known sets holds. -/
namespace Go.Ai.Sx
def NV : Nat := 1048576
def fm (cand : Nat → Option Nat) : Nat → Nat
 | 0 => NV
 | i + 1 => match cand i with
  | some v => min (fm cand i) v
  | none => fm cand i
theorem fm_NV (cand : Nat → Option Nat) : ∀ i, fm cand i ≤ NV
 | 0 => Nat.le_refl _
 | i + 1 => by
  have := fm_NV cand i
  simp only [fm]
  split
  ·omega
  ·exact this
theorem fm_le {cand : Nat → Option Nat} : ∀ {n i : Nat} {v : Nat}, i < n → cand i = some v → fm cand n ≤ v
 | n + 1, i, v, h, hc => by
  simp only [fm]
  by_cases e : i = n
  ·subst e
   rw [hc]
   exact Nat.min_le_right _ _
  ·have := fm_le (n := n) (by omega) hc
   split
   ·omega
   ·exact this
theorem fm_att {cand : Nat → Option Nat} : ∀ n, fm cand n = NV ∨ ∃ i, i < n ∧ cand i = some (fm cand n)
 | 0 => .inl rfl
 | n + 1 => by
  have ih := fm_att (cand := cand) n
  simp only [fm]
  cases hc : cand n with
  | none =>
   rcases ih with h | ⟨i, h1, h2⟩
   ·exact .inl h
   ·exact .inr ⟨i, by omega, h2⟩
  | some v =>
   simp only []
   by_cases hm : fm cand n ≤ v
   ·rw [Nat.min_eq_left hm]
    rcases ih with h | ⟨i, h1, h2⟩
    ·exact .inl h
    ·exact .inr ⟨i, by omega, h2⟩
   ·rw [Nat.min_eq_right (by omega)]
    exact .inr ⟨n, by omega, hc⟩
theorem mget_mset {B : Type} (v : B) (a b : Int) : ∀ es : List (Int × B), mget (mset es a v) b = if b = a then some v else mget es b
 | [] => by simp [mset, mget]
 | (k, w) :: es => by
  simp only [mset]
  by_cases h : a = k
  ·subst h
   rw [if_pos rfl]
   simp only [mget]
   by_cases h2 : b = a
   ·rw [if_pos h2, if_pos h2]
   ·rw [if_neg h2, if_neg h2, if_neg h2]
  ·rw [if_neg h]
   simp only [mget, mget_mset v a b es]
   by_cases h2 : b = k
   ·subst h2
    rw [if_pos rfl, if_neg (fun e => h e.symm), if_pos rfl]
   ·rw [if_neg h2, if_neg h2]
def takesK (c : List StableCar) (l : List StableLeave) (i k : Nat) : Bool :=
 decide ((c.getD i car0).1 = (l.getD k lev0).1) && (decide ((c.getD i car0).2.2.1 ≤ (l.getD k lev0).2.1) && decide ((l.getD k lev0).2.1 ≤ (c.getD i car0).2.2.2.1))
def okB (c : List StableCar) (l : List StableLeave) (fx : List Int) (car k : Nat) : Bool :=
 takesK c l car k && (if car < fx.length then decide (fx.getD car 0 = (k : Int)) else !fx.any fun x => (k : Int) == x)
section
variable (t : List StableTrack) (c : List StableCar) (l : List StableLeave) (fx tr : List Int)
def V : Nat → Nat → Nat → Nat
 | 0, _, _ => 0
 | m + 1, S, k => fm (fun car => if (!S.testBit car && okB c l fx car k) = true then some (asd t c.length tr S.testBit car + V m (S ||| 2 ^ car) (k + 1)) else none) c.length
def good : Nat → Nat → List Nat → Prop
 | _, _, [] => True
 | S, k, x :: xs => x < c.length ∧ S.testBit x = false ∧ okB c l fx x k = true ∧ good (S ||| 2 ^ x) (k + 1) xs
def cst : Nat → List Nat → Nat
 | _, [] => 0
 | S, x :: xs => asd t c.length tr S.testBit x + cst (S ||| 2 ^ x) xs
end
section
variable {t : List StableTrack} {c : List StableCar} {l : List StableLeave} {fx tr : List Int}
theorem V_NV : ∀ {m S k : Nat}, V t c l fx tr m S k ≤ NV
 | 0, _, _ => by simp [V, NV]
 | m + 1, _, _ => fm_NV _ _
theorem V_le : ∀ {xs : List Nat} {S k : Nat}, good c l fx S k xs → V t c l fx tr xs.length S k ≤ cst t c tr S xs
 | [], _, _, _ => by simp [V, cst]
 | x :: xs, S, k, h => by
  obtain ⟨h1, h2, h3, h4⟩ := h
  have ih := V_le h4
  have := fm_le (cand := fun car => if (!S.testBit car && okB c l fx car k) = true then some (asd t c.length tr S.testBit car + V t c l fx tr xs.length (S ||| 2 ^ car) (k + 1)) else none) h1
   (v := asd t c.length tr S.testBit x + V t c l fx tr xs.length (S ||| 2 ^ x) (k + 1)) (by rw [if_pos (by rw [h2, h3]; rfl)])
  simp only [List.length_cons, V, cst]
  omega
theorem V_att : ∀ {m S k : Nat}, V t c l fx tr m S k < NV → ∃ xs : List Nat, xs.length = m ∧ good c l fx S k xs ∧ cst t c tr S xs = V t c l fx tr m S k
 | 0, _, _, _ => ⟨[], rfl, trivial, rfl⟩
 | m + 1, S, k, h => by
  simp only [V] at h ⊢
  rcases fm_att (cand := fun car => if (!S.testBit car && okB c l fx car k) = true then some (asd t c.length tr S.testBit car + V t c l fx tr m (S ||| 2 ^ car) (k + 1)) else none) c.length with e | ⟨x, hx, e⟩
  ·omega
  ·rw [← V] at h e ⊢
   split at e
   ·rename_i hb
    rw [Bool.and_eq_true, Bool.not_eq_true'] at hb
    have e' := Option.some.inj e
    obtain ⟨xs, h1, h2, h3⟩ := V_att (m := m) (S := S ||| 2 ^ x) (k := k + 1) (by omega)
    refine ⟨x :: xs, by rw [List.length_cons, h1], ⟨hx, hb.1, hb.2, h2⟩, ?_⟩
    simp only [cst]
    omega
   ·cases e
def pc (n S : Nat) : Nat := cnt S.testBit n
theorem or_bit (S x i : Nat) : (S ||| 2 ^ x).testBit i = (S.testBit i || decide (x = i)) := by rw [Nat.testBit_or, Nat.testBit_two_pow]
theorem or_lt_pow {S x n : Nat} (hS : S < 2 ^ n) (hx : x < n) : S ||| 2 ^ x < 2 ^ n := Nat.or_lt_two_pow hS (Nat.pow_lt_pow_right (by omega) hx)
theorem pc_or {S x : Nat} (hb : S.testBit x = false) : ∀ {n : Nat}, pc n (S ||| 2 ^ x) = pc n S + (if x < n then 1 else 0)
 | 0 => by simp [pc, cnt]
 | n + 1 => by
  have ih := pc_or hb (n := n)
  unfold pc at ih ⊢
  simp only [cnt, ih, or_bit]
  by_cases e : x = n
  ·subst e
   rw [hb]
   simp
  ·rw [decide_eq_false e, Bool.or_false]
   by_cases q : x < n
   ·rw [if_pos q, if_pos (show x < n + 1 by omega)]; omega
   ·rw [if_neg q, if_neg (show ¬ x < n + 1 by omega)]; omega
theorem pc_all {S : Nat} : ∀ {n : Nat}, pc n S = n → ∀ i, i < n → S.testBit i = true
 | n + 1, h, i, hi => by
  unfold pc at h
  simp only [cnt] at h
  have := cnt_le S.testBit n
  have hb : S.testBit n = true := by
   cases q : S.testBit n with
   | true => rfl
   | false => rw [q] at h; simp at h; omega
  by_cases e : i = n
  ·rw [e]; exact hb
  ·exact pc_all (n := n) (by unfold pc; rw [hb] at h; simp at h; omega) i (by omega)
theorem pc_full {n S : Nat} (hS : S < 2 ^ n) (h : pc n S = n) : S = 2 ^ n - 1 := by
 apply Nat.eq_of_testBit_eq
 intro i
 rw [Nat.testBit_two_pow_sub_one]
 by_cases hi : i < n
 ·rw [decide_eq_true hi]; exact pc_all h i hi
 ·rw [decide_eq_false hi]
  exact Nat.testBit_lt_two_pow (Nat.lt_of_lt_of_le hS (Nat.pow_le_pow_right (by omega) (by omega)))
theorem pc_zero : ∀ n, pc n 0 = 0
 | 0 => rfl
 | n + 1 => by
  have := pc_zero n
  unfold pc at this ⊢
  simp only [cnt, this, Nat.zero_testBit]
  rfl
def KOk (t : List StableTrack) (c : List StableCar) (l : List StableLeave) (fx tr : List Int) (kn : List (Int × Int)) : Prop :=
 (∀ (S : Nat) (v : Int), mget kn (S : Int) = some v → S < 2 ^ c.length → v = (V t c l fx tr (c.length - pc c.length S) S (pc c.length S) : Int)) ∧ mget kn ((2 ^ c.length - 1 : Nat) : Int) = some 0
theorem takes1 (hn : NightOk t c l) {i k : Nat} (hi : i < c.length) (hk : k < c.length) : g_depot_night_takes (t, c, l, ()) (i : Int) (k : Int) = some (takesK c l i k) := by
 unfold g_depot_night_takes takesK
 simp only []
 rw [idx_natD car0 hi, Option.bind_some, idx_natD lev0 (by have := hn.cl; omega), Option.bind_some]
 rw [show ((c.getD i car0).1 == (l.getD k lev0).1) = decide ((c.getD i car0).1 = (l.getD k lev0).1) from rfl]
 cases decide ((c.getD i car0).1 = (l.getD k lev0).1) <;> cases decide ((c.getD i car0).2.2.1 ≤ (l.getD k lev0).2.1) <;> rfl
theorem pow9 {n : Nat} (h : n ≤ 9) : 2 ^ n ≤ 512 := Nat.pow_le_pow_right (n := 2) (by omega) h
theorem least_rec (hn : NightOk t c l) (l1 : tr.length = c.length) (ht : ∀ i, i < c.length → 0 ≤ tr.getD i 0 ∧ tr.getD i 0 < (t.length : Int)) (hfx : fx.length ≤ c.length) :
    ∀ m fuel S k kn, m < fuel → S < 2 ^ c.length → pc c.length S = k → k + m = c.length → KOk t c l fx tr kn →
      ∃ kn', g_depot_night_least_1 fuel (S : Int) (k : Int) kn (t, c, l, ()) fx tr = some ((V t c l fx tr m S k : Int), kn') ∧ KOk t c l fx tr kn' := by
  have h9 := hn.c9
  have hp9 := pow9 h9
  intro m
  induction m with
  | zero =>
    intro fuel S k kn hf hS hpc hk hkn
    obtain ⟨f, rfl⟩ : ∃ f, fuel = f + 1 := ⟨fuel - 1, by omega⟩
    show ∃ kn', g_depot_night_least_1_body (g_depot_night_least_1 f) (S : Int) (k : Int) kn (t, c, l, ()) fx tr = _ ∧ _
    unfold g_depot_night_least_1_body
    have hfull := pc_full hS (by omega)
    have hg : mget kn (S : Int) = some 0 := by rw [hfull]; exact hkn.2
    rw [hg]
    exact ⟨kn, rfl, hkn⟩
  | succ m ih =>
    intro fuel S k kn hf hS hpc hk hkn
    obtain ⟨f, rfl⟩ : ∃ f, fuel = f + 1 := ⟨fuel - 1, by omega⟩
    show ∃ kn', g_depot_night_least_1_body (g_depot_night_least_1 f) (S : Int) (k : Int) kn (t, c, l, ()) fx tr = _ ∧ _
    unfold g_depot_night_least_1_body
    cases hg : mget kn (S : Int) with
    | some v =>
      have hv := hkn.1 S v hg hS
      rw [hpc, show c.length - k = m + 1 by omega] at hv
      subst hv
      exact ⟨kn, rfl, hkn⟩
    | none =>
      simp only [Option.isSome_none, cond_false]
      let cand : Nat → Option Nat := fun car => if (!S.testBit car && okB c l fx car k) = true then some (asd t c.length tr S.testBit car + V t c l fx tr m (S ||| 2 ^ car) (k + 1)) else none
      have hS62 : S < 4611686018427387904 := by omega
      suffices hh : Tot (fun q : Int × List (Int × Int) => q.1 = (fm cand c.length : Int) ∧ KOk t c l fx tr q.2) (iter (σ := (Int × Int × (List (Int × Int)))) (τ := (Int × (List (Int × Int)))) _ big ((1048576, 0, kn))) by
        obtain ⟨q, h1, h2, h3⟩ := hh
        rw [h1, Option.bind_some, h2]
        have hle := fm_NV cand c.length
        have hmin : min (fm cand c.length : Int) 1048576 = (fm cand c.length : Int) := by
          unfold NV at hle
          omega
        rw [hmin, mget_mset, if_pos rfl]
        refine ⟨_, rfl, fun S' v hv hS' => ?_, ?_⟩
        · rw [mget_mset] at hv
          by_cases e : (S' : Int) = (S : Int)
          · rw [if_pos e] at hv
            have : S' = S := by omega
            subst this
            rw [hpc, show c.length - k = m + 1 by omega]
            exact (Option.some.inj hv).symm
          · rw [if_neg e] at hv
            exact h3.1 S' v hv hS'
        · rw [mget_mset, if_neg, h3.2]
          intro e
          have : S = 2 ^ c.length - 1 := by omega
          have hall : pc c.length (2 ^ c.length - 1) = c.length := by
            have key : ∀ j, j ≤ c.length → cnt (2 ^ c.length - 1).testBit j = j := by
              intro j
              induction j with
              | zero => intro _; rfl
              | succ j ih =>
                intro hj
                simp only [cnt]
                rw [ih (by omega), Nat.testBit_two_pow_sub_one, decide_eq_true (by omega)]
                rfl
            exact key _ (Nat.le_refl _)
          rw [this, hall] at hpc
          omega
      refine Tot.iter (fun s => ∃ i : Nat, i ≤ c.length ∧ s.1 = (fm cand i : Int) ∧ s.2.1 = (i : Int) ∧ KOk t c l fx tr s.2.2) _ (fun s => c.length - s.2.1.toNat) ⟨0, by omega, rfl, rfl, hkn⟩ (by simp only [big]; omega) ?_
      rintro ⟨_, _, kn1⟩ ⟨i, hi, rfl, rfl, hk1⟩
      by_cases hin : i < c.length
      · have hw : w64 ((i : Int) + 1) = ((i + 1 : Nat) : Int) := by rw [w64_in (by omega) (by omega)]; rfl
        simp only [show decide ((i : Int) < lenI c) = true from decide_eq_true (by simp only [lenI_eq]; omega), cond_true, hw]
        obtain ⟨v, hv1, hv2⟩ := bit_i hS62 (show i < 62 by omega)
        rw [hv1, Option.bind_some, hv2]
        have skip : cand i = none → Tot (StepT (fun s : Int × Int × List (Int × Int) => ∃ i : Nat, i ≤ c.length ∧ s.1 = (fm cand i : Int) ∧ s.2.1 = (i : Int) ∧ KOk t c l fx tr s.2.2) (fun q : Int × List (Int × Int) => q.1 = (fm cand c.length : Int) ∧ KOk t c l fx tr q.2) (fun s => c.length - s.2.1.toNat) ((fm cand i : Int), (i : Int), kn1)) (some (.inl ((fm cand i : Int), ((i + 1 : Nat) : Int), kn1))) := by
          intro hc
          refine Tot.some ⟨⟨i + 1, by omega, ?_, rfl, hk1⟩, by simp only [Int.toNat_natCast]; omega⟩
          simp only [fm, hc]
        cases hb : S.testBit i with
        | true =>
          simp only [cond_true]
          exact skip (by simp [cand, hb])
        | false =>
          simp only [cond_false]
          rw [takes1 hn hin (by omega), Option.bind_some]
          cases htk : takesK c l i k with
          | false =>
            simp only [Bool.not_false, cond_true]
            exact skip (by simp [cand, okB, htk])
          | true =>
            simp only [Bool.not_true, cond_false]
            have hcon : g_slices_Contains_int_int fx (k : Int) = some (fx.any fun x => (k : Int) == x) := contains_eq (by omega)
            -- the rest is the same in all ways
            have rest : okB c l fx i k = true → Tot (StepT (fun s : Int × Int × List (Int × Int) => ∃ i : Nat, i ≤ c.length ∧ s.1 = (fm cand i : Int) ∧ s.2.1 = (i : Int) ∧ KOk t c l fx tr s.2.2) (fun q : Int × List (Int × Int) => q.1 = (fm cand c.length : Int) ∧ KOk t c l fx tr q.2) (fun s => c.length - s.2.1.toNat) ((fm cand i : Int), (i : Int), kn1))
                (Option.bind (g_depot_night_aside (t, c, l, ()) tr (i : Int) ((fun x => g_depot_night_least_1_1 x (S : Int)))) fun y137 =>
                Option.bind (shlO .i64 1 (i : Int)) fun x140 =>
                Option.bind (g_depot_night_least_1 f ((bOr .i64 (S : Int) x140)) ((w64 ((k : Int) + 1))) kn1 (t, c, l, ()) fx tr) fun y141 =>
                some (.inl (((min (fm cand i : Int) ((w64 ((lenI y137) + y141.1)))), ((i + 1 : Nat) : Int), y141.2)))) := by
              intro hok
              rw [aside_gen hn l1 ht hin (left := S.testBit) (fun j hj => by
                unfold g_depot_night_least_1_1
                obtain ⟨v, hv1, hv2⟩ := bit_i hS62 (show j < 62 by omega)
                rw [hv1, Option.bind_some, hv2]) hb, Option.bind_some, shl_i (by omega), Option.bind_some, bOr_i hS62 (pow_lt (by omega)), show w64 ((k : Int) + 1) = ((k + 1 : Nat) : Int) by rw [w64_in (by omega) (by omega)]; rfl]
              obtain ⟨kn2, h1, h2⟩ := ih f (S ||| 2 ^ i) (k + 1) kn1 (by omega) (or_lt_pow hS hin) (by rw [pc_or hb, if_pos hin, hpc]) (by omega) hk1
              rw [h1, Option.bind_some]
              have ha := asd_le (t := t) (n := c.length) (tr := tr) (left := S.testBit) hin
              have hV := V_NV (t := t) (c := c) (l := l) (fx := fx) (tr := tr) (m := m) (S := S ||| 2 ^ i) (k := k + 1)
              have hcand : cand i = some (asd t c.length tr S.testBit i + V t c l fx tr m (S ||| 2 ^ i) (k + 1)) := by
                simp only [cand]; rw [if_pos (by rw [hb, hok]; rfl)]
              unfold NV at hV
              refine Tot.some ⟨⟨i + 1, by omega, ?_, rfl, h2⟩, by simp only [Int.toNat_natCast]; omega⟩
              simp only [fm, hcand]
              rw [lenI_eq, casts_len, asdL_len, w64_in (by omega) (by omega)]
              omega
            by_cases hif : i < fx.length
            · simp only [show decide ((i : Int) < lenI fx) = true from decide_eq_true (by simp only [lenI_eq]; omega), cond_true, show decide ((i : Int) ≥ lenI fx) = false from decide_eq_false (by simp only [lenI_eq]; omega), cond_false]
              rw [idx_natD 0 hif, Option.bind_some, show (fx.getD i 0 != (k : Int)) = !decide (fx.getD i 0 = (k : Int)) from rfl]
              cases hd : decide (fx.getD i 0 = (k : Int)) with
              | false =>
                simp only [Bool.not_false, cond_true]
                exact skip (by simp only [cand, okB, htk, hd, if_pos hif, Bool.and_false]; rfl)
              | true =>
                simp only [Bool.not_true, cond_false]
                exact rest (by unfold okB; rw [htk, if_pos hif, hd]; rfl)
            · simp only [show decide ((i : Int) < lenI fx) = false from decide_eq_false (by simp only [lenI_eq]; omega), cond_false, show decide ((i : Int) ≥ lenI fx) = true from decide_eq_true (by simp only [lenI_eq]; omega), cond_true]
              rw [hcon, Option.bind_some]
              cases ha : fx.any fun x => (k : Int) == x with
              | true =>
                simp only [cond_true]
                exact skip (by simp only [cand, okB, htk, if_neg hif, ha, Bool.not_true, Bool.and_false]; rfl)
              | false =>
                simp only [cond_false]
                exact rest (by unfold okB; rw [htk, if_neg hif, ha]; rfl)
      · obtain rfl : i = c.length := by omega
        simp only [show decide ((c.length : Int) < lenI c) = false from decide_eq_false (by simp only [lenI_eq]; omega), cond_false]
        exact Tot.some ⟨rfl, hk1⟩
theorem least_eq (hn : NightOk t c l) (l1 : tr.length = c.length) (ht : ∀ i, i < c.length → 0 ≤ tr.getD i 0 ∧ tr.getD i 0 < (t.length : Int)) (hfx : fx.length ≤ c.length) :
    g_depot_night_least (t, c, l, ()) tr fx = some (V t c l fx tr c.length 0 0 : Int) := by
  have h9 := hn.c9
  have hp9 := pow9 h9
  have hp0 : 1 ≤ 2 ^ c.length := Nat.one_le_two_pow
  unfold g_depot_night_least
  simp only []
  rw [show lenI c = (c.length : Int) from rfl, shl_i (by omega), Option.bind_some, show w64 (((2 ^ c.length : Nat) : Int) - 1) = ((2 ^ c.length - 1 : Nat) : Int) by rw [w64_in (by omega) (by omega)]; omega]
  have hk0 : KOk t c l fx tr (mset [] ((2 ^ c.length - 1 : Nat) : Int) 0) := by
    refine ⟨fun S v hv hS => ?_, by rw [mget_mset, if_pos rfl]⟩
    rw [mget_mset] at hv
    split at hv
    · rename_i e
      have : S = 2 ^ c.length - 1 := by omega
      cases hv
      have hpc : pc c.length S = c.length := by
        have key : ∀ j, j ≤ c.length → cnt S.testBit j = j := by
          intro j
          induction j with
          | zero => intro _; rfl
          | succ j ih =>
            intro hj
            simp only [cnt]
            rw [ih (by omega), this, Nat.testBit_two_pow_sub_one, decide_eq_true (by omega)]
            rfl
        exact key _ (Nat.le_refl _)
      rw [hpc, Nat.sub_self]; rfl
    · simp [mget] at hv
  obtain ⟨kn', h1, _⟩ := least_rec hn l1 ht hfx c.length big 0 0 (mset [] ((2 ^ c.length - 1 : Nat) : Int) 0) (by simp only [big]; omega) (by omega) (pc_zero _) (by omega) hk0
  rw [show ((0 : Nat) : Int) = 0 from rfl] at h1
  rw [h1]
  rfl
end
end Go.Ai.Sx

/- The depot: orders in which cars leave are plans, and their moves those of the plan. -/
namespace Go.Ai.Sx
section
variable {t : List StableTrack} {c : List StableCar} {l : List StableLeave} {p : StablePlan} {fx tr : List Int}
def Goes (fx lv : List Int) : Prop := fx.length ≤ lv.length ∧ ∀ i, i < fx.length → fx.getD i 0 = lv.getD i 0
theorem takes_plan (ho : PlanOk t c l p) {i : Nat} (hi : i < c.length) : takesK c l i (lvN p i) = true := by
 have h := ho.takes i hi
 unfold takesB at h
 unfold takesK lvN
 exact h
theorem cf_lv (ho : PlanOk t c l p) {i : Nat} (hi : i < c.length) : cf p (lvN p i) = i := by
 have h1 := lvN_lt ho hi
 have h2 := cf_ok ho h1.1
 exact lvN_inj ho h2.1 hi h2.2
theorem ok_plan (ho : PlanOk t c l p) (hg : Goes fx p.2.1) {k : Nat} (hk : k < c.length) : okB c l fx (cf p k) k = true := by
 obtain ⟨h1, h2⟩ := cf_ok ho hk
 have h3 := takes_plan ho h1
 have h4 := (lvN_lt ho h1).2
 rw [h2] at h3 h4
 unfold okB
 rw [h3, Bool.true_and]
 by_cases q : cf p k < fx.length
 ·rw [if_pos q, hg.2 _ q, h4]; exact decide_eq_true rfl
 ·rw [if_neg q, Bool.not_eq_true']
  cases ha : fx.any fun x => (k : Int) == x with
  | false => rfl
  | true =>
   rw [List.any_eq_true] at ha
   obtain ⟨x, hx, he⟩ := ha
   have he : (k : Int) = x := by simpa using he
   subst he
   obtain ⟨i, hi, hxe⟩ := List.getElem_of_mem hx
   have hl2 := ho.l2
   have hlv := hg.2 i hi
   have hic : i < c.length := by have := hg.1; omega
   have hxi : fx.getD i 0 = (k : Int) := by simp [List.getD, hi, hxe]
   rw [hxi] at hlv
   have : lvN p i = k := by unfold lvN; rw [← hlv]; omega
   have := cf_lv ho hic
   rw [‹lvN p i = k›] at this
   omega
def Is (p : StablePlan) (n k S : Nat) : Prop := S < 2 ^ n ∧ ∀ i, i < n → S.testBit i = decide (lvN p i < k)
theorem is_next (ho : PlanOk t c l p) {k S : Nat} (hk : k < c.length) (h : Is p c.length k S) : Is p c.length (k + 1) (S ||| 2 ^ cf p k) := by
 obtain ⟨h1, h2⟩ := cf_ok ho hk
 refine ⟨or_lt_pow h.1 h1, fun i hi => ?_⟩
 rw [or_bit, h.2 i hi]
 by_cases e : cf p k = i
 ·rw [← e, h2]; simp
 ·have : lvN p i ≠ k := fun q => e (by rw [← q]; exact cf_lv ho hi)
  rw [decide_eq_false e, Bool.or_false]
  by_cases q : lvN p i < k
  ·rw [decide_eq_true q, decide_eq_true (by omega)]
  ·rw [decide_eq_false q, decide_eq_false (by omega)]
theorem is_zero (p : StablePlan) (n : Nat) : Is p n 0 0 := ⟨Nat.two_pow_pos n, fun i _ => by rw [Nat.zero_testBit]; exact (decide_eq_false (by omega)).symm⟩
theorem asd_plan (ho : PlanOk t c l p) {k S : Nat} (hk : k < c.length) (h : Is p c.length k S) : asd t c.length p.1 S.testBit (cf p k) = gS t c.length p (cf p k) := by
 obtain ⟨h1, h2⟩ := cf_ok ho hk
 unfold asd gS
 rw [show (t.getD (p.1.getD (cf p k) 0).toNat trk0).2.1 = thr t p (cf p k) from rfl, h2]
 have e : ∀ i, i < c.length → onT p.1 S.testBit (cf p k) i = onB p (cf p k) k i := fun i hi => by
  unfold onT onB
  rw [h.2 i hi]
 cases thr t p (cf p k) with
 | true => simp only [if_true]; exact cnt_congr fun i hi => e i (by omega)
 | false => simp only [Bool.false_eq_true, if_false]; exact cnt_congr fun i hi => e _ (by omega)
theorem seq_plan (ho : PlanOk t c l p) (hg : Goes fx p.2.1) : ∀ (m k S : Nat), k + m = c.length → Is p c.length k S →
    good c l fx S k ((List.range' k m).map (cf p)) ∧ cst t c p.1 S ((List.range' k m).map (cf p)) = ((List.range' k m).map fun j => gS t c.length p (cf p j)).sum
  | 0, k, S, _, _ => ⟨trivial, rfl⟩
  | m + 1, k, S, hk, h => by
    have hk' : k < c.length := by omega
    obtain ⟨h1, h2⟩ := cf_ok ho hk'
    obtain ⟨i1, i2⟩ := seq_plan ho hg m (k + 1) (S ||| 2 ^ cf p k) (by omega) (is_next ho hk' h)
    rw [List.range'_succ]
    simp only [List.map_cons, List.sum_cons, good, cst]
    refine ⟨⟨h1, ?_, ok_plan ho hg hk', i1⟩, by rw [asd_plan ho hk' h, i2]⟩
    rw [h.2 _ h1, h2]
    exact decide_eq_false (by omega)
theorem sum_range (f : Nat → Nat) : ∀ n, ((List.range n).map f).sum = sumN f n
 | 0 => rfl
 | n + 1 => by
  rw [List.range_succ, List.map_append, List.sum_append, sum_range f n]
  simp [sumN]
theorem cst_plan (ho : PlanOk t c l p) (hg : Goes fx p.2.1) : good c l fx 0 0 ((List.range c.length).map (cf p)) ∧ cst t c p.1 0 ((List.range c.length).map (cf p)) = pairs t p c.length := by
 have h := seq_plan ho hg c.length 0 0 (by omega) (is_zero p _)
 rw [← List.range_eq_range'] at h
 refine ⟨h.1, h.2.trans ?_⟩
 rw [sum_range, sum_cf ho (gS t c.length p), sum_pairs ho]
theorem V_plan (ho : PlanOk t c l p) (hg : Goes fx p.2.1) : V t c l fx p.1 c.length 0 0 ≤ pairs t p c.length := by
 obtain ⟨h1, h2⟩ := cst_plan ho hg
 have := V_le (t := t) (tr := p.1) h1
 rw [List.length_map, List.length_range, h2] at this
 exact this
theorem good_inv : ∀ {xs : List Nat} {S k : Nat}, good c l fx S k xs → (∀ x ∈ xs, x < c.length ∧ S.testBit x = false) ∧ xs.Nodup ∧ ∀ j (hj : j < xs.length), okB c l fx xs[j] (k + j) = true
 | [], _, _, _ => ⟨fun x hx => (nomatch hx), List.nodup_nil, fun j hj => absurd hj (by simp)⟩
 | x :: xs, S, k, h => by
  obtain ⟨h1, h2, h3, h4⟩ := h
  obtain ⟨i1, i2, i3⟩ := good_inv h4
  refine ⟨fun y hy => ?_, List.nodup_cons.2 ⟨fun hx => ?_, i2⟩, fun j hj => ?_⟩
  ·rcases List.mem_cons.1 hy with rfl | hy
   ·exact ⟨h1, h2⟩
   ·obtain ⟨a, b⟩ := i1 y hy
    rw [or_bit, Bool.or_eq_false_iff] at b
    exact ⟨a, b.1⟩
  ·have := (i1 x hx).2
   rw [or_bit] at this
   simp at this
  ·cases j with
   | zero => exact h3
   | succ j =>
    have := i3 j (by simpa using hj)
    rw [List.getElem_cons_succ, show k + (j + 1) = k + 1 + j by omega]
    exact this
theorem nodup_full {xs : List Nat} {n : Nat} (hn : xs.Nodup) (hlt : ∀ x ∈ xs, x < n) (hl : xs.length = n) : ∀ i, i < n → i ∈ xs := by
 intro i hi
 apply Classical.byContradiction
 intro hno
 have hmem : i ∈ List.range n := List.mem_range.2 hi
 have := List.Nodup.length_le_of_subset hn (l₂ := (List.range n).erase i) (fun x hx => (List.mem_erase_of_ne (fun e => hno (by rw [← e]; exact hx))).2 (List.mem_range.2 (hlt x hx)))
 rw [List.length_erase_of_mem hmem, List.length_range] at this
 omega
theorem pre_same {p q : StablePlan} (h : p.1 = q.1) : ∀ i x, pre c p i x = pre c q i x
 | 0, _ => rfl
 | i + 1, x => by simp only [pre, pre_same h i x, h]
theorem fit_same {p q : StablePlan} (h : p.1 = q.1) (i : Nat) : fitB t c p i = fitB t c q i := by
 unfold fitB
 rw [pre_same h, h]
theorem plan_seq (hq : quietB c l = true) (l1 : tr.length = c.length) (ht : ∀ i, i < c.length → 0 ≤ tr.getD i 0 ∧ tr.getD i 0 < (t.length : Int)) (mv : Int) (hfit : ∀ i, i < c.length → fitB t c (tr, [], mv, ()) i = true) (hfx : fx.length ≤ c.length) {xs : List Nat} (hl : xs.length = c.length) (hg : good c l fx 0 0 xs) :
    ∃ lv : List Int, PlanOk t c l (tr, lv, mv, ()) ∧ Goes fx lv ∧ pairs t (tr, lv, mv, ()) c.length = cst t c tr 0 xs := by
  obtain ⟨h1, h2, h3⟩ := good_inv hg
  have hall := nodup_full h2 (fun x hx => (h1 x hx).1) hl
  have hidx : ∀ i, i < c.length → xs.idxOf i < c.length := fun i hi => by rw [← hl]; exact List.idxOf_lt_length_of_mem (hall i hi)
  have hat : ∀ i (hi : i < c.length), xs[xs.idxOf i]'(by rw [hl]; exact hidx i hi) = i := fun i hi => List.getElem_idxOf _
  have hlvl : (rl c.length fun i => ((xs.idxOf i : Nat) : Int)).length = c.length := rl_len _ _
  have hlv : ∀ i, i < c.length → (rl c.length fun i => ((xs.idxOf i : Nat) : Int)).getD i 0 = ((xs.idxOf i : Nat) : Int) := fun i hi => by
    simp [List.getD, rl_get, hi]
  have ho : PlanOk t c l (tr, rl c.length fun i => ((xs.idxOf i : Nat) : Int), mv, ()) := by
    refine ⟨l1, hlvl, hq, ht, fun x hx => ?_, ?_, fun i hi => ?_, fun i hi => by rw [← hfit i hi]; exact fit_same (by rfl) i⟩
    · obtain ⟨i, hi, rfl⟩ := List.mem_map.1 hx
      have := hidx i (List.mem_range.1 hi)
      omega
    · show ((List.range c.length).map fun i => ((xs.idxOf i : Nat) : Int)).Nodup
      rw [List.nodup_iff_pairwise_ne, List.pairwise_iff_getElem]
      intro i j hi hj hij e
      simp only [List.length_map, List.length_range] at hi hj
      simp only [List.getElem_map, List.getElem_range] at e
      have e2 : xs.idxOf i = xs.idxOf j := by omega
      have a := hat i hi
      have b := hat j hj
      simp only [e2] at a
      omega
    · have hx := h3 (xs.idxOf i) (by rw [hl]; exact hidx i hi)
      rw [hat i hi, Nat.zero_add] at hx
      unfold okB at hx
      rw [Bool.and_eq_true] at hx
      have := hx.1
      unfold takesK at this
      unfold takesB
      simp only []
      rw [hlv i hi, Int.toNat_natCast]
      exact this
  have hlvN : ∀ i, i < c.length → lvN (tr, rl c.length fun i => ((xs.idxOf i : Nat) : Int), mv, ()) i = xs.idxOf i := fun i hi => by
    unfold lvN
    simp only []
    rw [hlv i hi, Int.toNat_natCast]
  have hgo : Goes fx (rl c.length fun i => ((xs.idxOf i : Nat) : Int)) := by
    refine ⟨by rw [hlvl]; exact hfx, fun i hi => ?_⟩
    have hic : i < c.length := by omega
    have hx := h3 (xs.idxOf i) (by rw [hl]; exact hidx i hic)
    rw [hat i hic, Nat.zero_add] at hx
    unfold okB at hx
    rw [Bool.and_eq_true, if_pos hi] at hx
    rw [hlv i hic]
    exact of_decide_eq_true hx.2
  refine ⟨_, ho, hgo, ?_⟩
  obtain ⟨_, e⟩ := cst_plan ho hgo
  rw [← e]
  have : (List.range c.length).map (cf (tr, rl c.length fun i => ((xs.idxOf i : Nat) : Int), mv, ())) = xs := by
    apply List.ext_getElem
    · simp [hl]
    · intro k hk1 hk2
      simp only [List.length_map, List.length_range] at hk1
      simp only [List.getElem_map, List.getElem_range]
      have hxk := (h1 xs[k] (List.getElem_mem hk2)).1
      have hi := List.getElem_inj h2 |>.1 (hat _ hxk) 
      have h4 := hlvN _ hxk
      have h5 := cf_lv ho hxk
      rw [h4] at h5
      rw [hi] at h5
      exact h5
  rw [this]
theorem V_seq (hq : quietB c l = true) (l1 : tr.length = c.length) (ht : ∀ i, i < c.length → 0 ≤ tr.getD i 0 ∧ tr.getD i 0 < (t.length : Int)) (mv : Int) (hfit : ∀ i, i < c.length → fitB t c (tr, [], mv, ()) i = true) (hfx : fx.length ≤ c.length) (hV : V t c l fx tr c.length 0 0 < NV) :
    ∃ lv : List Int, PlanOk t c l (tr, lv, mv, ()) ∧ Goes fx lv ∧ pairs t (tr, lv, mv, ()) c.length = V t c l fx tr c.length 0 0 := by
  obtain ⟨xs, h1, h2, h3⟩ := V_att hV
  obtain ⟨lv, a, b, e⟩ := plan_seq hq l1 ht mv hfit hfx h1 h2
  exact ⟨lv, a, b, by rw [e, h3]⟩
end
end Go.Ai.Sx

/- The depot: all ways to put cars on tracks, one after the other. -/
namespace Go.Ai.Sx
section
variable {t : List StableTrack} {c : List StableCar} {l : List StableLeave} {p : StablePlan}
theorem fit_gen (hn : NightOk t c l) (h1 : p.1.length ≤ c.length) (htr : ∀ i, i < p.1.length → 0 ≤ p.1.getD i 0 ∧ p.1.getD i 0 < (t.length : Int)) :
    g_depot_night_fit (t, c, l, ()) p.1 = some ((List.range p.1.length).all (fitB t c p)) := by
  have h9 := hn.c9
  have h5 := hn.t5
  refine Tot.eq ?_
  unfold g_depot_night_fit
  simp only []
  rw [mkO_some (by simp only [lenI_eq]; omega), Option.bind_some, show List.replicate (lenI t).toNat (0 : Int) = rl t.length (fun _ => (0 : Int)) from by rw [lenI_eq, Int.toNat_natCast, rl_repl]]
  refine Tot.bind (Q := fun (q : List Int ⊕ (Bool × List Int)) => match q with
    | .inl _ => (List.range p.1.length).all (fitB t c p) = true
    | .inr b => b.1 = false ∧ (List.range p.1.length).all (fitB t c p) = false) ?_ ?_
  · refine Tot.iter (fun s => ∃ i : Nat, i ≤ p.1.length ∧ s = ((i : Int), preL t c p i) ∧ ∀ j, j < i → fitB t c p j = true) _ (fun s => p.1.length - s.1.toNat) ⟨0, by omega, rfl, fun j hj => by omega⟩ (by simp only [big]; omega) ?_
    rintro _ ⟨i, hi, rfl, hf⟩
    by_cases hin : i < p.1.length
    · have hw : w64 ((i : Int) + 1) = ((i + 1 : Nat) : Int) := by rw [w64_in (by omega) (by omega)]; rfl
      obtain ⟨e1, e2, e3, e4, e5⟩ := pre_step (p := p) hn (i := i) (by omega) (htr i hin)
      simp only [show decide ((i : Int) < lenI p.1) = true from decide_eq_true (by simp only [lenI_eq]; omega), cond_true, hw]
      rw [idx_natD 0 (by omega), Option.bind_some, e1, Option.bind_some, idx_natD car0 (by omega), Option.bind_some, Option.bind_some, e2, e3, e4, Option.bind_some, e5, Option.bind_some]
      cases hb : decide (pre c p (i + 1) (p.1.getD i 0) > (t.getD (p.1.getD i 0).toNat trk0).1) with
      | true =>
        simp only [cond_true]
        refine Tot.some ⟨rfl, ?_⟩
        rw [List.all_eq_false]
        refine ⟨i, List.mem_range.2 hin, ?_⟩
        unfold fitB
        have hb : decide ((t.getD (p.1.getD i 0).toNat trk0).1 < pre c p (i + 1) (p.1.getD i 0)) = true := hb
        rw [hb]
        simp
      | false =>
        simp only [cond_false]
        refine Tot.some ⟨⟨i + 1, by omega, rfl, fun j hj => ?_⟩, by simp only [Int.toNat_natCast]; omega⟩
        by_cases q : j = i
        · subst q
          unfold fitB
          have hb : decide ((t.getD (p.1.getD j 0).toNat trk0).1 < pre c p (j + 1) (p.1.getD j 0)) = false := hb
          rw [hb]; rfl
        · exact hf j (by omega)
    · obtain rfl : i = p.1.length := by omega
      simp only [show decide ((p.1.length : Int) < lenI p.1) = false from decide_eq_false (by simp only [lenI_eq]; omega), cond_false]
      refine Tot.some ?_
      show (List.range p.1.length).all (fitB t c p) = true
      rw [List.all_eq_true]
      exact fun j hj => hf j (List.mem_range.1 hj)
  · intro q hq
    cases q with
    | inl a => exact Tot.some (show true = _ from (show (List.range p.1.length).all (fitB t c p) = true from hq).symm)
    | inr b => rw [alt_inr, hq.1]; exact Tot.some hq.2.symm
def planT (o : List Nat) : StablePlan := (casts o, [], 0, ())
def fits (t : List StableTrack) (c : List StableCar) (o : List Nat) : Bool := (List.range o.length).all (fitB t c (planT o))
theorem casts_getD (o : List Nat) (i : Nat) : (casts o).getD i 0 = ((o.getD i 0 : Nat) : Int) := by
 unfold casts
 by_cases h : i < o.length
 ·simp [List.getD, h]
 ·simp [List.getD, h]
theorem planT_tr (o : List Nat) (i : Nat) : (planT o).1.getD i 0 = ((o.getD i 0 : Nat) : Int) := casts_getD o i
theorem getD_app {o r : List Nat} {i : Nat} (h : i < o.length) : (o ++ r).getD i 0 = o.getD i 0 := by simp [List.getD, List.getElem?_append_left h]
theorem pre_app {o r : List Nat} : ∀ i x, i ≤ o.length → pre c (planT (o ++ r)) i x = pre c (planT o) i x
 | 0, _, _ => rfl
 | i + 1, x, h => by
  simp only [pre]
  rw [pre_app i x (by omega), planT_tr, planT_tr, getD_app (by omega)]
theorem fits_app {o r : List Nat} (h : fits t c (o ++ r) = true) : fits t c o = true := by
 unfold fits at h ⊢
 rw [List.all_eq_true] at h ⊢
 intro i hi
 have hi' := List.mem_range.1 hi
 have := h i (List.mem_range.2 (by rw [List.length_append]; omega))
 unfold fitB at this ⊢
 rw [pre_app _ _ (by omega), planT_tr, getD_app hi'] at this
 rw [planT_tr]
 exact this
theorem fit_o (hn : NightOk t c l) {o : List Nat} (h1 : o.length ≤ c.length) (ho : ∀ x ∈ o, x < t.length) : g_depot_night_fit (t, c, l, ()) (casts o) = some (fits t c o) := by
 have := fit_gen (p := planT o) hn (by simp only [planT]; rw [casts_len]; exact h1) (fun i hi => by
  simp only [planT] at hi ⊢
  rw [casts_len] at hi
  rw [casts_getD]
  have hm : o.getD i 0 ∈ o := by simp [List.getD, hi]
  have := ho _ hm
  omega)
 simp only [planT] at this
 rw [this, casts_len]
 rfl
def kidsT (m : Nat) (o : List Nat) : List (List Nat) := (List.range m).map fun i => o ++ [i]
def extT (m : Nat) : Nat → List Nat → List (List Nat)
 | 0, o => [o]
 | k + 1, o => (kidsT m o).flatMap (extT m k)
theorem extT_pre {m : Nat} : ∀ {k : Nat} {o x : List Nat}, x ∈ extT m k o → ∃ r, x = o ++ r ∧ r.length = k ∧ ∀ y ∈ r, y < m
 | 0, o, x, h => by
  rw [extT, List.mem_singleton] at h
  exact ⟨[], by simp [h], rfl, fun y hy => (nomatch hy)⟩
 | k + 1, o, x, h => by
  rw [extT, List.mem_flatMap] at h
  obtain ⟨o', h1, h2⟩ := h
  obtain ⟨i, hi, rfl⟩ := List.mem_map.1 h1
  obtain ⟨r, rfl, hr, hy⟩ := extT_pre h2
  refine ⟨i :: r, by simp, by simp [hr], fun y hy' => ?_⟩
  rcases List.mem_cons.1 hy' with rfl | hy'
  ·exact List.mem_range.1 hi
  ·exact hy y hy'
theorem extT_mem {m : Nat} : ∀ {r o : List Nat}, (∀ y ∈ r, y < m) → o ++ r ∈ extT m r.length o
 | [], o, _ => by simp [extT]
 | i :: r, o, h => by
  rw [List.length_cons, extT, List.mem_flatMap]
  refine ⟨o ++ [i], List.mem_map.2 ⟨i, List.mem_range.2 (h i (List.mem_cons_self ..)), rfl⟩, ?_⟩
  have := extT_mem (m := m) (o := o ++ [i]) (fun y hy => h y (List.mem_cons_of_mem _ hy)) (r := r)
  simpa using this
theorem kidsT_succ (i : Nat) (o : List Nat) : kidsT (i + 1) o = kidsT i o ++ [o ++ [i]] := by
 unfold kidsT
 rw [List.range_succ, List.map_append]
 rfl
def foldE {σ τ : Type} (F : σ → List Nat → σ ⊕ τ) : List (List Nat) → σ → σ ⊕ τ
 | [], s => .inl s
 | o :: os, s => match F s o with
  | .inl s' => foldE F os s'
  | .inr r => .inr r
theorem foldE_app {σ τ : Type} {F : σ → List Nat → σ ⊕ τ} : ∀ {as bs : List (List Nat)} {s : σ}, foldE F (as ++ bs) s = match foldE F as s with
    | .inl s' => foldE F bs s'
    | .inr r => .inr r
  | [], _, _ => rfl
  | o :: as, bs, s => by
    simp only [List.cons_append, foldE]
    cases F s o with
    | inl s' => exact foldE_app
    | inr r => rfl
theorem isLeft_inl {σ τ : Type} (s : σ) : (Sum.inl s : σ ⊕ τ).isLeft = true := rfl
theorem tracked_run {σ τ : Type} {step : σ → List Int → Option (σ ⊕ τ)} {F : σ → List Nat → σ ⊕ τ} {Inv : σ → Prop} (hn : NightOk t c l)
    (hstep : ∀ s o, Inv s → o.length = c.length → (∀ x ∈ o, x < t.length) → fits t c o = true → step s (casts o) = some (F s o) ∧ ∀ s', F s o = .inl s' → Inv s') :
    ∀ k fuel o s, k < fuel → o.length + k = c.length → (∀ x ∈ o, x < t.length) → Inv s →
      g_depot_night_tracked_1_1 step fuel s (casts o) (t, c, l, ()) = some ((foldE F ((extT t.length k o).filter (fits t c)) s).isLeft, foldE F ((extT t.length k o).filter (fits t c)) s) ∧ ∀ s', foldE F ((extT t.length k o).filter (fits t c)) s = .inl s' → Inv s'
  | k, 0, _, _, hf, _, _, _ => by omega
  | 0, fuel + 1, o, s, _, hl, ho, hi => by
    show g_depot_night_tracked_1_1_body step (g_depot_night_tracked_1_1 step fuel) s (casts o) (t, c, l, ()) = _ ∧ _
    unfold g_depot_night_tracked_1_1_body
    rw [fit_o hn (by omega) ho, Option.bind_some]
    cases hf : fits t c o with
    | false =>
      simp only [Bool.not_false, cond_true, extT, List.filter_cons, hf, Bool.false_eq_true, if_false, List.filter_nil, foldE]
      exact ⟨rfl, fun s' e => by cases e; exact hi⟩
    | true =>
      obtain ⟨h1, h2⟩ := hstep s o hi (by omega) ho hf
      simp only [Bool.not_true, cond_false, extT, List.filter_cons, hf, if_true, List.filter_nil, foldE]
      rw [show (lenI (casts o) == lenI c) = true by rw [lenI_eq, casts_len, lenI_eq]; simp; omega, cond_true, h1, Option.bind_some]
      cases hF : F s o with
      | inl s' => exact ⟨rfl, fun s'' e => by cases e; exact h2 _ hF⟩
      | inr r => exact ⟨rfl, fun s'' e => by cases e⟩
  | k + 1, fuel + 1, o, s, hf, hl, ho, hi => by
    have h9 := hn.c9
    have h5 := hn.t5
    show g_depot_night_tracked_1_1_body step (g_depot_night_tracked_1_1 step fuel) s (casts o) (t, c, l, ()) = _ ∧ _
    unfold g_depot_night_tracked_1_1_body
    rw [fit_o hn (by omega) ho, Option.bind_some]
    cases hfo : fits t c o with
    | false =>
      have hnil : (extT t.length (k + 1) o).filter (fits t c) = [] := by
        rw [List.filter_eq_nil_iff]
        intro x hx
        obtain ⟨r, rfl, _⟩ := extT_pre hx
        intro q
        rw [fits_app q] at hfo
        cases hfo
      rw [hnil]
      simp only [Bool.not_false, cond_true, foldE]
      exact ⟨rfl, fun s' e => by cases e; exact hi⟩
    | true =>
      simp only [Bool.not_true, cond_false]
      rw [show (lenI (casts o) == lenI c) = false by rw [lenI_eq, casts_len, lenI_eq]; simp; omega, cond_false]
      let G : Nat → σ ⊕ τ := fun i => foldE F (((kidsT i o).flatMap (extT t.length k)).filter (fits t c)) s
      have hG : G t.length = foldE F ((extT t.length (k + 1) o).filter (fits t c)) s := rfl
      rw [← hG]
      have main : Tot (fun q => match q with
          | .inl r => r = G t.length ∧ r.isLeft = true ∧ ∀ s', r = .inl s' → Inv s'
          | .inr r => r = (false, G t.length) ∧ (G t.length).isLeft = false) (iter (σ := (Int × (σ ⊕ τ))) (τ := ((σ ⊕ τ)) ⊕ ((Bool × (σ ⊕ τ)))) (fun s25 =>
cond ((decide (s25.1 < (lenI t)))) (Option.bind (g_slices_Clone_int_int (casts o)) fun y28 =>
Option.bind (appO 8 y28 ([s25.1])) fun x31 =>
Option.bind (goL s25.2) fun s33 =>
Option.bind (g_depot_night_tracked_1_1 step fuel s33 x31 (t, c, l, ())) fun y34 =>
cond ((!y34.1)) (some (.inr ((.inr ((false, y34.2)))))) (some (.inl (((w64 (s25.1 + 1)), y34.2))))) (some (.inr ((.inl s25.2))))) big ((0, (.inl s)))) := by
        refine Tot.iter (fun q => ∃ (i : Nat) (s1 : σ), i ≤ t.length ∧ q = ((i : Int), .inl s1) ∧ G i = .inl s1 ∧ Inv s1) _ (fun q => t.length - q.1.toNat) ⟨0, s, by omega, rfl, rfl, hi⟩ (by simp only [big]; omega) ?_
        rintro _ ⟨i, s1, hin, rfl, hGi, hinv⟩
        by_cases hi2 : i < t.length
        · have e1 : decide ((i : Int) < lenI t) = true := decide_eq_true (by simp only [lenI_eq]; omega)
          have hw : w64 ((i : Int) + 1) = ((i + 1 : Nat) : Int) := by rw [w64_in (by omega) (by omega)]; rfl
          simp only [e1, cond_true, hw]
          have ecl : g_slices_Clone_int_int (casts o) = some (casts o) := by
            unfold g_slices_Clone_int_int
            rw [appO_some (by rw [casts_len]; simp only [List.length_nil]; omega)]; rfl
          rw [ecl, Option.bind_some, appO_some (by rw [casts_len, List.length_singleton]; omega), Option.bind_some, casts_app]
          simp only [goL, Option.bind_some]
          obtain ⟨h1, h2⟩ := tracked_run hn hstep k fuel (o ++ [i]) s1 (by omega) (by simp; omega) (fun x hx => by
            rcases List.mem_append.1 hx with hx | hx
            · exact ho x hx
            · rw [List.mem_singleton.1 hx]; exact hi2) hinv
          rw [h1, Option.bind_some]
          have hGs : G (i + 1) = foldE F ((extT t.length k (o ++ [i])).filter (fits t c)) s1 := by
            show foldE F (((kidsT (i + 1) o).flatMap (extT t.length k)).filter (fits t c)) s = _
            rw [kidsT_succ, List.flatMap_append, List.filter_append, foldE_app, show foldE F (((kidsT i o).flatMap (extT t.length k)).filter (fits t c)) s = .inl s1 from hGi]
            simp
          rw [← hGs] at h1 h2 ⊢
          cases hq : G (i + 1) with
          | inl s2 =>
            simp only [isLeft_inl, Bool.not_true, cond_false]
            exact Tot.some ⟨⟨i + 1, s2, by omega, rfl, hq, h2 _ hq⟩, by simp only [Int.toNat_natCast]; omega⟩
          | inr r =>
            have hend : G t.length = .inr r := by
              have key : ∀ d, i + 1 + d ≤ t.length → G (i + 1 + d) = .inr r := by
                intro d
                induction d with
                | zero => intro _; exact hq
                | succ d ih =>
                  intro hd
                  show foldE F (((kidsT (i + 1 + d + 1) o).flatMap (extT t.length k)).filter (fits t c)) s = _
                  rw [kidsT_succ, List.flatMap_append, List.filter_append, foldE_app, show foldE F (((kidsT (i + 1 + d) o).flatMap (extT t.length k)).filter (fits t c)) s = .inr r from ih (by omega)]
              have := key (t.length - (i + 1)) (by omega)
              rwa [show i + 1 + (t.length - (i + 1)) = t.length by omega] at this
            simp only [Sum.isLeft, Bool.not_false, cond_true]
            refine Tot.some ⟨?_, ?_⟩
            · rw [hend]
            · rw [hend]
        · have e1 : decide ((i : Int) < lenI t) = false := decide_eq_false (by simp only [lenI_eq]; omega)
          obtain rfl : i = t.length := by omega
          simp only [e1, cond_false]
          refine Tot.some ⟨hGi.symm, rfl, fun s' e => ?_⟩
          cases e
          exact hinv
      obtain ⟨q, h1, h2⟩ := main
      rw [h1, Option.bind_some]
      cases q with
      | inl r =>
        obtain ⟨rfl, h3, h4⟩ := h2
        exact ⟨by rw [alt_inl, h3], h4⟩
      | inr r =>
        obtain ⟨rfl, h3⟩ := h2
        refine ⟨by rw [alt_inr, h3], fun s' e => ?_⟩
        rw [e] at h3
        cases h3
end
end Go.Ai.Sx

/- The depot: the search for the best plan of a night. -/
namespace Go.Ai.Sx
section
variable {t : List StableTrack} {c : List StableCar} {l : List StableLeave}
def W (t : List StableTrack) (c : List StableCar) (l : List StableLeave) (o : List Nat) : Nat := V t c l [] (casts o) c.length 0 0
def better (t : List StableTrack) (c : List StableCar) (l : List StableLeave) (b : StablePlanN1) (o : List Nat) : StablePlanN1 :=
 if (W t c l o : Int) < b.2.2.1 then (casts o, (), (W t c l o : Int), ()) else b
def stepF (t : List StableTrack) (c : List StableCar) (l : List StableLeave) (s : List StablePlanN1) (o : List Nat) : List StablePlanN1 ⊕ List StablePlanN1 :=
 match s with
 | [b] => if (better t c l b o).2.2.1 = 0 then .inr [better t c l b o] else .inl [better t c l b o]
 | _ => .inl s
structure Fd (t : List StableTrack) (c : List StableCar) (l : List StableLeave) (P : List (List Nat)) (b : StablePlanN1) (m : Nat) : Prop where
 mv : b.2.2.1 = (m : Int)
 nv : m ≤ NV
 le : ∀ o ∈ P, m ≤ W t c l o
 at' : m < NV → ∃ o, P.find? (fun o => W t c l o == m) = some o ∧ b.1 = casts o
theorem fd_next {P : List (List Nat)} {b : StablePlanN1} {m : Nat} (h : Fd t c l P b m) (o : List Nat) : ∃ m', Fd t c l (P ++ [o]) (better t c l b o) m' ∧ (better t c l b o).2.2.1 = (m' : Int) := by
 have hV : W t c l o ≤ NV := V_NV
 by_cases q : W t c l o < m
 ·have e : better t c l b o = (casts o, (), (W t c l o : Int), ()) := if_pos (by rw [h.mv]; omega)
  refine ⟨W t c l o, ⟨by rw [e], by omega, fun x hx => ?_, fun _ => ⟨o, ?_, by rw [e]⟩⟩, by rw [e]⟩
  ·rcases List.mem_append.1 hx with hx | hx
   ·have := h.le x hx; omega
   ·rw [List.mem_singleton.1 hx]; exact Nat.le_refl _
  ·rw [List.find?_append]
   have : P.find? (fun x => W t c l x == W t c l o) = none := by
    rw [List.find?_eq_none]
    intro x hx he
    have := h.le x hx
    have he : W t c l x = W t c l o := by simpa using he
    omega
   rw [this]
   simp
 ·have e : better t c l b o = b := if_neg (by rw [h.mv]; omega)
  refine ⟨m, ⟨by rw [e]; exact h.mv, h.nv, fun x hx => ?_, fun hm => ?_⟩, by rw [e]; exact h.mv⟩
  ·rcases List.mem_append.1 hx with hx | hx
   ·exact h.le x hx
   ·rw [List.mem_singleton.1 hx]; omega
  ·obtain ⟨x, h1, h2⟩ := h.at' hm
   exact ⟨x, by rw [List.find?_append, h1]; rfl, by rw [e]; exact h2⟩
theorem fd_zero {P : List (List Nat)} {b : StablePlanN1} (h : Fd t c l P b 0) (Q : List (List Nat)) : Fd t c l (P ++ Q) b 0 :=
 ⟨h.mv, h.nv, fun _ _ => Nat.zero_le _, fun hm => by
  obtain ⟨x, h1, h2⟩ := h.at' hm
  exact ⟨x, by rw [List.find?_append, h1]; rfl, h2⟩⟩
theorem fold_fd : ∀ (Q P : List (List Nat)) (b : StablePlanN1) (m : Nat), Fd t c l P b m → ∃ b' m', (foldE (stepF t c l) Q [b] = .inl [b'] ∨ foldE (stepF t c l) Q [b] = .inr [b']) ∧ Fd t c l (P ++ Q) b' m'
 | [], P, b, m, h => ⟨b, m, .inl rfl, by rw [List.append_nil]; exact h⟩
 | o :: Q, P, b, m, h => by
  obtain ⟨m', h1, h2⟩ := fd_next h o
  simp only [foldE, stepF]
  by_cases q : (better t c l b o).2.2.1 = 0
  ·rw [if_pos q]
   have : m' = 0 := by omega
   subst this
   refine ⟨_, 0, .inr rfl, ?_⟩
   have := fd_zero h1 Q
   rwa [List.append_assoc] at this
  ·rw [if_neg q]
   obtain ⟨b', m'', h3, h4⟩ := fold_fd Q (P ++ [o]) _ m' h1
   refine ⟨b', m'', h3, ?_⟩
   rwa [List.append_assoc] at h4
theorem best_two (b x : StablePlanN1) : g_depot_best_api_StablePlan [b, x] (fun q => g_depot_Night_1 q.1 q.2) = some (if x.2.2.1 < b.2.2.1 then x else b) := by
 refine Tot.eq ?_
 unfold g_depot_best_api_StablePlan
 rw [show idx [b, x] 0 = some b from rfl, Option.bind_some, show slO [b, x] 1 (lenI [b, x]) = some [x] from rfl, Option.bind_some]
 refine Tot.bind (Q := fun q => q = ((if x.2.2.1 < b.2.2.1 then x else b).1, (), (if x.2.2.1 < b.2.2.1 then x else b).2.2.1)) ?_ (fun q hq => by subst hq; exact Tot.some rfl)
 refine Tot.iter (fun s => s = (0, b.1, b.2.1, b.2.2.1) ∨ s = (1, (if x.2.2.1 < b.2.2.1 then x else b).1, (), (if x.2.2.1 < b.2.2.1 then x else b).2.2.1)) _ (fun s => 1 - s.1.toNat) (.inl rfl) (by simp only [big]; decide) ?_
 rintro s (rfl | rfl)
 ·simp only [show decide ((0 : Int) < lenI [x]) = true from rfl, cond_true]
  rw [show idx [x] 0 = some x from rfl, Option.bind_some]
  unfold g_depot_Night_1
  simp only [Option.bind_some]
  by_cases q : x.2.2.1 < b.2.2.1
  ·rw [decide_eq_true q, cond_true, if_pos q]
   exact Tot.some ⟨.inr rfl, show (0 : Nat) < 1 by decide⟩
  ·rw [decide_eq_false q, cond_false, if_neg q]
   exact Tot.some ⟨.inr rfl, show (0 : Nat) < 1 by decide⟩
 ·simp only [show decide ((1 : Int) < lenI [x]) = false from rfl, cond_false]
  exact Tot.some rfl
theorem tr_in {o : List Nat} (ho : ∀ x ∈ o, x < t.length) (hl : o.length = c.length) : (casts o).length = c.length ∧ ∀ i, i < c.length → 0 ≤ (casts o).getD i 0 ∧ (casts o).getD i 0 < (t.length : Int) := by
 refine ⟨by rw [casts_len]; exact hl, fun i hi => ?_⟩
 rw [casts_getD]
 have hm : o.getD i 0 ∈ o := by simp [List.getD, hl, hi]
 have := ho _ hm
 omega
theorem mem_L {o : List Nat} (h : o ∈ (extT t.length c.length []).filter (fits t c)) : o.length = c.length ∧ (∀ x ∈ o, x < t.length) ∧ fits t c o = true := by
 rw [List.mem_filter] at h
 obtain ⟨r, rfl, h2, h3⟩ := extT_pre h.1
 exact ⟨by simpa using h2, by simpa using h3, h.2⟩
theorem search_run (hn : NightOk t c l) : ∃ b m, (g_depot_night_tracked_1 (σ := ((List StablePlanN1))) (τ := ((List StablePlanN1))) (fun s36 x15 =>
Option.bind (g_depot_night_least (((t, c, l, ()) : depot_night)) x15 ([])) fun y39 =>
Option.bind (appO 56 s36 ([((x15, (), y39, ()) : StablePlanN1)])) fun x40 =>
Option.bind (g_depot_best_api_StablePlan x40 ((fun x => g_depot_Night_1 x.1 x.2))) fun y42 =>
Option.bind (idx ([y42]) 0) fun x45 =>
cond ((x45.2.2.1 == 0)) (some (.inr ([y42]))) (some (.inl ([y42])))) ([(([], (), 1048576, ()) : StablePlanN1)]) (t, c, l, ()) = some (.inl [b]) ∨ g_depot_night_tracked_1 (σ := ((List StablePlanN1))) (τ := ((List StablePlanN1))) (fun s36 x15 =>
Option.bind (g_depot_night_least (((t, c, l, ()) : depot_night)) x15 ([])) fun y39 =>
Option.bind (appO 56 s36 ([((x15, (), y39, ()) : StablePlanN1)])) fun x40 =>
Option.bind (g_depot_best_api_StablePlan x40 ((fun x => g_depot_Night_1 x.1 x.2))) fun y42 =>
Option.bind (idx ([y42]) 0) fun x45 =>
cond ((x45.2.2.1 == 0)) (some (.inr ([y42]))) (some (.inl ([y42])))) ([(([], (), 1048576, ()) : StablePlanN1)]) (t, c, l, ()) = some (.inr [b])) ∧ Fd t c l ((extT t.length c.length []).filter (fits t c)) b m := by
  have h9 := hn.c9
  obtain ⟨b, m, h1, h2⟩ := fold_fd ((extT t.length c.length []).filter (fits t c)) [] (([], (), 1048576, ()) : StablePlanN1) NV ⟨rfl, Nat.le_refl _, fun _ hx => (nomatch hx), fun h => absurd h (Nat.lt_irrefl _)⟩
  refine ⟨b, m, ?_, by simpa using h2⟩
  unfold g_depot_night_tracked_1
  obtain ⟨h3, _⟩ := tracked_run (F := stepF t c l) (Inv := fun s => ∃ b : StablePlanN1, s = [b]) hn (step := fun s36 x15 =>
Option.bind (g_depot_night_least (((t, c, l, ()) : depot_night)) x15 ([])) fun y39 =>
Option.bind (appO 56 s36 ([((x15, (), y39, ()) : StablePlanN1)])) fun x40 =>
Option.bind (g_depot_best_api_StablePlan x40 ((fun x => g_depot_Night_1 x.1 x.2))) fun y42 =>
Option.bind (idx ([y42]) 0) fun x45 =>
cond ((x45.2.2.1 == 0)) (some (.inr ([y42]))) (some (.inl ([y42])))) (fun s o hs hl ho _ => by
    obtain ⟨b, rfl⟩ := hs
    obtain ⟨k1, k2⟩ := tr_in (t := t) (c := c) ho hl
    refine ⟨?_, fun s' e => ?_⟩
    · rw [least_eq hn k1 k2 (by simp), Option.bind_some, appO_some (by simp), Option.bind_some, List.singleton_append, best_two, Option.bind_some]
      rw [show (if (casts o, (), ((V t c l [] (casts o) c.length 0 0 : Nat) : Int), ()).2.2.1 < b.2.2.1 then (casts o, (), ((V t c l [] (casts o) c.length 0 0 : Nat) : Int), ()) else b) = better t c l b o from rfl]
      rw [show idx [better t c l b o] 0 = some (better t c l b o) from rfl, Option.bind_some]
      simp only [stepF]
      by_cases q : (better t c l b o).2.2.1 = 0
      · rw [if_pos q, show ((better t c l b o).2.2.1 == 0) = true by rw [q]; rfl]; rfl
      · rw [if_neg q, show ((better t c l b o).2.2.1 == 0) = false from beq_false_of_ne q]; rfl
    · simp only [stepF] at e
      split at e
      · cases e
      · cases e; exact ⟨_, rfl⟩) c.length big [] (([(([], (), 1048576, ()) : StablePlanN1)])) (by simp only [big]; omega) (by simp) (by simp) ⟨_, rfl⟩
  rw [show casts [] = [] from rfl] at h3
  rw [h3, Option.bind_some]
  simp only [Option.some.injEq]
  exact h1
end
end Go.Ai.Sx

/- The depot: the best plan's departures, car by car. -/
namespace Go.Ai.Sx
section
variable {t : List StableTrack} {c : List StableCar} {l : List StableLeave} {tr : List Int}
structure TrOk (t : List StableTrack) (c : List StableCar) (l : List StableLeave) (tr : List Int) : Prop where
 q : quietB c l = true
 l1 : tr.length = c.length
 rng : ∀ i, i < c.length → 0 ≤ tr.getD i 0 ∧ tr.getD i 0 < (t.length : Int)
 fit : ∀ i, i < c.length → fitB t c (tr, [], 0, ()) i = true
abbrev VV (t : List StableTrack) (c : List StableCar) (l : List StableLeave) (tr : List Int) (o : List Nat) : Nat := V t c l (casts o) tr c.length 0 0
theorem goes_pre {fx r lv : List Int} (h : Goes (fx ++ r) lv) : Goes fx lv := by
 refine ⟨by have := h.1; rw [List.length_append] at this; omega, fun i hi => ?_⟩
 rw [← h.2 i (by rw [List.length_append]; omega)]
 simp [List.getD, List.getElem?_append_left hi]
theorem V_mono (h : TrOk t c l tr) {fx r : List Int} (hl : (fx ++ r).length ≤ c.length) : V t c l fx tr c.length 0 0 ≤ V t c l (fx ++ r) tr c.length 0 0 := by
 by_cases q : V t c l (fx ++ r) tr c.length 0 0 < NV
 ·obtain ⟨lv, h1, h2, h3⟩ := V_seq h.q h.l1 h.rng 0 h.fit hl q
  have := V_plan h1 (goes_pre h2)
  simp only [] at this
  omega
 ·have := V_NV (t := t) (c := c) (l := l) (fx := fx) (tr := tr) (m := c.length) (S := 0) (k := 0)
  omega
theorem casts_append (o r : List Nat) : casts (o ++ r) = casts o ++ casts r := by simp [casts]
theorem VV_mono (h : TrOk t c l tr) {o r : List Nat} (hl : (o ++ r).length ≤ c.length) : VV t c l tr o ≤ VV t c l tr (o ++ r) := by
 unfold VV
 rw [casts_append]
 exact V_mono h (by rw [← casts_append, casts_len]; exact hl)
theorem lv_nat {p : StablePlan} (ho : PlanOk t c l p) : ∃ x : List Nat, casts x = p.2.1 ∧ x.length = c.length ∧ x.Nodup ∧ ∀ y ∈ x, y < c.length := by
 have e : casts (p.2.1.map Int.toNat) = p.2.1 := by
  unfold casts
  rw [List.map_map]
  conv => rhs; rw [← List.map_id p.2.1]
  refine List.map_congr_left fun y hy => ?_
  have := ho.lv y hy
  simp only [Function.comp, id]
  omega
 refine ⟨_, e, by rw [List.length_map]; exact ho.l2, ?_, fun y hy => ?_⟩
 ·have hnd := ho.nd
  rw [← e] at hnd
  unfold casts at hnd
  exact List.Pairwise.of_map _ (fun a b h e => h (by rw [e])) hnd
 ·obtain ⟨z, hz, rfl⟩ := List.mem_map.1 hy
  have := ho.lv z hz
  omega
theorem on_plan (h : TrOk t c l tr) {o : List Nat} {m : Nat} (hl : o.length ≤ c.length) (hV : VV t c l tr o = m) (hm : m < NV) :
    ∃ x r : List Nat, x = o ++ r ∧ x.length = c.length ∧ x.Nodup ∧ (∀ y ∈ x, y < c.length) ∧ PlanOk t c l (tr, casts x, 0, ()) ∧ pairs t (tr, casts x, 0, ()) c.length = m := by
  obtain ⟨lv, h1, h2, h3⟩ := V_seq (fx := casts o) h.q h.l1 h.rng 0 h.fit (by rw [casts_len]; exact hl) (by rw [show V t c l (casts o) tr c.length 0 0 = m from hV]; exact hm)
  obtain ⟨x, hx1, hx2, hx3, hx4⟩ := lv_nat h1
  simp only [] at hx1
  subst hx1
  refine ⟨x, x.drop o.length, ?_, hx2, hx3, hx4, h1, by rw [h3]; exact hV⟩
  conv => lhs; rw [← List.take_append_drop o.length x]
  congr 1
  apply List.ext_getElem
  · rw [List.length_take]; omega
  · intro i h4 h5
    have := h2.2 i (by rw [casts_len]; exact h5)
    rw [casts_getD, casts_getD] at this
    have a : o.getD i 0 = o[i] := by simp [List.getD, h5]
    have b : x.getD i 0 = x[i]'(by omega) := by simp [List.getD, show i < x.length by omega]
    rw [List.getElem_take]
    omega
theorem full_val (h : TrOk t c l tr) {x : List Nat} {m : Nat} (ho : PlanOk t c l (tr, casts x, 0, ())) (hp : pairs t (tr, casts x, 0, ()) c.length = m) (hmin : VV t c l tr [] = m) : VV t c l tr x = m := by
 have hl : x.length = c.length := by have := ho.l2; simp only [] at this; rwa [casts_len] at this
 have h1 := V_plan (fx := casts x) ho ⟨Nat.le_refl _, fun _ _ => rfl⟩
 have h2 := VV_mono (o := []) (r := x) h (by rw [List.nil_append]; omega)
 rw [List.nil_append] at h2
 simp only [] at h1
 show V t c l (casts x) tr c.length 0 0 = m
 have h2 : VV t c l tr [] ≤ V t c l (casts x) tr c.length 0 0 := h2
 omega
def Ph (t : List StableTrack) (c : List StableCar) (l : List StableLeave) (tr : List Int) (m : Nat) (x : List Nat) : Bool := VV t c l tr x == m
theorem ext_none (h : TrOk t c l tr) {o : List Nat} {m k : Nat} (hl : o.length + k = c.length) (hlo : m ≤ VV t c l tr o) (hne : VV t c l tr o ≠ m) (hlt : ∀ x ∈ o, x < c.length) (hnd : o.Nodup) : (ext c.length k o).find? (Ph t c l tr m) = none := by
 rw [List.find?_eq_none]
 intro x hx he
 obtain ⟨a1, a2, a3⟩ := ext_ok hx hlt hnd
 have hpre : ∃ r, x = o ++ r := by
  have key : ∀ {k : Nat} {o x : List Nat}, x ∈ ext c.length k o → ∃ r, x = o ++ r := by
   intro k
   induction k with
   | zero => intro o x hx; rw [ext, List.mem_singleton] at hx; exact ⟨[], by simp [hx]⟩
   | succ k ih =>
    intro o x hx
    rw [ext, List.mem_flatMap] at hx
    obtain ⟨o', h1, h2⟩ := hx
    obtain ⟨i, _, _, rfl⟩ := kids_mem h1
    obtain ⟨r, rfl⟩ := ih h2
    exact ⟨i :: r, by simp⟩
  exact key hx
 obtain ⟨r, rfl⟩ := hpre
 have h1 := VV_mono (o := o) (r := r) h (by omega)
 have h2 : VV t c l tr (o ++ r) = m := by simpa [Ph] using he
 omega
theorem ext_some (h : TrOk t c l tr) {o : List Nat} {m k : Nat} (hl : o.length + k = c.length) (hV : VV t c l tr o = m) (hm : m < NV) (hmin : VV t c l tr [] = m) : ∃ x, (ext c.length k o).find? (Ph t c l tr m) = some x := by
 obtain ⟨x, r, rfl, h2, h3, h4, h5, h6⟩ := on_plan h (by omega) hV hm
 have hmem : o ++ r ∈ ext c.length k o := by
  have : r.length = k := by rw [List.length_append] at h2; omega
  rw [← this]
  exact ext_mem h3 (fun y hy => h4 y (List.mem_append_right _ hy))
 have hv : Ph t c l tr m (o ++ r) = true := by
  unfold Ph
  rw [full_val h h5 h6 hmin]
  exact beq_self_eq_true m
 cases hf : (ext c.length k o).find? (Ph t c l tr m) with
 | some x => exact ⟨x, rfl⟩
 | none =>
  rw [List.find?_eq_none] at hf
  exact absurd hv (hf _ hmem)
theorem kids_split {n j : Nat} {o : List Nat} (hj : j < n) (hno : j ∉ o) : ∃ B, kids n o = kids j o ++ (o ++ [j]) :: B := by
 have key : ∀ d, ∃ B, kids (j + 1 + d) o = kids j o ++ (o ++ [j]) :: B := by
  intro d
  induction d with
  | zero => exact ⟨[], by rw [show j + 1 + 0 = j + 1 from rfl, kids_succ, if_neg (by simpa using hno)]⟩
  | succ d ih =>
   obtain ⟨B, hB⟩ := ih
   exact ⟨B ++ (if o.contains (j + 1 + d) then [] else [o ++ [j + 1 + d]]), by rw [show j + 1 + (d + 1) = (j + 1 + d) + 1 by omega, kids_succ, hB]; simp⟩
 obtain ⟨B, hB⟩ := key (n - (j + 1))
 exact ⟨B, by rw [← hB]; congr 1; omega⟩
theorem ext_first (h : TrOk t c l tr) {o : List Nat} {m k j : Nat} (hl : o.length + (k + 1) = c.length) (hV : VV t c l tr o = m) (hm : m < NV) (hmin : VV t c l tr [] = m) (hlt : ∀ x ∈ o, x < c.length) (hnd : o.Nodup)
    (hj : j < c.length) (hno : j ∉ o) (hVj : VV t c l tr (o ++ [j]) = m) (hbef : ∀ i, i < j → i ∉ o → VV t c l tr (o ++ [i]) ≠ m) : (ext c.length (k + 1) o).find? (Ph t c l tr m) = (ext c.length k (o ++ [j])).find? (Ph t c l tr m) := by
  obtain ⟨B, hB⟩ := kids_split hj hno
  show ((kids c.length o).flatMap (ext c.length k)).find? _ = _
  rw [hB, List.flatMap_append, List.flatMap_cons, List.find?_append, List.find?_append]
  have h1 : ((kids j o).flatMap (ext c.length k)).find? (Ph t c l tr m) = none := by
    rw [List.find?_eq_none]
    intro x hx
    obtain ⟨o', h2, h3⟩ := List.mem_flatMap.1 hx
    obtain ⟨i, hi, hio, rfl⟩ := kids_mem h2
    have h4 := ext_none (m := m) (k := k) h (o := o ++ [i]) (by simp; omega) (by rw [← hV]; exact VV_mono h (by simp; omega)) (hbef i hi hio) (fun y hy => by
      rcases List.mem_append.1 hy with hy | hy
      · exact hlt y hy
      · rw [List.mem_singleton.1 hy]; omega) (by
      rw [List.nodup_append]
      exact ⟨hnd, by simp, fun a ha b hb e => by rw [List.mem_singleton.1 hb] at e; exact hio (e ▸ ha)⟩)
    rw [List.find?_eq_none] at h4
    exact h4 x h3
  obtain ⟨x, hx⟩ := ext_some (k := k) h (o := o ++ [j]) (by simp; omega) hVj hm hmin
  rw [h1, hx]
  rfl
theorem inner_run (hn : NightOk t c l) (h : TrOk t c l tr) {o : List Nat} {m : Nat} (hl : o.length < c.length) (hV : VV t c l tr o = m) (hm : m < NV) (hmin : VV t c l tr [] = m) :
    ∃ j, j < c.length ∧ j ∉ o ∧ VV t c l tr (o ++ [j]) = m ∧ (∀ i, i < j → i ∉ o → VV t c l tr (o ++ [i]) ≠ m) ∧ iter (σ := (Int × (List Int))) (τ := ((List Int))) (fun s268 =>
cond ((decide (s268.1 < (lenI l)))) (Option.bind (g_slices_Contains_int_int s268.2 s268.1) fun y282 =>
cond ((!y282)) (Option.bind (g_slices_Clone_int_int s268.2) fun y284 =>
Option.bind (appO 8 y284 ([s268.1])) fun x287 =>
Option.bind (g_depot_night_least (((t, c, l, ()) : depot_night)) tr x287) fun y289 =>
cond ((y289 == (m : Int))) (Option.bind (appO 8 s268.2 ([s268.1])) fun x291 =>
some (.inr x291)) (some (.inl (((w64 (s268.1 + 1)), s268.2))))) (some (.inl (((w64 (s268.1 + 1)), s268.2))))) (some (.inr s268.2))) big ((0, casts o)) = some (casts (o ++ [j])) := by
  have h9 := hn.c9
  have hcl := hn.cl
  -- there is a next one
  have hex : ∃ j, j < c.length ∧ j ∉ o ∧ VV t c l tr (o ++ [j]) = m := by
    obtain ⟨x, r, rfl, h2, h3, h4, h5, h6⟩ := on_plan h (by omega) hV hm
    cases r with
    | nil => rw [List.append_nil] at h2; omega
    | cons j r =>
      refine ⟨j, h4 j (by simp), fun q => ?_, ?_⟩
      · rw [List.nodup_append] at h3
        exact h3.2.2 j q j (List.mem_cons_self ..) rfl
      · have h7 := full_val h h5 h6 hmin
        have h8 := VV_mono (o := o ++ [j]) (r := r) h (by simp at h2 ⊢; omega)
        have h10 := VV_mono (o := o) (r := [j]) h (by simp; omega)
        rw [List.append_assoc, List.singleton_append, h7] at h8
        omega
  obtain ⟨j, ⟨h1, h2, h3⟩, h4⟩ : ∃ j, (j < c.length ∧ j ∉ o ∧ VV t c l tr (o ++ [j]) = m) ∧ ∀ i, i < j → ¬ (i < c.length ∧ i ∉ o ∧ VV t c l tr (o ++ [i]) = m) := by
    obtain ⟨j, hj⟩ := hex
    induction j using Nat.strongRecOn with
    | ind j ih =>
      by_cases q : ∃ i, i < j ∧ (i < c.length ∧ i ∉ o ∧ VV t c l tr (o ++ [i]) = m)
      · obtain ⟨i, hi, hq⟩ := q
        exact ih i hi hq
      · exact ⟨j, hj, fun i hi hq => q ⟨i, hi, hq⟩⟩
  have hbef : ∀ i, i < j → i ∉ o → VV t c l tr (o ++ [i]) ≠ m := fun i hi hio e => h4 i hi ⟨by omega, hio, e⟩
  refine ⟨j, h1, h2, h3, hbef, Tot.eq ?_⟩
  refine Tot.iter (fun s => ∃ i : Nat, i ≤ j ∧ s = ((i : Int), casts o)) _ (fun s => c.length - s.1.toNat) ⟨0, by omega, rfl⟩ (by simp only [big]; omega) ?_
  rintro _ ⟨i, hi, rfl⟩
  have hw : w64 ((i : Int) + 1) = ((i + 1 : Nat) : Int) := by rw [w64_in (by omega) (by omega)]; rfl
  simp only [show decide ((i : Int) < lenI l) = true from decide_eq_true (by simp only [lenI_eq]; omega), cond_true, hw]
  rw [contains_eq (by rw [casts_len]; omega), Option.bind_some, casts_any]
  have ecl : g_slices_Clone_int_int (casts o) = some (casts o) := by
    unfold g_slices_Clone_int_int
    rw [appO_some (by rw [casts_len]; simp only [List.length_nil]; omega)]; rfl
  by_cases e : i = j
  · subst e
    rw [show o.contains i = false by simpa using h2]
    simp only [Bool.not_false, cond_true]
    rw [ecl, Option.bind_some, appO_some (by rw [casts_len, List.length_singleton]; omega), Option.bind_some, casts_app, least_eq hn h.l1 h.rng (by rw [casts_len]; simp; omega), Option.bind_some,
      show V t c l (casts (o ++ [i])) tr c.length 0 0 = m from h3, beq_self_eq_true, cond_true]
    exact Tot.some rfl
  · cases hc : o.contains i with
    | true =>
      simp only [Bool.not_true, cond_false]
      exact Tot.some ⟨⟨i + 1, by omega, rfl⟩, by simp only [Int.toNat_natCast]; omega⟩
    | false =>
      simp only [Bool.not_false, cond_true]
      have hne := hbef i (by omega) (by simpa using hc)
      rw [ecl, Option.bind_some, appO_some (by rw [casts_len, List.length_singleton]; omega), Option.bind_some, casts_app, least_eq hn h.l1 h.rng (by rw [casts_len]; simp; omega), Option.bind_some]
      have hne2 : ((V t c l (casts (o ++ [i])) tr c.length 0 0 : Nat) : Int) ≠ (m : Int) := fun q => by
        have q2 : V t c l (casts (o ++ [i])) tr c.length 0 0 = m := by omega
        exact hne q2
      rw [beq_false_of_ne hne2, cond_false]
      exact Tot.some ⟨⟨i + 1, by omega, rfl⟩, by simp only [Int.toNat_natCast]; omega⟩
theorem outer_run (hn : NightOk t c l) (h : TrOk t c l tr) {m : Nat} (hm : m < NV) (hmin : VV t c l tr [] = m) :
    ∃ x : List Nat, (ext c.length c.length []).find? (Ph t c l tr m) = some x ∧ iter (σ := (Int × (List Int))) (τ := ((List Int))) (fun s218 =>
cond ((decide (s218.1 < (lenI c)))) (Option.bind (iter (σ := (Int × (List Int))) (τ := ((List Int))) (fun s268 =>
cond ((decide (s268.1 < (lenI l)))) (Option.bind (g_slices_Contains_int_int s268.2 s268.1) fun y282 =>
cond ((!y282)) (Option.bind (g_slices_Clone_int_int s268.2) fun y284 =>
Option.bind (appO 8 y284 ([s268.1])) fun x287 =>
Option.bind (g_depot_night_least (((t, c, l, ()) : depot_night)) tr x287) fun y289 =>
cond ((y289 == (m : Int))) (Option.bind (appO 8 s268.2 ([s268.1])) fun x291 =>
some (.inr x291)) (some (.inl (((w64 (s268.1 + 1)), s268.2))))) (some (.inl (((w64 (s268.1 + 1)), s268.2))))) (some (.inr s268.2))) big ((0, s218.2))) fun t298 =>
some (.inl (((w64 (s218.1 + 1)), t298)))) (some (.inr s218.2))) big ((0, [])) = some (casts x) := by
  have h9 := hn.c9
  suffices hh : Tot (fun r => ∃ x : List Nat, (ext c.length c.length []).find? (Ph t c l tr m) = some x ∧ r = casts x) _ by
    obtain ⟨r, h1, x, h2, rfl⟩ := hh
    exact ⟨x, h2, h1⟩
  refine Tot.iter (fun s => ∃ o : List Nat, o.length ≤ c.length ∧ s = ((o.length : Int), casts o) ∧ VV t c l tr o = m ∧ (∀ x ∈ o, x < c.length) ∧ o.Nodup ∧ (ext c.length c.length []).find? (Ph t c l tr m) = (ext c.length (c.length - o.length) o).find? (Ph t c l tr m)) _ (fun s => c.length - s.1.toNat) ⟨[], by simp, rfl, hmin, by simp, List.nodup_nil, rfl⟩ (by simp only [big]; omega) ?_
  rintro _ ⟨o, hl, rfl, hV, hlt, hnd, hf⟩
  by_cases hin : o.length < c.length
  · have hw : w64 ((o.length : Int) + 1) = ((o.length + 1 : Nat) : Int) := by rw [w64_in (by omega) (by omega)]; rfl
    simp only [show decide ((o.length : Int) < lenI c) = true from decide_eq_true (by simp only [lenI_eq]; omega), cond_true, hw]
    obtain ⟨j, h1, h2, h3, h4, h5⟩ := inner_run hn h hin hV hm hmin
    rw [h5, Option.bind_some]
    refine Tot.some ⟨⟨o ++ [j], by simp; omega, by simp, h3, fun x hx => ?_, ?_, ?_⟩, by simp only [Int.toNat_natCast]; omega⟩
    · rcases List.mem_append.1 hx with hx | hx
      · exact hlt x hx
      · rw [List.mem_singleton.1 hx]; exact h1
    · rw [List.nodup_append]
      exact ⟨hnd, by simp, fun a ha b hb e => by rw [List.mem_singleton.1 hb] at e; exact h2 (e ▸ ha)⟩
    · rw [hf, show c.length - o.length = (c.length - (o ++ [j]).length) + 1 by simp; omega]
      exact ext_first h (by simp; omega) hV hm hmin hlt hnd h1 h2 h3 h4
  · have e : o.length = c.length := by omega
    simp only [show decide ((o.length : Int) < lenI c) = false from decide_eq_false (by simp only [lenI_eq]; omega), cond_false]
    refine Tot.some ⟨o, ?_, rfl⟩
    rw [hf, e, Nat.sub_self]
    simp [ext, Ph, hV]
end
end Go.Ai.Sx

/- The depot: what the best plan of a night is. -/
namespace Go.Ai.Sx
section
variable {t : List StableTrack} {c : List StableCar} {l : List StableLeave}
abbrev LT (t : List StableTrack) (c : List StableCar) : List (List Nat) := (extT t.length c.length []).filter (fits t c)
theorem trOk_of {o : List Nat} (hq : quietB c l = true) (ho : o ∈ LT t c) : TrOk t c l (casts o) := by
 obtain ⟨h1, h2, h3⟩ := mem_L ho
 obtain ⟨k1, k2⟩ := tr_in (t := t) (c := c) h2 h1
 refine ⟨hq, k1, k2, fun i hi => ?_⟩
 unfold fits at h3
 rw [List.all_eq_true] at h3
 exact h3 i (List.mem_range.2 (by omega))
theorem big_m {m : Nat} : decide ((m : Int) ≥ 1048576) = !decide (m < NV) := by
 unfold NV
 by_cases h : m < 1048576
 ·rw [decide_eq_true h]; exact decide_eq_false (by omega)
 ·rw [decide_eq_false h]; exact decide_eq_true (by omega)
inductive NightIs (t : List StableTrack) (c : List StableCar) (l : List StableLeave) : StablePlan × Int → Prop where
  | arg (h : nightB t c l = false) : NightIs t c l (([], [], 0, ()), 2)
  | quiet (h : nightB t c l = true) (q : quietB c l = false) : NightIs t c l (([], [], 0, ()), 4)
  | none (h : nightB t c l = true) (q : quietB c l = true) (n : ∀ o ∈ LT t c, W t c l o = NV) : NightIs t c l (([], [], 0, ()), 4)
  | some (h : nightB t c l = true) (q : quietB c l = true) (o x : List Nat) (m : Nat) (hm : m < NV) (ho : (LT t c).find? (fun o => W t c l o == m) = some o) (hle : ∀ o ∈ LT t c, m ≤ W t c l o)
      (hx : (ext c.length c.length []).find? (Ph t c l (casts o) m) = some x) : NightIs t c l ((casts o, casts x, (m : Int), ()), 0)
theorem night_is (ht : t.length ≤ 12) (hc : c.length ≤ 12) (hl : l.length ≤ 12) : ∃ r, g_depot_Night t c l = some r ∧ NightIs t c l r := by
  unfold g_depot_Night
  rw [valid_eq t c l ht hc hl, Option.bind_some]
  cases hv : nightB t c l with
  | false => exact ⟨_, rfl, .arg hv⟩
  | true =>
    have hn := night_ok hv
    simp only [Bool.not_true, cond_false]
    rw [quiet_eq hn, Option.bind_some]
    cases hq : quietB c l with
    | false => exact ⟨_, rfl, .quiet hv hq⟩
    | true =>
      simp only [Bool.not_true, cond_false]
      unfold g_depot_night_tracked
      rw [Option.bind_some]
      obtain ⟨b, m, h1, h2⟩ := search_run (t := t) (c := c) (l := l) hn
      -- both ways go on alike
      have rest : ∀ (b : StablePlanN1), b.2.2.1 = (m : Int) → (m < NV → ∃ o, (LT t c).find? (fun o => W t c l o == m) = some o ∧ b.1 = casts o) → ∃ r, (Option.bind (idx [b] 0) fun x55 =>
cond ((decide (x55.2.2.1 ≥ 1048576))) (some (((([], [], 0, ()) : StablePlan), 4))) (Option.bind (iter (σ := (Int × (List Int))) (τ := ((List Int))) (fun s218 =>
cond ((decide (s218.1 < (lenI c)))) (Option.bind (iter (σ := (Int × (List Int))) (τ := ((List Int))) (fun s268 =>
cond ((decide (s268.1 < (lenI l)))) (Option.bind (g_slices_Contains_int_int s268.2 s268.1) fun y282 =>
cond ((!y282)) (Option.bind (g_slices_Clone_int_int s268.2) fun y284 =>
Option.bind (appO 8 y284 ([s268.1])) fun x287 =>
Option.bind (g_depot_night_least (((t, c, l, ()) : depot_night)) x55.1 x287) fun y289 =>
cond ((y289 == x55.2.2.1)) (Option.bind (appO 8 s268.2 ([s268.1])) fun x291 =>
some (.inr x291)) (some (.inl (((w64 (s268.1 + 1)), s268.2))))) (some (.inl (((w64 (s268.1 + 1)), s268.2))))) (some (.inr s268.2))) big ((0, s218.2))) fun t298 =>
some (.inl (((w64 (s218.1 + 1)), t298)))) (some (.inr s218.2))) big ((0, []))) fun t303 =>
some (((x55.1, t303, x55.2.2.1, ()), 0)))) = some r ∧ NightIs t c l r := by
        intro b hb hfd
        rw [show idx [b] 0 = some b from rfl, Option.bind_some, hb, big_m]
        by_cases hm : m < NV
        · rw [decide_eq_true hm, Bool.not_true, cond_false]
          obtain ⟨o, ho, hbo⟩ := hfd hm
          have hoL := List.mem_of_find?_eq_some ho
          have htr := trOk_of hq hoL
          have hmin : VV t c l (casts o) [] = m := by
            have := List.find?_some ho
            have this : W t c l o = m := by simpa using this
            exact this
          obtain ⟨x, hx, hrun⟩ := outer_run hn htr hm hmin
          rw [hbo, hrun]
          exact ⟨_, rfl, .some hv hq o x m hm ho h2.le hx⟩
        · rw [decide_eq_false hm, Bool.not_false, cond_true]
          refine ⟨_, rfl, .none hv hq fun o ho => ?_⟩
          have := h2.le o ho
          have hV : W t c l o ≤ NV := V_NV
          omega
      rcases h1 with h1 | h1
      · rw [h1, Option.bind_some, alt_inl]
        exact rest b h2.mv h2.at'
      · rw [h1, Option.bind_some, alt_inr]
        exact rest b h2.mv h2.at'
theorem tr_nat {p : StablePlan} (ho : PlanOk t c l p) : ∃ o ∈ LT t c, casts o = p.1 := by
 have htr : ∀ y ∈ p.1, 0 ≤ y ∧ y < (t.length : Int) := fun y hy => by
  obtain ⟨i, hi, rfl⟩ := List.getElem_of_mem hy
  have := ho.tr i (by have := ho.l1; omega)
  rwa [show p.1.getD i 0 = p.1[i] by simp [List.getD, hi]] at this
 have e : casts (p.1.map Int.toNat) = p.1 := by
  unfold casts
  rw [List.map_map]
  conv => rhs; rw [← List.map_id p.1]
  refine List.map_congr_left fun y hy => ?_
  have := htr y hy
  simp only [Function.comp, id]
  omega
 have hl : (p.1.map Int.toNat).length = c.length := by rw [List.length_map]; exact ho.l1
 refine ⟨_, List.mem_filter.2 ⟨?_, ?_⟩, e⟩
 ·have := extT_mem (m := t.length) (o := []) (r := p.1.map Int.toNat) (fun y hy => by
   obtain ⟨z, hz, rfl⟩ := List.mem_map.1 hy
   have := htr z hz
   omega)
  rwa [List.nil_append, hl] at this
 ·unfold fits
  rw [List.all_eq_true, hl]
  intro i hi
  rw [← ho.fit i (List.mem_range.1 hi)]
  exact fit_same (by show casts _ = _; exact e) i
theorem plan_same {p q : StablePlan} (h1 : p.1 = q.1) (h2 : p.2.1 = q.2.1) (ho : PlanOk t c l p) : PlanOk t c l q := by
 refine ⟨by rw [← h1]; exact ho.l1, by rw [← h2]; exact ho.l2, ho.quiet, fun i hi => by rw [← h1]; exact ho.tr i hi, by rw [← h2]; exact ho.lv, by rw [← h2]; exact ho.nd, fun i hi => ?_, fun i hi => ?_⟩
 ·have := ho.takes i hi
  unfold takesB at this ⊢
  rw [← h2]
  exact this
 ·rw [← ho.fit i hi]; exact fit_same h1.symm i
theorem pairs_same {p q : StablePlan} (h1 : p.1 = q.1) (h2 : p.2.1 = q.2.1) (n : Nat) : pairs t p n = pairs t q n := by
 unfold pairs
 refine sumN_congr fun j _ => cnt_congr fun i _ => ?_
 unfold conf thr
 rw [h1, h2]
theorem pairs_lt (hn : NightOk t c l) (p : StablePlan) : pairs t p c.length < NV := by
 have h9 := hn.c9
 unfold pairs
 have := sumN_le (g := fun j => cnt (fun i => conf t p i j) j) (m := 9) (j := c.length) (fun i hi => Nat.le_trans (cnt_le _ _) (by omega))
 unfold NV
 have : c.length * 9 ≤ 9 * 9 := Nat.mul_le_mul_right _ h9
 omega
theorem W_plan {p : StablePlan} (ho : PlanOk t c l p) {o : List Nat} (e : casts o = p.1) : W t c l o ≤ pairs t p c.length := by
 have := V_plan (fx := []) ho ⟨Nat.zero_le _, fun i hi => absurd hi (by simp)⟩
 unfold W
 rw [e]
 exact this
theorem night_plan {o x : List Nat} {m : Nat} (hn : NightOk t c l) (q : quietB c l = true) (hm : m < NV) (ho : (LT t c).find? (fun o => W t c l o == m) = some o) (hx : (ext c.length c.length []).find? (Ph t c l (casts o) m) = some x) :
    PlanOk t c l (casts o, casts x, (m : Int), ()) ∧ pairs t (casts o, casts x, (m : Int), ()) c.length = m := by
  have hoL := List.mem_of_find?_eq_some ho
  have htr := trOk_of q hoL
  have hV : VV t c l (casts o) x = m := by
    have := List.find?_some hx
    simpa [Ph] using this
  obtain ⟨h1, h2, h3⟩ := ext_ok (List.mem_of_find?_eq_some hx) (fun y hy => (nomatch hy)) List.nodup_nil
  simp only [List.length_nil, Nat.zero_add] at h1
  obtain ⟨x', r, rfl, a2, a3, a4, a5, a6⟩ := on_plan htr (o := x) (by omega) hV hm
  have hr : r = [] := by
    rw [List.length_append] at a2
    exact List.eq_nil_of_length_eq_zero (by omega)
  subst hr
  rw [List.append_nil] at a5 a6
  exact ⟨plan_same (p := (casts o, casts x, 0, ())) (by rfl) (by rfl) a5, by rw [← a6]; exact pairs_same (by rfl) (by rfl) _⟩
structure Best (t : List StableTrack) (c : List StableCar) (l : List StableLeave) (p : StablePlan) : Prop where
 ok : PlanOk t c l p
 mv : p.2.2.1 = (pairs t p c.length : Int)
 min : ∀ q, PlanOk t c l q → pairs t p c.length ≤ pairs t q c.length
end
end Go.Ai.Sx

/- The depot: a plan, played, moves each car in once, out once, and as many aside as it says. -/
namespace Go.Ai.Sx
section
variable {t : List StableTrack} {c : List StableCar} {l : List StableLeave} {p : StablePlan}
end
end Go.Ai.Sx

/- The depot: the theorem of nights of one kind, and the theorem of nights. -/
namespace Go.Ai.Sx
section
variable {t : List StableTrack} {c : List StableCar} {l : List StableLeave} {p : StablePlan}
theorem few_inv (t : List StableTrack) (c : List StableCar) (l : List StableLeave) (m : Int) : ∃ b, g_law09_few t c l m = some b ∧ (b = true → t.length ≤ 8 ∧ c.length ≤ 12 ∧ l.length ≤ 12 ∧ ((c.length : Int) ≤ m ∨ 9 < c.length)) := by
 unfold g_law09_few
 by_cases h1 : t.length ≤ 8
 ·rw [show decide (lenI t ≤ 8) = true from decide_eq_true (by simp only [lenI_eq]; omega)]
  by_cases h2 : c.length ≤ 12
  ·rw [show decide (lenI c ≤ 12) = true from decide_eq_true (by simp only [lenI_eq]; omega)]
   by_cases h3 : l.length ≤ 12
   ·rw [show decide (lenI l ≤ 12) = true from decide_eq_true (by simp only [lenI_eq]; omega)]
    by_cases h4 : (c.length : Int) ≤ m
    ·rw [show decide (lenI c ≤ m) = true from decide_eq_true h4]
     exact ⟨true, rfl, fun _ => ⟨h1, h2, h3, .inl h4⟩⟩
    ·rw [show decide (lenI c ≤ m) = false from decide_eq_false h4]
     by_cases h5 : 9 < c.length
     ·rw [show decide (lenI c > 9) = true from decide_eq_true (by simp only [lenI_eq]; omega)]
      exact ⟨true, rfl, fun _ => ⟨h1, h2, h3, .inr h5⟩⟩
     ·rw [show decide (lenI c > 9) = false from decide_eq_false (by simp only [lenI_eq]; omega)]
      exact ⟨false, rfl, fun q => by cases q⟩
   ·rw [show decide (lenI l ≤ 12) = false from decide_eq_false (by simp only [lenI_eq]; omega)]
    exact ⟨false, rfl, fun q => by cases q⟩
  ·rw [show decide (lenI c ≤ 12) = false from decide_eq_false (by simp only [lenI_eq]; omega)]
   exact ⟨false, rfl, fun q => by cases q⟩
 ·rw [show decide (lenI t ≤ 8) = false from decide_eq_false (by simp only [lenI_eq]; omega)]
  exact ⟨false, rfl, fun q => by cases q⟩
end
end Go.Ai.Sx

/- The depot: the theorem of nights of one kind. -/
namespace Go.Ai.Sx
section
variable {t : List StableTrack} {c : List StableCar} {l : List StableLeave}
end
end Go.Ai.Sx

/- The depot: the specification's best plan, and the theorem of the stage. -/
namespace Go.Ai.Sx
def levT (m : Nat) : Nat → List (List Nat)
 | 0 => [[]]
 | i + 1 => (levT m i).flatMap (kidsT m)
theorem levT_ext (m : Nat) : ∀ i k, (levT m i).flatMap (extT m k) = extT m (i + k) []
 | 0, k => by simp [levT]
 | i + 1, k => by
  rw [show i + 1 + k = i + (k + 1) by omega, ← levT_ext m i (k + 1)]
  simp only [levT, List.flatMap_assoc]
  rfl
theorem levT_all (m n : Nat) : levT m n = extT m n [] := by
 have := levT_ext m n 0
 rw [← show (levT m n).flatMap (extT m 0) = levT m n from by simp [extT]]
 exact this
theorem kidsT_len (m : Nat) (o : List Nat) : (kidsT m o).length = m := by simp [kidsT]
theorem levT_len {m : Nat} (hm : m ≤ 5) : ∀ i, (levT m i).length ≤ 5 ^ i
 | 0 => by simp [levT]
 | i + 1 => by
  have h1 := levT_len hm i
  have h2 := flat_len (f := kidsT m) (m := 5) (fun o => by rw [kidsT_len]; exact hm) (levT m i)
  simp only [levT, Nat.pow_succ]
  omega
theorem levT_elen {m : Nat} : ∀ {i : Nat} {o : List Nat}, o ∈ levT m i → o.length = i
 | 0, o, h => by simp only [levT, List.mem_singleton] at h; rw [h]; rfl
 | i + 1, o, h => by
  simp only [levT, List.mem_flatMap] at h
  obtain ⟨q, hq, hp⟩ := h
  obtain ⟨j, _, rfl⟩ := List.mem_map.1 hp
  simp [levT_elen hq]
theorem listsT_tot (m n : Nat) (hm : m ≤ 5) (hn : n ≤ 5) : g_ref09_lists (n : Int) (m : Int) false = some ((levT m n).map casts) := by
 refine Tot.eq ?_
 unfold g_ref09_lists
 refine Tot.bind (Q := fun t => t = (levT m n).map casts) ?_ (fun t ht => by subst ht; exact Tot.some rfl)
 refine Tot.iter (fun s => ∃ i : Nat, i ≤ n ∧ s = ((levT m i).map casts, (i : Int))) _ (fun s => n - s.2.toNat) ⟨0, by omega, rfl⟩ (by simp only [big]; omega) ?_
 rintro _ ⟨i, hi, rfl⟩
 have hL := levT_len hm i
 have hp := pow5 (i := i) (by omega)
 by_cases hin : i < n
 ·have e1 : decide ((i : Int) < (n : Int)) = true := decide_eq_true (by omega)
  have hw : w64 ((i : Int) + 1) = ((i + 1 : Nat) : Int) := by rw [w64_in (by omega) (by omega)]; rfl
  simp only [e1, cond_true, hw]
  have hlen : lenI ((levT m i).map casts) = ((levT m i).length : Int) := by simp [lenI_eq]
  refine Tot.bind (Q := fun t => t = (levT m (i + 1)).map casts) ?_ (fun t ht => by subst ht; exact Tot.some ⟨⟨i + 1, by omega, rfl⟩, by simp only [Int.toNat_natCast]; omega⟩)
  refine Tot.iter (fun s => ∃ k : Nat, k ≤ (levT m i).length ∧ s = ((((levT m i).take k).flatMap (kidsT m)).map casts, (k : Int))) _ (fun s => (levT m i).length - s.2.toNat) ⟨0, by omega, rfl⟩ (by simp only [big]; omega) ?_
  rintro _ ⟨k, hk, rfl⟩
  by_cases hkn : k < (levT m i).length
  ·have e2 : decide ((k : Int) < lenI ((levT m i).map casts)) = true := decide_eq_true (by rw [hlen]; omega)
   have hw2 : w64 ((k : Int) + 1) = ((k + 1 : Nat) : Int) := by rw [w64_in (by omega) (by omega)]; rfl
   simp only [e2, cond_true, hw2]
   have hix : idx ((levT m i).map casts) (k : Int) = some (casts (levT m i)[k]) := by rw [idx_nat]; simp [hkn]
   generalize ho : (levT m i)[k] = o at hix
   have hol : o.length = i := levT_elen (m := m) (by rw [← ho]; exact List.getElem_mem _)
   have htake : (levT m i).take (k + 1) = (levT m i).take k ++ [o] := by rw [List.take_succ_eq_append_getElem hkn, ho]
   have hA := flat_len (f := kidsT m) (m := 5) (fun o => by rw [kidsT_len]; exact hm) ((levT m i).take k)
   rw [List.length_take, Nat.min_eq_left hk] at hA
   generalize hAe : ((levT m i).take k).flatMap (kidsT m) = A at hA
   refine Tot.bind (Q := fun t => t = (A ++ kidsT m o).map casts) ?_ (fun t ht => by
    subst ht
    exact Tot.some ⟨⟨k + 1, by omega, by rw [htake, List.flatMap_append, hAe]; simp⟩, by simp only [Int.toNat_natCast]; omega⟩)
   refine Tot.iter (fun s => ∃ x : Nat, x ≤ m ∧ s = ((A ++ kidsT x o).map casts, (x : Int))) _ (fun s => m - s.2.toNat) ⟨0, by omega, by simp [kidsT]⟩ (by simp only [big]; omega) ?_
   rintro _ ⟨x, hx, rfl⟩
   by_cases hxn : x < m
   ·have e3 : decide ((x : Int) < (m : Int)) = true := decide_eq_true (by omega)
    have hw3 : w64 ((x : Int) + 1) = ((x + 1 : Nat) : Int) := by rw [w64_in (by omega) (by omega)]; rfl
    simp only [e3, cond_true, hw3, Bool.not_false]
    have hkl := kidsT_len x o
    rw [hix, Option.bind_some, appO_some (by rw [casts_len]; simp only [List.length_nil]; omega), Option.bind_some, List.nil_append, appO_some (by rw [casts_len, List.length_singleton]; omega), Option.bind_some, casts_app, appO_some (by rw [List.length_map, List.length_append, List.length_singleton]; omega), Option.bind_some]
    refine Tot.some ⟨⟨x + 1, by omega, ?_⟩, by simp only [Int.toNat_natCast]; omega⟩
    rw [kidsT_succ]; simp
   ·have e3 : decide ((x : Int) < (m : Int)) = false := decide_eq_false (by omega)
    obtain rfl : x = m := by omega
    simp only [e3, cond_false]
    exact Tot.some rfl
  ·have e2 : decide ((k : Int) < lenI ((levT m i).map casts)) = false := decide_eq_false (by rw [hlen]; omega)
   obtain rfl : k = (levT m i).length := by omega
   simp only [e2, cond_false]
   refine Tot.some ?_
   rw [List.take_length]; rfl
 ·have e1 : decide ((i : Int) < (n : Int)) = false := decide_eq_false (by omega)
  obtain rfl : i = n := by omega
  simp only [e1, cond_false]
  exact Tot.some rfl
section
variable {t : List StableTrack} {c : List StableCar} {l : List StableLeave}
def pl (o x : List Nat) : StablePlan := (casts o, casts x, 0, ())
structure Bs (t : List StableTrack) (c : List StableCar) (l : List StableLeave) (P : List (List Nat × List Nat)) (met : Bool) (a b : List Int) (n : Int) : Prop where
 no : met = false → a = [] ∧ b = [] ∧ n = 0 ∧ ∀ q ∈ P, ¬ PlanOk t c l (pl q.1 q.2)
 yes : met = true → ∃ (q : List Nat × List Nat) (m : Nat), q ∈ P ∧ PlanOk t c l (pl q.1 q.2) ∧ a = casts q.1 ∧ b = casts q.2 ∧ n = (m : Int) ∧ pairs t (pl q.1 q.2) c.length = m ∧ (∀ r ∈ P, PlanOk t c l (pl r.1 r.2) → m ≤ pairs t (pl r.1 r.2) c.length) ∧
  ∃ P1 P2, P = P1 ++ q :: P2 ∧ ∀ r ∈ P1, PlanOk t c l (pl r.1 r.2) → m < pairs t (pl r.1 r.2) c.length
theorem bs_skip {P : List (List Nat × List Nat)} {met : Bool} {a b : List Int} {n : Int} (h : Bs t c l P met a b n) {q : List Nat × List Nat} (hq : ¬ PlanOk t c l (pl q.1 q.2) ∨ met = true ∧ n ≤ (pairs t (pl q.1 q.2) c.length : Int)) : Bs t c l (P ++ [q]) met a b n := by
 refine ⟨fun hm => ?_, fun hm => ?_⟩
 ·obtain ⟨h1, h2, h3, h4⟩ := h.no hm
  refine ⟨h1, h2, h3, fun r hr => ?_⟩
  rcases List.mem_append.1 hr with hr | hr
  ·exact h4 r hr
  ·rw [List.mem_singleton.1 hr]
   rcases hq with hq | ⟨hq, _⟩
   ·exact hq
   ·rw [hm] at hq; cases hq
 ·obtain ⟨r, m, h1, h2, h3, h4, h5, h6, h7, P1, P2, h8, h9⟩ := h.yes hm
  refine ⟨r, m, List.mem_append_left _ h1, h2, h3, h4, h5, h6, fun s hs ho => ?_, P1, P2 ++ [q], by rw [h8]; simp, h9⟩
  rcases List.mem_append.1 hs with hs | hs
  ·exact h7 s hs ho
  ·rw [List.mem_singleton.1 hs] at ho ⊢
   rcases hq with hq | ⟨_, hq⟩
   ·exact absurd ho hq
   ·omega
theorem bs_take {P : List (List Nat × List Nat)} {met : Bool} {a b : List Int} {n : Int} (h : Bs t c l P met a b n) {q : List Nat × List Nat} (hq : PlanOk t c l (pl q.1 q.2)) (hl : met = true → (pairs t (pl q.1 q.2) c.length : Int) < n) : Bs t c l (P ++ [q]) true (casts q.1) (casts q.2) (pairs t (pl q.1 q.2) c.length : Int) := by
 refine ⟨fun hm => (by cases hm), fun _ => ⟨q, pairs t (pl q.1 q.2) c.length, List.mem_append_right _ (List.mem_singleton.2 rfl), hq, rfl, rfl, rfl, rfl, fun r hr ho => ?_, P, [], rfl, fun r hr ho => ?_⟩⟩
 ·rcases List.mem_append.1 hr with hr | hr
  ·cases hm : met with
   | false => exact absurd ho ((h.no hm).2.2.2 r hr)
   | true =>
    obtain ⟨s, m, h1, h2, h3, h4, h5, h6, h7, _⟩ := h.yes hm
    have := h7 r hr ho
    have := hl hm
    omega
  ·rw [List.mem_singleton.1 hr]; exact Nat.le_refl _
 ·cases hm : met with
  | false => exact absurd ho ((h.no hm).2.2.2 r hr)
  | true =>
   obtain ⟨s, m, h1, h2, h3, h4, h5, h6, h7, _⟩ := h.yes hm
   have := h7 r hr ho
   have := hl hm
   omega
theorem refbest_tot (hn : NightOk t c l) (h4 : c.length ≤ 4) : ∃ met a b n, g_ref09_Best t c l = some ((a, b, n, ()), met) ∧ Bs t c l ((extT t.length c.length []).flatMap fun o => (ext c.length c.length []).map fun x => (o, x)) met a b n := by
  have h5 := hn.t5
  unfold g_ref09_Best
  rw [show lenI c = (c.length : Int) from rfl, show lenI t = (t.length : Int) from rfl, listsT_tot _ _ h5 (by omega), Option.bind_some, lists_tot _ (by omega), Option.bind_some, levT_all, lev_all]
  have hT := levT_len h5 c.length
  have hX := lev_len (n := c.length) (by omega) c.length
  have hp := pow5 (i := c.length) (by omega)
  rw [levT_all] at hT
  rw [lev_all] at hX
  have hTl : ∀ o ∈ extT t.length c.length [], o.length = c.length := fun o ho => levT_elen (m := t.length) (by rw [levT_all]; exact ho)
  have hXl : ∀ x ∈ ext c.length c.length [], x.length = c.length := fun x hx => lev_elen (n := c.length) (by rw [lev_all]; exact hx)
  generalize extT t.length c.length [] = TL at *
  generalize ext c.length c.length [] = XL at *
  have fin : ∀ X : Option (Bool × List Int × List Int × Int), Tot (fun q : Bool × List Int × List Int × Int => Bs t c l (TL.flatMap fun o => XL.map fun x => (o, x)) q.1 q.2.1 q.2.2.1 q.2.2.2) X →
      ∃ met a b n, (Option.bind X fun t145 => some (((t145.2.1, t145.2.2.1, t145.2.2.2, ()), t145.1) : StablePlan × Bool)) = some ((a, b, n, ()), met) ∧ Bs t c l (TL.flatMap fun o => XL.map fun x => (o, x)) met a b n := by
    rintro X ⟨q, rfl, h2⟩
    exact ⟨q.1, q.2.1, q.2.2.1, q.2.2.2, rfl, h2⟩
  refine fin _ ?_
  refine Tot.iter (fun s => ∃ i : Nat, i ≤ TL.length ∧ s.2.1 = (i : Int) ∧ Bs t c l ((TL.take i).flatMap fun o => XL.map fun x => (o, x)) s.1 s.2.2.1 s.2.2.2.1 s.2.2.2.2) _ (fun s => TL.length - s.2.1.toNat) ⟨0, by omega, rfl, ⟨fun _ => ⟨rfl, rfl, rfl, fun q hq => (by simp at hq)⟩, fun q => (by cases q)⟩⟩ (by simp only [big]; omega) ?_
  rintro ⟨met, _, a, b, n⟩ ⟨i, hi, rfl, hB⟩
  by_cases hin : i < TL.length
  · have hw : w64 ((i : Int) + 1) = ((i + 1 : Nat) : Int) := by rw [w64_in (by omega) (by omega)]; rfl
    simp only [show decide ((i : Int) < lenI (TL.map casts)) = true from decide_eq_true (by simp only [lenI_eq, List.length_map]; omega), cond_true, hw]
    have hix : idx (TL.map casts) (i : Int) = some (casts TL[i]) := by rw [idx_nat]; simp [hin]
    have hol := hTl TL[i] (List.getElem_mem hin)
    have htake : TL.take (i + 1) = TL.take i ++ [TL[i]] := List.take_succ_eq_append_getElem hin
    generalize TL[i] = o at *
    simp only [] at hB
    refine Tot.bind (Q := fun q : Bool × List Int × List Int × Int => Bs t c l (((TL.take i).flatMap fun o => XL.map fun x => (o, x)) ++ XL.map fun x => (o, x)) q.1 q.2.1 q.2.2.1 q.2.2.2) ?_ (fun q hq => Tot.some ⟨⟨i + 1, by omega, rfl, by rw [htake, List.flatMap_append]; simpa using hq⟩, by simp only [Int.toNat_natCast]; omega⟩)
    generalize ((TL.take i).flatMap fun o => XL.map fun x => (o, x)) = P at *
    refine Tot.iter (fun s => ∃ k : Nat, k ≤ XL.length ∧ s.2.1 = (k : Int) ∧ Bs t c l (P ++ (XL.take k).map fun x => (o, x)) s.1 s.2.2.1 s.2.2.2.1 s.2.2.2.2) _ (fun s => XL.length - s.2.1.toNat) ⟨0, by omega, rfl, by simpa using hB⟩ (by simp only [big]; omega) ?_
    rintro ⟨met, _, a, b, n⟩ ⟨k, hk, rfl, hB⟩
    by_cases hkn : k < XL.length
    · have hw2 : w64 ((k : Int) + 1) = ((k + 1 : Nat) : Int) := by rw [w64_in (by omega) (by omega)]; rfl
      simp only [show decide ((k : Int) < lenI (XL.map casts)) = true from decide_eq_true (by simp only [lenI_eq, List.length_map]; omega), cond_true, hw2]
      have hkx : idx (XL.map casts) (k : Int) = some (casts XL[k]) := by rw [idx_nat]; simp [hkn]
      have hxl := hXl XL[k] (List.getElem_mem hkn)
      have htx : XL.take (k + 1) = XL.take k ++ [XL[k]] := List.take_succ_eq_append_getElem hkn
      generalize XL[k] = x at *
      simp only [] at hB
      rw [hix, Option.bind_some, hkx, Option.bind_some]
      obtain ⟨r, r1, r2, r3⟩ := ref_moves_tot (t := t) (l := l) (p := (casts o, casts x, 0, ())) hn (by simp only []; rw [casts_len]; omega) (by simp only []; rw [casts_len]; omega)
      rw [r1, Option.bind_some]
      have hnext : P ++ (XL.take (k + 1)).map (fun x => (o, x)) = (P ++ (XL.take k).map fun x => (o, x)) ++ [(o, x)] := by rw [htx]; simp
      by_cases ho : PlanOk t c l (pl o x)
      · rw [r2 ho]
        simp only [cond_true]
        cases hm : met with
        | false =>
          simp only [Bool.not_false, cond_true]
          refine Tot.some ⟨⟨k + 1, by omega, rfl, ?_⟩, by simp only [Int.toNat_natCast]; omega⟩
          rw [hnext]
          exact bs_take hB ho (fun q => by rw [hm] at q; cases q)
        | true =>
          simp only [Bool.not_true, cond_false]
          by_cases q : (pairs t (casts o, casts x, 0, ()) c.length : Int) < n
          · rw [decide_eq_true q, cond_true]
            refine Tot.some ⟨⟨k + 1, by omega, rfl, ?_⟩, by simp only [Int.toNat_natCast]; omega⟩
            rw [hnext]
            exact bs_take hB ho (fun _ => q)
          · rw [decide_eq_false q, cond_false]
            refine Tot.some ⟨⟨k + 1, by omega, rfl, ?_⟩, by simp only [Int.toNat_natCast]; omega⟩
            rw [hnext]
            have hB' := hB
            rw [hm] at hB'
            exact bs_skip hB' (.inr ⟨rfl, by show n ≤ (pairs t (casts o, casts x, 0, ()) c.length : Int); omega⟩)
      · rw [r3 ho]
        simp only [cond_false]
        refine Tot.some ⟨⟨k + 1, by omega, rfl, ?_⟩, by simp only [Int.toNat_natCast]; omega⟩
        rw [hnext]
        exact bs_skip hB (.inl ho)
    · simp only [show decide ((k : Int) < lenI (XL.map casts)) = false from decide_eq_false (by simp only [lenI_eq, List.length_map]; omega), cond_false]
      obtain rfl : k = XL.length := by omega
      refine Tot.some ?_
      rw [List.take_length] at hB
      exact hB
  · simp only [show decide ((i : Int) < lenI (TL.map casts)) = false from decide_eq_false (by simp only [lenI_eq, List.length_map]; omega), cond_false]
    obtain rfl : i = TL.length := by omega
    refine Tot.some ?_
    rw [List.take_length] at hB
    exact hB
theorem plan_self (a : StablePlan) (h1 : a.1.length < 4611686018427387904) (h2 : a.2.1.length < 4611686018427387904) : g_law09_same a a = some true := by
 unfold g_law09_same
 rw [beq_self_eq_true, cond_true, same_self a.1 h1, Option.bind_some, cond_true, same_self a.2.1 h2, Option.bind_some]
 rfl
end
end Go.Ai.Sx

/- The depot: the theorem of the stage: the best plan of any night. -/
namespace Go.Ai.Sx
section
variable {t : List StableTrack} {c : List StableCar} {l : List StableLeave}
theorem casts_inj : ∀ {a b : List Nat}, casts a = casts b → a = b
 | [], [], _ => rfl
 | [], _ :: _, h => by simp [casts] at h
 | _ :: _, [], h => by simp [casts] at h
 | x :: a, y :: b, h => by
  unfold casts at h
  simp only [List.map_cons, List.cons.injEq] at h
  rw [casts_inj (a := a) (b := b) h.2, show x = y by omega]
theorem pl_same (o x : List Nat) (m : Int) : PlanOk t c l (pl o x) ↔ PlanOk t c l (casts o, casts x, m, ()) :=
 ⟨fun h => plan_same (p := pl o x) (by rfl) (by rfl) h, fun h => plan_same (q := pl o x) (by rfl) (by rfl) h⟩
theorem ext_of_plan {o x : List Nat} (h : PlanOk t c l (pl o x)) : o ∈ LT t c ∧ x ∈ ext c.length c.length [] := by
 obtain ⟨o', h1, h2⟩ := tr_nat h
 have e : o' = o := casts_inj h2
 subst e
 refine ⟨h1, ?_⟩
 have hl : x.length = c.length := by have := h.l2; simp only [pl] at this; rwa [casts_len] at this
 have hnd : x.Nodup := by
  have := h.nd
  simp only [pl] at this
  unfold casts at this
  exact List.Pairwise.of_map _ (fun a b h e => h (by rw [e])) this
 have hlt : ∀ y ∈ x, y < c.length := fun y hy => by
  have := h.lv (y : Int) (by simp only [pl]; exact List.mem_map.2 ⟨y, hy, rfl⟩)
  omega
 have := ext_mem (n := c.length) (o := []) (r := x) (by simpa using hnd) hlt
 rwa [List.nil_append, hl] at this
theorem find_pair {A B : Type} {TL : List A} {XL : List B} {P1 P2 : List (A × B)} {q : A × B} {Q : A × B → Prop} (h : (TL.flatMap fun o => XL.map fun x => (o, x)) = P1 ++ q :: P2) (hq : Q q) (hn : ∀ r ∈ P1, ¬ Q r) :
    (∃ T1 T2, TL = T1 ++ q.1 :: T2 ∧ ∀ o ∈ T1, ∀ x ∈ XL, ¬ Q (o, x)) ∧ ∃ X1 X2, XL = X1 ++ q.2 :: X2 ∧ ∀ x ∈ X1, ¬ Q (q.1, x) := by
  induction TL generalizing P1 with
  | nil => simp at h
  | cons o TL ih =>
    rw [List.flatMap_cons] at h
    by_cases hl : P1.length < (XL.map fun x => (o, x)).length
    · -- it stands in the first row
      have e1 : (XL.map fun x => (o, x))[P1.length]'hl = q := by
        have := congrArg (fun l => l[P1.length]?) h
        simp only [List.getElem?_append_left hl, List.getElem?_append_right (Nat.le_refl _), Nat.sub_self] at this
        rw [List.getElem?_eq_getElem hl] at this
        simpa using this
      rw [List.length_map] at hl
      have eq1 : q = (o, XL[P1.length]) := by rw [← e1]; simp
      subst eq1
      refine ⟨⟨[], TL, rfl, fun o ho => (nomatch ho)⟩, XL.take P1.length, XL.drop (P1.length + 1), ?_, fun x hx => ?_⟩
      · simp
      · obtain ⟨i, hi, rfl⟩ := List.getElem_of_mem hx
        rw [List.length_take] at hi
        have hi2 : i < P1.length := by omega
        have e2 : P1[i] = (o, XL[i]'(by omega)) := by
          have := congrArg (fun l => l[i]?) h
          simp only [List.getElem?_append_left (show i < (XL.map fun x => (o, x)).length by rw [List.length_map]; omega), List.getElem?_append_left hi2] at this
          rw [List.getElem?_eq_getElem hi2, List.getElem?_eq_getElem (by rw [List.length_map]; omega)] at this
          simpa using this.symm
        have := hn P1[i] (List.getElem_mem hi2)
        rw [e2] at this
        simpa using this
    · -- behind it
      have hle : (XL.map fun x => (o, x)).length ≤ P1.length := by omega
      have e1 : P1 = (XL.map fun x => (o, x)) ++ P1.drop (XL.map fun x => (o, x)).length := by
        have := congrArg (List.take (XL.map fun x => (o, x)).length) h
        rw [List.take_left', List.take_append_of_le_length hle] at this
        · conv => lhs; rw [← List.take_append_drop (XL.map fun x => (o, x)).length P1]
          rw [← this]
        · rfl
      have h2 : (TL.flatMap fun o => XL.map fun x => (o, x)) = P1.drop (XL.map fun x => (o, x)).length ++ q :: P2 := by
        rw [e1] at h
        rw [List.append_assoc] at h
        exact List.append_cancel_left h
      obtain ⟨⟨T1, T2, g1, g2⟩, g3⟩ := ih h2 (fun r hr => hn r (by rw [e1]; exact List.mem_append_right _ hr))
      refine ⟨⟨o :: T1, T2, by rw [g1]; rfl, fun o' ho' x hx => ?_⟩, g3⟩
      rcases List.mem_cons.1 ho' with rfl | ho'
      · exact hn _ (by rw [e1]; exact List.mem_append_left _ (List.mem_map.2 ⟨x, hx, rfl⟩))
      · exact g2 o' ho' x hx
theorem find_first {A : Type} {L L1 L2 : List A} {q : A → Bool} {x : A} (h : L = L1 ++ x :: L2) (h1 : ∀ y ∈ L1, q y = false) (hx : q x = true) : L.find? q = some x := by
 rw [h, List.find?_append]
 have : L1.find? q = none := by
  rw [List.find?_eq_none]
  intro y hy
  rw [h1 y hy]
  simp
 rw [this]
 simp [hx]
end
theorem law_nights (t : List StableTrack) (c : List StableCar) (l : List StableLeave) : g_law09_DepotNights t c l = some true := by
 unfold g_law09_DepotNights
 obtain ⟨b, hb1, hb2⟩ := few_inv t c l 4
 rw [hb1, Option.bind_some]
 cases b with
 | false => rfl
 | true =>
  obtain ⟨ht, hc, hl, h49⟩ := hb2 rfl
  simp only [Bool.not_true, cond_false]
  obtain ⟨r, hr, hN⟩ := night_is (t := t) (c := c) (l := l) (by omega) hc hl
  rw [hr, Option.bind_some, night_eq t c l (by omega) hc hl, Option.bind_some]
  have hz : g_law09_same (([], [], 0, ()) : StablePlan) (([], [], 0, ()) : StablePlan) = some true := plan_self _ (by simp) (by simp)
  cases hv : nightB t c l with
  | false =>
   cases hN with
   | arg h => simp only [Bool.not_false, cond_true]; rw [hz]; rfl
   | quiet h => rw [hv] at h; cases h
   | none h => rw [hv] at h; cases h
   | some h => rw [hv] at h; cases h
  | true =>
   have hn := night_ok hv
   have h9 := hn.c9
   simp only [Bool.not_true, cond_false]
   obtain ⟨met, a, b, n, h1, hB⟩ := refbest_tot hn (by omega)
   rw [h1, Option.bind_some]
   cases met with
   | false =>
    obtain ⟨_, _, _, hno⟩ := hB.no rfl
    simp only [Bool.not_false, cond_true]
    have hno' : ∀ p, ¬ PlanOk t c l p := fun p ho => by
     obtain ⟨o, k1, k2⟩ := tr_nat ho
     obtain ⟨x, k3, _⟩ := lv_nat ho
     have hp : PlanOk t c l (pl o x) := plan_same (p := p) k2.symm k3.symm ho
     obtain ⟨m1, m2⟩ := ext_of_plan hp
     exact hno (o, x) (List.mem_flatMap.2 ⟨o, (List.mem_filter.1 m1).1, List.mem_map.2 ⟨x, m2, rfl⟩⟩) hp
    cases hN with
    | arg h => rw [hv] at h; cases h
    | quiet h => rw [hz]; rfl
    | none h => rw [hz]; rfl
    | some h q o x m hm ho hle hx => exact absurd (night_plan hn q hm ho hx).1 (hno' _)
   | true =>
    obtain ⟨q, m, k1, k2, rfl, rfl, rfl, k6, k7, P1, P2, k8, k9⟩ := hB.yes rfl
    simp only [Bool.not_true, cond_false]
    have hq := (pl_same q.1 q.2 0).1 k2
    cases hN with
    | arg h => rw [hv] at h; cases h
    | quiet h hq' => have := k2.quiet; rw [hq'] at this; cases this
    | none h hq' n =>
     obtain ⟨o, g1, g2⟩ := tr_nat k2
     have := W_plan k2 g2
     have := pairs_lt hn (pl q.1 q.2)
     have := n o g1
     omega
    | some h hq' o x m' hm ho hle hx =>
     obtain ⟨f1, f2⟩ := night_plan hn hq' hm ho hx
     have f1' : PlanOk t c l (pl o x) := (pl_same o x m').2 f1
     have f2' : pairs t (pl o x) c.length = m' := by rw [← f2]; exact pairs_same (by rfl) (by rfl) _
     obtain ⟨m1, m2⟩ := ext_of_plan f1'
     obtain ⟨n1, n2⟩ := ext_of_plan k2
     -- as many moves
     have e : m = m' := by
      have a1 : m ≤ pairs t (pl o x) c.length := k7 (o, x) (List.mem_flatMap.2 ⟨o, (List.mem_filter.1 m1).1, List.mem_map.2 ⟨x, m2, rfl⟩⟩) f1'
      have a2 := hle q.1 n1
      have a3 := W_plan k2 (o := q.1) rfl
      omega
     subst e
     obtain ⟨⟨T1, T2, g1, g2⟩, X1, X2, g3, g4⟩ := find_pair (Q := fun r => PlanOk t c l (pl r.1 r.2) ∧ pairs t (pl r.1 r.2) c.length = m) k8 ⟨k2, k6⟩ (fun r hr hh => by
      have := k9 r hr hh.1
      omega)
     -- the same tracks
     have hW : ∀ o ∈ LT t c, W t c l o = m → ∃ x ∈ ext c.length c.length [], PlanOk t c l (pl o x) ∧ pairs t (pl o x) c.length = m := fun o' ho' hw => by
      obtain ⟨x', r', _, b2, b3, b4, b5, b6⟩ := on_plan (trOk_of hq' ho') (o := []) (by simp) (show VV t c l (casts o') [] = m from hw) hm
      have b5' : PlanOk t c l (pl o' x') := b5
      exact ⟨x', (ext_of_plan b5').2, b5', b6⟩
     have hfind : (LT t c).find? (fun o => W t c l o == m) = some q.1 := by
      refine find_first (L1 := T1.filter (fits t c)) (L2 := T2.filter (fits t c)) ?_ (fun y hy => ?_) ?_
      ·show (extT t.length c.length []).filter (fits t c) = _
       rw [g1, List.filter_append, List.filter_cons, if_pos (List.mem_filter.1 n1).2]
      ·rw [beq_eq_false_iff_ne]
       intro hw
       have hyL : y ∈ LT t c := by
        refine List.mem_filter.2 ⟨?_, (List.mem_filter.1 hy).2⟩
        rw [g1]
        exact List.mem_append_left _ (List.mem_filter.1 hy).1
       obtain ⟨x', c1, c2, c3⟩ := hW y hyL hw
       exact g2 y (List.mem_filter.1 hy).1 x' c1 ⟨c2, c3⟩
      ·rw [beq_iff_eq]
       have a2 := hle q.1 n1
       have a3 := W_plan k2 (o := q.1) rfl
       omega
     rw [hfind] at ho
     have eo : q.1 = o := Option.some.inj ho
     -- the same departures
     have hfx : (ext c.length c.length []).find? (Ph t c l (casts o) m) = some q.2 := by
      have htr := trOk_of hq' m1
      have hmin : VV t c l (casts o) [] = m := by
       have := List.find?_some hfind
       rw [eo] at this
       have this : W t c l o = m := by simpa using this
       exact this
      refine find_first g3 (fun y hy => ?_) ?_
      ·unfold Ph
       rw [beq_eq_false_iff_ne]
       intro hw
       have hyx : y ∈ ext c.length c.length [] := by rw [g3]; exact List.mem_append_left _ hy
       obtain ⟨d1, d2, d3⟩ := ext_ok hyx (fun z hz => (nomatch hz)) List.nodup_nil
       simp only [List.length_nil, Nat.zero_add] at d1
       obtain ⟨x', r', rfl, b2, b3, b4, b5, b6⟩ := on_plan htr (o := y) (by omega) hw hm
       have hr' : r' = [] := by
        rw [List.length_append] at b2
        exact List.eq_nil_of_length_eq_zero (by omega)
       subst hr'
       rw [List.append_nil] at b5 b6
       rw [eo] at g4
       exact g4 y hy ⟨b5, b6⟩
      ·unfold Ph
       rw [beq_iff_eq]
       rw [eo] at k2 k6
       exact full_val htr k2 k6 hmin
     rw [hfx] at hx
     have ex : q.2 = x := Option.some.inj hx
     rw [eo, ex]
     simp only [show ((0 : Int) == 0) = true from rfl, cond_true]
     have hl1 : (casts o).length < 4611686018427387904 := by have := f1.l1; simp only [] at this; omega
     have hl2 : (casts x).length < 4611686018427387904 := by have := f1.l2; simp only [] at this; omega
     rw [plan_self _ hl1 hl2]
     rfl
end Go.Ai.Sx
