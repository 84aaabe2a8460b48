/- The depot: plans played, and the law of moves. -/
import Derived.Test.YtpiblfbidgcjaaaM6
namespace Go.Ai.Sx

section
variable {t : List StableTrack} {c : List StableCar} {l : List StableLeave} {p : StablePlan}
def mv (p : StablePlan) (kind : Int) (i : Nat) : StableMove := (kind, (i : Int), p.1.getD i 0, ())
def playF (t : List StableTrack) (n : Nat) (p : StablePlan) (s : List StableMove) (k : Nat) : List StableMove := s ++ (asideS t n p k).map (mv p 2) ++ [mv p 3 (cf p k)]
def playS (t : List StableTrack) (n : Nat) (p : StablePlan) (k : Nat) : List StableMove := (List.range k).foldl (playF t n p) ((List.range n).map (mv p 1))

theorem playS_len (ho : PlanOk t c l p) (h9 : c.length ≤ 9) : ∀ k, k ≤ c.length → (playS t c.length p k).length ≤ 9 + k * 10
  | 0, _ => by simp [playS]; omega
  | k + 1, hk => by
    have ih := playS_len ho h9 k (by omega)
    have ha := aside_le ho h9 (k := k) (by omega)
    have e : playS t c.length p (k + 1) = playF t c.length p (playS t c.length p k) k := by
      unfold playS; rw [List.range_succ, List.foldl_append]; rfl
    rw [e]
    unfold playF
    simp only [List.length_append, List.length_map, List.length_singleton]
    omega

theorem play1_tot (ho : PlanOk t c l p) {kind : Int} {i : Nat} (hi : i < c.length) {s : List StableMove} (hs : s.length ≤ 1000) : g_depot_Play_1 kind (i : Int) s p = some (s ++ [mv p kind i]) := by
  have l1 := ho.l1
  unfold g_depot_Play_1
  rw [idx_natD 0 (by omega), Option.bind_some, appO_some (by rw [List.length_singleton]; omega)]
  rfl

theorem aside_lt (ho : PlanOk t c l p) {k i : Nat} (hk : k < c.length) (h : i ∈ asideS t c.length p k) : i < c.length ∧ onB p (cf p k) k i = true := by
  have hc := (cf_ok ho hk).1
  unfold asideS at h
  split at h
  · obtain ⟨h1, h2⟩ := List.mem_filter.1 h
    exact ⟨by have := List.mem_range.1 h1; omega, h2⟩
  · obtain ⟨h1, h2⟩ := List.mem_filter.1 (List.mem_reverse.1 h)
    obtain ⟨d, hd, rfl⟩ := List.mem_map.1 h1
    exact ⟨by have := List.mem_range.1 hd; omega, h2⟩

theorem play_tot (hn : NightOk t c l) (hv : nightB t c l = true) (ho : PlanOk t c l p) (hp2 : p.2.1.length ≤ 12) (ht : t.length ≤ 12) (hc12 : c.length ≤ 12) (hl : l.length ≤ 12) : g_depot_Play t c l p = some (playS t c.length p c.length, 0) := by
  have h9 := hn.c9
  unfold g_depot_Play
  obtain ⟨b, b1, b2⟩ := plan_tot (p := p) hn hp2
  rw [valid_eq t c l ht hc12 hl, hv, Option.bind_some]
  simp only [Bool.not_true, cond_false]
  rw [b1, Option.bind_some, b2.2 ho]
  simp only [Bool.not_true, Option.bind_some, cond_false]
  have hin : iter (σ := (Int × (List StableMove))) (τ := ((List StableMove))) (fun s24 =>
cond ((decide (s24.1 < (lenI c)))) (Option.bind (g_depot_Play_1 1 s24.1 s24.2 p) fun y30 =>
some (.inl (((w64 (s24.1 + 1)), y30)))) (some (.inr s24.2))) big ((0, [])) = some ((List.range c.length).map (mv p 1)) := by
    refine Tot.eq ?_
    refine Tot.iter (fun s => ∃ i : Nat, i ≤ c.length ∧ s = ((i : Int), (List.range i).map (mv p 1))) _ (fun s => c.length - s.1.toNat) ⟨0, by omega, rfl⟩ (by simp only [big]; omega) ?_
    rintro _ ⟨i, hi, rfl⟩
    by_cases hin : i < c.length
    · have hw1 : w64 ((i : Int) + 1) = ((i + 1 : Nat) : Int) := by rw [w64_in (by omega) (by omega)]; rfl
      simp only [show decide ((i : Int) < lenI c) = true from decide_eq_true (by simp only [lenI_eq]; omega), cond_true, hw1]
      rw [play1_tot ho hin (by simp; omega), Option.bind_some]
      refine Tot.some ⟨⟨i + 1, by omega, by rw [List.range_succ, List.map_append]; rfl⟩, by simp only [Int.toNat_natCast]; omega⟩
    · obtain rfl : i = c.length := by omega
      simp only [show decide ((c.length : Int) < lenI c) = false from decide_eq_false (by simp only [lenI_eq]; omega), cond_false]
      exact Tot.some rfl
  rw [hin, Option.bind_some]
  unfold g_depot_night_leave
  simp only [Option.bind_some]
  obtain ⟨h1, _⟩ := leave_run (τ := Unit) (F := playF t c.length p) (Inv := fun k s => s.length ≤ 9 + k * 10) (step := fun s98 x39 => Option.bind (iter (σ := (Int × (List StableMove))) (τ := ((List StableMove))) (fun s111 =>
cond ((decide (s111.1 < (lenI x39.2)))) (Option.bind (idx x39.2 s111.1) fun x117 =>
Option.bind (g_depot_Play_1 2 x117 s111.2 p) fun y118 =>
some (.inl (((w64 (s111.1 + 1)), y118)))) (some (.inr s111.2))) big ((0, s98))) fun t122 =>
Option.bind (g_depot_Play_1 3 x39.1 t122 p) fun y126 =>
some (.inl y126)) hn ho (fun s k hk hi => by
    have ha := aside_le ho h9 hk
    have hal : ∀ i ∈ asideS t c.length p k, i < c.length := fun i h => (aside_lt ho hk h).1
    refine ⟨?_, by unfold playF; simp only [List.length_append, List.length_map, List.length_singleton]; omega⟩
    generalize hA : asideS t c.length p k = A at ha hal
    have hloop : iter (σ := (Int × (List StableMove))) (τ := ((List StableMove))) (fun s111 =>
cond ((decide (s111.1 < (lenI (casts A))))) (Option.bind (idx (casts A) s111.1) fun x117 =>
Option.bind (g_depot_Play_1 2 x117 s111.2 p) fun y118 =>
some (.inl (((w64 (s111.1 + 1)), y118)))) (some (.inr s111.2))) big ((0, s)) = some (s ++ A.map (mv p 2)) := by
      refine Tot.eq ?_
      refine Tot.iter (fun q => ∃ i : Nat, i ≤ A.length ∧ q = ((i : Int), s ++ (A.take i).map (mv p 2))) _ (fun q => A.length - q.1.toNat) ⟨0, by omega, by simp⟩ (by simp only [big]; omega) ?_
      rintro _ ⟨i, hi2, rfl⟩
      by_cases hin : i < A.length
      · have hw1 : w64 ((i : Int) + 1) = ((i + 1 : Nat) : Int) := by rw [w64_in (by omega) (by omega)]; rfl
        have hix : idx (casts A) (i : Int) = some ((A[i] : Nat) : Int) := by rw [idx_nat]; simp [casts, hin]
        simp only [show decide ((i : Int) < lenI (casts A)) = true from decide_eq_true (by rw [lenI_eq, casts_len]; omega), cond_true, hw1]
        rw [hix, Option.bind_some, play1_tot ho (hal _ (List.getElem_mem hin)) (by rw [List.length_append, List.length_map, List.length_take]; omega), Option.bind_some]
        refine Tot.some ⟨⟨i + 1, by omega, ?_⟩, by simp only [Int.toNat_natCast]; omega⟩
        rw [List.take_succ_eq_append_getElem hin, List.map_append, List.append_assoc]; rfl
      · obtain rfl : i = A.length := by omega
        simp only [show decide ((A.length : Int) < lenI (casts A)) = false from decide_eq_false (by rw [lenI_eq, casts_len]; omega), cond_false]
        refine Tot.some ?_
        rw [List.take_length]
        rfl
    simp only []
    rw [hloop, Option.bind_some, play1_tot ho (cf_ok ho hk).1 (by rw [List.length_append, List.length_map]; omega), Option.bind_some]
    unfold playF
    rw [hA]) (s0 := (List.range c.length).map (mv p 1)) (by simp; omega)
  rw [h1, Option.bind_some]
  rfl

theorem dsc_succ {n i : Nat} (hi : i < n) : (List.range (n - i)).map (fun d => i + d) = i :: (List.range (n - (i + 1))).map (fun d => i + 1 + d) := by
  rw [show n - i = (n - (i + 1)) + 1 by omega, List.range_succ_eq_map, List.map_cons, List.map_map]
  congr 1
  refine List.map_congr_left fun d _ => ?_
  simp only [Function.comp]; omega

theorem ref_play_tot (hn : NightOk t c l) (ho : PlanOk t c l p) : g_ref09_Play t c p = some (playS t c.length p c.length) := by
  have h9 := hn.c9
  have l1 := ho.l1
  have l2 := ho.l2
  refine Tot.eq ?_
  unfold g_ref09_Play
  refine Tot.bind (Q := fun q => q = (List.range c.length).map (mv p 1)) ?_ ?_
  · refine Tot.iter (fun s => ∃ i : Nat, i ≤ c.length ∧ s = ((List.range i).map (mv p 1), (i : Int))) _ (fun s => c.length - s.2.toNat) ⟨0, by omega, rfl⟩ (by simp only [big]; omega) ?_
    rintro _ ⟨i, hi, rfl⟩
    by_cases hin : i < c.length
    · have hw1 : w64 ((i : Int) + 1) = ((i + 1 : Nat) : Int) := by rw [w64_in (by omega) (by omega)]; rfl
      simp only [show decide ((i : Int) < lenI c) = true from decide_eq_true (by simp only [lenI_eq]; omega), cond_true, hw1]
      rw [idx_natD 0 (by omega), Option.bind_some, appO_some (by simp; omega), Option.bind_some]
      refine Tot.some ⟨⟨i + 1, by omega, by rw [List.range_succ, List.map_append]; rfl⟩, by simp only [Int.toNat_natCast]; omega⟩
    · obtain rfl : i = c.length := by omega
      simp only [show decide ((c.length : Int) < lenI c) = false from decide_eq_false (by simp only [lenI_eq]; omega), cond_false]
      exact Tot.some rfl
  · rintro _ rfl
    rw [mkO_some (by simp only [lenI_eq]; omega), Option.bind_some]
    have e0 : List.replicate (lenI c).toNat false = rl c.length fun i => decide (lvN p i < 0) := by
      rw [lenI_eq, Int.toNat_natCast, rl_repl]
      exact rl_congr fun i hi => by simp
    rw [e0]
    refine Tot.bind (Q := fun (q : List StableMove × List Bool) => q.1 = playS t c.length p c.length) ?_ (fun q hq => Tot.some hq)
    refine Tot.iter (fun s => ∃ k : Nat, k ≤ c.length ∧ s = (playS t c.length p k, (k : Int), rl c.length fun i => decide (lvN p i < k))) _ (fun s => c.length - s.2.1.toNat) ⟨0, by omega, rfl⟩ (by simp only [big]; omega) ?_
    rintro _ ⟨k, hk, rfl⟩
    by_cases hkn : k < c.length
    · have hw1 : w64 ((k : Int) + 1) = ((k + 1 : Nat) : Int) := by rw [w64_in (by omega) (by omega)]; rfl
      obtain ⟨hc, hck⟩ := cf_ok ho hkn
      have hpl := playS_len ho h9 k hk
      have ha := aside_le ho h9 hkn
      simp only [show decide ((k : Int) < lenI c) = true from decide_eq_true (by simp only [lenI_eq]; omega), cond_true, hw1]
      -- the car that leaves
      have hcar : iter (σ := (Int)) (τ := (Int)) (fun s224 =>
Option.bind (idx p.2.1 s224) fun x226 =>
cond ((x226 != (k : Int))) (some (.inl ((w64 (s224 + 1))))) (some (.inr s224))) big 0 = some (cf p k : Int) := by
        refine Tot.eq ?_
        refine Tot.iter (fun s => ∃ i : Nat, i ≤ cf p k ∧ s = (i : Int)) _ (fun s => c.length - s.toNat) ⟨0, by omega, rfl⟩ (by simp only [big]; omega) ?_
        rintro _ ⟨i, hi, rfl⟩
        have hw2 : w64 ((i : Int) + 1) = ((i + 1 : Nat) : Int) := by rw [w64_in (by omega) (by omega)]; rfl
        rw [idx_natD 0 (by omega), Option.bind_some, hw2]
        have hi2 : i < p.2.1.length := by omega
        by_cases q : i = cf p k
        · have h3 := (lvN_lt ho hc).2
          rw [q, h3, hck, show (((k : Nat) : Int) != (k : Int)) = false by simp, cond_false]
          exact Tot.some rfl
        · have h2 := List.not_of_lt_findIdx (p := fun x => decide ((k : Int) = x)) (xs := p.2.1) (i := i) (show i < cf p k by omega)
          have h2 : ¬ (k : Int) = p.2.1[i] := by simpa using h2
          rw [show (p.2.1.getD i 0 != (k : Int)) = true by
            rw [show p.2.1.getD i 0 = p.2.1[i] by simp [List.getD, hi2]]
            exact bne_iff_ne.2 (fun e => h2 e.symm), cond_true]
          exact Tot.some ⟨⟨i + 1, by omega, rfl⟩, by simp only [Int.toNat_natCast]; omega⟩
      have htr := ho.tr (cf p k) hc
      have e1 : (rl c.length fun i => decide (lvN p i < k)).set (cf p k) true = rl c.length fun i => decide (lvN p i < k + 1) := by
        rw [rl_set]
        refine rl_congr fun i hi => ?_
        by_cases q : i = cf p k
        · rw [if_pos q, q, hck]; simp
        · rw [if_neg q]
          have : lvN p i ≠ k := fun e => q (lvN_inj ho hi hc (by rw [e, hck]))
          by_cases q2 : lvN p i < k
          · rw [decide_eq_true q2, decide_eq_true (by omega)]
          · rw [decide_eq_false q2, decide_eq_false (by omega)]
      have enext : playS t c.length p (k + 1) = playS t c.length p k ++ (asideS t c.length p k).map (mv p 2) ++ [mv p 3 (cf p k)] := by
        unfold playS; rw [List.range_succ, List.foldl_append]; rfl
      rw [hcar, Option.bind_some, idx_natD 0 (by omega), Option.bind_some, idx_getD (d := trk0) htr.1 htr.2, Option.bind_some]
      have hon : ∀ i, onB p (cf p k) k i = (decide (p.1.getD i 0 = p.1.getD (cf p k) 0) && !decide (lvN p i < k)) := fun _ => rfl
      have hmv : ∀ i, onB p (cf p k) k i = true → ((2, (i : Int), p.1.getD (cf p k) 0, ()) : StableMove) = mv p 2 i := fun i h => by
        rw [hon] at h
        simp only [Bool.and_eq_true, decide_eq_true_eq] at h
        unfold mv; rw [h.1]
      have fin : ∀ {s : List StableMove}, s = playS t c.length p k ++ (asideS t c.length p k).map (mv p 2) → Tot (StepT (fun s => ∃ k : Nat, k ≤ c.length ∧ s = (playS t c.length p k, (k : Int), rl c.length fun i => decide (lvN p i < k))) (fun (q : List StableMove × List Bool) => q.1 = playS t c.length p c.length) (fun s => c.length - s.2.1.toNat) (playS t c.length p k, (k : Int), rl c.length fun i => decide (lvN p i < k)))
          (Option.bind (appO 24 s ([((3, (cf p k : Int), p.1.getD (cf p k) 0, ()) : StableMove)])) fun x271 =>
            Option.bind (idx (rl c.length fun i => decide (lvN p i < k)) (cf p k : Int)) fun _ =>
            some (.inl ((x271, ((k + 1 : Nat) : Int), (rl c.length fun i => decide (lvN p i < k)).set (Int.toNat (cf p k : Int)) true)))) := by
        intro s hs
        subst hs
        rw [appO_some (by rw [List.length_append, List.length_map, List.length_singleton]; omega), Option.bind_some, rl_idx hc, Option.bind_some, Int.toNat_natCast, e1]
        exact Tot.some ⟨⟨k + 1, by omega, by rw [enext]; rfl⟩, by simp only [Int.toNat_natCast]; omega⟩
      have hth : thr t p (cf p k) = (t.getD (p.1.getD (cf p k) 0).toNat trk0).2.1 := rfl
      cases hb : (t.getD (p.1.getD (cf p k) 0).toNat trk0).2.1 with
      | true =>
        simp only [cond_true]
        have hS : asideS t c.length p k = (List.range (cf p k)).filter (onB p (cf p k) k) := by
          unfold asideS; rw [hth, hb, if_pos rfl]
        refine Tot.bind (Q := fun q => q = playS t c.length p k ++ (asideS t c.length p k).map (mv p 2)) ?_ (fun q hq => fin hq)
        refine Tot.iter (fun s => ∃ i : Nat, i ≤ cf p k ∧ s = (playS t c.length p k ++ ((List.range i).filter (onB p (cf p k) k)).map (mv p 2), (i : Int))) _ (fun s => cf p k - s.2.toNat) ⟨0, by omega, by simp⟩ (by simp only [big]; omega) ?_
        rintro _ ⟨i, hi, rfl⟩
        by_cases hin : i < cf p k
        · have hw2 : w64 ((i : Int) + 1) = ((i + 1 : Nat) : Int) := by rw [w64_in (by omega) (by omega)]; rfl
          have hfl := List.length_filter_le (onB p (cf p k) k) (List.range i)
          rw [List.length_range] at hfl
          have hsucc : (List.range (i + 1)).filter (onB p (cf p k) k) = (List.range i).filter (onB p (cf p k) k) ++ (if onB p (cf p k) k i then [i] else []) := by
            rw [List.range_succ, List.filter_append]
            cases h : onB p (cf p k) k i <;> simp [h]
          simp only [show decide ((i : Int) < (cf p k : Int)) = true from decide_eq_true (by omega), cond_true, hw2]
          rw [idx_natD 0 (by omega), Option.bind_some, rl_idx (by omega), Option.bind_some]
          rw [show (p.1.getD i 0 == p.1.getD (cf p k) 0) = decide (p.1.getD i 0 = p.1.getD (cf p k) 0) from rfl]
          have skip : onB p (cf p k) k i = false → Tot (StepT (fun s => ∃ i : Nat, i ≤ cf p k ∧ s = (playS t c.length p k ++ ((List.range i).filter (onB p (cf p k) k)).map (mv p 2), (i : Int))) (fun q => q = playS t c.length p k ++ (asideS t c.length p k).map (mv p 2)) (fun s => cf p k - s.2.toNat) (playS t c.length p k ++ ((List.range i).filter (onB p (cf p k) k)).map (mv p 2), (i : Int)))
              (some (.inl (playS t c.length p k ++ ((List.range i).filter (onB p (cf p k) k)).map (mv p 2), ((i + 1 : Nat) : Int)))) := fun h =>
            Tot.some ⟨⟨i + 1, by omega, by rw [hsucc, h]; simp⟩, by simp only [Int.toNat_natCast]; omega⟩
          cases h1 : decide (p.1.getD i 0 = p.1.getD (cf p k) 0) with
          | false => simp only [cond_false]; exact skip (by rw [hon, h1]; rfl)
          | true =>
            simp only [cond_true]
            cases h2 : decide (lvN p i < k) with
            | true => simp only [Bool.not_true, cond_false]; exact skip (by rw [hon, h1, h2]; rfl)
            | false =>
              have hob : onB p (cf p k) k i = true := by rw [hon, h1, h2]; rfl
              simp only [Bool.not_false, cond_true]
              rw [appO_some (by rw [List.length_append, List.length_map, List.length_singleton]; omega), Option.bind_some]
              refine Tot.some ⟨⟨i + 1, by omega, ?_⟩, by simp only [Int.toNat_natCast]; omega⟩
              rw [hsucc, hob, hmv i hob]; simp
        · obtain rfl : i = cf p k := by omega
          simp only [show decide ((cf p k : Int) < (cf p k : Int)) = false from decide_eq_false (by omega), cond_false]
          refine Tot.some ?_
          rw [hS]
          rfl
      | false =>
        simp only [cond_false]
        have hS : asideS t c.length p k = (((List.range (c.length - (cf p k + 1))).map fun d => cf p k + 1 + d).filter (onB p (cf p k) k)).reverse := by
          unfold asideS; rw [hth, hb, if_neg (by simp)]
        refine Tot.bind (Q := fun q => q = playS t c.length p k ++ (asideS t c.length p k).map (mv p 2)) ?_ (fun q hq => fin hq)
        refine Tot.iter (fun s => ∃ i : Nat, cf p k ≤ i ∧ i < c.length ∧ s = (playS t c.length p k ++ ((((List.range (c.length - (i + 1))).map fun d => i + 1 + d).filter (onB p (cf p k) k)).reverse).map (mv p 2), (i : Int))) _ (fun s => s.2.toNat) ⟨c.length - 1, by omega, by omega, ?_⟩ (by rw [lenI_eq, w64_in (by omega) (by omega)]; simp only [big]; omega) ?_
        · rw [show c.length - (c.length - 1 + 1) = 0 by omega, lenI_eq, w64_in (by omega) (by omega)]
          refine Prod.ext (by simp) ?_
          simp only
          omega
        rintro _ ⟨i, hi, hi2, rfl⟩
        by_cases hin : cf p k < i
        · have hw2 : w64 ((i : Int) - 1) = ((i - 1 : Nat) : Int) := by rw [w64_in (by omega) (by omega)]; omega
          have hfl := List.length_filter_le (onB p (cf p k) k) ((List.range (c.length - (i + 1))).map fun d => i + 1 + d)
          rw [List.length_map, List.length_range] at hfl
          have hsucc : (((List.range (c.length - (i - 1 + 1))).map fun d => i - 1 + 1 + d).filter (onB p (cf p k) k)).reverse = (((List.range (c.length - (i + 1))).map fun d => i + 1 + d).filter (onB p (cf p k) k)).reverse ++ (if onB p (cf p k) k i then [i] else []) := by
            rw [show i - 1 + 1 = i by omega, dsc_succ hi2, List.filter_cons]
            cases h : onB p (cf p k) k i <;> simp
          simp only [show decide ((i : Int) > (cf p k : Int)) = true from decide_eq_true (by omega), cond_true, hw2]
          rw [idx_natD 0 (by omega), Option.bind_some, rl_idx (by omega), Option.bind_some]
          rw [show (p.1.getD i 0 == p.1.getD (cf p k) 0) = decide (p.1.getD i 0 = p.1.getD (cf p k) 0) from rfl]
          have skip : onB p (cf p k) k i = false → Tot (StepT (fun s => ∃ i : Nat, cf p k ≤ i ∧ i < c.length ∧ s = (playS t c.length p k ++ ((((List.range (c.length - (i + 1))).map fun d => i + 1 + d).filter (onB p (cf p k) k)).reverse).map (mv p 2), (i : Int))) (fun q => q = playS t c.length p k ++ (asideS t c.length p k).map (mv p 2)) (fun s => s.2.toNat) (playS t c.length p k ++ ((((List.range (c.length - (i + 1))).map fun d => i + 1 + d).filter (onB p (cf p k) k)).reverse).map (mv p 2), (i : Int)))
              (some (.inl (playS t c.length p k ++ ((((List.range (c.length - (i + 1))).map fun d => i + 1 + d).filter (onB p (cf p k) k)).reverse).map (mv p 2), ((i - 1 : Nat) : Int)))) := fun h =>
            Tot.some ⟨⟨i - 1, by omega, by omega, by rw [hsucc, h]; simp⟩, by simp only [Int.toNat_natCast]; omega⟩
          cases h1 : decide (p.1.getD i 0 = p.1.getD (cf p k) 0) with
          | false => simp only [cond_false]; exact skip (by rw [hon, h1]; rfl)
          | true =>
            simp only [cond_true]
            cases h2 : decide (lvN p i < k) with
            | true => simp only [Bool.not_true, cond_false]; exact skip (by rw [hon, h1, h2]; rfl)
            | false =>
              have hob : onB p (cf p k) k i = true := by rw [hon, h1, h2]; rfl
              simp only [Bool.not_false, cond_true]
              rw [appO_some (by rw [List.length_append, List.length_map, List.length_reverse, List.length_singleton]; omega), Option.bind_some]
              refine Tot.some ⟨⟨i - 1, by omega, by omega, ?_⟩, by simp only [Int.toNat_natCast]; omega⟩
              rw [hsucc, hob, hmv i hob]; simp
        · obtain rfl : i = cf p k := by omega
          simp only [show decide ((cf p k : Int) > (cf p k : Int)) = false from decide_eq_false (by omega), cond_false]
          refine Tot.some ?_
          rw [hS]
          rfl
    · obtain rfl : k = c.length := by omega
      simp only [show decide ((c.length : Int) < lenI c) = false from decide_eq_false (by simp only [lenI_eq]; omega), cond_false]
      exact Tot.some rfl

theorem law_moves (t : List StableTrack) (c : List StableCar) (l : List StableLeave) (p : StablePlan) : g_law09_DepotMoves t c l p = some true := by
  unfold g_law09_DepotMoves
  by_cases hf : t.length ≤ 8 ∧ c.length ≤ 12 ∧ l.length ≤ 12 ∧ p.1.length ≤ 12 ∧ p.2.1.length ≤ 12
  · obtain ⟨ht, hc, hl, hp1, hp2⟩ := hf
    have ef : g_law09_few t c l 9 = some true := by
      unfold g_law09_few
      rw [show decide (lenI t ≤ 8) = true from decide_eq_true (by simp only [lenI_eq]; omega), show decide (lenI c ≤ 12) = true from decide_eq_true (by simp only [lenI_eq]; omega), show decide (lenI l ≤ 12) = true from decide_eq_true (by simp only [lenI_eq]; omega)]
      simp only [cond_true]
      by_cases h9 : c.length ≤ 9
      · rw [show decide (lenI c ≤ 9) = true from decide_eq_true (by simp only [lenI_eq]; omega)]; rfl
      · rw [show decide (lenI c ≤ 9) = false from decide_eq_false (by simp only [lenI_eq]; omega), show decide (lenI c > 9) = true from decide_eq_true (by simp only [lenI_eq]; omega)]; rfl
    rw [ef]
    simp only [Option.bind_some, Bool.not_true, cond_false]
    rw [show decide (lenI p.1 > 12) = false from decide_eq_false (by simp only [lenI_eq]; omega), show decide (lenI p.2.1 > 12) = false from decide_eq_false (by simp only [lenI_eq]; omega)]
    simp only [cond_false, Option.bind_some]
    have hv := valid_eq t c l (by omega) hc hl
    have hN := night_eq t c l (by omega) hc hl
    cases hb : nightB t c l with
    | false =>
      rw [hb] at hv hN
      have e1 : g_depot_Moves t c l p = some (0, false) := by unfold g_depot_Moves; rw [hv]; rfl
      have e2 : g_depot_Play t c l p = some ([], 2) := by unfold g_depot_Play; rw [hv]; rfl
      rw [e1, e2, hN]
      rfl
    | true =>
      have hn := night_ok hb
      have hv' := hv
      rw [hb] at hv hN
      obtain ⟨b, b1, b2⟩ := plan_tot (p := p) hn hp2
      obtain ⟨r, r1, r2, r3⟩ := ref_moves_tot (p := p) hn hp1 hp2
      cases b with
      | false =>
        have hno : ¬ PlanOk t c l p := fun q => by have := b2.2 q; cases this
        have e1 : g_depot_Moves t c l p = some (0, false) := by unfold g_depot_Moves; rw [hv, Option.bind_some, Bool.not_true, cond_false, b1]; rfl
        have e2 : g_depot_Play t c l p = some ([], 2) := by unfold g_depot_Play; rw [hv, Option.bind_some, Bool.not_true, cond_false, b1]; rfl
        rw [e1, e2, hN, r1, r3 hno]
        rfl
      | true =>
        have ho := b2.1 rfl
        have e1 : g_depot_Moves t c l p = some ((pairs t p c.length : Int), true) := by
          unfold g_depot_Moves; rw [hv, Option.bind_some, Bool.not_true, cond_false, b1, Option.bind_some, Bool.not_true, Option.bind_some, cond_false, moves_tot hn ho]; rfl
        rw [e1, play_tot hn hb ho hp2 (by omega) hc hl, hN, r1, r2 ho, ref_play_tot hn ho]
        have hpl := playS_len ho hn.c9 c.length (Nat.le_refl _)
        have h9 := hn.c9
        generalize playS t c.length p c.length = ms at hpl
        simp only [Option.bind_some, Bool.not_true, cond_false, bne_self_eq_false]
        rw [iter_all ms.length (fun _ => true) false (by simp only [big]; omega)]
        · rw [if_pos (by simp)]; rfl
        · intro i hi
          have hw : w64 ((i : Int) + 1) = (i : Int) + 1 := w64_in (by omega) (by omega)
          simp only [show decide ((i : Int) < lenI ms) = true from decide_eq_true (by simp only [lenI_eq]; omega), cond_true, idx_some hi, Option.bind_some, hw]
          rw [show (ms[i] != ms[i]) = false by simp]
          rfl
        · simp only [show decide ((ms.length : Int) < lenI ms) = false from decide_eq_false (by simp only [lenI_eq]; omega), cond_false]
  · have e : (Option.bind (g_law09_few t c l 9) fun y5 => cond ((!y5)) (some true) (cond ((decide ((lenI p.1) > 12))) (some true) (some ((decide ((lenI p.2.1) > 12)))))) = some true := by
      unfold g_law09_few
      by_cases h1 : t.length ≤ 8
      · by_cases h2 : c.length ≤ 12
        · by_cases h3 : l.length ≤ 12
          · have h4 : 12 < p.1.length ∨ 12 < p.2.1.length := by omega
            have e1 : ∀ y : Bool, (cond ((!y)) (some true) (cond ((decide ((lenI p.1) > 12))) (some true) (some ((decide ((lenI p.2.1) > 12)))))) = some true := by
              intro y
              cases y with
              | false => rfl
              | true =>
                simp only [Bool.not_true, cond_false]
                rcases h4 with h4 | h4
                · rw [show decide (lenI p.1 > 12) = true from decide_eq_true (by simp only [lenI_eq]; omega)]; rfl
                · rw [show decide (lenI p.2.1 > 12) = true from decide_eq_true (by simp only [lenI_eq]; omega)]
                  cases decide (lenI p.1 > 12) <;> rfl
            simp only [e1]
            cases decide (lenI t ≤ 8) <;> cases decide (lenI c ≤ 12) <;> cases decide (lenI l ≤ 12) <;> cases decide (lenI c ≤ 9) <;> rfl
          · rw [show decide (lenI l ≤ 12) = false from decide_eq_false (by simp only [lenI_eq]; omega)]
            cases decide (lenI t ≤ 8) <;> cases decide (lenI c ≤ 12) <;> rfl
        · rw [show decide (lenI c ≤ 12) = false from decide_eq_false (by simp only [lenI_eq]; omega)]
          cases decide (lenI t ≤ 8) <;> rfl
      · rw [show decide (lenI t ≤ 8) = false from decide_eq_false (by simp only [lenI_eq]; omega)]
        rfl
    rw [e]
    rfl
end
end Go.Ai.Sx
