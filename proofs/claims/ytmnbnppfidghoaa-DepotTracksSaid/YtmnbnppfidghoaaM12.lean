/- Motion: what is as defined. -/
import Derived.Test.YtmnbnppfidghoaaM11
import Derived.Test.YtmnbnppfidghoaaM8
import Derived.Test.YtmnbnppfidghoaaM7
import Derived.KernelRfl
set_option linter.unusedSimpArgs false
set_option linter.unusedVariables false
set_option linter.unusedSectionVars false
namespace Go.Ai.Sx
def inB (n a b : Int) : Bool := decide (a ≤ n) && decide (n ≤ b)
theorem inB_iff {n a b : Int} : inB n a b = true ↔ a ≤ n ∧ n ≤ b := by
 unfold inB
 rw [Bool.and_eq_true, decide_eq_true_eq, decide_eq_true_eq]
theorem within_gen (n a b : Int) : (Option.bind (cond (decide (n ≥ a)) (some (decide (n ≤ b))) (some false)) fun c2 => some c2) = some (inB n a b) := by
 unfold inB
 by_cases h : a ≤ n <;> simp [h]
theorem index_gen {A : Type} (s : List A) (hs : s.length ≤ 9223372036854775807) (f : A → Option Bool) (p : A → Bool) (hf : ∀ x ∈ s, f x = some (p x)) :
    ∃ k : Int, (Option.bind (iter (σ := (Int)) (τ := Unit ⊕ (Int)) (fun s5 =>
cond ((decide (s5 < (lenI s)))) (Option.bind (idx s s5) fun x8 =>
Option.bind (f x8) fun y9 =>
cond (y9) (some (.inr ((.inr s5)))) (some (.inl ((w64 (s5 + 1)))))) (some (.inr ((.inl (())))))) big 0) fun t11 =>
alt (fun b13 => some ((-1))) (fun b14 => some b14) t11) = some k ∧ decide (k ≥ 0) = s.any p := by
  rw [iter_search s.length (fun i : Nat => match s[i]? with | some x => if p x then some (i : Int) else none | none => none) (by simp only [big]; omega)]
  · cases h : (List.range s.length).findSome? (fun i : Nat => match s[i]? with | some x => if p x then some (i : Int) else none | none => none) with
    | none =>
      simp only [Option.bind_some, alt]
      refine ⟨-1, rfl, ?_⟩
      have : s.any p = false := by
        rw [List.any_eq_false]
        intro x hx hp
        obtain ⟨i, hi, rfl⟩ := List.getElem_of_mem hx
        rw [List.findSome?_eq_none_iff] at h
        have := h i (List.mem_range.2 hi)
        rw [List.getElem?_eq_getElem hi] at this
        simp only [hp, if_true] at this
        cases this
      rw [this]
      rfl
    | some k =>
      simp only [Option.bind_some, alt]
      refine ⟨k, rfl, ?_⟩
      obtain ⟨i, hi, h2⟩ := List.exists_of_findSome?_eq_some h
      have hi := List.mem_range.1 hi
      rw [List.getElem?_eq_getElem hi] at h2
      simp only [] at h2
      split at h2
      · rename_i hp
        cases h2
        rw [decide_eq_true (Int.natCast_nonneg i)]
        exact (List.any_eq_true.2 ⟨_, List.getElem_mem hi, hp⟩).symm
      · cases h2
  · intro i hi
    rw [decide_eq_true (show (i : Int) < lenI s by rw [lenI_eq]; omega), cond_true, idx_some hi, Option.bind_some, hf _ (List.getElem_mem hi), Option.bind_some, List.getElem?_eq_getElem hi]
    simp only []
    rw [w64_in (by omega) (by omega)]
    cases p s[i] <;> rfl
  · rw [decide_eq_false (show ¬ (s.length : Int) < lenI s by rw [lenI_eq]; omega), cond_false]
theorem iter_all0 {ρ : Type} {f : Int → Option (Int ⊕ (Unit ⊕ ρ))} {A : Type} (l : List A) (p : A → Bool) (r0 : ρ) (hN : l.length ≤ 9223372036854775807) (hf : ∀ (i : Nat) (h : i < l.length), f i = some (if p l[i] then .inl ((i : Int) + 1) else .inr (.inr r0))) (he : f l.length = some (.inr (.inl ()))) :
    iter f big 0 = some (if l.all p then .inl () else .inr r0) := by
  rw [iter_all l.length (fun i => if h : i < l.length then p l[i] else true) r0 (by simp only [big]; omega) (fun i hi => by rw [hf i hi, dif_pos hi]) he]
  congr 1
  have : ((List.range l.length).all fun i => if h : i < l.length then p l[i] else true) = l.all p := by
    rw [Bool.eq_iff_iff, List.all_eq_true, List.all_eq_true]
    constructor
    · intro h x hx
      obtain ⟨i, hi, rfl⟩ := List.getElem_of_mem hx
      have := h i (List.mem_range.2 hi)
      rwa [dif_pos hi] at this
    · intro h i hi
      have hi := List.mem_range.1 hi
      rw [dif_pos hi]
      exact h _ (List.getElem_mem hi)
  rw [this]
end Go.Ai.Sx

/- Loops, told step by step. -/
namespace Go.Ai.Sx
def Lp {σ τ : Type} (f : σ → Option (σ ⊕ τ)) (N : Nat) (s : σ) (t : τ) : Prop := iter f (N + 1) s = some t
theorem Lp.done {σ τ : Type} {f : σ → Option (σ ⊕ τ)} {N : Nat} {s : σ} {t : τ} (h : f s = some (.inr t)) : Lp f N s t := by
 unfold Lp
 simp only [iter, h]
theorem Lp.step {σ τ : Type} {f : σ → Option (σ ⊕ τ)} {N : Nat} {s s' : σ} {t : τ} (h : f s = some (.inl s')) (h2 : Lp f N s' t) : Lp f (N + 1) s t := by
 unfold Lp at *
 rw [iter, h]
 exact h2
theorem iter_mono {σ τ : Type} {f : σ → Option (σ ⊕ τ)} : ∀ {n m : Nat} {s : σ} {t : τ}, n ≤ m → iter f n s = some t → iter f m s = some t
 | 0, _, _, _, _, h => by cases h
 | n + 1, 0, _, _, hm, _ => by omega
 | n + 1, m + 1, s, t, hm, h => by
  rw [iter] at h ⊢
  cases hs : f s with
  | none => rw [hs] at h; cases h
  | some r =>
   rw [hs] at h
   cases r with
   | inl s' => exact iter_mono (n := n) (by omega) h
   | inr t' => exact h
theorem Lp.big {σ τ : Type} {f : σ → Option (σ ⊕ τ)} {N : Nat} {s : σ} {t : τ} (h : Lp f N s t) (hN : N < big) : iter f big s = some t := iter_mono (by omega) h
def foldE {A β τ : Type} (st : Nat → β → A → β ⊕ τ) (fin : β → τ) : List A → Nat → β → τ
 | [], _, b => fin b
 | a :: l, i, b => match st i b a with
  | .inl b' => foldE st fin l (i + 1) b'
  | .inr t => t
theorem iter_list {A β σ τ : Type} {f : σ → Option (σ ⊕ τ)} (l : List A) (mk : Nat → β → σ) (st : Nat → β → A → β ⊕ τ) (fin : β → τ) (I : Nat → β → Prop) (b0 : β) {s0 : σ} (hs : mk 0 b0 = s0) (hl : l.length ≤ 9223372036854775807) (h0 : I 0 b0)
    (hf : ∀ (i : Nat) (h : i < l.length) (b : β), I i b → f (mk i b) = some (match st i b l[i] with | .inl b' => .inl (mk (i + 1) b') | .inr t => .inr t) ∧ ∀ b', st i b l[i] = .inl b' → I (i + 1) b')
    (he : ∀ b, I l.length b → f (mk l.length b) = some (.inr (fin b))) : iter f big s0 = some (foldE st fin l 0 b0) := by
  subst hs
  have key : ∀ (k i : Nat) (b : β), i + k = l.length → I i b → Lp f k (mk i b) (foldE st fin (l.drop i) i b) := by
    intro k
    induction k with
    | zero =>
      intro i b hi hb
      have : i = l.length := by omega
      subst this
      rw [List.drop_length]
      exact Lp.done (he b hb)
    | succ k ih =>
      intro i b hi hb
      have hlt : i < l.length := by omega
      obtain ⟨h1, h2⟩ := hf i hlt b hb
      rw [List.drop_eq_getElem_cons hlt, foldE]
      cases hst : st i b l[i] with
      | inl b' =>
        rw [hst] at h1
        exact Lp.step h1 (ih (i + 1) b' (by omega) (h2 b' hst))
      | inr t =>
        rw [hst] at h1
        exact Lp.done h1
  have := key l.length 0 b0 (by omega) h0
  rw [List.drop_zero] at this
  exact this.big (by simp only [Sx.big]; omega)
theorem foldE_inl {A β τ : Type} (g : Nat → β → A → β) (fin : β → τ) : ∀ (l : List A) (i : Nat) (b : β), foldE (fun i b a => (.inl (g i b a) : β ⊕ τ)) fin l i b = fin ((l.zipIdx i).foldl (fun b x => g x.2 b x.1) b)
 | [], i, b => rfl
 | a :: l, i, b => by
  rw [foldE]
  exact (foldE_inl g fin l (i + 1) (g i b a)).trans (by rw [List.zipIdx_cons, List.foldl_cons])
theorem foldE_inl' {A β τ : Type} (g : β → A → β) (fin : β → τ) : ∀ (l : List A) (i : Nat) (b : β), foldE (fun _ b a => (.inl (g b a) : β ⊕ τ)) fin l i b = fin (l.foldl g b)
 | [], i, b => rfl
 | a :: l, i, b => by
  rw [foldE]
  exact (foldE_inl' g fin l (i + 1) (g b a)).trans (by rw [List.foldl_cons])
theorem lt_lenI {A : Type} {l : List A} {i : Nat} (h : i < l.length) : decide ((i : Int) < lenI l) = true := decide_eq_true (by rw [lenI_eq]; omega)
theorem nlt_lenI {A : Type} {l : List A} : decide ((l.length : Int) < lenI l) = false := decide_eq_false (by rw [lenI_eq]; omega)
theorem w64_succ {i : Nat} (h : i < 9223372036854775807) : w64 ((i : Int) + 1) = ((i + 1 : Nat) : Int) := by rw [w64_in (by omega) (by omega)]; omega
theorem iter_emb0 {σ τ : Type} {f : σ → Option (σ ⊕ τ)} (emb : Nat → σ) (N : Nat) (p : Nat → Bool) (r0 r1 : τ) {s0 : σ} (h0 : emb 0 = s0) (hN : N < big) (hf : ∀ i : Nat, i < N → f (emb i) = some (if p i then .inl (emb (i + 1)) else .inr r0)) (he : f (emb N) = some (.inr r1)) :
    iter f big s0 = some (if (List.range N).all p then r1 else r0) := by
  subst h0
  have key : ∀ k n i : Nat, i + k = N → k < n → iter f n (emb i) = some (if (List.range' i k).all p then r1 else r0) := by
    intro k
    induction k with
    | zero =>
      intro n i hi hn
      obtain ⟨n, rfl⟩ : ∃ q, n = q + 1 := ⟨n - 1, by omega⟩
      have : i = N := by omega
      subst this
      simp only [iter, he]
      simp
    | succ k ih =>
      intro n i hi hn
      obtain ⟨n, rfl⟩ : ∃ q, n = q + 1 := ⟨n - 1, by omega⟩
      simp only [iter, hf i (by omega), List.range'_succ, List.all_cons]
      cases hg : p i with
      | true =>
        simp only [if_true, Bool.true_and]
        exact ih n (i + 1) (by omega) (by omega)
      | false => rfl
  have := key N big 0 (by omega) hN
  rw [List.range_eq_range']
  exact this
end Go.Ai.Sx

/- Motion: a step, in plain numbers. -/
namespace Go.Ai.Sx
theorem mul_nn {a b A B : Int} (ha : 0 ≤ a ∧ a ≤ A) (hb : 0 ≤ b ∧ b ≤ B) : 0 ≤ a * b ∧ a * b ≤ A * B := ⟨Int.mul_nonneg ha.1 hb.1, Int.mul_le_mul ha.2 hb.2 hb.1 (by omega)⟩
theorem divO_nn {a b : Int} (ha : 0 ≤ a ∧ a ≤ 9223372036854775807) (hb : 0 < b) : divO .i64 a b = some (a / b) := by
 unfold divO
 rw [if_neg (by omega), Int.tdiv_eq_ediv_of_nonneg ha.1]
 have h1 : 0 ≤ a / b := Int.ediv_nonneg ha.1 (by omega)
 have h2 : a / b ≤ a := Int.ediv_le_self _ ha.1
 exact congrArg some (w64_in (by omega) (by omega))
end Go.Ai.Sx

/- The root that math.Sqrt begins with: in range. -/
namespace Go.Ai.Sx
open Ieee
theorem cut_even_le {n drop : Nat} (neg : Bool) : Toward.even.cut neg n drop ≤ n / (1 <<< min drop (n.log2 + 2)) + 1 ∧ n / (1 <<< min drop (n.log2 + 2)) ≤ Toward.even.cut neg n drop := by
 unfold Toward.cut
 simp only
 generalize (decide ((1 <<< min drop (n.log2 + 2)) < 2 * (n % (1 <<< min drop (n.log2 + 2)))) || (1 <<< min drop (n.log2 + 2)) == 2 * (n % (1 <<< min drop (n.log2 + 2))) && n / (1 <<< min drop (n.log2 + 2)) % 2 == 1) = b
 cases b <;> simp
theorem read_nearest {mag : Nat} {place : Int} (h0 : 0 < mag) (h1 : -1000 ≤ place + mag.log2) (h2 : place + mag.log2 ≤ 1000) :
    ∃ m e, double.read (double.nearest false mag place) = .number false m e ∧ m < 2 ^ 53 ∧ 0 < m ∧ place + mag.log2 - 52 ≤ e ∧ e ≤ place + mag.log2 - 51 := by
  obtain ⟨L, hL⟩ : ∃ L, L = place + mag.log2 := ⟨_, rfl⟩
  rw [← hL] at h1 h2 ⊢
  have hfb : double.fractionBits = 52 := rfl
  have hlp : double.leastPlace = -1074 := rfl
  have hbi : double.binade = 4503599627370496 := rfl
  have hir : double.infRung = 9218868437227405312 := rfl
  have hsw : double.signWeight = 9223372036854775808 := rfl
  have hlast : max (place + mag.log2 - (double.fractionBits : Int)) double.leastPlace = L - 52 := by
    rw [hfb, hlp, ← hL]
    omega
  have hm0 : mag ≠ 0 := by omega
  have hlo : 2 ^ mag.log2 ≤ mag := Nat.log2_self_le hm0
  have hhi : mag < 2 ^ (mag.log2 + 1) := Nat.lt_log2_self
  -- what is kept
  obtain ⟨kept, hk⟩ : ∃ k, k = Toward.even.cut false (mag <<< (place - (L - 52)).toNat) ((L - 52) - place).toNat := ⟨_, rfl⟩
  have hkb : 2 ^ 52 ≤ kept ∧ kept ≤ 2 ^ 53 := by
    have hc := cut_even_le (n := mag <<< (place - (L - 52)).toNat) (drop := ((L - 52) - place).toNat) false
    rw [← hk] at hc
    by_cases hp : place ≤ L - 52
    · have e1 : (place - (L - 52)).toNat = 0 := by omega
      have e2 : ((L - 52) - place).toNat = mag.log2 - 52 := by omega
      rw [e1, Nat.shiftLeft_zero, e2, Nat.min_eq_left (by omega), Nat.one_shiftLeft] at hc
      have hq : 52 ≤ mag.log2 := by omega
      have hlo' : 2 ^ 52 ≤ mag / 2 ^ (mag.log2 - 52) := by
        rw [Nat.le_div_iff_mul_le (Nat.two_pow_pos _), ← Nat.pow_add]
        rw [show 52 + (mag.log2 - 52) = mag.log2 by omega]
        exact hlo
      have hhi' : mag / 2 ^ (mag.log2 - 52) < 2 ^ 53 := by
        rw [Nat.div_lt_iff_lt_mul (Nat.two_pow_pos _), ← Nat.pow_add]
        rw [show 53 + (mag.log2 - 52) = mag.log2 + 1 by omega]
        exact hhi
      omega
    · have e1 : (place - (L - 52)).toNat = 52 - mag.log2 := by omega
      have e2 : ((L - 52) - place).toNat = 0 := by omega
      rw [e1, e2, Nat.zero_min, Nat.one_shiftLeft, Nat.pow_zero, Nat.div_one, Nat.shiftLeft_eq] at hc
      have hlo' : 2 ^ 52 ≤ mag * 2 ^ (52 - mag.log2) := by
        have := Nat.mul_le_mul_right (2 ^ (52 - mag.log2)) hlo
        rw [← Nat.pow_add, show mag.log2 + (52 - mag.log2) = 52 by omega] at this
        exact this
      have hhi' : mag * 2 ^ (52 - mag.log2) < 2 ^ 53 := by
        have := Nat.mul_lt_mul_of_pos_right hhi (Nat.two_pow_pos (52 - mag.log2))
        rw [← Nat.pow_add, show mag.log2 + 1 + (52 - mag.log2) = 53 by omega] at this
        exact this
      omega
  have hn : double.nearest false mag place = (L - 52 + 1074).toNat * 4503599627370496 + kept := by
    unfold Format.nearest
    rw [if_neg hm0]
    simp only [hlast]
    simp only [← hk, hlp, hbi, hir]
    unfold Format.word
    rw [if_neg (by simp), Nat.min_eq_left]
    · rw [show L - 52 - -1074 = L - 52 + 1074 by omega]
    · omega
  obtain ⟨w, hw⟩ : ∃ w, w = double.nearest false mag place := ⟨_, rfl⟩
  rw [← hw] at hn ⊢
  obtain ⟨a, ha⟩ : ∃ a, a = (L - 52 + 1074).toNat := ⟨_, rfl⟩
  rw [← ha] at hn
  have haL : (a : Int) = L + 1022 := by omega
  unfold Format.read
  simp only [hsw, hbi, hir, hlp]
  have d0 : w / 9223372036854775808 % 2 = 0 := by omega
  have d1 : w % 9223372036854775808 = w := by omega
  rw [d1, d0, if_neg (by omega), if_pos (by omega)]
  by_cases hk3 : kept = 2 ^ 53
  · refine ⟨_, _, rfl, by omega, by omega, by omega, by omega⟩
  · refine ⟨_, _, rfl, by omega, by omega, by omega, by omega⟩
theorem rootFrom_sq (n : Nat) : ∀ todo root, root * root ≤ n → Datum.rootFrom n todo root * Datum.rootFrom n todo root ≤ n
 | 0, root, h => h
 | todo + 1, root, h => by
  unfold Datum.rootFrom
  simp only
  split
  ·rename_i q; exact rootFrom_sq n todo _ q
  ·exact rootFrom_sq n todo _ h
theorem root_bits {n : Int} (h0 : 0 ≤ n) (hn : n < 2 ^ 50) : ∃ r k, FloatKind.f64.format.sqrt (FloatKind.f64.nearest n) = some r ∧ f2i r = some k ∧ 0 ≤ k ∧ k < 2 ^ 30 := by
 by_cases hz : n = 0
 ·subst hz
  exact ⟨0, 0, by decide +kernel, by decide +kernel, by omega, by omega⟩
 have hnn : FloatKind.f64.nearest n = double.nearest false n.natAbs 0 := by
  unfold FloatKind.nearest FloatKind.encode FloatKind.format Format.write
  simp only [decide_eq_false (show ¬ n < 0 by omega)]
 have hpos : 0 < n.natAbs := by omega
 have hlog : n.natAbs.log2 ≤ 49 := by
  have : n.natAbs < 2 ^ 50 := by omega
  have := (Nat.log2_lt (by omega : n.natAbs ≠ 0)).2 this
  omega
 obtain ⟨m1, e1, hr1, b1, b2, b3, b4⟩ := read_nearest (place := 0) hpos (by omega) (by omega)
 have hlm : m1.log2 ≤ 52 := by
  have := (Nat.log2_lt (by omega : m1 ≠ 0)).2 b1
  omega
 -- the root
 have hfb : double.fractionBits = 52 := rfl
 obtain ⟨mag, place, hroot, c0, c1, c2⟩ : ∃ mag place, (Datum.number false m1 e1).root (double.fractionBits + 2) = some (.number false mag place) ∧ 0 < mag ∧ -1000 ≤ place + (mag.log2 : Int) ∧ place + (mag.log2 : Int) ≤ 27 := by
  unfold Datum.root
  simp only [hfb]
  rw [if_neg (by omega), if_neg (by simp)]
  obtain ⟨more, hmore⟩ : ∃ more, more = 2 * (52 + 2) - m1.log2 + ((e1 - (2 * (52 + 2) - m1.log2 : Nat)) % 2).toNat := ⟨_, rfl⟩
  rw [← hmore]
  have hm2 : 56 ≤ more ∧ more ≤ 2 * (52 + 2) - m1.log2 + 1 := by omega
  obtain ⟨whole, hw⟩ : ∃ whole, whole = Datum.rootFrom (m1 <<< more) ((m1 <<< more).log2 / 2 + 1) 0 := ⟨_, rfl⟩
  have hsq := rootFrom_sq (m1 <<< more) ((m1 <<< more).log2 / 2 + 1) 0 (Nat.zero_le _)
  rw [← hw] at hsq ⊢
  have hb : m1 <<< more < 2 ^ 110 := by
   rw [Nat.shiftLeft_eq]
   have hm : m1 < 2 ^ (m1.log2 + 1) := Nat.lt_log2_self
   have := Nat.mul_lt_mul_of_pos_right hm (Nat.two_pow_pos more)
   rw [← Nat.pow_add] at this
   exact Nat.lt_of_lt_of_le this (Nat.pow_le_pow_right (by omega) (by omega))
  have hwb : whole < 2 ^ 55 := by
   apply Classical.byContradiction
   intro q
   have h1 : 2 ^ 55 ≤ whole := by omega
   have := Nat.mul_le_mul h1 h1
   rw [← Nat.pow_add] at this
   have h2 : (2 : Nat) ^ (55 + 55) = 2 ^ 110 := rfl
   omega
  obtain ⟨dl, hdl⟩ : ∃ dl, dl = (whole * whole != m1 <<< more).toNat := ⟨_, rfl⟩
  rw [← hdl]
  have hd1 : dl ≤ 1 := by rw [hdl]; cases (whole * whole != m1 <<< more) <;> simp
  have hp0 : 0 < 2 * whole + dl := by
   by_cases q : whole = 0
   ·have : m1 <<< more ≠ 0 := by rw [Nat.shiftLeft_eq]; have := Nat.mul_pos b2 (Nat.two_pow_pos more); omega
    have : (whole * whole != m1 <<< more) = true := by rw [q]; simp; omega
    rw [hdl, this]; simp
   ·omega
  have hl2 : (2 * whole + dl).log2 ≤ 56 := by
   have := (Nat.log2_lt (by omega : 2 * whole + dl ≠ 0)).2 (show 2 * whole + dl < 2 ^ 57 by omega)
   omega
  exact ⟨_, _, rfl, hp0, by omega, by omega⟩
 obtain ⟨m3, e3, hr3, d1, d2, d3, d4⟩ := read_nearest (place := place) c0 c1 (by omega)
 refine ⟨double.nearest false mag place, ((m3 / (1 <<< min (-e3).toNat (m3.log2 + 2)) : Nat) : Int), ?_, ?_, Int.natCast_nonneg _, ?_⟩
 ·rw [hnn]
  show ((double.read _).root (double.fractionBits + 2)).map double.write = _
  rw [hr1, hroot]
  rfl
 ·have hti : (FloatKind.f64.decode (double.nearest false mag place)).toInt .zero = some ((m3 / (1 <<< min (-e3).toNat (m3.log2 + 2)) : Nat) : Int) := by
   show (double.read _).toInt .zero = _
   rw [hr3]
   unfold Datum.toInt Datum.integral Toward.cut signed
   simp only [show e3.toNat = 0 by omega, Nat.shiftLeft_zero, Bool.toNat_false, Nat.add_zero]
   simp
  have hk : m3 / (1 <<< min (-e3).toNat (m3.log2 + 2)) ≤ m3 := Nat.div_le_self _ _
  unfold f2i
  rw [hti]
  simp only
  generalize m3 / (1 <<< min (-e3).toNat (m3.log2 + 2)) = q at hk ⊢
  rw [if_pos ⟨by show (-9223372036854775808 : Int) ≤ _; omega, by show _ ≤ (9223372036854775807 : Int); omega⟩]
 ·have hm3 : m3.log2 + 2 ≥ 24 ∨ m3 < 2 ^ 22 := by
   by_cases q : m3 < 2 ^ 22
   ·exact .inr q
   ·left
    have := (Nat.le_log2 (by omega : m3 ≠ 0)).2 (show 2 ^ 22 ≤ m3 by omega)
    omega
  have hk : m3 / (1 <<< min (-e3).toNat (m3.log2 + 2)) ≤ m3 := Nat.div_le_self _ _
  rcases hm3 with q | q
  ·have hd : 24 ≤ min (-e3).toNat (m3.log2 + 2) := by omega
   have hle : 2 ^ 24 ≤ 1 <<< min (-e3).toNat (m3.log2 + 2) := by
    rw [Nat.one_shiftLeft]
    exact Nat.pow_le_pow_right (by omega) hd
   have : m3 / (1 <<< min (-e3).toNat (m3.log2 + 2)) ≤ m3 / 2 ^ 24 := Nat.div_le_div_left hle (by omega)
   generalize m3 / (1 <<< min (-e3).toNat (m3.log2 + 2)) = q at this hk ⊢
   omega
  ·generalize m3 / (1 <<< min (-e3).toNat (m3.log2 + 2)) = q at hk ⊢
   omega
end Go.Ai.Sx

/- Tracks: roots and distances. -/
namespace Go.Ai.Sx
def IsRoot (n r : Int) : Prop := 0 ≤ r ∧ r * r ≤ n ∧ n < (r + 1) * (r + 1)
theorem sq_le {a b : Int} (ha : 0 ≤ a) (h : a ≤ b) : a * a ≤ b * b := Int.mul_le_mul h h ha (by omega)
theorem IsRoot.uniq {n r q : Int} (h1 : IsRoot n r) (h2 : IsRoot n q) : r = q := by
 rcases Int.lt_trichotomy r q with h | h | h
 ·have := sq_le (a := r + 1) (b := q) (by have := h1.1; omega) (by omega)
  have := h1.2.2
  have := h2.2.1
  omega
 ·exact h
 ·have := sq_le (a := q + 1) (b := r) (by have := h2.1; omega) (by omega)
  have := h2.2.2
  have := h1.2.1
  omega
def bsS : Nat → Int → Int → Int → Int
 | 0, lo, _, _ => lo
 | k + 1, lo, hi, n => if hi - lo > 1 then (if (lo + hi) / 2 * ((lo + hi) / 2) ≤ n then bsS k ((lo + hi) / 2) hi n else bsS k lo ((lo + hi) / 2) n) else lo
def rootS (n : Int) : Int := bsS 60 0 30000000 n
theorem bsS_root {n : Int} : ∀ (k : Nat) (lo hi : Int), 0 ≤ lo → lo < hi → hi - lo ≤ 2 ^ k → lo * lo ≤ n → n < hi * hi → IsRoot n (bsS k lo hi n)
 | 0, lo, hi, h0, h1, h2, h3, h4 => by
  have : hi = lo + 1 := by simp at h2; omega
  subst this
  exact ⟨h0, h3, h4⟩
 | k + 1, lo, hi, h0, h1, h2, h3, h4 => by
  unfold bsS
  split
  ·have : (2 : Int) ^ (k + 1) = 2 * 2 ^ k := by rw [Int.pow_succ]; omega
   split
   ·rename_i hm
    exact bsS_root k _ hi (by omega) (by omega) (by omega) hm h4
   ·rename_i hm
    exact bsS_root k lo _ h0 (by omega) (by omega) h3 (by omega)
  ·have : hi = lo + 1 := by omega
   subst this
   exact ⟨h0, h3, h4⟩
theorem rootS_ok {n : Int} (h : 0 ≤ n ∧ n < 900000000000000) : IsRoot n (rootS n) := bsS_root 60 0 30000000 (by omega) (by omega) (by decide) (by omega) (by omega)
theorem bs_loop {n : Int} (k : Nat) : ∀ (lo hi : Int), 0 ≤ lo → lo < hi → hi ≤ 30000000 → hi - lo ≤ 2 ^ k → Lp (fun s4 : Int × Int =>
cond ((decide ((w64 (s4.2 - s4.1)) > 1))) (Option.bind (divO .i64 ((w64 (s4.1 + s4.2))) 2) fun x7 =>
cond ((decide ((w64 (x7 * x7)) ≤ n))) (some (Sum.inl ((x7, s4.2)))) (some (.inl ((s4.1, x7))))) (some (.inr s4.1))) k (lo, hi) (bsS k lo hi n) := by
 induction k with
 | zero =>
  intro lo hi h0 h1 h2 h3
  have : hi = lo + 1 := by simp at h3; omega
  subst this
  refine Lp.done ?_
  simp only []
  rw [w64_in (by omega) (by omega), decide_eq_false (by omega)]
  rfl
 | succ k ih =>
  intro lo hi h0 h1 h2 h3
  have : (2 : Int) ^ (k + 1) = 2 * 2 ^ k := by rw [Int.pow_succ]; omega
  unfold bsS
  by_cases hq : hi - lo > 1
  ·rw [if_pos hq]
   have hmb : 0 ≤ (lo + hi) / 2 ∧ (lo + hi) / 2 ≤ 30000000 := by omega
   have hsq := mul_nn hmb hmb
   have e0 : w64 ((lo + hi) / 2 * ((lo + hi) / 2)) = (lo + hi) / 2 * ((lo + hi) / 2) := w64_in (by omega) (by omega)
   by_cases hm : (lo + hi) / 2 * ((lo + hi) / 2) ≤ n
   ·rw [if_pos hm]
    refine Lp.step (s' := ((lo + hi) / 2, hi)) ?_ (ih _ _ (by omega) (by omega) h2 (by omega))
    simp only []
    rw [w64_in (n := hi - lo) (by omega) (by omega), decide_eq_true hq, cond_true, w64_in (n := lo + hi) (by omega) (by omega), divO_nn (by omega) (by omega), Option.bind_some, e0, decide_eq_true hm]
    rfl
   ·rw [if_neg hm]
    refine Lp.step (s' := (lo, (lo + hi) / 2)) ?_ (ih _ _ h0 (by omega) (by omega) (by omega))
    simp only []
    rw [w64_in (n := hi - lo) (by omega) (by omega), decide_eq_true hq, cond_true, w64_in (n := lo + hi) (by omega) (by omega), divO_nn (by omega) (by omega), Option.bind_some, e0, decide_eq_false hm]
    rfl
  ·rw [if_neg hq]
   refine Lp.done ?_
   simp only []
   rw [w64_in (by omega) (by omega), decide_eq_false hq]
   rfl
theorem rroot_eq (n : Int) : g_ref01_Root n = some (rootS n) := by
 unfold g_ref01_Root
 rw [(bs_loop (n := n) 60 0 30000000 (by omega) (by omega) (by omega) (by decide)).big (by simp only [big]; omega)]
 rfl
theorem down_loop {n : Int} (h0 : 0 ≤ n) : ∀ (k : Nat), k ≤ 2000000000 → ∃ r : Int, Lp (fun s4 : Int =>
cond ((decide ((w64 (s4 * s4)) > n))) (some (Sum.inl ((w64 (s4 - 1))))) (some (.inr s4))) k (k : Int) r ∧ 0 ≤ r ∧ r ≤ k ∧ r * r ≤ n
 | 0, _ => ⟨0, Lp.done (by simp only [show w64 (((0 : Nat) : Int) * ((0 : Nat) : Int)) = 0 from rfl]; rw [decide_eq_false (by omega)]; rfl), by omega, by omega, by omega⟩
 | k + 1, hk => by
  have hb : 0 ≤ ((k + 1 : Nat) : Int) ∧ ((k + 1 : Nat) : Int) ≤ 2000000000 := by omega
  have hs := mul_nn hb hb
  have e : w64 (((k + 1 : Nat) : Int) * ((k + 1 : Nat) : Int)) = ((k + 1 : Nat) : Int) * ((k + 1 : Nat) : Int) := w64_in (by omega) (by omega)
  by_cases hm : ((k + 1 : Nat) : Int) * ((k + 1 : Nat) : Int) > n
  ·obtain ⟨r, h1, h2, h3, h4⟩ := down_loop h0 k (by omega)
   refine ⟨r, Lp.step (s' := (k : Int)) ?_ h1, h2, by omega, h4⟩
   simp only [e]
   rw [decide_eq_true hm, cond_true, w64_in (by omega) (by omega)]
   congr 2
   omega
  ·refine ⟨((k + 1 : Nat) : Int), Lp.done ?_, by omega, by omega, by omega⟩
   simp only [e]
   rw [decide_eq_false hm]; rfl
theorem up_loop {n : Int} (hn : 0 ≤ n ∧ n < 900000000000000) : ∀ (k : Nat) (x : Int), 0 ≤ x → x * x ≤ n → x + k = 30000000 → Lp (fun s10 : Int =>
cond ((decide ((w64 ((w64 (s10 + 1)) * (w64 (s10 + 1)))) ≤ n))) (some (Sum.inl ((w64 (s10 + 1))))) (some (.inr s10))) k x (rootS n)
 | 0, x, h0, h1, h2 => by
  have : x = 30000000 := by omega
  subst this
  omega
 | k + 1, x, h0, h1, h2 => by
  have e1 : w64 (x + 1) = x + 1 := w64_in (by omega) (by omega)
  have hb : 0 ≤ x + 1 ∧ x + 1 ≤ 30000001 := by omega
  have hs := mul_nn hb hb
  have e2 : w64 ((x + 1) * (x + 1)) = (x + 1) * (x + 1) := w64_in (by omega) (by omega)
  by_cases hm : (x + 1) * (x + 1) ≤ n
  ·refine Lp.step (s' := x + 1) ?_ (up_loop hn k (x + 1) (by omega) hm (by omega))
   simp only [e1, e2]
   rw [decide_eq_true hm]; rfl
  ·have : x = rootS n := IsRoot.uniq ⟨h0, h1, by omega⟩ (rootS_ok hn)
   rw [← this]
   refine Lp.done ?_
   simp only [e1, e2]
   rw [decide_eq_false hm]; rfl
theorem root_eq {n : Int} (hn : 0 ≤ n ∧ n < 900000000000000) : g_track_root n = some (rootS n) := by
 obtain ⟨r, k, h1, h2, h3, h4⟩ := root_bits hn.1 (by omega)
 unfold g_track_root
 rw [h1, Option.bind_some, h2, Option.bind_some]
 obtain ⟨q, a1, a2, a3, a4⟩ := down_loop hn.1 k.toNat (by omega)
 rw [Int.toNat_of_nonneg h3] at a1
 rw [a1.big (by simp only [big]; omega), Option.bind_some]
 have hq : q < 30000000 := by
  rcases Int.lt_or_le q 30000000 with h | h
  ·exact h
  ·have := sq_le (a := 30000000) (b := q) (by omega) h
   omega
 rw [(up_loop hn (30000000 - q).toNat q a2 a4 (by omega)).big (by simp only [big]; omega)]
 rfl
def spotB (s : Spot) : Bool := inB s.1 (-10000000) 10000000 && inB s.2.1 (-10000000) 10000000
theorem twithin (n a b : Int) : g_track_within n a b = some (inB n a b) := within_gen n a b
theorem rin1 (n a b : Int) : g_ref01_in n a b = some (inB n a b) := within_gen n a b
theorem spot_eq (s : Spot) : g_track_spot s = some (spotB s) := by
 unfold g_track_spot spotB
 rw [twithin, twithin]
 cases inB s.1 (-10000000) 10000000 <;> rfl
theorem rspot_eq (s : Spot) : g_ref01_spot s = some (spotB s) := by
 unfold g_ref01_spot spotB
 rw [rin1, rin1]
 cases inB s.1 (-10000000) 10000000 <;> rfl
def distS (a b : Spot) : Int := rootS ((a.1 - b.1) * (a.1 - b.1) + (a.2.1 - b.2.1) * (a.2.1 - b.2.1))
theorem sq_bd {x : Int} (h : -20000000 ≤ x ∧ x ≤ 20000000) : 0 ≤ x * x ∧ x * x ≤ 400000000000000 := by
 by_cases h0 : 0 ≤ x
 ·exact mul_nn (A := 20000000) (B := 20000000) ⟨h0, h.2⟩ ⟨h0, h.2⟩
 ·have := mul_nn (a := -x) (b := -x) (A := 20000000) (B := 20000000) ⟨by omega, by omega⟩ ⟨by omega, by omega⟩
  rw [Int.neg_mul_neg] at this
  exact this
theorem dist_w {a b : Spot} (ha : spotB a = true) (hb : spotB b = true) : w64 (w64 (w64 (a.1 - b.1) * w64 (a.1 - b.1)) + w64 (w64 (a.2.1 - b.2.1) * w64 (a.2.1 - b.2.1))) = (a.1 - b.1) * (a.1 - b.1) + (a.2.1 - b.2.1) * (a.2.1 - b.2.1) ∧ 0 ≤ (a.1 - b.1) * (a.1 - b.1) + (a.2.1 - b.2.1) * (a.2.1 - b.2.1) ∧ (a.1 - b.1) * (a.1 - b.1) + (a.2.1 - b.2.1) * (a.2.1 - b.2.1) ≤ 800000000000000 := by
 unfold spotB at ha hb
 simp only [Bool.and_eq_true, inB_iff] at ha hb
 have h1 := sq_bd (x := a.1 - b.1) (by omega)
 have h2 := sq_bd (x := a.2.1 - b.2.1) (by omega)
 rw [w64_in (n := a.1 - b.1) (by omega) (by omega), w64_in (n := a.2.1 - b.2.1) (by omega) (by omega), w64_in (n := (a.1 - b.1) * (a.1 - b.1)) (by omega) (by omega), w64_in (n := (a.2.1 - b.2.1) * (a.2.1 - b.2.1)) (by omega) (by omega), w64_in (by omega) (by omega)]
 exact ⟨rfl, by omega, by omega⟩
theorem span_eq {a b : Spot} (ha : spotB a = true) (hb : spotB b = true) : g_track_span a b = some (distS a b) := by
 obtain ⟨h1, h2, h3⟩ := dist_w ha hb
 unfold g_track_span
 rw [h1, root_eq ⟨h2, by omega⟩]; rfl
theorem far_eq {a b : Spot} (ha : spotB a = true) (hb : spotB b = true) : g_ref01_Far a b = some (distS a b) := by
 obtain ⟨h1, h2, h3⟩ := dist_w ha hb
 unfold g_ref01_Far
 rw [h1, rroot_eq]; rfl
theorem dist_bd {a b : Spot} (ha : spotB a = true) (hb : spotB b = true) : 0 ≤ distS a b ∧ distS a b ≤ 30000000 := by
 obtain ⟨h1, h2, h3⟩ := dist_w ha hb
 have hr := rootS_ok (n := (a.1 - b.1) * (a.1 - b.1) + (a.2.1 - b.2.1) * (a.2.1 - b.2.1)) ⟨h2, by omega⟩
 refine ⟨hr.1, ?_⟩
 rcases Int.lt_or_le (distS a b) 30000001 with h | h
 ·omega
 ·have := sq_le (a := 30000001) (b := distS a b) (by omega) h
  have := hr.2.1
  unfold distS at *
  omega
end Go.Ai.Sx

/- Tracks: nodes, rails, lines and lengths. -/
namespace Go.Ai.Sx
def sumR (f : Nat → Int) : Nat → Nat → Int
 | _, 0 => 0
 | a, k + 1 => f a + sumR f (a + 1) k
theorem sumR_bd {f : Nat → Int} {B : Int} : ∀ (k a : Nat), (∀ i, a ≤ i → i < a + k → 0 ≤ f i ∧ f i ≤ B) → 0 ≤ sumR f a k ∧ sumR f a k ≤ B * k
 | 0, a, _ => by simp [sumR]
 | k + 1, a, h => by
  have h1 := h a (Nat.le_refl a) (by omega)
  have h2 := sumR_bd k (a + 1) (fun i hi hk => h i (by omega) (by omega))
  have : B * ((k + 1 : Nat) : Int) = B * k + B := by rw [show ((k + 1 : Nat) : Int) = (k : Int) + 1 by omega, Int.mul_add, Int.mul_one]
  unfold sumR
  omega
theorem sumR_congr {f g : Nat → Int} : ∀ (k a : Nat), (∀ i, a ≤ i → i < a + k → f i = g i) → sumR f a k = sumR g a k
 | 0, _, _ => rfl
 | k + 1, a, h => by
  unfold sumR
  rw [h a (Nat.le_refl a) (by omega), sumR_congr k (a + 1) (fun i hi hk => h i (by omega) (by omega))]
theorem sum_loop {F : Int × Int → Option ((Int × Int) ⊕ Int)} {f : Nat → Int} {B : Int} {N : Nat} (hB : 0 ≤ B) (hN : N < 1000000) (hBN : B * 1000000 ≤ 4611686018427387904) (hf : ∀ i : Nat, i < N → 0 ≤ f i ∧ f i ≤ B) :
    ∀ (k a : Nat) (s : Int), a + k = N → 0 ≤ s → s ≤ B * a → (∀ (i : Nat) (s : Int), a ≤ i → i < N → F (s, (i : Int)) = some (.inl (w64 (s + f i), w64 ((i : Int) + 1)))) → (∀ s, F (s, (N : Int)) = some (.inr s)) → Lp F k (s, (a : Int)) (s + sumR f a k)
  | 0, a, s, ha, h0, h1, _, he => by
    have : a = N := by omega
    subst this
    unfold sumR
    rw [Int.add_zero]
    exact Lp.done (he s)
  | k + 1, a, s, ha, h0, h1, hF, he => by
    have h2 := hf a (by omega)
    have h3 : B * ((a + 1 : Nat) : Int) = B * a + B := by rw [show ((a + 1 : Nat) : Int) = (a : Int) + 1 by omega, Int.mul_add, Int.mul_one]
    have h4 : B * ((a + 1 : Nat) : Int) ≤ B * 1000000 := Int.mul_le_mul_of_nonneg_left (by omega) hB
    unfold sumR
    rw [← Int.add_assoc]
    refine Lp.step (s' := (s + f a, ((a + 1 : Nat) : Int))) ?_ (sum_loop hB hN hBN hf k (a + 1) _ (by omega) (by omega) (by omega) (fun i s hi hk => hF i s (by omega) hk) he)
    rw [hF a s (Nat.le_refl a) (by omega), w64_in (by omega) (by omega), w64_succ (by omega)]
def N0 : ANode := ((0, 0, ()), 0, [], 0, ())
def S0 : Spot := (0, 0, ())
def endsN (k : Int) : Int := if k = 1 then 1 else if k = 2 then 2 else if k = 3 then 4 else if k = 4 ∨ k = 5 ∨ k = 6 then 3 else 0
def nodeB (n : ANode) : Bool := spotB n.1 && (endsN n.2.1 != 0) && (lenI n.2.2.1 == endsN n.2.1) && (if n.2.1 = 5 ∨ n.2.1 = 6 then inB n.2.2.2.1 1 2 else n.2.2.2.1 == 0)
theorem kinds {k : Int} (h1 : ¬ k < 1) (h2 : ¬ k > 6) : k = 1 ∨ k = 2 ∨ k = 3 ∨ k = 4 ∨ k = 5 ∨ k = 6 := by omega
theorem endsN_out {k : Int} (h : k < 1 ∨ k > 6) : endsN k = 0 := by
 unfold endsN
 rw [if_neg (by omega), if_neg (by omega), if_neg (by omega), if_neg (by omega)]
theorem node_eq (n : ANode) : g_track_node n = some (nodeB n) := by
 unfold g_track_node nodeB
 by_cases h1 : n.2.1 < 1
 ·rw [decide_eq_true h1, endsN_out (.inl h1)]; simp
 by_cases h2 : n.2.1 > 6
 ·rw [decide_eq_false h1, decide_eq_true h2, endsN_out (.inr h2)]; simp
 rw [decide_eq_false h1, decide_eq_false h2, spot_eq]
 simp only [cond_false, Option.bind_some]
 cases spotB n.1 with
 | false => rfl
 | true =>
  simp only [Bool.not_true, cond_false, g_track_sizes, Option.bind_some, twithin, Bool.true_and]
  have hi : idx (List.replicate 1 0 ++ [1, 2, 4, 3, 3, 3]) n.2.1 = some (endsN n.2.1) ∧ (endsN n.2.1 != 0) = true := by
   rcases kinds h1 h2 with h | h | h | h | h | h <;> rw [h] <;> exact ⟨rfl, rfl⟩
  rw [hi.1, hi.2, Option.bind_some]
  have hc : (cond (n.2.1 == 5) (some true) (some (n.2.1 == 6)) : Option Bool) = some (decide (n.2.1 = 5 ∨ n.2.1 = 6)) := by
   by_cases h5 : n.2.1 = 5
   ·rw [h5]; rfl
   ·by_cases h6 : n.2.1 = 6
    ·rw [h6]; rfl
    ·have e5 : (n.2.1 == 5) = false := by simpa using h5
     have e6 : (n.2.1 == 6) = false := by simpa using h6
     rw [e5, e6, decide_eq_false (by omega)]; rfl
  rw [hc]
  by_cases hl : lenI n.2.2.1 = endsN n.2.1
  ·have e1 : (lenI n.2.2.1 != endsN n.2.1) = false := by rw [bne_eq_false_iff_eq]; exact hl
   have e2 : (lenI n.2.2.1 == endsN n.2.1) = true := by rw [beq_iff_eq]; exact hl
   rw [e1, e2]
   simp only [cond_false, Option.bind_some, Bool.true_and]
   by_cases h : n.2.1 = 5 ∨ n.2.1 = 6
   ·rw [decide_eq_true h, if_pos h]; rfl
   ·rw [decide_eq_false h, if_neg h]; rfl
  ·have e1 : (lenI n.2.2.1 != endsN n.2.1) = true := by rw [bne_iff_ne]; exact hl
   have e2 : (lenI n.2.2.1 == endsN n.2.1) = false := by simpa using hl
   rw [e1, e2]; rfl
theorem rends_eq (k : Int) : g_ref01_ends k = some (endsN k) := by
 unfold g_ref01_ends endsN
 by_cases h1 : k = 1
 ·rw [h1]; rfl
 by_cases h2 : k = 2
 ·rw [h2]; rfl
 by_cases h3 : k = 3
 ·rw [h3]; rfl
 by_cases h4 : k = 4
 ·rw [h4]; rfl
 by_cases h5 : k = 5
 ·rw [h5]; rfl
 by_cases h6 : k = 6
 ·rw [h6]; rfl
 rw [if_neg h1, if_neg h2, if_neg h3, if_neg (by omega)]
 have e1 : (k == 1) = false := by simpa using h1
 have e2 : (k == 2) = false := by simpa using h2
 have e3 : (k == 3) = false := by simpa using h3
 have e4 : (k == 4) = false := by simpa using h4
 have e5 : (k == 5) = false := by simpa using h5
 have e6 : (k == 6) = false := by simpa using h6
 rw [e1, e2, e3, e4, e5, e6]; rfl
def nd (p : Plan) (i : Int) : ANode := p.1.getD i.toNat N0
def lineS (p : Plan) (r : Rail) : List Spot := [(nd p r.1).1] ++ r.2.2.1 ++ [(nd p r.2.1).1]
theorem lineS_len (p : Plan) (r : Rail) : (lineS p r).length = r.2.2.1.length + 2 := by unfold lineS; simp
theorem idx3_0 {A : Type} (a b c : A) : idx [a, b, c] 0 = some a := rfl
theorem idx3_1 {A : Type} (a b c : A) : idx [a, b, c] 1 = some b := rfl
theorem idx3_2 {A : Type} (a b c : A) : idx [a, b, c] 2 = some c := rfl
theorem len3 {A : Type} (a b c : A) : lenI [a, b, c] = 3 := rfl
theorem concat3 {a b : Spot} {s : List Spot} (hs : s.length ≤ 30) : g_slices_Concat_api_Spot_api_Spot [[a], s, [b]] = some ([a] ++ s ++ [b]) := by
  unfold g_slices_Concat_api_Spot_api_Spot
  have h1 : Lp (fun s4 : Int × Int =>
cond ((decide (s4.2 < (lenI [[a], s, [b]])))) (Option.bind (idx [[a], s, [b]] s4.2) fun x7 =>
cond ((decide ((w64 (s4.1 + (lenI x7))) < 0))) (none) (some (Sum.inl (((w64 (s4.1 + (lenI x7))), (w64 (s4.2 + 1))))))) (some (.inr s4.1))) 3 (0, 0) ((s.length : Int) + 2) := by
    refine Lp.step (s' := (1, 1)) rfl (Lp.step (s' := (1 + (s.length : Int), 2)) ?_ (Lp.step (s' := ((s.length : Int) + 2, 3)) ?_ (Lp.done rfl)))
    · show cond (decide (w64 (1 + lenI s) < 0)) _ _ = _
      rw [lenI_eq, w64_in (by omega) (by omega), decide_eq_false (by omega)]
      rfl
    · show cond (decide (w64 (1 + (s.length : Int) + 1) < 0)) _ (some (Sum.inl (w64 (1 + (s.length : Int) + 1), _))) = _
      rw [w64_in (by omega) (by omega), decide_eq_false (by omega), show (1 : Int) + s.length + 1 = s.length + 2 by omega]
      rfl
  rw [h1.big (by simp only [big]; omega), Option.bind_some]
  have hg : g_slices_Grow_api_Spot_api_Spot ((s.length : Int) + 2) = some [] := by
    unfold g_slices_Grow_api_Spot_api_Spot
    rw [show w64 ((0 : Int) - 0) = 0 from rfl, Int.sub_zero, w64_in (by omega) (by omega), decide_eq_false (by omega), decide_eq_true (by omega)]
    simp only [cond_false, cond_true]
    unfold appzO
    rw [if_pos (by omega), Option.bind_some]
    unfold slz
    have : (List.replicate ((s.length : Int) + 2).toNat ((0, 0, ()) : Spot)).isEmpty = false := by
      rw [List.isEmpty_eq_false_iff]
      intro e
      have := congrArg List.length e
      simp at this
      omega
    rw [this]; rfl
  rw [hg, Option.bind_some]
  have h2 : Lp (fun s17 : List Spot × Int =>
cond ((decide (s17.2 < (lenI [[a], s, [b]])))) (Option.bind (idx [[a], s, [b]] s17.2) fun x20 =>
Option.bind (appO 16 s17.1 x20) fun x21 =>
some (Sum.inl ((x21, (w64 (s17.2 + 1)))))) (some (.inr s17.1))) 3 ([], 0) ([a] ++ s ++ [b]) := by
    refine Lp.step (s' := ([a], 1)) ?_ (Lp.step (s' := ([a] ++ s, 2)) ?_ (Lp.step (s' := ([a] ++ s ++ [b], 3)) ?_ (Lp.done rfl)))
    · simp only [len3, decide_eq_true (show (0 : Int) < 3 by omega), cond_true, idx3_0, Option.bind_some]
      rw [appO_some (by simp)]; rfl
    · simp only [len3, decide_eq_true (show (1 : Int) < 3 by omega), cond_true, idx3_1, Option.bind_some]
      rw [appO_some (by simp; omega)]; rfl
    · simp only [len3, decide_eq_true (show (2 : Int) < 3 by omega), cond_true, idx3_2, Option.bind_some]
      rw [appO_some (by simp; omega)]; rfl
  rw [h2.big (by simp only [big]; omega)]; rfl
structure RIx (p : Plan) (r : Rail) : Prop where
 f : 0 ≤ r.1 ∧ r.1 < p.1.length
 t : 0 ≤ r.2.1 ∧ r.2.1 < p.1.length
 s : r.2.2.1.length ≤ 30
theorem line_eq {p : Plan} {r : Rail} (h : RIx p r) : g_track_line p r = some (lineS p r) := by
 unfold g_track_line
 rw [idx_getD (d := N0) h.f.1 h.f.2, Option.bind_some, idx_getD (d := N0) h.t.1 h.t.2, Option.bind_some, concat3 h.s]
 rfl
def rl0 (p : Plan) (i : Int) : Rail := p.2.1.getD i.toNat (0, 0, [], 0, 0, ())
theorem rline_eq {p : Plan} {i : Int} (hi : 0 ≤ i ∧ i < p.2.1.length) (h : RIx p (rl0 p i)) : g_ref01_Line p i = some (lineS p (rl0 p i)) := by
 unfold g_ref01_Line
 have hs := h.s
 rw [idx_getD (d := (0, 0, [], 0, 0, ())) hi.1 hi.2, Option.bind_some]
 show Option.bind (idx p.1 (rl0 p i).1) _ = _
 rw [idx_getD (d := N0) h.f.1 h.f.2, Option.bind_some]
 show Option.bind (appO 16 [(nd p (rl0 p i).1).1] (rl0 p i).2.2.1) _ = _
 rw [appO_some (by simp; omega), Option.bind_some]
 show Option.bind (idx p.1 (rl0 p i).2.1) _ = _
 rw [idx_getD (d := N0) h.t.1 h.t.2, Option.bind_some]
 rw [appO_some (by simp; omega)]
 rfl
def segS (l : List Spot) (i : Nat) : Int := distS (l.getD (i - 1) S0) (l.getD i S0)
def lenS (l : List Spot) : Int := sumR (segS l) 1 (l.length - 1)
theorem getD_spot {l : List Spot} (h : l.all spotB = true) {i : Nat} (hi : i < l.length) : spotB (l.getD i S0) = true := by
 have : l.getD i S0 = l[i] := by simp [List.getD, hi]
 rw [this]
 exact List.all_eq_true.1 h _ (List.getElem_mem hi)
theorem len_loop {l : List Spot} (h : l.all spotB = true) (hl : 1 ≤ l.length ∧ l.length ≤ 40) {sp : Spot → Spot → Option Int} (hsp : ∀ a b, spotB a = true → spotB b = true → sp a b = some (distS a b)) : iter (σ := (Int × Int)) (τ := (Int)) (fun s69 =>
cond ((decide (s69.2 < (lenI l)))) (Option.bind (idx l ((w64 (s69.2 - 1)))) fun x75 =>
Option.bind (idx l s69.2) fun x76 =>
Option.bind (sp x75 x76) fun y77 =>
some (.inl (((w64 (s69.1 + y77)), (w64 (s69.2 + 1)))))) (some (.inr s69.1))) big ((0, 1)) = some (lenS l) := by
  have hL := sum_loop (B := 30000000) (N := l.length) (f := fun i => if 1 ≤ i then segS l i else 0) (F := fun s69 : Int × Int =>
cond ((decide (s69.2 < (lenI l)))) (Option.bind (idx l ((w64 (s69.2 - 1)))) fun x75 =>
Option.bind (idx l s69.2) fun x76 =>
Option.bind (sp x75 x76) fun y77 =>
some (.inl (((w64 (s69.1 + y77)), (w64 (s69.2 + 1)))))) (some (.inr s69.1))) (by omega) (by omega) (by omega) (fun i hi => by
      split
      · exact dist_bd (getD_spot h (by omega)) (getD_spot h hi)
      · omega) (l.length - 1) 1 0 (by omega) (by omega) (by omega) (fun i s hi hk => by
      rw [if_pos hi]
      simp only []
      rw [lt_lenI hk, cond_true, w64_in (n := (i : Int) - 1) (by omega) (by omega), show (i : Int) - 1 = ((i - 1 : Nat) : Int) by omega, idx_natD S0 (by omega), Option.bind_some, idx_natD S0 hk, Option.bind_some, hsp _ _ (getD_spot h (by omega)) (getD_spot h hk)]
      rfl) (fun s => by simp only [nlt_lenI, cond_false])
  rw [show ((1 : Nat) : Int) = 1 from rfl, Int.zero_add] at hL
  rw [hL.big (by simp only [big]; omega)]
  unfold lenS
  rw [sumR_congr _ _ (fun i hi _ => if_pos hi)]
theorem rlength_eq {p : Plan} {i : Int} (hi : 0 ≤ i ∧ i < p.2.1.length) (h : RIx p (rl0 p i)) (hs : (lineS p (rl0 p i)).all spotB = true) : g_ref01_Length p i = some (lenS (lineS p (rl0 p i))) := by
 unfold g_ref01_Length
 rw [rline_eq hi h, Option.bind_some, len_loop hs (by rw [lineS_len]; have := h.s; omega) (sp := fun a b => g_ref01_Far a b) (fun a b => far_eq)]
 rfl
end Go.Ai.Sx

/- Tracks: which plans are valid. -/
namespace Go.Ai.Sx
def segB (l : List Spot) (i : Nat) : Bool := inB (segS l i) 1 1000000
def segOk (l : List Spot) : Bool := (List.range (l.length - 1)).all fun i => segB l (i + 1)
def railH (p : Plan) (r : Rail) : Bool := inB r.1 0 (p.1.length - 1) && (inB r.2.1 0 (p.1.length - 1) && (!decide (lenI r.2.2.1 > 30) && (inB r.2.2.2.1 1 50000 && inB r.2.2.2.2.1 (-120) 120)))
def railB (p : Plan) (r : Rail) : Bool := railH p r && ((lineS p r).all spotB && segOk (lineS p r))
theorem railH_ix {p : Plan} {r : Rail} (h : railH p r = true) : RIx p r := by
 unfold railH at h
 simp only [Bool.and_eq_true, inB_iff, Bool.not_eq_true', decide_eq_false_iff_not] at h
 obtain ⟨a, b, c, _⟩ := h
 rw [lenI_eq] at c
 exact ⟨by omega, by omega, by omega⟩
theorem wnodes {p : Plan} (h : 1 ≤ p.1.length ∧ p.1.length ≤ 300) : w64 (lenI p.1 - 1) = p.1.length - 1 := by rw [lenI_eq, w64_in (by omega) (by omega)]
def prB (l : List Spot) (i : Nat) : Bool := spotB (l.getD i S0) && (decide (i = 0) || segB l i)
theorem prB_all (l : List Spot) (h : 1 ≤ l.length) : (List.range l.length).all (prB l) = (l.all spotB && segOk l) := by
 rw [Bool.eq_iff_iff, Bool.and_eq_true]
 unfold prB segOk
 simp only [List.all_eq_true, List.mem_range, Bool.and_eq_true, Bool.or_eq_true, decide_eq_true_eq]
 constructor
 ·intro hh
  refine ⟨fun x hx => ?_, fun i hi => ?_⟩
  ·obtain ⟨i, hi, rfl⟩ := List.getElem_of_mem hx
   have := (hh i hi).1
   simpa [List.getD, hi] using this
  ·rcases (hh (i + 1) (by omega)).2 with q | q
   ·omega
   ·exact q
 ·rintro ⟨h1, h2⟩ i hi
  refine ⟨?_, ?_⟩
  ·have : l.getD i S0 = l[i] := by simp [List.getD, hi]
   rw [this]
   exact h1 _ (List.getElem_mem hi)
  ·by_cases h0 : i = 0
   ·exact .inl h0
   ·right
    have := h2 (i - 1) (by omega)
    rwa [show i - 1 + 1 = i by omega] at this
theorem rail_loop {l : List Spot} (hl : l.length ≤ 40) : ∀ (k i : Nat), i + k = l.length → (∀ j, j < i → spotB (l.getD j S0) = true) → Lp (fun s45 : Int =>
cond ((decide (s45 < (lenI l)))) (Option.bind (idx l s45) fun x48 =>
Option.bind (g_track_spot x48) fun y62 =>
cond ((!y62)) (some (Sum.inr ((Sum.inr false : Unit ⊕ Bool)))) (cond ((decide (s45 > 0))) (Option.bind (idx l ((w64 (s45 - 1)))) fun x66 =>
Option.bind (g_track_span x66 x48) fun y67 =>
Option.bind (g_track_within y67 1 1000000) fun y68 =>
cond ((!y68)) (some (.inr ((.inr false)))) (some (.inl ((w64 (s45 + 1)))))) (some (.inl ((w64 (s45 + 1))))))) (some (.inr ((.inl (())))))) k (i : Int) (if (List.range' i k).all (prB l) then .inl () else .inr false)
  | 0, i, hi, _ => by
    have : i = l.length := by omega
    subst this
    exact Lp.done (by simp only [nlt_lenI, cond_false]; rfl)
  | k + 1, i, hi, hj => by
    have hlt : i < l.length := by omega
    have e1 := lt_lenI hlt
    rw [List.range'_succ, List.all_cons]
    cases hs : spotB (l.getD i S0) with
    | false =>
      have : prB l i = false := by unfold prB; rw [hs]; rfl
      rw [this]
      refine Lp.done ?_
      simp only [e1, cond_true, idx_natD S0 hlt, Option.bind_some, spot_eq, hs, Bool.not_false]
      rfl
    | true =>
      have hj' : ∀ j, j < i + 1 → spotB (l.getD j S0) = true := fun j h => by
        by_cases e : j = i
        · rw [e]; exact hs
        · exact hj j (by omega)
      have ih := rail_loop hl k (i + 1) (by omega) hj'
      by_cases h0 : i = 0
      · subst h0
        have : prB l 0 = true := by unfold prB; rw [hs]; rfl
        rw [this, Bool.true_and]
        refine Lp.step (s' := ((0 + 1 : Nat) : Int)) ?_ ih
        simp only [e1, cond_true, idx_natD S0 hlt, Option.bind_some, spot_eq, hs, Bool.not_true, cond_false]
        rfl
      · have e2 : decide ((i : Int) > 0) = true := decide_eq_true (by omega)
        have hsp := span_eq (hj (i - 1) (by omega)) hs
        have hp : prB l i = segB l i := by unfold prB; rw [hs, decide_eq_false h0]; rfl
        rw [hp]
        have hf : ∀ X : Option (Int ⊕ (Unit ⊕ Bool)), (cond ((decide ((i : Int) < (lenI l)))) (Option.bind (idx l (i : Int)) fun x48 =>
Option.bind (g_track_spot x48) fun y62 =>
cond ((!y62)) (some (Sum.inr ((Sum.inr false : Unit ⊕ Bool)))) (cond ((decide ((i : Int) > 0))) (Option.bind (idx l ((w64 ((i : Int) - 1)))) fun x66 =>
Option.bind (g_track_span x66 x48) fun y67 =>
Option.bind (g_track_within y67 1 1000000) fun y68 =>
cond ((!y68)) (some (.inr ((.inr false)))) (some (.inl ((w64 ((i : Int) + 1)))))) (some (.inl ((w64 ((i : Int) + 1))))))) X) = cond (!segB l i) (some (.inr (.inr false))) (some (.inl ((i + 1 : Nat) : Int))) := fun X => by
          rw [e1, cond_true, idx_natD S0 hlt, Option.bind_some, spot_eq, hs, Option.bind_some, e2, w64_in (n := (i : Int) - 1) (by omega) (by omega), show (i : Int) - 1 = ((i - 1 : Nat) : Int) by omega, idx_natD S0 (by omega)]
          simp only [Bool.not_true, cond_false, cond_true, Option.bind_some]
          rw [hsp, Option.bind_some, twithin, Option.bind_some, w64_succ (by omega)]
          rfl
        cases hb : segB l i with
        | false =>
          rw [Bool.false_and]
          refine Lp.done ?_
          rw [hf, hb]; rfl
        | true =>
          rw [Bool.true_and]
          refine Lp.step (s' := ((i + 1 : Nat) : Int)) ?_ ih
          rw [hf, hb]; rfl
theorem rail_eq {p : Plan} (hp : 1 ≤ p.1.length ∧ p.1.length ≤ 300) (r : Rail) : g_track_rail p r = some (railB p r) := by
 unfold g_track_rail railB
 simp only [twithin, Option.bind_some, wnodes hp]
 have hc : ∀ X Y : Option Bool, Option.bind (cond (!inB r.1 0 (p.1.length - 1)) (some true) (cond (!inB r.2.1 0 (p.1.length - 1)) (some true) (cond (decide (lenI r.2.2.1 > 30)) (some true) (cond (!inB r.2.2.2.1 1 50000) (some true) (some (!inB r.2.2.2.2.1 (-120) 120)))))) (fun c9 => cond c9 X Y) = if railH p r then Y else X := fun X Y => by
  unfold railH
  cases inB r.1 0 (p.1.length - 1) with
  | false => rfl
  | true =>
  cases inB r.2.1 0 (p.1.length - 1) with
  | false => rfl
  | true =>
  cases decide (lenI r.2.2.1 > 30) with
  | true => rfl
  | false =>
  cases inB r.2.2.2.1 1 50000 with
  | false => rfl
  | true => cases inB r.2.2.2.2.1 (-120) 120 <;> rfl
 rw [hc]
 cases hh : railH p r with
 | false => rfl
 | true =>
  have hix := railH_ix hh
  have hlen : (lineS p r).length ≤ 40 ∧ 1 ≤ (lineS p r).length := by rw [lineS_len]; have := hix.s; omega
  rw [if_pos rfl, line_eq hix, Option.bind_some]
  have hL := rail_loop hlen.1 (lineS p r).length 0 (by omega) (fun j hj => by omega)
  rw [show ((0 : Nat) : Int) = 0 from rfl] at hL
  simp only [twithin, Option.bind_some] at hL
  rw [hL.big (by simp only [big]; omega), Option.bind_some, ← List.range_eq_range', prB_all _ hlen.2]
  cases ((lineS p r).all spotB && segOk (lineS p r)) <;> rfl
theorem line_all {p : Plan} {r : Rail} (hn : p.1.all nodeB = true) (h : RIx p r) : (lineS p r).all spotB = r.2.2.1.all spotB := by
 have hsp : ∀ i : Int, 0 ≤ i → i < p.1.length → spotB (nd p i).1 = true := fun i h0 h1 => by
  have hlt : i.toNat < p.1.length := by omega
  have : nd p i = p.1[i.toNat] := by unfold nd; simp [List.getD, hlt]
  rw [this]
  have := List.all_eq_true.1 hn _ (List.getElem_mem hlt)
  unfold nodeB at this
  simp only [Bool.and_eq_true] at this
  exact this.1.1.1
 unfold lineS
 rw [List.all_append, List.all_append]
 simp only [List.all_cons, List.all_nil, Bool.and_true]
 rw [hsp _ h.f.1 h.f.2, hsp _ h.t.1 h.t.2, Bool.and_true, Bool.true_and]
theorem rsegs_eq {l : List Spot} (h : l.all spotB = true) (hl : 1 ≤ l.length ∧ l.length ≤ 40) : iter (σ := (Int)) (τ := Unit ⊕ (Bool)) (fun s283 =>
cond ((decide (s283 < (lenI l)))) (Option.bind (idx l ((w64 (s283 - 1)))) fun x290 =>
Option.bind (idx l s283) fun x291 =>
Option.bind (g_ref01_Far x290 x291) fun y292 =>
Option.bind (g_ref01_in y292 1 1000000) fun y293 =>
cond ((!y293)) (some (.inr ((.inr false)))) (some (.inl ((w64 (s283 + 1)))))) (some (.inr ((.inl (())))))) big 1 = some (if segOk l then .inl () else .inr false) := by
 unfold segOk
 rw [iter_emb0 (s0 := (1 : Int)) (fun i => ((i + 1 : Nat) : Int)) (l.length - 1) (fun i => segB l (i + 1)) (.inr false) (.inl ()) rfl (by simp only [big]; omega)]
 ·intro i hi
  have hlt : i + 1 < l.length := by omega
  rw [lt_lenI hlt, cond_true, w64_in (n := ((i + 1 : Nat) : Int) - 1) (by omega) (by omega), show ((i + 1 : Nat) : Int) - 1 = (i : Int) by omega, idx_natD S0 (by omega), Option.bind_some, idx_natD S0 hlt, Option.bind_some, far_eq (getD_spot h (by omega)) (getD_spot h hlt), Option.bind_some, rin1, Option.bind_some, w64_succ (by omega)]
  show cond (!segB l (i + 1)) _ _ = _
  cases segB l (i + 1) <;> rfl
 ·rw [show l.length - 1 + 1 = l.length by omega, nlt_lenI, cond_false]
theorem rrail_eq {p : Plan} (hp : 1 ≤ p.1.length ∧ p.1.length ≤ 300) (hn : p.1.all nodeB = true) {i : Nat} (hi : i < p.2.1.length) (hR : p.2.1.length ≤ 400) : (Option.bind (idx p.2.1 (i : Int)) fun x234 =>
Option.bind (g_ref01_in x234.1 0 ((w64 ((lenI p.1) - 1)))) fun y244 =>
cond ((!y244)) (some (Sum.inr ((Sum.inr false : Unit ⊕ Bool)))) (Option.bind (g_ref01_in x234.2.1 0 ((w64 ((lenI p.1) - 1)))) fun y247 =>
cond ((!y247)) (some (.inr ((.inr false)))) (cond ((decide ((lenI x234.2.2.1) > 30))) (some (.inr ((.inr false)))) (Option.bind (g_ref01_in x234.2.2.2.1 1 50000) fun y252 =>
cond ((!y252)) (some (.inr ((.inr false)))) (Option.bind (g_ref01_in x234.2.2.2.2.1 ((-120)) 120) fun y255 =>
cond ((!y255)) (some (.inr ((.inr false)))) (Option.bind (iter (σ := (Int)) (τ := Unit ⊕ (Bool)) (fun s261 =>
cond ((decide (s261 < (lenI x234.2.2.1)))) (Option.bind (idx x234.2.2.1 s261) fun x264 =>
Option.bind (g_ref01_spot x264) fun y265 =>
cond ((!y265)) (some (.inr ((.inr false)))) (some (.inl ((w64 (s261 + 1)))))) (some (.inr ((.inl (())))))) big 0) fun t267 =>
alt (fun b269 => Option.bind (g_ref01_Line p (i : Int)) fun y271 =>
Option.bind (iter (σ := (Int)) (τ := Unit ⊕ (Bool)) (fun s283 =>
cond ((decide (s283 < (lenI y271)))) (Option.bind (idx y271 ((w64 (s283 - 1)))) fun x290 =>
Option.bind (idx y271 s283) fun x291 =>
Option.bind (g_ref01_Far x290 x291) fun y292 =>
Option.bind (g_ref01_in y292 1 1000000) fun y293 =>
cond ((!y293)) (some (.inr ((.inr false)))) (some (.inl ((w64 (s283 + 1)))))) (some (.inr ((.inl (())))))) big 1) fun t295 =>
alt (fun b297 => some (.inl ((w64 ((i : Int) + 1))))) (fun b298 => some (.inr ((.inr b298)))) t295) (fun b270 => some (.inr ((.inr b270)))) t267)))))) = some (if railB p p.2.1[i] then .inl ((i : Int) + 1) else .inr (.inr false)) := by
 rw [idx_some hi, Option.bind_some]
 have hrl : rl0 p (i : Int) = p.2.1[i] := by unfold rl0; simp [List.getD, hi]
 rw [← hrl]
 obtain ⟨r, hr⟩ : ∃ r, r = rl0 p (i : Int) := ⟨_, rfl⟩
 rw [← hr]
 simp only [rin1, Option.bind_some, wnodes hp]
 unfold railB railH
 cases h1 : inB r.1 0 (p.1.length - 1) with
 | false => rfl
 | true =>
 cases h2 : inB r.2.1 0 (p.1.length - 1) with
 | false => rfl
 | true =>
 cases h3 : decide (lenI r.2.2.1 > 30) with
 | true => rfl
 | false =>
 cases h4 : inB r.2.2.2.1 1 50000 with
 | false => rfl
 | true =>
 cases h5 : inB r.2.2.2.2.1 (-120) 120 with
 | false => rfl
 | true =>
 have hix : RIx p r := railH_ix (by unfold railH; rw [h1, h2, h3, h4, h5]; rfl)
 have hsl := hix.s
 simp only [Bool.not_true, cond_false, Bool.not_false, Bool.true_and]
 rw [line_all hn hix, iter_all0 r.2.2.1 spotB false (by omega)]
 ·cases hs : r.2.2.1.all spotB with
  | false => rfl
  | true =>
   simp only [if_true, Option.bind_some, alt_inl, Bool.true_and]
   have hq := rsegs_eq (l := lineS p r) (by rw [line_all hn hix]; exact hs) (by rw [lineS_len]; omega)
   simp only [rin1, Option.bind_some] at hq
   rw [rline_eq (i := (i : Int)) (by omega) (by rw [← hr]; exact hix), ← hr, Option.bind_some, hq, Option.bind_some]
   cases segOk (lineS p r) with
   | false => rfl
   | true =>
    simp only [if_true, alt_inl]
    rw [w64_in (by omega) (by omega)]
 ·intro j hj
  rw [lt_lenI hj, cond_true, idx_some hj, Option.bind_some, rspot_eq, Option.bind_some, w64_in (by omega) (by omega)]
  cases spotB r.2.2.1[j] <;> rfl
 ·rw [nlt_lenI, cond_false]
end Go.Ai.Sx

/- Tracks: which plans are valid, and what is known of them. -/
namespace Go.Ai.Sx
def atS (p : Plan) (e : RailEnd) : Int := if e.2.1 then (rl0 p e.1).2.1 else (rl0 p e.1).1
theorem ending_eq {p : Plan} {e : RailEnd} (h : 0 ≤ e.1 ∧ e.1 < p.2.1.length) : g_track_ending p e = some (atS p e) ∧ g_ref01_at p e = some (atS p e) := by
 unfold g_track_ending g_ref01_at atS
 rw [idx_getD (d := (0, 0, [], 0, 0, ())) h.1 h.2]
 cases e.2.1 <;> exact ⟨rfl, rfl⟩
def eOk (p : Plan) (i : Nat) (acc : List RailEnd) (e : RailEnd) : Bool := inB e.1 0 (p.2.1.length - 1) && ((atS p e == (i : Int)) && !decide (e ∈ acc))
def scanE (p : Plan) (i : Nat) : List RailEnd → List RailEnd → Option (List RailEnd)
 | [], acc => some acc
 | e :: es, acc => if eOk p i acc e then scanE p i es (acc ++ [e]) else none
def scanN (p : Plan) : List ANode → Nat → List RailEnd → Option (List RailEnd)
 | [], _, acc => some acc
 | n :: ns, i, acc => match scanE p i n.2.2.1 acc with
  | some acc' => scanN p ns (i + 1) acc'
  | none => none
def endsB (p : Plan) : Bool := match scanN p p.1 0 [] with
 | some acc => decide ((acc.length : Int) = 2 * p.2.1.length)
 | none => false
def validB (p : Plan) : Bool := inB (lenI p.1) 1 300 && inB (lenI p.2.1) 1 400 && (p.1.all nodeB && p.2.1.all (railB p)) && endsB p
theorem scanE_len {p : Plan} {i : Nat} : ∀ {es acc acc' : List RailEnd}, scanE p i es acc = some acc' → acc' = acc ++ es
 | [], acc, acc', h => by cases h; simp
 | e :: es, acc, acc', h => by
  unfold scanE at h
  split at h
  ·rw [scanE_len h]; simp
  ·cases h
theorem mget_true {A : Type} [DecidableEq A] (acc : List A) (e : A) : (mget (acc.map fun a => (a, true)) e).getD false = decide (e ∈ acc) := by
 induction acc with
 | nil => rfl
 | cons a acc ih =>
  rw [List.map_cons, mget]
  by_cases h : e = a
  ·rw [if_pos h, h]; simp
  ·rw [if_neg h, ih]; simp [h]
theorem mset_new {A B : Type} [DecidableEq A] : ∀ (m : List (A × B)) (e : A) (v : B), mget m e = none → mset m e v = m ++ [(e, v)]
 | [], _, _, _ => rfl
 | (k, w) :: es, e, v, h => by
  rw [mget] at h
  split at h
  ·cases h
  ·rename_i hk
   rw [mset, if_neg hk, mset_new es e v h]; rfl
theorem mget_none {A : Type} [DecidableEq A] (acc : List A) (e : A) (h : ¬ e ∈ acc) : mget (acc.map fun a => (a, true)) e = none := by
 induction acc with
 | nil => rfl
 | cons a acc ih =>
  rw [List.mem_cons, not_or] at h
  rw [List.map_cons, mget, if_neg h.1, ih h.2]
theorem wrails {p : Plan} (h : 1 ≤ p.2.1.length ∧ p.2.1.length ≤ 400) : w64 (lenI p.2.1 - 1) = p.2.1.length - 1 := by rw [lenI_eq, w64_in (by omega) (by omega)]
def mT (acc : List RailEnd) : List (RailEnd × Bool) := acc.map fun a => (a, true)
theorem mT_snoc (acc : List RailEnd) (e : RailEnd) (h : ¬ e ∈ acc) : mset (mT acc) e true = mT (acc ++ [e]) := by
 unfold mT
 rw [mset_new _ _ _ (mget_none acc e h), List.map_append]; rfl
theorem foldE_scan {p : Plan} {i : Nat} : ∀ (es acc : List RailEnd) (k : Nat), match scanE p i es acc with
    | some acc' => foldE (fun _ acc e => if eOk p i acc e then .inl (acc ++ [e]) else .inr (.inr (2, mT acc))) (fun acc => .inl (mT acc)) es k acc = (.inl (mT acc') : List (RailEnd × Bool) ⊕ (Int × List (RailEnd × Bool)))
    | none => ∃ m, foldE (fun _ acc e => if eOk p i acc e then .inl (acc ++ [e]) else .inr (.inr (2, mT acc))) (fun acc => .inl (mT acc)) es k acc = (.inr (2, m) : List (RailEnd × Bool) ⊕ (Int × List (RailEnd × Bool)))
  | [], acc, k => rfl
  | e :: es, acc, k => by
    unfold scanE
    rw [foldE]
    cases h : eOk p i acc e with
    | true =>
      simp only [if_true]
      exact foldE_scan es (acc ++ [e]) (k + 1)
    | false =>
      simp only [Bool.false_eq_true, if_false]
      exact ⟨_, rfl⟩
theorem ends_loop {p : Plan} (hR : 1 ≤ p.2.1.length ∧ p.2.1.length ≤ 400) (i : Nat) (es acc : List RailEnd) (hes : es.length ≤ 4) :
    iter (σ := (Int × (List (RailEnd × Bool)))) (τ := ((List (RailEnd × Bool))) ⊕ (Int × (List (RailEnd × Bool)))) (fun s153 =>
cond ((decide (s153.1 < (lenI es)))) (Option.bind (idx es s153.1) fun x156 =>
Option.bind (g_track_within x156.1 0 ((w64 ((lenI p.2.1) - 1)))) fun y162 =>
cond ((!y162)) (some (.inr ((.inr ((2, s153.2)))))) (cond (((mget s153.2 x156).getD false)) (some (.inr ((.inr ((2, s153.2)))))) (Option.bind (g_track_ending p x156) fun y167 =>
cond ((y167 != (i : Int))) (some (.inr ((.inr ((2, s153.2)))))) (some (.inl (((w64 (s153.1 + 1)), (mset s153.2 x156 true)))))))) (some (.inr ((.inl s153.2))))) big ((0, mT acc)) = some (foldE (fun _ acc e => if eOk p i acc e then .inl (acc ++ [e]) else .inr (.inr (2, mT acc))) (fun acc => .inl (mT acc)) es 0 acc) := by
  rw [iter_list (s0 := ((0 : Int), mT acc)) es (fun k acc => ((k : Int), mT acc)) (fun _ acc e => if eOk p i acc e then .inl (acc ++ [e]) else .inr (.inr (2, mT acc))) (fun acc => .inl (mT acc)) (fun _ _ => True) acc rfl (by omega) trivial]
  · intro k hk acc _
    refine ⟨?_, fun _ _ => trivial⟩
    simp only []
    rw [lt_lenI hk, cond_true, idx_some hk, Option.bind_some, twithin, Option.bind_some, wrails hR]
    obtain ⟨e, he⟩ : ∃ e, e = es[k] := ⟨_, rfl⟩
    rw [← he]
    unfold eOk
    cases h1 : inB e.1 0 (p.2.1.length - 1) with
    | false => rfl
    | true =>
      have h1' := inB_iff.1 h1
      have hm : (mget (mT acc) e).getD false = decide (e ∈ acc) := (mget_true acc e).trans (decide_eq_decide.2 Iff.rfl)
      rw [hm, (ending_eq (p := p) (e := e) (by omega)).1]
      simp only [Bool.not_true, cond_false, Bool.true_and, Option.bind_some]
      by_cases h2 : e ∈ acc
      · rw [decide_eq_true h2]
        cases (atS p e == (i : Int)) <;> rfl
      · rw [decide_eq_false h2]
        simp only [cond_false, Bool.not_false, Bool.and_true, bne]
        cases h3 : (atS p e == (i : Int)) with
        | false => rfl
        | true =>
          simp only [Bool.not_true, cond_false, if_true]
          rw [mT_snoc acc e h2, w64_succ (by omega)]
  · intro acc _
    simp only []
    rw [nlt_lenI, cond_false]
theorem node_ends {n : ANode} (h : nodeB n = true) : n.2.2.1.length ≤ 4 := by
 unfold nodeB at h
 simp only [Bool.and_eq_true, beq_iff_eq] at h
 have h1 := h.1.2
 rw [lenI_eq] at h1
 have : endsN n.2.1 ≤ 4 := by
  unfold endsN
  split
  ·omega
  ·split
   ·omega
   ·split
    ·omega
    ·split <;> omega
 omega
theorem nodes_loop {p : Plan} (hN : 1 ≤ p.1.length ∧ p.1.length ≤ 300) (hR : 1 ≤ p.2.1.length ∧ p.2.1.length ≤ 400) (hn : p.1.all nodeB = true) :
    (iter (σ := (Int × (List (RailEnd × Bool)))) (τ := ((List (RailEnd × Bool))) ⊕ (Int)) (fun s120 =>
cond ((decide (s120.1 < (lenI p.1)))) (Option.bind (idx p.1 s120.1) fun x123 =>
Option.bind (iter (σ := (Int × (List (RailEnd × Bool)))) (τ := ((List (RailEnd × Bool))) ⊕ (Int × (List (RailEnd × Bool)))) (fun s153 =>
cond ((decide (s153.1 < (lenI x123.2.2.1)))) (Option.bind (idx x123.2.2.1 s153.1) fun x156 =>
Option.bind (g_track_within x156.1 0 ((w64 ((lenI p.2.1) - 1)))) fun y162 =>
cond ((!y162)) (some (.inr ((.inr ((2, s153.2)))))) (cond (((mget s153.2 x156).getD false)) (some (.inr ((.inr ((2, s153.2)))))) (Option.bind (g_track_ending p x156) fun y167 =>
cond ((y167 != s120.1)) (some (.inr ((.inr ((2, s153.2)))))) (some (.inl (((w64 (s153.1 + 1)), (mset s153.2 x156 true)))))))) (some (.inr ((.inl s153.2))))) big ((0, s120.2))) fun t169 =>
alt (fun b171 => some (.inl (((w64 (s120.1 + 1)), b171)))) (fun b172 => some (.inr ((.inr b172.1)))) t169) (some (.inr ((.inl s120.2))))) big ((0, ([] : (List (RailEnd × Bool)))))) = some (match scanN p p.1 0 [] with | some acc => .inl (mT acc) | none => .inr 2) ∧ ∀ acc, scanN p p.1 0 [] = some acc → acc.length ≤ 1200 := by
  have hfold : ∀ (ns : List ANode) (i : Nat) (acc : List RailEnd), foldE (fun i acc (n : ANode) => match scanE p i n.2.2.1 acc with | some acc' => .inl acc' | none => .inr (.inr 2)) (fun acc => .inl (mT acc)) ns i acc = (match scanN p ns i acc with | some acc => .inl (mT acc) | none => .inr 2 : List (RailEnd × Bool) ⊕ Int) := by
    intro ns
    induction ns with
    | nil => intro i acc; rfl
    | cons n ns ih =>
      intro i acc
      rw [foldE, scanN]
      cases scanE p i n.2.2.1 acc with
      | none => rfl
      | some acc' => exact ih (i + 1) acc'
  have hlen : ∀ (ns : List ANode) (i : Nat) (acc acc' : List RailEnd), ns.all nodeB = true → scanN p ns i acc = some acc' → acc'.length ≤ acc.length + 4 * ns.length := by
    intro ns
    induction ns with
    | nil => intro i acc acc' _ h; cases h; simp
    | cons n ns ih =>
      intro i acc acc' hns h
      rw [List.all_cons, Bool.and_eq_true] at hns
      rw [scanN] at h
      cases hs : scanE p i n.2.2.1 acc with
      | none => rw [hs] at h; cases h
      | some a =>
        rw [hs] at h
        have h1 := ih (i + 1) a acc' hns.2 h
        have h2 := scanE_len hs
        have h3 := node_ends hns.1
        rw [h2, List.length_append] at h1
        rw [List.length_cons]
        omega
  refine ⟨?_, fun acc h => by have := hlen p.1 0 [] acc hn h; simp only [List.length_nil] at this; omega⟩
  rw [iter_list (s0 := ((0 : Int), ([] : List (RailEnd × Bool)))) p.1 (fun k acc => ((k : Int), mT acc)) (fun i acc (n : ANode) => match scanE p i n.2.2.1 acc with | some acc' => .inl acc' | none => .inr (.inr 2)) (fun acc => .inl (mT acc)) (fun _ _ => True) [] rfl (by omega) trivial]
  · rw [hfold]
  · intro i hi acc _
    refine ⟨?_, fun _ _ => trivial⟩
    simp only []
    rw [lt_lenI hi, cond_true, idx_some hi, Option.bind_some, ends_loop hR i _ acc (node_ends (List.all_eq_true.1 hn _ (List.getElem_mem hi))), Option.bind_some]
    have := foldE_scan (p := p) (i := i) p.1[i].2.2.1 acc 0
    cases hs : scanE p i p.1[i].2.2.1 acc with
    | some acc' =>
      rw [hs] at this
      simp only at this
      rw [this, alt_inl, w64_succ (by omega)]
    | none =>
      rw [hs] at this
      obtain ⟨m, this⟩ := this
      rw [this, alt_inr]
  · intro acc _
    simp only []
    rw [nlt_lenI, cond_false]
theorem contains_node (s : List ANode) (hs : s.length ≤ 9223372036854775807) (f : ANode → Option Bool) (p : ANode → Bool) (hf : ∀ x ∈ s, f x = some (p x)) : g_slices_ContainsFunc_api_Node_api_Node s f = some (s.any p) := by
 obtain ⟨k, h1, h2⟩ := index_gen s hs f p hf
 unfold g_slices_ContainsFunc_api_Node_api_Node g_slices_IndexFunc_api_Node_api_Node
 rw [h1, Option.bind_some, h2]
theorem contains_rail (s : List Rail) (hs : s.length ≤ 9223372036854775807) (f : Rail → Option Bool) (p : Rail → Bool) (hf : ∀ x ∈ s, f x = some (p x)) : g_slices_ContainsFunc_api_Rail_api_Rail s f = some (s.any p) := by
 obtain ⟨k, h1, h2⟩ := index_gen s hs f p hf
 unfold g_slices_ContainsFunc_api_Rail_api_Rail g_slices_IndexFunc_api_Rail_api_Rail
 rw [h1, Option.bind_some, h2]
theorem any_not {A : Type} (l : List A) (p : A → Bool) : (l.any fun x => !p x) = !l.all p := by rw [List.any_eq_not_all_not]; simp
theorem tcheck_eq (p : Plan) : g_track_Check p = some (if validB p then 0 else 2) := by
 unfold g_track_Check validB
 rw [twithin, twithin]
 cases h1 : inB (lenI p.1) 1 300 with
 | false => rfl
 | true =>
 cases h2 : inB (lenI p.2.1) 1 400 with
 | false => rfl
 | true =>
 have hN := inB_iff.1 h1
 have hR := inB_iff.1 h2
 rw [lenI_eq] at hN hR
 have hN : 1 ≤ p.1.length ∧ p.1.length ≤ 300 := by omega
 have hR : 1 ≤ p.2.1.length ∧ p.2.1.length ≤ 400 := by omega
 simp only [Option.bind_some, Bool.not_true, cond_false, Bool.true_and]
 rw [contains_node p.1 (by omega) _ (fun n => !nodeB n) (fun x _ => by unfold g_track_Check_1; rw [node_eq]; rfl), any_not, contains_rail p.2.1 (by omega) _ (fun r => !railB p r) (fun x _ => by unfold g_track_Check_2; rw [rail_eq hN]; rfl), any_not]
 cases h3 : p.1.all nodeB with
 | false => rfl
 | true =>
 cases h4 : p.2.1.all (railB p) with
 | false => rfl
 | true =>
 simp only [Option.bind_some, Bool.not_true, cond_false, Bool.true_and]
 obtain ⟨n1, n2⟩ := nodes_loop hN hR h3
 rw [n1, Option.bind_some]
 unfold endsB
 cases h5 : scanN p p.1 0 [] with
 | none => rfl
 | some acc =>
  have hl := n2 acc h5
  simp only [alt_inl]
  have hm : (mT acc).length = acc.length := by unfold mT; rw [List.length_map]
  unfold lenmO
  rw [hm, if_pos (by omega), Option.bind_some, lenI_eq, w64_in (n := 2 * (p.2.1.length : Int)) (by omega) (by omega)]
  show cond ((acc.length : Int) != 2 * (p.2.1.length : Int)) (some 2) (some 0) = some (if decide ((acc.length : Int) = 2 * p.2.1.length) = true then 0 else 2)
  by_cases hq : (acc.length : Int) = 2 * p.2.1.length
  ·have : ((acc.length : Int) != 2 * (p.2.1.length : Int)) = false := by rw [bne_eq_false_iff_eq]; exact hq
   rw [this, if_pos (decide_eq_true hq)]; rfl
  ·have : ((acc.length : Int) != 2 * (p.2.1.length : Int)) = true := by rw [bne_iff_ne]; exact hq
   rw [this, if_neg (by rw [decide_eq_true_eq]; exact hq)]; rfl
end Go.Ai.Sx

/- Tracks: the reference's look at a plan. -/
namespace Go.Ai.Sx
theorem rnode_eq (n : ANode) (T : Option (Int ⊕ (Unit ⊕ Bool))) : (cond ((n.2.1 == 5)) (Option.bind (g_ref01_in n.2.2.2.1 1 2) fun y92 =>
Option.bind (g_ref01_spot n.1) fun y105 =>
cond ((!y105)) (some (.inr ((.inr false)))) (Option.bind (g_ref01_ends n.2.1) fun y108 =>
cond ((y108 == 0)) (some (.inr ((.inr false)))) (Option.bind (g_ref01_ends n.2.1) fun y111 =>
cond (((lenI n.2.2.1) != y111)) (some (.inr ((.inr false)))) (cond ((!y92)) (some (.inr ((.inr false)))) T)))) (cond ((n.2.1 == 6)) (Option.bind (g_ref01_in n.2.2.2.1 1 2) fun y116 =>
Option.bind (g_ref01_spot n.1) fun y129 =>
cond ((!y129)) (some (.inr ((.inr false)))) (Option.bind (g_ref01_ends n.2.1) fun y132 =>
cond ((y132 == 0)) (some (.inr ((.inr false)))) (Option.bind (g_ref01_ends n.2.1) fun y135 =>
cond (((lenI n.2.2.1) != y135)) (some (.inr ((.inr false)))) (cond ((!y116)) (some (.inr ((.inr false)))) T)))) (Option.bind (g_ref01_spot n.1) fun y151 =>
cond ((!y151)) (some (.inr ((.inr false)))) (Option.bind (g_ref01_ends n.2.1) fun y154 =>
cond ((y154 == 0)) (some (.inr ((.inr false)))) (Option.bind (g_ref01_ends n.2.1) fun y157 =>
cond (((lenI n.2.2.1) != y157)) (some (.inr ((.inr false)))) (cond ((!(n.2.2.2.1 == 0))) (some (.inr ((.inr false)))) T)))))) = cond (nodeB n) T (some (.inr (.inr false))) := by
 simp only [rin1, rspot_eq, rends_eq, Option.bind_some]
 unfold nodeB
 have hb : ∀ b1 b2 b3 b4 : Bool, cond (!b1) (some (Sum.inr (Sum.inr false))) (cond b2 (some (.inr (.inr false))) (cond (!b3) (some (.inr (.inr false))) (cond (!b4) (some (.inr (.inr false))) T))) = cond (b1 && !b2 && b3 && b4) T (some (.inr (.inr false))) := by
  intro b1 b2 b3 b4
  cases b1 <;> cases b2 <;> cases b3 <;> cases b4 <;> rfl
 unfold bne
 by_cases h5 : n.2.1 = 5
 ·have e5 : (n.2.1 == 5) = true := by simpa using h5
  rw [if_pos (.inl h5), e5, cond_true]
  exact hb _ _ _ _
 ·have e5 : (n.2.1 == 5) = false := by simpa using h5
  rw [e5, cond_false]
  by_cases h6 : n.2.1 = 6
  ·have e6 : (n.2.1 == 6) = true := by simpa using h6
   rw [if_pos (.inr h6), e6, cond_true]
   exact hb _ _ _ _
  ·have e6 : (n.2.1 == 6) = false := by simpa using h6
   rw [if_neg (by omega), e6, cond_false]
   exact hb _ _ _ _
theorem foldE_scan2 {p : Plan} {i : Nat} : ∀ (es acc : List RailEnd) (k : Nat), foldE (fun _ acc e => if eOk p i acc e then .inl (acc ++ [e]) else .inr (.inr false)) (fun acc => .inl acc) es k acc = (match scanE p i es acc with | some acc' => .inl acc' | none => .inr false : List RailEnd ⊕ Bool)
 | [], acc, k => rfl
 | e :: es, acc, k => by
  unfold scanE
  rw [foldE]
  cases h : eOk p i acc e with
  | true =>
   simp only [if_true]
   exact foldE_scan2 es (acc ++ [e]) (k + 1)
  | false => rfl
theorem dup_loop (acc : List RailEnd) (e : RailEnd) (hl : acc.length ≤ 100000) : iter (σ := (Int)) (τ := Unit ⊕ (Bool)) (fun s419 =>
cond ((decide (s419 < (lenI acc)))) (Option.bind (idx acc s419) fun x423 =>
cond ((x423 == e)) (some (.inr ((.inr false)))) (some (.inl ((w64 (s419 + 1)))))) (some (.inr ((.inl (())))))) big 0 = some (if decide (e ∈ acc) then .inr false else .inl ()) := by
 rw [iter_all0 acc (fun x => !(x == e)) false (by omega)]
 ·congr 1
  have : (acc.all fun x => !(x == e)) = !decide (e ∈ acc) := by
   rw [Bool.eq_iff_iff, Bool.not_eq_true', decide_eq_false_iff_not, List.all_eq_true]
   constructor
   ·intro h hm
    have := h e hm
    simp at this
   ·intro h x hx
    have : x ≠ e := fun q => h (q ▸ hx)
    simpa using this
  rw [this]
  cases decide (e ∈ acc) <;> rfl
 ·intro i h
  rw [lt_lenI h, cond_true, idx_some h, Option.bind_some, w64_in (by omega) (by omega)]
  cases (acc[i] == e) <;> rfl
 ·rw [nlt_lenI, cond_false]
theorem rends_loop {p : Plan} (hR : 1 ≤ p.2.1.length ∧ p.2.1.length ≤ 400) {i : Nat} (hi : i < p.1.length) (acc : List RailEnd) (hes : p.1[i].2.2.1.length ≤ 4) (hacc : acc.length ≤ 5000) :
    iter (σ := ((List RailEnd) × Int)) (τ := ((List RailEnd)) ⊕ (Bool)) (fun s400 =>
Option.bind (idx p.1 (i : Int)) fun x402 =>
cond ((decide (s400.2 < (lenI x402.2.2.1)))) (Option.bind (idx p.1 (i : Int)) fun x404 =>
Option.bind (idx x404.2.2.1 s400.2) fun x405 =>
Option.bind (g_ref01_in x405.1 0 ((w64 ((lenI p.2.1) - 1)))) fun y410 =>
cond ((!y410)) (some (.inr ((.inr false)))) (Option.bind (g_ref01_at p x405) fun y413 =>
cond ((y413 != (i : Int))) (some (.inr ((.inr false)))) (Option.bind (iter (σ := (Int)) (τ := Unit ⊕ (Bool)) (fun s419 =>
cond ((decide (s419 < (lenI s400.1)))) (Option.bind (idx s400.1 s419) fun x423 =>
cond ((x423 == x405)) (some (.inr ((.inr false)))) (some (.inl ((w64 (s419 + 1)))))) (some (.inr ((.inl (())))))) big 0) fun t425 =>
alt (fun b427 => Option.bind (appO 16 s400.1 ([x405])) fun x429 =>
some (.inl ((x429, (w64 (s400.2 + 1)))))) (fun b428 => some (.inr ((.inr b428)))) t425))) (some (.inr ((.inl s400.1))))) big ((acc, 0)) = some (match scanE p i p.1[i].2.2.1 acc with | some acc' => .inl acc' | none => .inr false) := by
  rw [iter_list (s0 := (acc, (0 : Int))) p.1[i].2.2.1 (fun k acc => (acc, (k : Int))) (fun _ acc e => if eOk p i acc e then .inl (acc ++ [e]) else .inr (.inr false)) (fun acc => .inl acc) (fun k acc => acc.length ≤ 5000 + k) acc rfl (by omega) hacc]
  · rw [foldE_scan2]
  · intro k hk acc ha
    simp only []
    refine ⟨?_, fun b' hb => ?_⟩
    · rw [idx_some hi, Option.bind_some, lt_lenI hk, cond_true, Option.bind_some, idx_some hk, Option.bind_some, rin1, Option.bind_some, wrails hR]
      obtain ⟨e, he⟩ : ∃ e, e = p.1[i].2.2.1[k] := ⟨_, rfl⟩
      rw [← he]
      unfold eOk
      cases h1 : inB e.1 0 (p.2.1.length - 1) with
      | false => rfl
      | true =>
        have h1' := inB_iff.1 h1
        rw [(ending_eq (p := p) (e := e) (by omega)).2]
        simp only [Bool.not_true, cond_false, Bool.true_and, Option.bind_some, bne]
        cases h3 : (atS p e == (i : Int)) with
        | false => rfl
        | true =>
          simp only [Bool.not_true, cond_false, Bool.true_and]
          rw [dup_loop acc e (by omega), Option.bind_some]
          by_cases h2 : e ∈ acc
          · rw [if_pos (decide_eq_true h2), decide_eq_true h2]; rfl
          · rw [if_neg (by rw [decide_eq_true_eq]; exact h2), decide_eq_false h2]
            simp only [alt_inl, Bool.not_false, if_true]
            rw [appO_some (by simp only [List.length_singleton]; omega), Option.bind_some, w64_succ (by omega)]
    · split at hb
      · cases hb
        rw [List.length_append, List.length_singleton]; omega
      · cases hb
  · intro acc _
    simp only []
    rw [idx_some hi, Option.bind_some, nlt_lenI, cond_false]
theorem rvalid_eq (p : Plan) : g_ref01_Valid p = some (validB p) := by
 unfold g_ref01_Valid validB
 rw [rin1, rin1]
 cases h1 : inB (lenI p.1) 1 300 with
 | false => rfl
 | true =>
 cases h2 : inB (lenI p.2.1) 1 400 with
 | false => rfl
 | true =>
 have hN := inB_iff.1 h1
 have hR := inB_iff.1 h2
 rw [lenI_eq] at hN hR
 have hN : 1 ≤ p.1.length ∧ p.1.length ≤ 300 := by omega
 have hR : 1 ≤ p.2.1.length ∧ p.2.1.length ≤ 400 := by omega
 simp only [Option.bind_some, Bool.not_true, cond_false, Bool.true_and]
 rw [iter_all0 p.1 nodeB false (by omega)]
 rotate_left
 ·intro i h
  rw [lt_lenI h, cond_true, idx_some h, Option.bind_some, rnode_eq, w64_in (by omega) (by omega)]
  cases nodeB p.1[i] <;> rfl
 ·rw [nlt_lenI, cond_false]
 cases h3 : p.1.all nodeB with
 | false => rfl
 | true =>
 simp only [if_true, Option.bind_some, alt_inl, Bool.true_and]
 rw [iter_all0 p.2.1 (railB p) false (by omega)]
 rotate_left
 ·intro i h
  rw [lt_lenI h, cond_true]
  exact rrail_eq hN h3 h hR.2
 ·rw [nlt_lenI, cond_false]
 cases h4 : p.2.1.all (railB p) with
 | false => rfl
 | true =>
 simp only [if_true, Option.bind_some, alt_inl, Bool.true_and]
 have hfold : ∀ (ns : List ANode) (i : Nat) (acc : List RailEnd), foldE (fun i acc (n : ANode) => match scanE p i n.2.2.1 acc with | some acc' => .inl acc' | none => .inr (.inr false)) (fun acc => .inl acc) ns i acc = (match scanN p ns i acc with | some acc => .inl acc | none => .inr false : List RailEnd ⊕ Bool) := by
  intro ns
  induction ns with
  | nil => intro i acc; rfl
  | cons n ns ih =>
   intro i acc
   rw [foldE, scanN]
   cases scanE p i n.2.2.1 acc with
   | none => rfl
   | some acc' => exact ih (i + 1) acc'
 rw [iter_list (s0 := (([] : List RailEnd), (0 : Int))) p.1 (fun k acc => (acc, (k : Int))) (fun i acc (n : ANode) => match scanE p i n.2.2.1 acc with | some acc' => .inl acc' | none => .inr (.inr false)) (fun acc => .inl acc) (fun k acc => acc.length ≤ 4 * k) [] rfl (by omega) (by simp)]
 rotate_left
 ·intro i hi acc hacc
  have hes := node_ends (List.all_eq_true.1 h3 _ (List.getElem_mem hi))
  simp only []
  refine ⟨?_, fun b' hb => ?_⟩
  ·rw [lt_lenI hi, cond_true, rends_loop hR hi acc hes (by omega), Option.bind_some]
   cases hs : scanE p i p.1[i].2.2.1 acc with
   | none => rfl
   | some acc' => simp only [alt_inl]; rw [w64_succ (by omega)]
  ·cases hs : scanE p i p.1[i].2.2.1 acc with
   | none => rw [hs] at hb; cases hb
   | some acc' =>
    rw [hs] at hb
    cases hb
    rw [scanE_len hs, List.length_append]
    omega
 ·intro acc _
  simp only []
  rw [nlt_lenI, cond_false]
 rw [hfold, Option.bind_some]
 unfold endsB
 cases h5 : scanN p p.1 0 [] with
 | none => rfl
 | some acc =>
  simp only [alt_inl]
  rw [lenI_eq, lenI_eq, w64_in (n := 2 * (p.2.1.length : Int)) (by omega) (by omega)]
  by_cases hq : (acc.length : Int) = 2 * p.2.1.length
  ·rw [hq]; simp
  ·rw [decide_eq_false hq]
   congr 1
   simpa using hq
end Go.Ai.Sx

/- Tracks: what is known of a valid plan; which moves follow. -/
namespace Go.Ai.Sx
theorem nodup_subL {A : Type} [DecidableEq A] : ∀ {l m : List A}, l.Nodup → (∀ x ∈ l, x ∈ m) → l.length ≤ m.length
 | [], _, _, _ => Nat.zero_le _
 | x :: l, m, hn, hs => by
  have hn' := List.nodup_cons.1 hn
  have h1 : ∀ y ∈ l, y ∈ m.erase x := fun y hy => (List.mem_erase_of_ne (fun e => hn'.1 (by rw [← e]; exact hy))).2 (hs y (List.mem_cons_of_mem _ hy))
  have h2 := nodup_subL hn'.2 h1
  have h3 := List.length_erase_of_mem (hs x List.mem_cons_self)
  have h4 : 0 < m.length := List.length_pos_of_mem (hs x List.mem_cons_self)
  simp only [List.length_cons]
  omega
theorem nodup_fullL {A : Type} [DecidableEq A] {l m : List A} (hn : l.Nodup) (hs : ∀ x ∈ l, x ∈ m) (hl : m.length ≤ l.length) {y : A} (hy : y ∈ m) : y ∈ l := by
 apply Classical.byContradiction
 intro h
 have := nodup_subL (l := y :: l) (m := m) (List.nodup_cons.2 ⟨h, hn⟩) (fun x hx => (List.mem_cons.1 hx).elim (fun e => e ▸ hy) (hs x))
 simp only [List.length_cons] at this
 omega
theorem scanE_inv {p : Plan} {i : Nat} : ∀ {es acc acc' : List RailEnd}, scanE p i es acc = some acc' → acc.Nodup → acc'.Nodup ∧ ∀ e ∈ es, (0 ≤ e.1 ∧ e.1 ≤ p.2.1.length - 1) ∧ atS p e = (i : Int)
 | [], acc, acc', h, hn => by cases h; exact ⟨hn, fun e he => (nomatch he)⟩
 | e :: es, acc, acc', h, hn => by
  unfold scanE at h
  split at h
  ·rename_i hk
   unfold eOk at hk
   simp only [Bool.and_eq_true, inB_iff, beq_iff_eq, Bool.not_eq_true', decide_eq_false_iff_not] at hk
   obtain ⟨k1, k2, k3⟩ := hk
   have hn' : (acc ++ [e]).Nodup := by
    rw [List.nodup_append]
    refine ⟨hn, by simp, fun a ha b hb => ?_⟩
    rw [List.mem_singleton] at hb
    subst hb
    exact fun q => k3 (q ▸ ha)
   obtain ⟨h1, h2⟩ := scanE_inv h hn'
   refine ⟨h1, fun x hx => ?_⟩
   rcases List.mem_cons.1 hx with rfl | hx
   ·exact ⟨k1, k2⟩
   ·exact h2 x hx
  ·cases h
theorem scanN_inv {p : Plan} : ∀ {ns : List ANode} {i : Nat} {acc acc' : List RailEnd}, scanN p ns i acc = some acc' → acc.Nodup → acc' = acc ++ ns.flatMap (fun n => n.2.2.1) ∧ acc'.Nodup ∧ ∀ (k : Nat) (h : k < ns.length), ∀ e ∈ ns[k].2.2.1, (0 ≤ e.1 ∧ e.1 ≤ p.2.1.length - 1) ∧ atS p e = ((i + k : Nat) : Int)
 | [], i, acc, acc', h, hn => by cases h; exact ⟨by simp, hn, fun k hk => (nomatch hk)⟩
 | n :: ns, i, acc, acc', h, hn => by
  rw [scanN] at h
  cases hs : scanE p i n.2.2.1 acc with
  | none => rw [hs] at h; cases h
  | some a =>
   rw [hs] at h
   obtain ⟨a1, a2⟩ := scanE_inv hs hn
   obtain ⟨b1, b2, b3⟩ := scanN_inv h a1
   refine ⟨?_, b2, fun k hk e he => ?_⟩
   ·rw [b1, scanE_len hs]; simp
   ·cases k with
    | zero => exact a2 e he
    | succ k =>
     have := b3 k (by simpa using hk) e he
     rw [show i + (k + 1) = i + 1 + k by omega]
     exact this
structure PlOk (p : Plan) : Prop where
 n : 1 ≤ p.1.length ∧ p.1.length ≤ 300
 r : 1 ≤ p.2.1.length ∧ p.2.1.length ≤ 400
 nb : p.1.all nodeB = true
 rb : p.2.1.all (railB p) = true
 at_ : ∀ (k : Nat) (h : k < p.1.length), ∀ e ∈ p.1[k].2.2.1, (0 ≤ e.1 ∧ e.1 < p.2.1.length) ∧ atS p e = (k : Int)
 ndp : (p.1.flatMap fun n => n.2.2.1).Nodup
 full : ∀ e : RailEnd, 0 ≤ e.1 ∧ e.1 < p.2.1.length → e ∈ p.1.flatMap fun n => n.2.2.1
def allE (R : Nat) : List RailEnd := (List.range R).flatMap fun r : Nat => [((r : Int), false, ()), ((r : Int), true, ())]
theorem allE_len (R : Nat) : (allE R).length = 2 * R := by
 induction R with
 | zero => rfl
 | succ R ih =>
  unfold allE at *
  rw [List.range_succ, List.flatMap_append, List.length_append, ih]
  simp
  omega
theorem mem_allE {R : Nat} {e : RailEnd} : e ∈ allE R ↔ 0 ≤ e.1 ∧ e.1 < R := by
 unfold allE
 simp only [List.mem_flatMap, List.mem_range, List.mem_cons, List.not_mem_nil, or_false]
 constructor
 ·rintro ⟨r, hr, rfl | rfl⟩ <;> simp only [] <;> omega
 ·obtain ⟨r, b, ⟨⟩⟩ := e
  simp only []
  intro h
  refine ⟨r.toNat, by omega, ?_⟩
  have : (r.toNat : Int) = r := by omega
  rw [this]
  cases b
  ·exact .inl rfl
  ·exact .inr rfl
theorem valid_ok {p : Plan} (h : validB p = true) : PlOk p := by
 unfold validB at h
 simp only [Bool.and_eq_true, inB_iff, lenI_eq] at h
 obtain ⟨⟨⟨h1, h2⟩, h3, h4⟩, h5⟩ := h
 unfold endsB at h5
 cases hs : scanN p p.1 0 [] with
 | none => rw [hs] at h5; cases h5
 | some acc =>
  rw [hs] at h5
  have h5 := of_decide_eq_true h5
  obtain ⟨a1, a2, a3⟩ := scanN_inv hs List.nodup_nil
  rw [List.nil_append] at a1
  subst a1
  have hat : ∀ (k : Nat) (h : k < p.1.length), ∀ e ∈ p.1[k].2.2.1, (0 ≤ e.1 ∧ e.1 < p.2.1.length) ∧ atS p e = (k : Int) := fun k hk e he => by
   obtain ⟨b1, b2⟩ := a3 k hk e he
   rw [Nat.zero_add] at b2
   exact ⟨⟨b1.1, by omega⟩, b2⟩
  refine ⟨by omega, by omega, h3, h4, hat, a2, fun e he => ?_⟩
  refine nodup_fullL (m := allE p.2.1.length) a2 (fun x hx => ?_) (by rw [allE_len]; omega) (mem_allE.2 he)
  obtain ⟨n, hn, hx⟩ := List.mem_flatMap.1 hx
  obtain ⟨k, hk, rfl⟩ := List.getElem_of_mem hn
  exact mem_allE.2 (hat k hk x hx).1
section
variable {p : Plan} (hp : PlOk p)
include hp
theorem PlOk.rail {i : Int} (hi : 0 ≤ i ∧ i < p.2.1.length) : railB p (rl0 p i) = true := by
 have hlt : i.toNat < p.2.1.length := by omega
 have : rl0 p i = p.2.1[i.toNat] := by unfold rl0; simp [List.getD, hlt]
 rw [this]
 exact List.all_eq_true.1 hp.rb _ (List.getElem_mem hlt)
theorem PlOk.ix {i : Int} (hi : 0 ≤ i ∧ i < p.2.1.length) : RIx p (rl0 p i) := by
 have := hp.rail hi
 unfold railB at this
 rw [Bool.and_eq_true] at this
 exact railH_ix this.1
theorem PlOk.spots {i : Int} (hi : 0 ≤ i ∧ i < p.2.1.length) : (lineS p (rl0 p i)).all spotB = true ∧ segOk (lineS p (rl0 p i)) = true := by
 have := hp.rail hi
 unfold railB at this
 simp only [Bool.and_eq_true] at this
 exact this.2
theorem PlOk.len {i : Int} (hi : 0 ≤ i ∧ i < p.2.1.length) : 1 ≤ lenS (lineS p (rl0 p i)) ∧ lenS (lineS p (rl0 p i)) ≤ 31000000 := by
 obtain ⟨h1, h2⟩ := hp.spots hi
 have h3 := (hp.ix hi).s
 have h4 := lineS_len p (rl0 p i)
 unfold segOk at h2
 have h5 : ∀ j, 1 ≤ j → j < 1 + ((lineS p (rl0 p i)).length - 1) → 1 ≤ segS (lineS p (rl0 p i)) j ∧ segS (lineS p (rl0 p i)) j ≤ 1000000 := fun j j1 j2 => by
  have := List.all_eq_true.1 h2 (j - 1) (List.mem_range.2 (by omega))
  unfold segB at this
  rw [show j - 1 + 1 = j by omega] at this
  exact inB_iff.1 this
 have h6 := sumR_bd (f := segS (lineS p (rl0 p i))) (B := 1000000) ((lineS p (rl0 p i)).length - 1) 1 (fun j j1 j2 => by have := h5 j j1 j2; omega)
 unfold lenS
 refine ⟨?_, by omega⟩
 rw [show (lineS p (rl0 p i)).length - 1 = (rl0 p i).2.2.1.length + 1 by omega, sumR]
 have := h5 1 (by omega) (by omega)
 have := sumR_bd (f := segS (lineS p (rl0 p i))) (B := 1000000) ((rl0 p i).2.2.1.length) (1 + 1) (fun j j1 j2 => by have := h5 j (by omega) (by omega); omega)
 omega
end
end Go.Ai.Sx

/- Tracks: a network; which moves follow. -/
namespace Go.Ai.Sx
end Go.Ai.Sx

/- Tracks: a network; which moves follow; ways. -/
namespace Go.Ai.Sx
def rlN {A : Type} (n : Nat) (f : Nat → A) : List A := (List.range n).map f
def ixE (n : ANode) : List (RailEnd × Int) := n.2.2.1.zipIdx.map fun x => (x.1, (x.2 : Int))
def plS (p : Plan) : List (RailEnd × Int) := (p.1.flatMap ixE).foldl (fun m x => mset m x.1 x.2) []
def lenP (p : Plan) (i : Int) : Int := lenS (lineS p (rl0 p i))
def netW (p : Plan) : track_network := ((p.1, p.2.1, ()), rlN p.2.1.length (fun i => lenP p (i : Int)), plS p, ())
theorem open_eq (p : Plan) : g_track_open p = some (if validB p then (some (netW p), true) else (none, false)) := by
 unfold g_track_open
 rw [tcheck_eq]
 cases hv : validB p with
 | false => rfl
 | true =>
 have hp := valid_ok hv
 have hN := hp.n
 have hR := hp.r
 simp only [if_true, Option.bind_some, show ((0 : Int) != 0) = false from rfl, cond_false]
 -- the lengths
 rw [iter_list (s0 := ((0 : Int), ([] : List Int))) p.2.1 (fun k c => ((k : Int), c)) (fun i c _ => (.inl (c ++ [lenP p (i : Int)]) : List Int ⊕ List Int)) id (fun k c => c.length = k) [] rfl (by omega) rfl]
 rotate_left
 ·intro i hi c hc
  simp only []
  refine ⟨?_, fun b' hb => by cases hb; rw [List.length_append, List.length_singleton, hc]⟩
  have hrl : rl0 p (i : Int) = p.2.1[i] := by unfold rl0; simp [List.getD, hi]
  have hix := hp.ix (i := (i : Int)) (by omega)
  have hsp := hp.spots (i := (i : Int)) (by omega)
  rw [lt_lenI hi, cond_true, idx_some hi, Option.bind_some, ← hrl, line_eq hix, Option.bind_some, len_loop hsp.1 (by rw [lineS_len]; have := hix.s; omega) (sp := fun a b => g_track_span a b) (fun a b => span_eq), Option.bind_some, appO_some (by simp only [List.length_singleton]; omega), Option.bind_some, w64_succ (by omega)]
  rfl
 ·intro c _
  simp only []
  rw [nlt_lenI, cond_false]; rfl
 have hlens : foldE (fun i c (_ : Rail) => (.inl (c ++ [lenP p (i : Int)]) : List Int ⊕ List Int)) id p.2.1 0 [] = rlN p.2.1.length (fun i => lenP p (i : Int)) := by
  have key : ∀ (l : List Rail) (i : Nat) (c : List Int), foldE (fun i c (_ : Rail) => (.inl (c ++ [lenP p (i : Int)]) : List Int ⊕ List Int)) id l i c = c ++ (List.range' i l.length).map (fun i : Nat => lenP p (i : Int)) := by
   intro l
   induction l with
   | nil => intro i c; simp [foldE]
   | cons x l ih =>
    intro i c
    rw [foldE]
    exact (ih (i + 1) _).trans (by rw [List.length_cons, List.range'_succ, List.map_cons, List.append_assoc]; rfl)
  rw [key, List.nil_append, ← List.range_eq_range']; rfl
 rw [hlens, Option.bind_some]
 -- the places
 rw [iter_list (s0 := ((0 : Int), ([] : List (RailEnd × Int)))) p.1 (fun k c => ((k : Int), c)) (fun _ c n => (.inl ((ixE n).foldl (fun m x => mset m x.1 x.2) c) : List (RailEnd × Int) ⊕ List (RailEnd × Int))) id (fun _ _ => True) [] rfl (by omega) trivial]
 rotate_left
 ·intro i hi c _
  simp only []
  refine ⟨?_, fun _ _ => trivial⟩
  have hes := node_ends (List.all_eq_true.1 hp.nb _ (List.getElem_mem hi))
  rw [lt_lenI hi, cond_true, idx_some hi, Option.bind_some]
  rw [iter_list (s0 := ((0 : Int), c)) p.1[i].2.2.1 (fun k c => ((k : Int), c)) (fun k c e => (.inl (mset c e (k : Int)) : List (RailEnd × Int) ⊕ List (RailEnd × Int))) id (fun _ _ => True) c rfl (by omega) trivial]
  ·rw [foldE_inl (fun k c e => mset c e (k : Int)) id, Option.bind_some, w64_succ (by omega)]
   unfold ixE
   rw [List.foldl_map]; rfl
  ·intro k hk c _
   simp only []
   refine ⟨?_, fun _ _ => trivial⟩
   rw [lt_lenI hk, cond_true, idx_some hk, Option.bind_some, w64_succ (by omega)]
  ·intro c _
   simp only []
   rw [nlt_lenI, cond_false]; rfl
 ·intro c _
  simp only []
  rw [nlt_lenI, cond_false]; rfl
 rw [foldE_inl' (fun c n => (ixE n).foldl (fun m x => mset m x.1 x.2) c) id, Option.bind_some]
 have hpl : p.1.foldl (fun c n => (ixE n).foldl (fun m x => mset m x.1 x.2) c) [] = plS p := by
  unfold plS
  rw [List.foldl_flatMap]
 rw [hpl]
 rfl
end Go.Ai.Sx

/- Tracks: which moves follow; ways and their lengths. -/
namespace Go.Ai.Sx
section
variable {p : Plan} (hp : PlOk p) {m : AMove} (hm : 0 ≤ m.1 ∧ m.1 < p.2.1.length)
include hp hm
omit hp hm in
end
end Go.Ai.Sx

/- Tracks: ways and their lengths, in the program and in the reference. -/
namespace Go.Ai.Sx
def hasB (p : Plan) (m : AMove) : Bool := inB m.1 0 (p.2.1.length - 1)
def M0 : AMove := (0, false, ())
theorem hasB_iff {p : Plan} {m : AMove} : hasB p m = true ↔ 0 ≤ m.1 ∧ m.1 < p.2.1.length := by
 unfold hasB
 rw [inB_iff]
 omega
section
variable {p : Plan} (hp : PlOk p)
include hp
theorem has_eq (m : AMove) : g_track_network_has (netW p) m = some (hasB p m) := by
 unfold g_track_network_has
 rw [twithin, Option.bind_some]
 have : w64 (lenI (netW p).1.2.1 - 1) = p.2.1.length - 1 := wrails hp.r
 rw [this]; rfl
structure WayOk (p : Plan) (l : List AMove) : Prop where
 n : 1 ≤ l.length ∧ l.length ≤ 2000
 m : ∀ i, i < l.length → 0 ≤ (l.getD i M0).1 ∧ (l.getD i M0).1 < p.2.1.length
theorem net_len {i : Int} (hi : 0 ≤ i ∧ i < p.2.1.length) : idx (netW p).2.1 i = some (lenP p i) := by
 show idx ((List.range p.2.1.length).map fun i : Nat => lenP p (i : Int)) i = _
 rw [idx_int hi.1 (by rw [List.length_map, List.length_range]; exact hi.2)]
 simp only [List.getElem_map, List.getElem_range]
 rw [Int.toNat_of_nonneg hi.1]
theorem rlen_eq {i : Int} (hi : 0 ≤ i ∧ i < p.2.1.length) : g_ref01_Length p i = some (lenP p i) := rlength_eq hi (hp.ix hi) (hp.spots hi).1
end
theorem Length_eq (p : Plan) (i : Int) : g_track_Length p i = some (if validB p && hasB p (i, false, ()) then (lenP p i, 0) else (0, 2)) := by
 unfold g_track_Length
 rw [open_eq]
 cases hv : validB p with
 | false => rfl
 | true =>
  have hp := valid_ok hv
  simp only [if_true, Option.bind_some, Bool.not_true, cond_false, has_eq hp, Bool.true_and]
  cases hw : hasB p (i, false, ()) with
  | false => rfl
  | true =>
   have hi := hasB_iff.1 hw
   simp only [Bool.not_true, cond_false, net_len hp hi, if_true, Option.bind_some]
end Go.Ai.Sx

/- Depot: the tracks of a depot on a plan of rails. -/
namespace Go.Ai.Sx
theorem has9_eq (xs : List Int) (v : Int) (hl : xs.length ≤ 1000000) : g_ref09_has xs v = some (decide (v ∈ xs)) := by
  unfold g_ref09_has
  have hT := Tot.iter (σ := Int) (τ := Unit ⊕ Bool) (f := fun s4 =>
cond ((decide (s4 < (lenI xs)))) (Option.bind (idx xs s4) fun x7 =>
cond ((x7 == v)) (some (.inr ((.inr true)))) (some (.inl ((w64 (s4 + 1)))))) (some (.inr ((.inl (())))))) (fun s => ∃ i : Nat, s = (i : Int) ∧ i ≤ xs.length ∧ ∀ j (h : j < xs.length), j < i → xs[j] ≠ v) (fun r => r = if v ∈ xs then .inr true else .inl ()) (fun s => xs.length - s.toNat) (n := big) (s := 0) ⟨0, rfl, by omega, fun j _ h => by omega⟩ (by simp only [big]; omega) (by
    rintro s ⟨i, rfl, hi, hj⟩
    by_cases h : i < xs.length
    · rw [lt_lenI h, cond_true, idx_nat, List.getElem?_eq_getElem h, Option.bind_some]
      by_cases he : xs[i] = v
      · rw [show (xs[i] == v) = true by simpa using he, cond_true]
        refine Tot.some ?_
        show _ = _
        rw [if_pos (he ▸ List.getElem_mem h)]
      · rw [show (xs[i] == v) = false by simpa using he, cond_false, w64_succ (by omega)]
        exact Tot.some ⟨⟨i + 1, rfl, by omega, fun j h1 h2 => by
          by_cases e : j = i
          · subst e; exact he
          · exact hj j h1 (by omega)⟩, by simp only [Int.toNat_natCast]; omega⟩
    · have : i = xs.length := by omega
      subst this
      rw [nlt_lenI, cond_false]
      refine Tot.some ?_
      show _ = _
      rw [if_neg]
      intro hm
      obtain ⟨j, h1, h2⟩ := List.getElem_of_mem hm
      exact hj j h1 h1 h2)
  obtain ⟨r, h1, rfl⟩ := hT
  rw [h1, Option.bind_some]
  by_cases h : v ∈ xs
  · rw [if_pos h, decide_eq_true h]; rfl
  · rw [if_neg h, decide_eq_false h]; rfl
theorem contains_eq (xs : List Int) (v : Int) (hl : xs.length ≤ 1000000) : g_slices_Contains_int_int xs v = some (decide (v ∈ xs)) := by
  unfold g_slices_Contains_int_int g_slices_Index_int_int
  have hT := Tot.iter (σ := Int) (τ := Unit ⊕ Int) (f := fun s4 =>
cond ((decide (s4 < (lenI xs)))) (Option.bind (idx xs s4) fun x7 =>
cond ((v == x7)) (some (.inr ((.inr s4)))) (some (.inl ((w64 (s4 + 1)))))) (some (.inr ((.inl (())))))) (fun s => ∃ i : Nat, s = (i : Int) ∧ i ≤ xs.length ∧ ∀ j (h : j < xs.length), j < i → xs[j] ≠ v) (fun r => if v ∈ xs then ∃ i : Nat, r = .inr (i : Int) else r = .inl ()) (fun s => xs.length - s.toNat) (n := big) (s := 0) ⟨0, rfl, by omega, fun j _ h => by omega⟩ (by simp only [big]; omega) (by
    rintro s ⟨i, rfl, hi, hj⟩
    by_cases h : i < xs.length
    · rw [lt_lenI h, cond_true, idx_nat, List.getElem?_eq_getElem h, Option.bind_some]
      by_cases he : xs[i] = v
      · rw [show (v == xs[i]) = true by simpa using he.symm, cond_true]
        refine Tot.some ?_
        show if v ∈ xs then _ else _
        rw [if_pos (he ▸ List.getElem_mem h)]
        exact ⟨i, rfl⟩
      · rw [show (v == xs[i]) = false by simpa using fun e => he e.symm, cond_false, w64_succ (by omega)]
        exact Tot.some ⟨⟨i + 1, rfl, by omega, fun j h1 h2 => by
          by_cases e : j = i
          · subst e; exact he
          · exact hj j h1 (by omega)⟩, by simp only [Int.toNat_natCast]; omega⟩
    · have : i = xs.length := by omega
      subst this
      rw [nlt_lenI, cond_false]
      refine Tot.some ?_
      show if v ∈ xs then _ else _
      rw [if_neg]
      intro hm
      obtain ⟨j, h1, h2⟩ := List.getElem_of_mem hm
      exact hj j h1 h1 h2)
  obtain ⟨r, h1, h2⟩ := hT
  rw [h1]
  simp only [Option.bind_some]
  by_cases h : v ∈ xs
  · rw [if_pos h] at h2
    obtain ⟨i, rfl⟩ := h2
    rw [alt_inr, Option.bind_some, decide_eq_true h, decide_eq_true (by omega)]
  · rw [if_neg h] at h2
    subst h2
    rw [decide_eq_false h]; rfl
def frB (p : Plan) (l : List Int) (i : Nat) : Bool := hasB p (l.getD i 0, false, ()) && !decide (l.getD i 0 ∈ l.take i)
def railsB (p : Plan) (l : List Int) : Bool := (List.range l.length).all (frB p l) && inB (lenI l) 1 5
def endB (p : Plan) (i : Int) : Bool := (nd p i).2.1 == 1
def trkS (p : Plan) (r : Int) : StableTrack := (min (lenP p r) 10000000, !endB p (rl0 p r).1 && !endB p (rl0 p r).2.1, ())
theorem dwithin (n a b : Int) : g_depot_within n a b = some (inB n a b) := within_gen n a b
theorem rin9 (n a b : Int) : g_ref09_in n a b = some (inB n a b) := within_gen n a b
section
variable {p : Plan} (hv : validB p = true) (hp : PlOk p) {l : List Int} (hl : l.length ≤ 10)
include hv hp hl
theorem rails_eq : g_ref09_Rails p l = some (railsB p l) := by
  unfold g_ref09_Rails
  have hR := hp.r
  have h := iter_emb0 (f := fun s22 : Int =>
cond ((decide (s22 < (lenI l)))) (Option.bind (idx l s22) fun x37 =>
Option.bind (g_ref09_in x37 0 ((w64 ((lenI p.2.1) - 1)))) fun y38 =>
cond ((!y38)) (some (.inr ((.inr false)))) (Option.bind (slO l 0 s22) fun x41 =>
Option.bind (idx l s22) fun x42 =>
Option.bind (g_ref09_has x41 x42) fun y43 =>
cond (y43) (some (.inr ((.inr false)))) (some (.inl ((w64 (s22 + 1))))))) (some (.inr ((.inl (()) : Unit ⊕ Bool))))) (fun k => (k : Int)) l.length (frB p l) (.inr false) (.inl ()) (s0 := 0) rfl (by simp only [big]; omega) (fun i hi => by
      have e1 : idx l (i : Int) = some (l.getD i 0) := idx_natD 0 hi
      have e2 : slO l 0 (i : Int) = some (l.take i) := by rw [slO_some (by omega)]; simp
      rw [lt_lenI hi, cond_true, e1, Option.bind_some, rin9, Option.bind_some, e2, Option.bind_some, Option.bind_some, has9_eq _ _ (by rw [List.length_take]; omega), Option.bind_some, w64_succ (by omega), lenI_eq, w64_in (by omega) (by omega)]
      show _ = some (if (inB (l.getD i 0) 0 (p.2.1.length - 1) && !decide (l.getD i 0 ∈ l.take i)) = true then _ else _)
      cases inB (l.getD i 0) 0 (p.2.1.length - 1) <;> cases decide (l.getD i 0 ∈ l.take i) <;> rfl) (by simp only [nlt_lenI, cond_false])
  rw [h, Option.bind_some]
  unfold railsB
  cases (List.range l.length).all (frB p l) with
  | false => rfl
  | true => simp only [if_true, alt_inl, rin9, Option.bind_some, Bool.true_and]
theorem dtracks_eq : g_depot_Tracks p l = some (if railsB p l then (l.map (trkS p), 0) else ([], 2)) := by
  unfold g_depot_Tracks
  rw [tcheck_eq, hv]
  simp only [if_true, Option.bind_some, show ((0 : Int) != 0) = false from rfl, cond_false, dwithin]
  unfold railsB
  cases hin : inB (lenI l) 1 5 with
  | false => rw [Bool.and_false]; rfl
  | true =>
  simp only [Bool.not_true, cond_false, Bool.and_true]
  have key : ∀ (k i : Nat) (acc : List StableTrack), i + k = l.length → acc.length = i → Lp (fun s38 : List StableTrack × Int =>
cond ((decide (s38.2 < (lenI l)))) (Option.bind (idx l s38.2) fun x41 =>
Option.bind (g_track_Length p x41) fun y42 =>
cond ((y42.2 != 0)) (some (.inr ((.inr (([], 2)))))) (Option.bind (slO l 0 s38.2) fun x48 =>
Option.bind (g_slices_Contains_int_int x48 x41) fun y49 =>
cond (y49) (some (.inr ((.inr (([], 2)))))) (Option.bind (idx p.2.1 x41) fun x60 =>
Option.bind (((fun x => g_depot_Tracks_1 x p)) x60.1) fun y61 =>
cond ((!y61)) (Option.bind (idx p.2.1 x41) fun x63 =>
Option.bind (((fun x => g_depot_Tracks_1 x p)) x63.2.1) fun y64 =>
Option.bind (appO 16 s38.1 ([(((min y42.1 10000000), (!y64), ()) : StableTrack)])) fun x65 =>
some (.inl ((x65, (w64 (s38.2 + 1)))))) (Option.bind (appO 16 s38.1 ([(((min y42.1 10000000), false, ()) : StableTrack)])) fun x67 =>
some (.inl ((x67, (w64 (s38.2 + 1))))))))) (some (.inr ((.inl s38.1))))) k (acc, (i : Int)) (if (List.range' i k).all (frB p l) then (.inl (acc ++ (l.drop i).map (trkS p)) : List StableTrack ⊕ (List StableTrack × Int)) else .inr ([], 2)) := by
    intro k
    induction k with
    | zero =>
      intro i acc hi hacc
      have : i = l.length := by omega
      subst this
      refine Lp.done ?_
      simp only [nlt_lenI, cond_false, List.drop_length]
      simp
    | succ k ih =>
      intro i acc hi hacc
      have hil : i < l.length := by omega
      have e1 : idx l (i : Int) = some (l.getD i 0) := idx_natD 0 hil
      have e2 : slO l 0 (i : Int) = some (l.take i) := by rw [slO_some (by omega)]; simp
      have eC := contains_eq (l.take i) (l.getD i 0) (by rw [List.length_take]; omega)
      have eL := Length_eq p (l.getD i 0)
      rw [hv, Bool.true_and] at eL
      rw [List.range'_succ, List.all_cons]
      have hfr : frB p l i = (hasB p (l.getD i 0, false, ()) && !decide (l.getD i 0 ∈ l.take i)) := rfl
      rw [hfr]
      cases hh : hasB p (l.getD i 0, false, ()) with
      | false =>
        rw [hh] at eL
        simp only [Bool.false_eq_true, if_false] at eL
        refine Lp.done ?_
        simp only [lt_lenI hil, cond_true, e1, Option.bind_some, eL, show ((2 : Int) != 0) = true from rfl, Bool.false_and, Bool.false_eq_true, if_false]
      | true =>
        rw [hh] at eL
        simp only [if_true] at eL
        have hr := hasB_iff.1 hh
        cases hm : decide (l.getD i 0 ∈ l.take i) with
        | true =>
          rw [hm] at eC
          refine Lp.done ?_
          simp only [lt_lenI hil, cond_true, e1, Option.bind_some, eL, show ((0 : Int) != 0) = false from rfl, cond_false, e2, eC, Bool.not_true, Bool.and_false, Bool.false_and, Bool.false_eq_true, if_false]
        | false =>
          rw [hm] at eC
          simp only [Bool.not_false, Bool.and_self, Bool.true_and]
          have hix := hp.ix hr
          have hrl : idx p.2.1 (l.getD i 0) = some (rl0 p (l.getD i 0)) := idx_getD hr.1 hr.2
          have hE : ∀ n : Int, 0 ≤ n ∧ n < p.1.length → g_depot_Tracks_1 n p = some (endB p n) := fun n hn => by
            unfold g_depot_Tracks_1
            rw [idx_getD (d := N0) hn.1 hn.2, Option.bind_some]
            rfl
          have hrec := ih (i + 1) (acc ++ [trkS p (l.getD i 0)]) (by omega) (by simp [hacc])
          have hdr : l.drop i = l.getD i 0 :: l.drop (i + 1) := by
            rw [List.drop_eq_getElem_cons hil]
            congr 1
            simp [List.getD, hil]
          have hout : acc ++ (l.drop i).map (trkS p) = acc ++ [trkS p (l.getD i 0)] ++ (l.drop (i + 1)).map (trkS p) := by rw [hdr]; simp
          rw [hout]
          refine Lp.step ?_ hrec
          simp only [lt_lenI hil, cond_true, e1, Option.bind_some, eL, show ((0 : Int) != 0) = false from rfl, cond_false, e2, eC, hrl, hE _ hix.f, hE _ hix.t]
          unfold trkS
          cases endB p (rl0 p (l.getD i 0)).1 with
          | true =>
            simp only [Bool.not_true, cond_false, Bool.false_and]
            rw [appO_some (by simp; omega), Option.bind_some, w64_succ (by omega)]
          | false =>
            simp only [Bool.not_false, cond_true, Bool.true_and]
            rw [appO_some (by simp; omega), Option.bind_some, w64_succ (by omega)]
  have hL := (key l.length 0 [] (by omega) rfl).big (by simp only [big]; omega)
  rw [show ((0 : Nat) : Int) = 0 from rfl] at hL
  rw [hL, Option.bind_some, ← List.range_eq_range']
  cases (List.range l.length).all (frB p l) <;> rfl
theorem rtracks_eq (hr : railsB p l = true) : g_ref09_Tracks p l = some (l.map (trkS p)) := by
  unfold g_ref09_Tracks
  unfold railsB at hr
  rw [Bool.and_eq_true] at hr
  have hA : ∀ i, i < l.length → 0 ≤ l.getD i 0 ∧ l.getD i 0 < p.2.1.length := fun i hi => by
    have := List.all_eq_true.1 hr.1 i (List.mem_range.2 hi)
    unfold frB at this
    rw [Bool.and_eq_true] at this
    exact hasB_iff.1 this.1
  have key : ∀ (k i : Nat) (acc : List StableTrack), i + k = l.length → acc.length = i → Lp (fun s30 : List StableTrack × Int =>
cond ((decide (s30.2 < (lenI l)))) (Option.bind (idx l s30.2) fun x36 =>
Option.bind (idx p.2.1 x36) fun x37 =>
Option.bind (idx p.1 x37.1) fun x42 =>
cond ((x42.2.1 != 1)) (Option.bind (idx p.1 x37.2.1) fun x44 =>
Option.bind (idx l s30.2) fun x49 =>
Option.bind (g_ref01_Length p x49) fun y50 =>
Option.bind (appO 16 s30.1 ([(((min 10000000 y50), (x44.2.1 != 1), ()) : StableTrack)])) fun x51 =>
some (.inl ((x51, (w64 (s30.2 + 1)))))) (Option.bind (idx l s30.2) fun x57 =>
Option.bind (g_ref01_Length p x57) fun y58 =>
Option.bind (appO 16 s30.1 ([(((min 10000000 y58), false, ()) : StableTrack)])) fun x59 =>
some (.inl ((x59, (w64 (s30.2 + 1))))))) (some (.inr s30.1))) k (acc, (i : Int)) (acc ++ (l.drop i).map (trkS p)) := by
    intro k
    induction k with
    | zero =>
      intro i acc hi hacc
      have : i = l.length := by omega
      subst this
      refine Lp.done ?_
      simp only [nlt_lenI, cond_false, List.drop_length]
      simp
    | succ k ih =>
      intro i acc hi hacc
      have hil : i < l.length := by omega
      have e1 : idx l (i : Int) = some (l.getD i 0) := idx_natD 0 hil
      have h := hA i hil
      have hix := hp.ix h
      have hrl : idx p.2.1 (l.getD i 0) = some (rl0 p (l.getD i 0)) := idx_getD h.1 h.2
      have hN : ∀ n : Int, 0 ≤ n ∧ n < p.1.length → idx p.1 n = some (nd p n) := fun n hn => idx_getD hn.1 hn.2
      have hrec := ih (i + 1) (acc ++ [trkS p (l.getD i 0)]) (by omega) (by simp [hacc])
      have hdr : l.drop i = l.getD i 0 :: l.drop (i + 1) := by
        rw [List.drop_eq_getElem_cons hil]
        congr 1
        simp [List.getD, hil]
      have hout : acc ++ (l.drop i).map (trkS p) = acc ++ [trkS p (l.getD i 0)] ++ (l.drop (i + 1)).map (trkS p) := by rw [hdr]; simp
      rw [hout]
      refine Lp.step ?_ hrec
      simp only [lt_lenI hil, cond_true, e1, Option.bind_some, hrl, hN _ hix.f, hN _ hix.t, rlen_eq hp h]
      unfold trkS endB
      rw [Int.min_comm 10000000]
      cases hb : ((nd p (rl0 p (l.getD i 0)).1).2.1 == 1) with
      | true =>
        have hb2 : ((nd p (rl0 p (l.getD i 0)).1).2.1 != 1) = false := by unfold bne; rw [hb]; rfl
        simp only [hb2, cond_false, Bool.not_true, Bool.false_and]
        rw [appO_some (by simp; omega), Option.bind_some, w64_succ (by omega)]
      | false =>
        have hb2 : ((nd p (rl0 p (l.getD i 0)).1).2.1 != 1) = true := by unfold bne; rw [hb]; rfl
        simp only [hb2, cond_true, Bool.not_false, Bool.true_and]
        rw [appO_some (by simp; omega), Option.bind_some, w64_succ (by omega)]
        rfl
  have hL := (key l.length 0 [] (by omega) rfl).big (by simp only [big]; omega)
  rw [show ((0 : Nat) : Int) = 0 from rfl] at hL
  rw [hL]; rfl
end
theorem dtracks_no {p : Plan} {l : List Int} (hv : validB p = false) : g_depot_Tracks p l = some ([], 2) := by
 unfold g_depot_Tracks
 rw [tcheck_eq, hv]; rfl
theorem brief9_tot (p : Plan) (hl : p.1.length ≤ 9223372036854775807) : ∃ b, g_law09_brief p = some b := by
  unfold g_law09_brief
  have hT := Tot.iter (σ := Int) (τ := Unit ⊕ Bool) (f := fun s4 =>
cond ((decide (s4 < (lenI p.1)))) (Option.bind (idx p.1 s4) fun x7 =>
cond ((decide ((lenI x7.2.2.1) > 10))) (some (.inr ((.inr false)))) (some (.inl ((w64 (s4 + 1)))))) (some (.inr ((.inl (())))))) (fun s => ∃ i : Nat, s = (i : Int) ∧ i ≤ p.1.length) (fun _ => True) (fun s => p.1.length - s.toNat) (n := big) (s := 0) ⟨0, rfl, by omega⟩ (by simp only [big]; omega) (by
    rintro s ⟨i, rfl, hi⟩
    by_cases h : i < p.1.length
    · rw [lt_lenI h, cond_true, idx_nat, List.getElem?_eq_getElem h, Option.bind_some, w64_succ (by omega)]
      cases decide (lenI p.1[i].2.2.1 > 10) with
      | true => exact Tot.some trivial
      | false => exact Tot.some ⟨⟨i + 1, rfl, by omega⟩, by simp only [Int.toNat_natCast]; omega⟩
    · rw [decide_eq_false (by rw [lenI_eq]; omega), cond_false]
      exact Tot.some trivial)
  obtain ⟨r, h1, _⟩ := hT
  rw [h1, Option.bind_some]
  cases r with
  | inr b => exact ⟨b, rfl⟩
  | inl u =>
    rw [alt_inl]
    cases decide (lenI p.2.1 ≤ 12) <;> exact ⟨_, rfl⟩
theorem law_tracks (p : Plan) (l : List Int) (hl : p.1.length ≤ 9223372036854775807) : g_law09_DepotTracks p l = some true := by
  unfold g_law09_DepotTracks
  obtain ⟨b, hb⟩ := brief9_tot p hl
  rw [hb]
  cases b with
  | false => rfl
  | true =>
  simp only [Option.bind_some, Bool.not_true, cond_false]
  by_cases hl : lenI l > 10
  · rw [decide_eq_true hl]; rfl
  rw [decide_eq_false hl, cond_false, rvalid_eq]
  rw [lenI_eq] at hl
  cases hv : validB p with
  | false =>
    rw [dtracks_no hv]; rfl
  | true =>
  have hp := valid_ok hv
  rw [dtracks_eq hv hp (by omega)]
  simp only [Option.bind_some, Bool.not_true, cond_false, rails_eq hv hp (show l.length ≤ 10 by omega)]
  cases hr : railsB p l with
  | false => rfl
  | true =>
  simp only [if_true, Bool.not_true, cond_false, rtracks_eq hv hp (show l.length ≤ 10 by omega) hr, Option.bind_some, show ((0 : Int) != 0) = false from rfl, bne_self_eq_false]
  have h := iter_emb0 (f := fun s34 : Int =>
cond ((decide (s34 < (lenI (l.map (trkS p)))))) (Option.bind (idx (l.map (trkS p)) s34) fun x39 =>
Option.bind (idx (l.map (trkS p)) s34) fun x40 =>
cond ((x39 != x40)) (some (.inr ((.inr false)))) (some (.inl ((w64 (s34 + 1)))))) (some (.inr ((.inl (()) : Unit ⊕ Bool))))) (fun k => (k : Int)) (l.map (trkS p)).length (fun _ => true) (.inr false) (.inl ()) (s0 := 0) rfl (by rw [List.length_map]; simp only [big]; omega) (fun i hi => by
      rw [lt_lenI hi, cond_true, idx_nat, List.getElem?_eq_getElem hi, Option.bind_some, Option.bind_some, bne_self_eq_false, cond_false, w64_succ (by rw [List.length_map] at hi; omega)]
      rfl) (by simp only [nlt_lenI, cond_false])
  rw [h]
  simp
  rfl
end Go.Ai.Sx
