/- The depot: assignments to tracks, and the longest lists of cars in each other's way. -/
import Derived.Test.YtpiblfbidgcjaaaDepotP1
namespace Go.Ai.Sx

def supL : List Nat → Nat
  | [] => 0
  | x :: l => max x (supL l)
theorem supL_ge : ∀ {l : List Nat} {x : Nat}, x ∈ l → x ≤ supL l
  | y :: l, x, h => by
    simp only [supL]
    rcases List.mem_cons.1 h with rfl | h
    · omega
    · have := supL_ge h; omega
theorem supL_ex : ∀ (l : List Nat), supL l = 0 ∨ supL l ∈ l
  | [] => .inl rfl
  | y :: l => by
    simp only [supL]
    rcases supL_ex l with h | h
    · rw [h]
      rcases Nat.eq_zero_or_pos y with q | q
      · left; omega
      · right; rw [Nat.max_eq_left (by omega)]; exact List.mem_cons_self ..
    · right
      rcases Nat.le_total y (supL l) with q | q
      · rw [Nat.max_eq_right q]; exact List.mem_cons_of_mem _ h
      · rw [Nat.max_eq_left q]; exact List.mem_cons_self ..

/- how many cars are in the way of each other before a car -/
def dep (W : Nat → Nat → Bool) (j : Nat) : Nat := supL (List.ofFn fun i : Fin j => if W i.1 j then dep W i.1 + 1 else 0)
termination_by j
decreasing_by exact i.2

theorem dep_ge {W : Nat → Nat → Bool} {i j : Nat} (hij : i < j) (h : W i j = true) : dep W i + 1 ≤ dep W j := by
  rw [dep.eq_1 W j]
  refine supL_ge (List.mem_ofFn.2 ⟨⟨i, hij⟩, ?_⟩)
  simp [h]
theorem dep_ex (W : Nat → Nat → Bool) (j : Nat) : dep W j = 0 ∨ ∃ i, i < j ∧ W i j = true ∧ dep W j = dep W i + 1 := by
  rw [dep.eq_1 W j]
  rcases supL_ex (List.ofFn fun i : Fin j => if W i.1 j then dep W i.1 + 1 else 0) with h | h
  · exact .inl h
  · obtain ⟨i, hi⟩ := List.mem_ofFn.1 h
    split at hi
    · rename_i q; exact .inr ⟨i.1, i.2, q, hi.symm⟩
    · exact .inl hi.symm

structure IsWay (n : Nat) (W : Nat → Nat → Bool) : Prop where
  trans : ∀ i j k, i < j → j < k → k < n → W i j = true → W j k = true → W i k = true

def top (d : Nat → Nat) : Nat → Nat
  | 0 => 0
  | j + 1 => max (top d j) (d j + 1)
theorem top_gt {d : Nat → Nat} : ∀ {i j : Nat}, i < j → d i < top d j
  | i, j + 1, h => by
    simp only [top]
    by_cases q : i = j
    · subst q; omega
    · have := top_gt (d := d) (show i < j by omega); omega
theorem top_ex {d : Nat → Nat} : ∀ {j : Nat}, 0 < top d j → ∃ i, i < j ∧ d i + 1 = top d j
  | 0, h => by simp [top] at h
  | j + 1, h => by
    simp only [top] at h ⊢
    by_cases q : d j + 1 ≤ top d j
    · obtain ⟨i, h1, h2⟩ := top_ex (d := d) (j := j) (by omega)
      exact ⟨i, by omega, by omega⟩
    · exact ⟨j, by omega, by omega⟩

section
variable {W : Nat → Nat → Bool} {n : Nat}
theorem dep_le_top (j : Nat) : dep W j ≤ top (dep W) j := by
  rcases dep_ex W j with h | ⟨i, h1, _, h3⟩
  · omega
  · have := top_gt (d := dep W) h1; omega
theorem dep_le (j : Nat) : dep W j ≤ j := by
  induction j using Nat.strongRecOn with
  | ind j ih =>
    rcases dep_ex W j with h | ⟨i, h1, _, h3⟩
    · omega
    · have := ih i h1; omega
theorem top_le (j : Nat) : top (dep W) j ≤ j := by
  induction j with
  | zero => simp [top]
  | succ j ih => simp only [top]; have := dep_le (W := W) j; omega
theorem dep_below (hW : IsWay n W) {j : Nat} (hj : j < n) {t : Nat} (ht : t < dep W j) : ∃ i, i < j ∧ W i j = true ∧ dep W i = t := by
  induction j using Nat.strongRecOn with
  | ind j ih =>
    rcases dep_ex W j with h | ⟨i, h1, h2, h3⟩
    · omega
    · by_cases q : dep W i = t
      · exact ⟨i, h1, h2, q⟩
      · obtain ⟨k, k1, k2, k3⟩ := ih i h1 (by omega) (by omega)
        exact ⟨k, by omega, hW.trans k i j k1 h1 hj k2 h2, k3⟩

/- from behind -/
def rev (n : Nat) (W : Nat → Nat → Bool) (a b : Nat) : Bool := W (n - 1 - b) (n - 1 - a)
def lng (n : Nat) (W : Nat → Nat → Bool) (i : Nat) : Nat := dep (rev n W) (n - 1 - i) + 1
theorem lng_ge {i j : Nat} (hij : i < j) (hj : j < n) (h : W i j = true) : lng n W j + 1 ≤ lng n W i := by
  unfold lng
  have := dep_ge (W := rev n W) (i := n - 1 - j) (j := n - 1 - i) (by omega) (by unfold rev; rw [show n - 1 - (n - 1 - i) = i by omega, show n - 1 - (n - 1 - j) = j by omega]; exact h)
  omega
theorem lng_ex {i : Nat} (hi : i < n) : lng n W i = 1 ∨ ∃ j, i < j ∧ j < n ∧ W i j = true ∧ lng n W i = lng n W j + 1 := by
  unfold lng
  rcases dep_ex (rev n W) (n - 1 - i) with h | ⟨a, h1, h2, h3⟩
  · left; omega
  · right
    refine ⟨n - 1 - a, by omega, by omega, ?_, ?_⟩
    · unfold rev at h2
      rw [show n - 1 - (n - 1 - i) = i by omega] at h2
      exact h2
    · rw [show n - 1 - (n - 1 - a) = a by omega, h3]
theorem lng_le {i : Nat} (hi : i < n) : lng n W i ≤ n - i := by
  unfold lng
  have := dep_le (W := rev n W) (n - 1 - i)
  omega
theorem lng_pos {i : Nat} : 0 < lng n W i := by unfold lng; omega

/- both ways of counting come to the same -/
theorem lng_dep {i : Nat} (hi : i < n) : lng n W i + dep W i ≤ top (dep W) n := by
  have key : ∀ k i, i < n → n - i = k → lng n W i + dep W i ≤ top (dep W) n := by
    intro k
    induction k using Nat.strongRecOn with
    | ind k ih =>
      intro i hi hk
      rcases lng_ex (W := W) hi with h | ⟨j, h1, h2, h3, h4⟩
      · have := top_gt (d := dep W) hi; omega
      · have := ih (n - j) (by omega) j h2 rfl
        have := dep_ge h1 h3
        omega
  exact key _ i hi rfl
theorem lng_top (hn : 0 < n) : ∃ i, i < n ∧ lng n W i = top (dep W) n := by
  have hp : 0 < top (dep W) n := by
    have := top_gt (d := dep W) hn; omega
  obtain ⟨j, h1, h2⟩ := top_ex hp
  have key : ∀ k j, j < n → dep W j = k → ∃ i, i < n ∧ lng n W j + dep W j ≤ lng n W i := by
    intro k
    induction k with
    | zero => intro j hj hk; exact ⟨j, hj, by omega⟩
    | succ k ih =>
      intro j hj hk
      rcases dep_ex W j with h | ⟨i, h1, h2, h3⟩
      · omega
      · obtain ⟨q, q1, q2⟩ := ih i (by omega) (by omega)
        have := lng_ge (n := n) h1 hj h2
        exact ⟨q, q1, by omega⟩
  obtain ⟨i, i1, i2⟩ := key _ j h1 rfl
  have := lng_dep (W := W) i1
  have := lng_pos (n := n) (W := W) (i := j)
  exact ⟨i, i1, by omega⟩

/- the part of it that a loop has seen -/
def pm (e : Nat → Nat) (W : Nat → Nat → Bool) (i : Nat) : Nat → Nat
  | 0 => 0
  | j + 1 => if i < j ∧ W i j = true then max (pm e W i j) (e j) else pm e W i j
theorem pm_ge {e : Nat → Nat} {i x : Nat} : ∀ {j : Nat}, i < x → x < j → W i x = true → e x ≤ pm e W i j
  | j + 1, h1, h2, h3 => by
    simp only [pm]
    by_cases q : x = j
    · subst q; rw [if_pos ⟨h1, h3⟩]; omega
    · have := pm_ge (e := e) h1 (show x < j by omega) h3
      split <;> omega
theorem pm_ex {e : Nat → Nat} {i : Nat} : ∀ {j : Nat}, pm e W i j = 0 ∨ ∃ x, i < x ∧ x < j ∧ W i x = true ∧ e x = pm e W i j
  | 0 => .inl rfl
  | j + 1 => by
    simp only [pm]
    split
    · rename_i q
      rcases Nat.le_total (pm e W i j) (e j) with h | h
      · rw [Nat.max_eq_right h]; exact .inr ⟨j, q.1, by omega, q.2, rfl⟩
      · rw [Nat.max_eq_left h]
        rcases pm_ex (e := e) (i := i) (j := j) with h | ⟨x, h1, h2, h3, h4⟩
        · exact .inl h
        · exact .inr ⟨x, h1, by omega, h3, h4⟩
    · rcases pm_ex (e := e) (i := i) (j := j) with h | ⟨x, h1, h2, h3, h4⟩
      · exact .inl h
      · exact .inr ⟨x, h1, by omega, h3, h4⟩
theorem pm_all {i : Nat} (hi : i < n) : pm (lng n W) W i n + 1 = lng n W i := by
  rcases lng_ex (W := W) hi with h | ⟨j, h1, h2, h3, h4⟩
  · rcases pm_ex (W := W) (e := lng n W) (i := i) (j := n) with h5 | ⟨x, h1, h2, h3, h4⟩
    · omega
    · have := lng_ge (W := W) h1 h2 h3; omega
  · have h5 := pm_ge (e := lng n W) h1 h2 h3
    rcases pm_ex (W := W) (e := lng n W) (i := i) (j := n) with h6 | ⟨x, k1, k2, k3, k4⟩
    · have := lng_pos (n := n) (W := W) (i := j); omega
    · have := lng_ge (W := W) k1 k2 k3; omega
theorem pm_le {i : Nat} (hi : i < n) {j : Nat} (hj : j ≤ n) : pm (lng n W) W i j ≤ n := by
  rcases pm_ex (W := W) (e := lng n W) (i := i) (j := j) with h | ⟨x, h1, h2, h3, h4⟩
  · omega
  · have := lng_le (W := W) (show x < n by omega); omega
end

/- lists by number -/
def rl {A : Type} (n : Nat) (f : Nat → A) : List A := (List.range n).map f
theorem rl_len {A : Type} (n : Nat) (f : Nat → A) : (rl n f).length = n := by simp [rl]
theorem rl_idx {A : Type} {n : Nat} {f : Nat → A} {i : Nat} (h : i < n) : idx (rl n f) (i : Int) = some (f i) := by
  rw [idx_nat]; simp [rl, h]
theorem rl_get {A : Type} {n : Nat} {f : Nat → A} {i : Nat} : (rl n f)[i]? = if i < n then some (f i) else none := by
  by_cases h : i < n <;> simp [rl, h]
theorem rl_congr {A : Type} {n : Nat} {f g : Nat → A} (h : ∀ i, i < n → f i = g i) : rl n f = rl n g := List.map_congr_left fun i hi => h i (List.mem_range.1 hi)
theorem rl_set {A : Type} {n : Nat} {f : Nat → A} {i : Nat} {v : A} : (rl n f).set i v = rl n fun x => if x = i then v else f x := by
  apply List.ext_getElem?
  intro x
  rw [List.getElem?_set, rl_get, rl_len, rl_get]
  by_cases q : i = x
  · subst q
    by_cases h : i < n <;> simp [h]
  · rw [if_neg q]
    by_cases h : x < n
    · rw [if_pos h, if_pos h, if_neg (fun e => q e.symm)]
    · rw [if_neg h, if_neg h]
theorem rl_succ {A : Type} (n : Nat) (f : Nat → A) : rl (n + 1) f = rl n f ++ [f n] := by simp [rl, List.range_succ]
theorem rl_repl {A : Type} (n : Nat) (x : A) : List.replicate n x = rl n fun _ => x := by
  apply List.ext_getElem?
  intro i
  rw [rl_get, List.getElem?_replicate]
end Go.Ai.Sx
