/- An abstract interpreter for the model's code: the orders that a region may draw. -/
import Derived.Test.YtpiblfbidgcjaaaAiLocal
import Derived.Orders
namespace Go.Ai

def preds (ops : Array Oper) (S : Nat → Prop) (i : Nat) : Prop := ∀ o, ops[i]? = some o → ∀ e ∈ o.after.toList, Region.binds .any e = true → S e.on

inductive Sched (ops : Array Oper) : (Nat → Prop) → List Nat → Prop where
  | nil (S : Nat → Prop) (h : ∀ i, i < ops.size → S i) : Sched ops S []
  | cons (S : Nat → Prop) (i : Nat) (l : List Nat) (hi : i < ops.size) (hn : ¬ S i) (hp : preds ops S i) (h : Sched ops (fun x => S x ∨ x = i) l) : Sched ops S (i :: l)

theorem Sched.congr {ops : Array Oper} {S S' : Nat → Prop} {l : List Nat} (h : Sched ops S l) (e : ∀ x, S x ↔ S' x) : Sched ops S' l := by
  have : S = S' := funext fun x => propext (e x)
  exact this ▸ h

theorem edgesOk_spec : ∀ (os : List Oper) (k : Nat), edgesOk os k = true → ∀ (i : Nat) o, os[i]? = some o → ∀ e ∈ o.after.toList, Region.binds .any e = true → e.on < k + i
  | [], k, _, i, o, ho, e, _, _ => by simp at ho
  | x :: xs, k, h, i, o, ho, e, he, hb => by
    simp only [edgesOk, Bool.and_eq_true] at h
    cases i with
    | zero =>
      simp at ho; subst ho
      have := Array.all_eq_true_iff_forall_mem.1 h.1 e (by simpa using he)
      rw [hb] at this
      simpa using this
    | succ i =>
      have := edgesOk_spec xs (k + 1) h.2 i o (by simpa using ho) e he hb
      omega

theorem sched_go {ops : Array Oper} (hedge : edgesOk ops.toList 0 = true) : ∀ (fuel t : Nat) (listed : Array Bool), listed.size = ops.size → listed.toList.count false ≤ fuel →
    Sched ops (fun i => listed.getD i false = true) (Region.linearise.go .any ops fuel t listed []) := by
  intro fuel
  induction fuel with
  | zero =>
    intro t listed hsz hc
    simp only [Region.linearise.go, List.reverse_nil]
    refine .nil _ (fun i hi => ?_)
    have hlt : i < listed.size := by omega
    have hno : false ∉ listed.toList := by
      intro hm
      have := List.count_pos_iff.2 hm
      omega
    have hv : listed[i] = true := by
      cases hb : listed[i] with
      | true => rfl
      | false => exact absurd (by rw [← hb]; exact Array.getElem_mem_toList hlt) hno
    simp [Array.getD, hlt, hv]
  | succ fuel ih =>
    intro t listed hsz hc
    simp only [Region.linearise.go]
    change Sched ops _ (match (Region.ready .any ops listed)[t % (Region.ready .any ops listed).length]? with
      | some i => Region.linearise.go .any ops fuel (t / (Region.ready .any ops listed).length) (listed.setIfInBounds i true) [i]
      | none => [].reverse)
    cases hi : (Region.ready .any ops listed)[t % (Region.ready .any ops listed).length]? with
    | none =>
      have hnil : Region.ready .any ops listed = [] := by
        cases hr : Region.ready .any ops listed with
        | nil => rfl
        | cons x xs =>
          rw [hr] at hi
          have hlt : t % (x :: xs).length < (x :: xs).length := Nat.mod_lt _ (by simp)
          simp at hi
          simp at hlt
          omega
      simp only [List.reverse_nil]
      refine .nil _ ?_
      intro i
      induction i using Nat.strongRecOn with
      | _ i ihi =>
        intro hi'
        have hlt : i < listed.size := by omega
        cases hb : listed.getD i false with
        | true => rfl
        | false =>
          exfalso
          have hmem : i ∈ Region.ready .any ops listed := by
            rw [mem_ready]
            refine ⟨?_, ops[i], Array.getElem?_eq_getElem hi', fun e he heb => ?_⟩
            · simp [Array.getD, hlt] at hb ⊢; exact hb
            · have hlt2 := edgesOk_spec ops.toList 0 hedge i ops[i] (by simp) e (by simpa using he) heb
              exact ihi e.on (by omega) (by omega)
          rw [hnil] at hmem
          cases hmem
    | some i =>
      have hmem := List.mem_of_getElem? hi
      rw [mem_ready] at hmem
      obtain ⟨h0, o, ho, hall⟩ := hmem
      have hlt : i < ops.size := (Array.getElem?_eq_some_iff.1 ho).1
      have hlt2 : i < listed.size := by omega
      simp only []
      rw [linearise_go_acc, List.reverse_singleton, List.singleton_append]
      have hfalse : listed[i] = false := by simpa [Array.getD, hlt2] using h0
      refine .cons _ i _ hlt (by simp [Array.getD, hlt2, hfalse]) ?_ ?_
      · intro o' ho' e he hb
        rw [ho] at ho'; cases ho'
        exact hall e (by simpa using he) hb
      · refine (ih (t / (Region.ready .any ops listed).length) (listed.setIfInBounds i true) (by simpa using hsz) ?_).congr ?_
        · have hcs : (listed.setIfInBounds i true).toList.count false = listed.toList.count false - 1 := by
            rw [Array.toList_setIfInBounds, List.count_set (by simpa using hlt2)]
            simp [hfalse]
          omega
        · intro x
          by_cases hx : x = i
          · subst hx; simp [Array.getD, hlt2]
          · rw [getD_set_ne false (fun q => hx q.symm)]; simp [hx]

theorem sched_schedule {ops : Array Oper} (hedge : edgesOk ops.toList 0 = true) (t : Nat) : Sched ops (fun _ => False) (Region.schedule true ops t) := by
  have h := sched_go hedge ops.size t (Array.replicate ops.size false) (by simp) (by
    rw [Array.toList_replicate, List.count_replicate]; simp)
  refine Sched.congr (S := _) (by simpa [Region.schedule, Region.linearise] using h) (fun x => ?_)
  constructor
  · intro hx
    have hx' : (Array.replicate ops.size false)[x]?.getD false = true := hx
    rw [Array.getElem?_replicate] at hx'
    split at hx' <;> simp at hx'
  · exact False.elim

/- what must come before -/
def Closed (ops : Array Oper) (S : Nat → Prop) : Prop := ∀ i, S i → preds ops S i

theorem mem_before {ops : Array Oper} {S : Nat → Prop} (hc : Closed ops S) : ∀ (k : Nat) (todo seen : List Nat), (∀ x ∈ seen, S x) → (∀ x ∈ todo, preds ops S x) → ∀ x ∈ before ops.toList k todo seen, S x
  | 0, todo, seen, hs, _, x, hx => hs x hx
  | k + 1, [], seen, hs, _, x, hx => hs x hx
  | k + 1, j :: todo, seen, hs, ht, x, hx => by
    have hpre := ht j (List.mem_cons_self ..)
    simp only [before] at hx
    have hnews : ∀ y ∈ ((match ops.toList[j]? with
      | some o => (o.after.toList.filter (Region.binds .any)).map (fun (e : Edge) => e.on)
      | none => []).filter fun i => !seen.contains i), S y := by
      intro y hy
      have hy := (List.mem_filter.1 hy).1
      cases ho : ops.toList[j]? with
      | none => rw [ho] at hy; cases hy
      | some o =>
        rw [ho] at hy
        obtain ⟨e, he, rfl⟩ := List.mem_map.1 hy
        obtain ⟨he1, he2⟩ := List.mem_filter.1 he
        exact hpre o (by simpa using ho) e he1 he2
    refine mem_before hc k _ _ ?_ ?_ x hx
    · intro y hy
      rcases List.mem_append.1 hy with hy | hy
      · exact hnews y hy
      · exact hs y hy
    · intro y hy
      rcases List.mem_append.1 hy with hy | hy
      · exact hc y (hnews y hy)
      · exact ht y (List.mem_cons_of_mem _ hy)

theorem mem_allBefore {ops : Array Oper} {S : Nat → Prop} (hc : Closed ops S) {i j : Nat} (hp : preds ops S i) (hj : j ∈ allBefore ops.toList i) : S j :=
  mem_before hc _ [i] [] (fun x hx => by cases hx) (fun x hx => by simp at hx; subst hx; exact hp) j hj

/- slots -/
theorem slotsOk_spec (all : List Oper) : ∀ (os : List Oper) (k : Nat), slotsOk all os k = true → ∀ (i : Nat) o, os[i]? = some o → ∀ (j : Nat) a, j < k + i → all[j]? = some a → slotsApart all a o = true ∨ j ∈ allBefore all (k + i)
  | [], k, _, i, o, ho, _, _, _, _ => by simp at ho
  | x :: xs, k, h, i, o, ho, j, a, hj, ha => by
    simp only [slotsOk, Bool.and_eq_true] at h
    cases i with
    | zero =>
      simp at ho; subst ho
      have h1 := h.1
      split at h1
      · rename_i hq
        have := List.all_eq_true.1 hq j (List.mem_range.2 (by omega))
        rw [ha] at this
        exact .inl this
      · have := List.all_eq_true.1 h1 j (List.mem_range.2 (by omega))
        rw [ha] at this
        simp only [Bool.or_eq_true] at this
        rcases this with q | q
        · exact .inl q
        · right; simpa using q
    | succ i =>
      have := slotsOk_spec all xs (k + 1) h.2 i o (by simpa using ho) j a (by omega) ha
      rw [show k + (i + 1) = k + 1 + i from by omega]
      exact this

end Go.Ai
