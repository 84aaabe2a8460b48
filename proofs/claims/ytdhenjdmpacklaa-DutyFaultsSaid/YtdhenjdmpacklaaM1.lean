/- An abstract interpreter for the model's code: the orders that a region may draw. -/
import Derived.Test.YtdhenjdmpacklaaM0
import Derived.Orders
import Derived.ChangeArms
import Derived.ChangeShapes
import Derived.WideShapes
import Derived.RowKit
import Derived.IntWalk
namespace Go.Ai
def preds (ops : Array Oper) (S : Nat → Prop) (i : Nat) : Prop := ∀ o, ops[i]? = some o → ∀ e ∈ o.after.toList, Region.binds .any e = true → S e.on
inductive Sched (ops : Array Oper) : (Nat → Prop) → List Nat → Prop where
  | nil (S : Nat → Prop) (h : ∀ i, i < ops.size → S i) : Sched ops S []
  | cons (S : Nat → Prop) (i : Nat) (l : List Nat) (hi : i < ops.size) (hn : ¬ S i) (hp : preds ops S i) (h : Sched ops (fun x => S x ∨ x = i) l) : Sched ops S (i :: l)
theorem Sched.congr {ops : Array Oper} {S S' : Nat → Prop} {l : List Nat} (h : Sched ops S l) (e : ∀ x, S x ↔ S' x) : Sched ops S' l := by
  have : S = S' := funext fun x => propext (e x)
  exact this ▸ h
theorem edgesOk_spec : ∀ (os : List Oper) (k : Nat), edgesOk os k = true → ∀ (i : Nat) o, os[i]? = some o → ∀ e ∈ o.after.toList, Region.binds .any e = true → e.on < k + i
  | [], k, _, i, o, ho, e, _, _ => by simp at ho
  | x :: xs, k, h, i, o, ho, e, he, hb => by
    simp only [edgesOk, Bool.and_eq_true] at h
    cases i with
    | zero =>
      simp at ho; subst ho
      have := Array.all_eq_true_iff_forall_mem.1 h.1 e (by simpa using he)
      rw [hb] at this
      simpa using this
    | succ i =>
      have := edgesOk_spec xs (k + 1) h.2 i o (by simpa using ho) e he hb
      omega
theorem sched_go {ops : Array Oper} (hedge : edgesOk ops.toList 0 = true) : ∀ (fuel t : Nat) (listed : Array Bool), listed.size = ops.size → listed.toList.count false ≤ fuel →
    Sched ops (fun i => listed.getD i false = true) (Region.linearise.go .any ops fuel t listed []) := by
  intro fuel
  induction fuel with
  | zero =>
    intro t listed hsz hc
    simp only [Region.linearise.go, List.reverse_nil]
    refine .nil _ (fun i hi => ?_)
    have hlt : i < listed.size := by omega
    have hno : false ∉ listed.toList := by
      intro hm
      have := List.count_pos_iff.2 hm
      omega
    have hv : listed[i] = true := by
      cases hb : listed[i] with
      | true => rfl
      | false => exact absurd (by rw [← hb]; exact Array.getElem_mem_toList hlt) hno
    simp [Array.getD, hlt, hv]
  | succ fuel ih =>
    intro t listed hsz hc
    simp only [Region.linearise.go]
    change Sched ops _ (match (Region.ready .any ops listed)[t % (Region.ready .any ops listed).length]? with
      | some i => Region.linearise.go .any ops fuel (t / (Region.ready .any ops listed).length) (listed.setIfInBounds i true) [i]
      | none => [].reverse)
    cases hi : (Region.ready .any ops listed)[t % (Region.ready .any ops listed).length]? with
    | none =>
      have hnil : Region.ready .any ops listed = [] := by
        cases hr : Region.ready .any ops listed with
        | nil => rfl
        | cons x xs =>
          rw [hr] at hi
          have hlt : t % (x :: xs).length < (x :: xs).length := Nat.mod_lt _ (by simp)
          simp at hi
          simp at hlt
          omega
      simp only [List.reverse_nil]
      refine .nil _ ?_
      intro i
      induction i using Nat.strongRecOn with
      | _ i ihi =>
        intro hi'
        have hlt : i < listed.size := by omega
        cases hb : listed.getD i false with
        | true => rfl
        | false =>
          exfalso
          have hmem : i ∈ Region.ready .any ops listed := by
            rw [mem_ready]
            refine ⟨?_, ops[i], Array.getElem?_eq_getElem hi', fun e he heb => ?_⟩
            · simp [Array.getD, hlt] at hb ⊢; exact hb
            · have hlt2 := edgesOk_spec ops.toList 0 hedge i ops[i] (by simp) e (by simpa using he) heb
              exact ihi e.on (by omega) (by omega)
          rw [hnil] at hmem
          cases hmem
    | some i =>
      have hmem := List.mem_of_getElem? hi
      rw [mem_ready] at hmem
      obtain ⟨h0, o, ho, hall⟩ := hmem
      have hlt : i < ops.size := (Array.getElem?_eq_some_iff.1 ho).1
      have hlt2 : i < listed.size := by omega
      simp only []
      rw [linearise_go_acc, List.reverse_singleton, List.singleton_append]
      have hfalse : listed[i] = false := by simpa [Array.getD, hlt2] using h0
      refine .cons _ i _ hlt (by simp [Array.getD, hlt2, hfalse]) ?_ ?_
      · intro o' ho' e he hb
        rw [ho] at ho'; cases ho'
        exact hall e (by simpa using he) hb
      · refine (ih (t / (Region.ready .any ops listed).length) (listed.setIfInBounds i true) (by simpa using hsz) ?_).congr ?_
        · have hcs : (listed.setIfInBounds i true).toList.count false = listed.toList.count false - 1 := by
            rw [Array.toList_setIfInBounds, List.count_set (by simpa using hlt2)]
            simp [hfalse]
          omega
        · intro x
          by_cases hx : x = i
          · subst hx; simp [Array.getD, hlt2]
          · rw [getD_set_ne false (fun q => hx q.symm)]; simp [hx]
theorem sched_schedule {ops : Array Oper} (hedge : edgesOk ops.toList 0 = true) (t : Nat) : Sched ops (fun _ => False) (Region.schedule true ops t) := by
  have h := sched_go hedge ops.size t (Array.replicate ops.size false) (by simp) (by
    rw [Array.toList_replicate, List.count_replicate]; simp)
  refine Sched.congr (S := _) (by simpa [Region.schedule, Region.linearise] using h) (fun x => ?_)
  constructor
  · intro hx
    have hx' : (Array.replicate ops.size false)[x]?.getD false = true := hx
    rw [Array.getElem?_replicate] at hx'
    split at hx' <;> simp at hx'
  · exact False.elim
def Closed (ops : Array Oper) (S : Nat → Prop) : Prop := ∀ i, S i → preds ops S i
theorem mem_before {ops : Array Oper} {S : Nat → Prop} (hc : Closed ops S) : ∀ (k : Nat) (todo seen : List Nat), (∀ x ∈ seen, S x) → (∀ x ∈ todo, preds ops S x) → ∀ x ∈ before ops.toList k todo seen, S x
  | 0, todo, seen, hs, _, x, hx => hs x hx
  | k + 1, [], seen, hs, _, x, hx => hs x hx
  | k + 1, j :: todo, seen, hs, ht, x, hx => by
    have hpre := ht j (List.mem_cons_self ..)
    simp only [before] at hx
    have hnews : ∀ y ∈ ((match ops.toList[j]? with
      | some o => (o.after.toList.filter (Region.binds .any)).map (fun (e : Edge) => e.on)
      | none => []).filter fun i => !seen.contains i), S y := by
      intro y hy
      have hy := (List.mem_filter.1 hy).1
      cases ho : ops.toList[j]? with
      | none => rw [ho] at hy; cases hy
      | some o =>
        rw [ho] at hy
        obtain ⟨e, he, rfl⟩ := List.mem_map.1 hy
        obtain ⟨he1, he2⟩ := List.mem_filter.1 he
        exact hpre o (by simpa using ho) e he1 he2
    refine mem_before hc k _ _ ?_ ?_ x hx
    · intro y hy
      rcases List.mem_append.1 hy with hy | hy
      · exact hnews y hy
      · exact hs y hy
    · intro y hy
      rcases List.mem_append.1 hy with hy | hy
      · exact hc y (hnews y hy)
      · exact ht y (List.mem_cons_of_mem _ hy)
theorem mem_allBefore {ops : Array Oper} {S : Nat → Prop} (hc : Closed ops S) {i j : Nat} (hp : preds ops S i) (hj : j ∈ allBefore ops.toList i) : S j :=
  mem_before hc _ [i] [] (fun x hx => by cases hx) (fun x hx => by simp at hx; subst hx; exact hp) j hj
theorem slotsOk_spec (all : List Oper) : ∀ (os : List Oper) (k : Nat), slotsOk all os k = true → ∀ (i : Nat) o, os[i]? = some o → ∀ (j : Nat) a, j < k + i → all[j]? = some a → slotsApart all a o = true ∨ j ∈ allBefore all (k + i)
  | [], k, _, i, o, ho, _, _, _, _ => by simp at ho
  | x :: xs, k, h, i, o, ho, j, a, hj, ha => by
    simp only [slotsOk, Bool.and_eq_true] at h
    cases i with
    | zero =>
      simp at ho; subst ho
      have h1 := h.1
      split at h1
      · rename_i hq
        have := List.all_eq_true.1 hq j (List.mem_range.2 (by omega))
        rw [ha] at this
        exact .inl this
      · have := List.all_eq_true.1 h1 j (List.mem_range.2 (by omega))
        rw [ha] at this
        simp only [Bool.or_eq_true] at this
        rcases this with q | q
        · exact .inl q
        · right; simpa using q
    | succ i =>
      have := slotsOk_spec all xs (k + 1) h.2 i o (by simpa using ho) j a (by omega) ha
      rw [show k + (i + 1) = k + 1 + i from by omega]
      exact this
end Go.Ai

/- An abstract interpreter for the model's code: the run of a drawn region in the order of the text, laid out step by step. -/
namespace Go.Ai
section
variable {T : Tab} {call : Caller}
structure IsTrace (T : Tab) (call : Caller) (os : List Oper) (st : Nat → AFrame × AHeap) (vl : Nat → AVal) (ft : Nat → Foot) (ex : Nat → Bool) (i : Nat) (done : List (Nat × Foot)) : Prop where
  step : ∀ k o, i ≤ k → os[k]? = some o →
    (ex k = false ∧ awanted os (st k).1 o.guard = some false ∧ vl k = unit ∧ st (k + 1) = (putDst (st k).1 o.dst unit, (st k).2)) ∨
    (ex k = true ∧ awanted os (st k).1 o.guard = some true ∧ ∃ h', astep T call (st k).1.op o.op { (st k).2 with wm := (st k).2.next } = some (.ret (vl k), h') ∧
      ft k = footOf (foot (st k).1.op o) (st k).2 h' ∧ st (k + 1) = (putDst (st k).1 o.dst (vl k), { h' with wm := min (st k).2.wm h'.wm }))
  apart : ∀ j k, i ≤ j → j < k → k < os.length → ex k = true → ex j = true → (ft j).apart (ft k) = true ∨ j ∈ allBefore os k
  apartD : ∀ p ∈ done, ∀ k, i ≤ k → k < os.length → ex k = true → p.2.apart (ft k) = true ∨ p.1 ∈ allBefore os k
theorem footsOk_spec {os : List Oper} {j : Nat} {f : Foot} {done : List (Nat × Foot)} (h : footsOk os j f done = true) : ∀ p ∈ done, p.2.apart f = true ∨ p.1 ∈ allBefore os j := by
  intro p hp
  unfold footsOk at h
  split at h
  · rename_i hq
    exact .inl (List.all_eq_true.1 hq p hp)
  · have := List.all_eq_true.1 h p hp
    simp only [Bool.or_eq_true] at this
    rcases this with q | q
    · exact .inl q
    · right; simpa using q
theorem adraw_trace {os : List Oper} : ∀ (rest : List Oper) (i : Nat) (done : List (Nat × Foot)) (fr : AFrame) (h : AHeap) (fr' : AFrame) (h' : AHeap), os.drop i = rest → adraw T call os rest i done fr h = some (fr', h') →
    ∃ st vl ft ex, st i = (fr, h) ∧ IsTrace T call os st vl ft ex i done ∧ st (i + rest.length) = (fr', h')
  | [], i, done, fr, h, fr', h', hd, hl => by
    simp only [adraw] at hl
    cases hl
    have hlen : os.length ≤ i := by
      have := congrArg List.length hd
      simp at this; omega
    refine ⟨fun _ => (fr, h), fun _ => unit, fun _ => ⟨[], false, [], false⟩, fun _ => false, rfl, ⟨?_, ?_, ?_⟩, rfl⟩
    · intro k o hk ho
      have := (List.getElem?_eq_some_iff.1 ho).1
      omega
    · intro j k _ _ _ he; cases he
    · intro p _ k _ _ he; cases he
  | o :: rest, i, done, fr, h, fr', h', hd, hl => by
    have hoi : os[i]? = some o := by
      have := congrArg (fun l => l[0]?) hd
      simpa [List.getElem?_drop] using this
    have hd2 : os.drop (i + 1) = rest := by
      have := congrArg (fun l => l.drop 1) hd
      simpa [List.drop_drop] using this
    simp only [adraw] at hl
    split at hl
    · rename_i hw
      split at hl
      · rename_i v h1 hs
        cases hf : footsOk os i (footOf (foot fr.op o) h h1) done with
        | false => rw [hf] at hl; cases hl
        | true =>
          rw [hf] at hl
          simp only [cond_true] at hl
          obtain ⟨st, vl, ft, ex, s1, s2, s3⟩ := adraw_trace rest (i + 1) _ _ _ fr' h' hd2 hl
          refine ⟨fun k => if k = i then (fr, h) else st k, fun k => if k = i then v else vl k, fun k => if k = i then footOf (foot fr.op o) h h1 else ft k, fun k => if k = i then true else ex k, by simp, ⟨?_, ?_, ?_⟩, ?_⟩
          · intro k o' hk ho'
            by_cases e : k = i
            · subst e
              rw [hoi] at ho'; cases ho'
              right
              simp only [if_true, if_neg (show ¬ (k + 1 = k) by omega)]
              exact ⟨trivial, hw, h1, hs, rfl, s1⟩
            · simp only [if_neg e, if_neg (show ¬ (k + 1 = i) by omega)]
              exact s2.step k o' (by omega) ho'
          · intro j k hj hjk hk hek hej
            simp only [if_neg (show ¬ k = i by omega)] at hek ⊢
            by_cases e : j = i
            · subst e
              simp only [if_true]
              exact s2.apartD (j, _) (List.mem_cons_self ..) k (by omega) hk hek
            · simp only [if_neg e] at hej ⊢
              exact s2.apart j k (by omega) hjk hk hek hej
          · intro p hp k hk hkl hek
            by_cases e : k = i
            · subst e
              simp only [if_true]
              exact footsOk_spec hf p hp
            · simp only [if_neg e] at hek ⊢
              exact s2.apartD p (List.mem_cons_of_mem _ hp) k (by omega) hkl hek
          · show (if i + (o :: rest).length = i then (fr, h) else st (i + (o :: rest).length)) = _
            rw [if_neg (by simp), show i + (o :: rest).length = i + 1 + rest.length from by simp; omega]
            exact s3
      · cases hl
    · rename_i hw
      obtain ⟨st, vl, ft, ex, s1, s2, s3⟩ := adraw_trace rest (i + 1) _ _ _ fr' h' hd2 hl
      refine ⟨fun k => if k = i then (fr, h) else st k, fun k => if k = i then unit else vl k, ft, fun k => if k = i then false else ex k, by simp, ⟨?_, ?_, ?_⟩, ?_⟩
      · intro k o' hk ho'
        by_cases e : k = i
        · subst e
          rw [hoi] at ho'; cases ho'
          left
          simp only [if_true, if_neg (show ¬ (k + 1 = k) by omega)]
          exact ⟨trivial, hw, trivial, s1⟩
        · simp only [if_neg e, if_neg (show ¬ (k + 1 = i) by omega)]
          exact s2.step k o' (by omega) ho'
      · intro j k hj hjk hk hek hej
        simp only [if_neg (show ¬ k = i by omega)] at hek
        by_cases e : j = i
        · subst e; simp at hej
        · simp only [if_neg e] at hej
          exact s2.apart j k (by omega) hjk hk hek hej
      · intro p hp k hk hkl hek
        by_cases e : k = i
        · subst e; simp at hek
        · simp only [if_neg e] at hek
          exact s2.apartD p hp k (by omega) hkl hek
      · show (if i + (o :: rest).length = i then (fr, h) else st (i + (o :: rest).length)) = _
        rw [if_neg (by simp), show i + (o :: rest).length = i + 1 + rest.length from by simp; omega]
        exact s3
    · cases hl
theorem foot_val {ev : Operand → AVal} {o : Oper} {h : AHeap} {v : AVal} {h' : AHeap} (hl : aop T ev h o.op = some (.val v h')) : (foot ev o).rall = false ∧ (foot ev o).wall = false := by
  unfold foot
  cases ho : o.op <;> try exact ⟨rfl, rfl⟩
  rename_i c
  rw [ho] at hl
  simp only [aop, opCall] at hl
  cases hc : c.callee with
  | builtin b => simp only [hc]; cases b <;> simp
  | value f => rw [hc] at hl; cases hl
  | invoke r m => rw [hc] at hl; cases hl
theorem foot_call {ev : Operand → AVal} {o : Oper} {h : AHeap} {f : AVal} {as : List AVal} (hl : aop T ev h o.op = some (.call f as)) : foot ev o = ⟨[], true, [], false⟩ := by
  obtain ⟨c, fo, h1, h2, _⟩ := aop_call_inv hl
  unfold foot
  rw [h1]
  simp only [h2]
end
end Go.Ai

/- An abstract interpreter for the model's code: a region that draws its order. -/
namespace Go.Ai
open Classical
theorem H0.congr {base : Nat} {ρ : Emb} {h h2 : AHeap} {w : World} (hr : H0 base ρ h w) (e : ∀ b l, ρ b = some l → h2.get b = h.get b) : H0 base ρ h2 w := by
  have ow : ∀ b l, ρ b = some l → (Owns h2 b ↔ Owns h b) := fun b l hb => by unfold Owns; rw [e b l hb]
  have al : ∀ b l, ρ b = some l → (Alive h2 b ↔ Alive h b) := fun b l hb => by unfold Alive; rw [e b l hb]
  exact ⟨hr.clt, fun b l hb => by rw [e b l hb]; exact hr.blk b l hb, fun b b' l l' hb hb' hn ho ha => hr.inj b b' l l' hb hb' hn ((ow b l hb).1 ho) ((al b' l' hb').1 ha), hr.base⟩
structure Core (ρ : Emb) (h : AHeap) (w : World) (ρ' : Emb) (h' : AHeap) (w' : World) : Prop where
  ext : Ext ρ ρ'
  size : w.heap.size ≤ w'.heap.size
  frame : ∀ k, k < w.heap.size → (∀ b l, ρ b = some l → Owns h b → l.c ≠ k) → w'.heap[k]? = w.heap[k]?
  own : ∀ b l, ρ' b = some l → Alive h' b → (ρ b = some l ∧ Alive h b ∧ (Owns h' b → Owns h b)) ∨ w.heap.size ≤ l.c ∨ ∃ b0 l0, ρ b0 = some l0 ∧ Owns h b0 ∧ l0.c = l.c
  os : w'.os = w.os
  tape : w'.tape = w.tape
  output : w'.output = w.output
  loops : ∀ b l L, ρ b = some l → h.get b = some (.loop L) → ∃ L', h'.get b = some (.loop L') ∧ LSame L L'
theorem Trans.core {ρ ρ' : Emb} {h h' : AHeap} {w w' : World} (t : Trans ρ h w ρ' h' w') : Core ρ h w ρ' h' w' := ⟨t.ext, t.size, t.frame, t.own, t.os, t.tape, t.output, t.loops⟩
theorem Core.refl (ρ : Emb) (h : AHeap) (w : World) : Core ρ h w ρ h w := (Trans.refl ρ h w).core
theorem Core.trans {ρ ρ₁ ρ₂ : Emb} {h h₁ h₂ : AHeap} {w w₁ w₂ : World} (a : Core ρ h w ρ₁ h₁ w₁) (b : Core ρ₁ h₁ w₁ ρ₂ h₂ w₂) : Core ρ h w ρ₂ h₂ w₂ := by
  refine ⟨a.ext.trans b.ext, Nat.le_trans a.size b.size, fun k hk hb => ?_, fun b' l hb' ho => ?_, b.os.trans a.os, b.tape.trans a.tape, b.output.trans a.output,
    fun b' l L hb hg => let ⟨L1, h1, s1⟩ := a.loops b' l L hb hg; let ⟨L2, h2, s2⟩ := b.loops b' l L1 (a.ext _ _ hb) h1; ⟨L2, h2, s1.trans s2⟩⟩
  · rw [b.frame k (Nat.lt_of_lt_of_le hk a.size) ?_, a.frame k hk hb]
    intro b1 l1 hb1 ho1 e
    rcases a.own b1 l1 hb1 ho1.alive with ⟨h0, _, h2⟩ | h1 | ⟨b0, l0, h0, ho0, e0⟩
    · exact hb b1 l1 h0 (h2 ho1) e
    · omega
    · exact hb b0 l0 h0 ho0 (e0.trans e)
  · rcases b.own b' l hb' ho with ⟨h1, h2, h3⟩ | h1 | ⟨b1, l1, h1, ho1, e1⟩
    · rcases a.own b' l h1 h2 with ⟨g1, g2, g3⟩ | g1 | g1
      · exact .inl ⟨g1, g2, fun q => g3 (h3 q)⟩
      · exact .inr (.inl g1)
      · exact .inr (.inr g1)
    · exact .inr (.inl (Nat.le_trans a.size h1))
    · rcases a.own b1 l1 h1 ho1.alive with ⟨g1, g2, g3⟩ | h2 | ⟨b0, l0, h0, ho0, e0⟩
      · exact .inr (.inr ⟨b1, l1, g1, g3 ho1, e1⟩)
      · exact .inr (.inl (by rw [← e1]; exact h2))
      · exact .inr (.inr ⟨b0, l0, h0, ho0, e0.trans e1⟩)
theorem Core.congr {ρ ρ' : Emb} {h h' g g' : AHeap} {w w' : World} (t : Core ρ h w ρ' h' w') (e : ∀ b l, ρ b = some l → g.get b = h.get b) (e' : ∀ b l, ρ' b = some l → g'.get b = h'.get b) : Core ρ g w ρ' g' w' := by
  have ow : ∀ b l, ρ b = some l → (Owns g b ↔ Owns h b) := fun b l hb => by unfold Owns; rw [e b l hb]
  have al : ∀ b l, ρ b = some l → (Alive g b ↔ Alive h b) := fun b l hb => by unfold Alive; rw [e b l hb]
  have ow' : ∀ b l, ρ' b = some l → (Owns g' b ↔ Owns h' b) := fun b l hb => by unfold Owns; rw [e' b l hb]
  have al' : ∀ b l, ρ' b = some l → (Alive g' b ↔ Alive h' b) := fun b l hb => by unfold Alive; rw [e' b l hb]
  refine ⟨t.ext, t.size, fun k hk hb => t.frame k hk (fun b l h1 h2 => hb b l h1 ((ow b l h1).2 h2)), fun b l hb ha => ?_, t.os, t.tape, t.output, fun b l L hb hg => ?_⟩
  · rcases t.own b l hb ((al' b l hb).1 ha) with ⟨h1, h2, h3⟩ | h1 | ⟨b0, l0, h1, h2, h3⟩
    · exact .inl ⟨h1, (al b l h1).2 h2, fun q => (ow b l h1).2 (h3 ((ow' b l hb).1 q))⟩
    · exact .inr (.inl h1)
    · exact .inr (.inr ⟨b0, l0, h1, (ow b0 l0 h1).2 h2, h3⟩)
  · rw [e b l hb] at hg
    obtain ⟨L', h1, h2⟩ := t.loops b l L hb hg
    exact ⟨L', by rw [e' b l (t.ext _ _ hb)]; exact h1, h2⟩
theorem mkHeap (g : Nat → Option ABlk) (nx : Nat) : ∀ B : Nat, ∃ h : AHeap, h.next = nx ∧ ∀ b, h.get b = if b < B then g b else none
  | 0 => ⟨⟨.leaf, nx, 0⟩, rfl, fun b => by simp [AHeap.get, Tr.get]⟩
  | B + 1 => by
    obtain ⟨h, h1, h2⟩ := mkHeap g nx B
    cases hg : g B with
    | none =>
      refine ⟨h, h1, fun b => ?_⟩
      rw [h2]
      by_cases e : b = B
      · subst e; simp [hg]
      · by_cases q : b < B
        · rw [if_pos q, if_pos (by omega)]
        · rw [if_neg q, if_neg (by omega)]
    | some x =>
      refine ⟨h.set B x, h1, fun b => ?_⟩
      rw [AHeap.get_set, h2]
      by_cases e : b = B
      · subst e; simp [hg]
      · rw [if_neg e]
        by_cases q : b < B
        · rw [if_pos q, if_pos (by omega)]
        · rw [if_neg q, if_neg (by omega)]
section
variable (os : List Oper) (st : Nat → AFrame × AHeap) (vl : Nat → AVal)
def dstOf (m : Nat) : Option Nat := (os[m]?).bind (fun (o : Oper) => o.dst)
noncomputable def fcont (S : Nat → Prop) : Nat → Nat → AVal
  | 0, t => (st 0).1.ev t
  | m + 1, t => if S m ∧ dstOf os m = some t then vl m else fcont S m t
def Chg (m b : Nat) : Prop := b < (st (m + 1)).2.next ∧ ((st m).2.next ≤ b ∨ (st (m + 1)).2.get b ≠ (st m).2.get b)
noncomputable def hcont (S : Nat → Prop) : Nat → Nat → Option ABlk
  | 0, b => (st 0).2.get b
  | m + 1, b => if S m ∧ Chg st m b then (st (m + 1)).2.get b else hcont S m b
variable {os st vl}
theorem fcont_upto {S : Nat → Prop} {t : Nat} : ∀ (i : Nat), (∀ m, m < i → (st (m + 1)).1.ev t = if dstOf os m = some t then vl m else (st m).1.ev t) → (∀ m, m < i → dstOf os m = some t → S m) → fcont os st vl S i t = (st i).1.ev t
  | 0, _, _ => rfl
  | i + 1, hs, h => by
    simp only [fcont]
    rw [hs i (by omega), fcont_upto i (fun m hm => hs m (by omega)) (fun m hm => h m (by omega))]
    by_cases e : dstOf os i = some t
    · rw [if_pos ⟨h i (by omega) e, e⟩, if_pos e]
    · rw [if_neg (fun q => e q.2), if_neg e]
theorem fcont_from {S : Nat → Prop} {t i : Nat} : ∀ (N : Nat), i ≤ N → (∀ m, i ≤ m → m < N → S m → dstOf os m ≠ some t) → fcont os st vl S N t = fcont os st vl S i t
  | 0, hi, _ => by have : i = 0 := by omega
                   subst this; rfl
  | N + 1, hi, h => by
    by_cases e : i = N + 1
    · rw [e]
    · simp only [fcont]
      rw [if_neg (fun q => h N (by omega) (by omega) q.1 q.2)]
      exact fcont_from N (by omega) (fun m h1 h2 => h m h1 (by omega))
theorem fcont_add {S : Nat → Prop} {i t : Nat} (hi : ¬ S i) : ∀ (N : Nat), (dstOf os i ≠ some t → fcont os st vl (fun x => S x ∨ x = i) N t = fcont os st vl S N t) ∧
    (dstOf os i = some t → i < N → (∀ m, i < m → m < N → S m → dstOf os m ≠ some t) → fcont os st vl (fun x => S x ∨ x = i) N t = vl i)
  | 0 => ⟨fun _ => rfl, fun _ h => by omega⟩
  | N + 1 => by
    obtain ⟨h1, h2⟩ := fcont_add hi N
    refine ⟨fun hd => ?_, fun hd hN hm => ?_⟩
    · simp only [fcont]
      rw [h1 hd]
      by_cases e : N = i
      · subst e
        rw [if_neg (fun q => hd q.2), if_neg (fun q => hd q.2)]
      · by_cases q : S N ∧ dstOf os N = some t
        · rw [if_pos ⟨.inl q.1, q.2⟩, if_pos q]
        · rw [if_neg (fun q2 => q ⟨q2.1.resolve_right e, q2.2⟩), if_neg q]
    · simp only [fcont]
      by_cases e : N = i
      · subst e; rw [if_pos ⟨.inr rfl, hd⟩]
      · rw [if_neg (fun q => hm N (by omega) (by omega) (q.1.resolve_right e) q.2)]
        exact h2 hd (by omega) (fun m a b => hm m a (by omega))
theorem hcont_upto {S : Nat → Prop} {b : Nat} : ∀ (i : Nat), (b < (st i).2.next) → (∀ m, m < i → (st m).2.next ≤ (st (m + 1)).2.next) → (∀ m, m < i → Chg st m b → S m) → hcont st S i b = (st i).2.get b
  | 0, _, _, _ => rfl
  | i + 1, hb, hmono, h => by
    simp only [hcont]
    by_cases c : Chg st i b
    · rw [if_pos ⟨h i (by omega) c, c⟩]
    · rw [if_neg (fun q => c q.2)]
      unfold Chg at c
      have c1 : b < (st i).2.next := by
        by_cases q : b < (st i).2.next
        · exact q
        · exact absurd ⟨hb, .inl (by omega)⟩ c
      have c2 : (st (i + 1)).2.get b = (st i).2.get b := by
        by_cases q : (st (i + 1)).2.get b = (st i).2.get b
        · exact q
        · exact absurd ⟨hb, .inr q⟩ c
      rw [hcont_upto i c1 (fun m hm => hmono m (by omega)) (fun m hm => h m (by omega)), c2]
theorem hcont_from {S : Nat → Prop} {b i : Nat} : ∀ (N : Nat), i ≤ N → (∀ m, i ≤ m → m < N → S m → ¬ Chg st m b) → hcont st S N b = hcont st S i b
  | 0, hi, _ => by have : i = 0 := by omega
                   subst this; rfl
  | N + 1, hi, h => by
    by_cases e : i = N + 1
    · rw [e]
    · simp only [hcont]
      rw [if_neg (fun q => h N (by omega) (by omega) q.1 q.2)]
      exact hcont_from N (by omega) (fun m h1 h2 => h m h1 (by omega))
theorem hcont_add {S : Nat → Prop} {i b : Nat} (hi : ¬ S i) : ∀ (N : Nat), (¬ Chg st i b → hcont st (fun x => S x ∨ x = i) N b = hcont st S N b) ∧
    (Chg st i b → i < N → (∀ m, i < m → m < N → S m → ¬ Chg st m b) → hcont st (fun x => S x ∨ x = i) N b = (st (i + 1)).2.get b)
  | 0 => ⟨fun _ => rfl, fun _ h => by omega⟩
  | N + 1 => by
    obtain ⟨h1, h2⟩ := hcont_add hi N
    refine ⟨fun hd => ?_, fun hd hN hm => ?_⟩
    · simp only [hcont]
      rw [h1 hd]
      by_cases e : N = i
      · subst e
        rw [if_neg (fun q => hd q.2), if_neg (fun q => hd q.2)]
      · by_cases q : S N ∧ Chg st N b
        · rw [if_pos ⟨.inl q.1, q.2⟩, if_pos q]
        · rw [if_neg (fun q2 => q ⟨q2.1.resolve_right e, q2.2⟩), if_neg q]
    · simp only [hcont]
      by_cases e : N = i
      · subst e; rw [if_pos ⟨.inr rfl, hd⟩]
      · rw [if_neg (fun q => hm N (by omega) (by omega) (q.1.resolve_right e) q.2)]
        exact h2 hd (by omega) (fun m a b => hm m a (by omega))
end
end Go.Ai

/- An abstract interpreter for the model's code: a drawn region's step, whatever has run before it. -/
namespace Go.Ai
open Classical
theorem disj_spec {a b : List Nat} (h : disj a b = true) {x : Nat} (hx : x ∈ a) : x ∉ b := by
  have := List.all_eq_true.1 h x hx
  simpa using this
structure Clear (f : Foot) (x : Nat) : Prop where
  rd : x ∉ f.rd
  wr : x ∉ f.wr
  rall : f.rall = false
  wall : f.wall = false
theorem apart_left {a b : Foot} (h : a.apart b = true) {x : Nat} (hx : x ∈ a.wr ∨ a.wall = true) : Clear b x := by
  unfold Foot.apart at h
  simp only [Bool.and_eq_true, Bool.or_eq_true, Bool.not_eq_true', List.isEmpty_iff] at h
  obtain ⟨⟨⟨⟨⟨⟨h1, h2⟩, h3⟩, h4⟩, h5⟩, h6⟩, h7⟩ := h
  rcases hx with hx | hx
  · have hne : ¬ a.wr = [] := fun q => by rw [q] at hx; cases hx
    refine ⟨disj_spec h1 hx, disj_spec h2 hx, ?_, ?_⟩
    · rcases h7 with q | q
      · exact q
      · exact absurd q.1 hne
    · rcases h5 with q | q
      · exact q
      · exact absurd q.1.1.2 hne
  · rcases h4 with q | q
    · rw [hx] at q; cases q
    · obtain ⟨⟨⟨q1, q2⟩, q3⟩, q4⟩ := q
      exact ⟨by rw [q1]; simp, by rw [q2]; simp, q3, q4⟩
theorem apart_right {a b : Foot} (h : a.apart b = true) {x : Nat} (hx : x ∈ b.wr ∨ b.wall = true) : Clear a x := by
  unfold Foot.apart at h
  simp only [Bool.and_eq_true, Bool.or_eq_true, Bool.not_eq_true', List.isEmpty_iff] at h
  obtain ⟨⟨⟨⟨⟨⟨h1, h2⟩, h3⟩, h4⟩, h5⟩, h6⟩, h7⟩ := h
  rcases hx with hx | hx
  · have hne : ¬ b.wr = [] := fun q => by rw [q] at hx; cases hx
    refine ⟨fun q => disj_spec h3 q hx, fun q => disj_spec h2 q hx, ?_, ?_⟩
    · rcases h6 with q | q
      · exact q
      · exact absurd q.1 hne
    · rcases h4 with q | q
      · exact q
      · exact absurd q.1.1.2 hne
  · rcases h5 with q | q
    · rw [hx] at q; cases q
    · obtain ⟨⟨⟨q1, q2⟩, q3⟩, q4⟩ := q
      exact ⟨by rw [q1]; simp, by rw [q2]; simp, q3, q4⟩
theorem foot_operand {ev : Operand → AVal} {o : Oper} {b : Nat} (h : b ∈ (foot ev o).rd ∨ b ∈ (foot ev o).wr) : ∃ a ∈ o.op.operands.toList, b ∈ blkOf (ev a) := by
  unfold foot at h
  have fl : ∀ (c : Call), b ∈ (c.args.toList.map ev).flatMap blkOf → ∃ a ∈ (Op.call c).operands.toList, b ∈ blkOf (ev a) := by
    intro c hb
    obtain ⟨v, hv, hb⟩ := List.mem_flatMap.1 hb
    obtain ⟨a, ha, rfl⟩ := List.mem_map.1 hv
    exact ⟨a, by simp only [Op.operands, Call.operands, Array.toList_append, List.mem_append]; exact .inr ha, hb⟩
  cases ho : o.op <;> rw [ho] at h <;> simp only at h <;> (try (simp at h; done))
  case load t a => exact ⟨a, by simp [Op.operands], by simpa using h⟩
  case store t a x => exact ⟨a, by simp [Op.operands], by simpa using h⟩
  case lookup t x ix ok => exact ⟨x, by simp [Op.operands], by simpa using h⟩
  case mapUpdate t m k x => exact ⟨m, by simp [Op.operands], by simpa using h⟩
  case insert t m k x => exact ⟨m, by simp [Op.operands], by simpa using h⟩
  case call c =>
    apply fl c
    cases hc : c.callee with
    | value f => rw [hc] at h; simp at h
    | invoke r m => rw [hc] at h; simp at h
    | builtin bb =>
      rw [hc] at h
      have hmap : ∀ xs : List AVal, b ∈ xs.flatMap mapOf → b ∈ xs.flatMap blkOf := by
        intro xs hx
        obtain ⟨v, hv, hb⟩ := List.mem_flatMap.1 hx
        refine List.mem_flatMap.2 ⟨v, hv, ?_⟩
        cases v <;> simp [mapOf] at hb
        simp [blkOf, hb]
      have hsub : ∀ (xs ys : List AVal), (∀ y ∈ ys, y ∈ xs) → b ∈ ys.flatMap blkOf → b ∈ xs.flatMap blkOf := by
        intro xs ys hy hx
        obtain ⟨v, hv, hb⟩ := List.mem_flatMap.1 hx
        exact List.mem_flatMap.2 ⟨v, hy v hv, hb⟩
      cases bb <;> simp only at h <;> (try (simp at h; done))
      case len => rcases h with h | h
                  · exact hmap _ h
                  · cases h
      case append => rcases h with h | h
                     · exact hsub _ _ (fun y hy => List.mem_of_mem_drop hy) h
                     · exact hsub _ _ (fun y hy => List.mem_of_mem_take hy) h
      case copy => rcases h with h | h
                   · exact hsub _ _ (fun y hy => List.mem_of_mem_drop hy) h
                   · exact hsub _ _ (fun y hy => List.mem_of_mem_take hy) h
theorem blkOf_dom {ρ : Emb} {v : AVal} {v' : Value} (h : VRel ρ v v') {b : Nat} (hb : b ∈ blkOf v) : ∃ l, ρ b = some l := by
  cases h <;> simp [blkOf] at hb
  · subst hb; exact ⟨_, by assumption⟩
  · subst hb; exact ⟨_, by assumption⟩
  · subst hb; exact ⟨_, by assumption⟩
noncomputable def inter (ρ ρi : Emb) : Emb := fun b => if (ρi b).isSome then ρ b else none
theorem inter_some {ρ ρi : Emb} {b : Nat} {l li : Loc} (h : ρ b = some l) (hi : ρi b = some li) : inter ρ ρi b = some l := by
  unfold inter; rw [hi]; simpa using h
theorem inter_inv {ρ ρi : Emb} {b : Nat} {l : Loc} (h : inter ρ ρi b = some l) : ρ b = some l ∧ ∃ li, ρi b = some li := by
  unfold inter at h
  cases hi : ρi b with
  | none => rw [hi] at h; simp at h
  | some li => rw [hi] at h; simp at h; exact ⟨h, li, rfl⟩
theorem FnRel.inter {ρ ρi : Emb} {f f' f'' : Fn} (h : FnRel ρ f f') (hi : FnRel ρi f f'') : FnRel (inter ρ ρi) f f' := by
  rcases h with ⟨l, l', rfl, rfl, loc, hl, hc⟩ | ⟨g, rfl, rfl⟩
  · rcases hi with ⟨l2, l2', e, rfl, loc2, hl2, _⟩ | ⟨g, e, _⟩
    · cases e
      exact .inl ⟨_, _, rfl, rfl, loc, inter_some hl hl2, hc⟩
    · cases e
  · exact .inr ⟨_, rfl, rfl⟩
theorem VRel.inter {ρ ρi : Emb} {v : AVal} {x : Value} (h : VRel ρ v x) : ∀ {y : Value}, VRel ρi v y → VRel (inter ρ ρi) v x := by
  induction h with
  | undef v => intro y _; exact .undef v
  | bool b => intro y _; exact .bool b
  | int k n => intro y _; exact .int k n
  | str s => intro y _; exact .str s
  | ptr b off l h => intro y hy; cases hy with | ptr _ _ l2 h2 => exact .ptr b off l (inter_some h h2)
  | nilptr => intro y _; exact .nilptr
  | slice b off len es cap l a ccap h hlen hcap hoff => intro y hy; cases hy with | slice _ _ _ _ _ l2 _ _ h2 _ _ _ => exact .slice b off len es cap l a ccap (inter_some h h2) hlen hcap hoff
  | nilslice => intro y _; exact .nilslice
  | map r l h => intro y hy; cases hy with | map _ l2 h2 => exact .map r l (inter_some h h2)
  | nilmap => intro y _; exact .nilmap
  | func fn fn' f c f' c' hfn hf hc _ _ ihf ihc =>
    intro y hy
    cases hy with
    | func _ fn2 _ _ f2 c2 hfn2 hf2 hc2 hfs2 hcs2 =>
      refine .func fn fn' f c f' c' (hfn.inter hfn2) hf hc (fun i v v' hv hv' => ?_) (fun i v v' hv hv' => ?_)
      · have hlt : i < f2.size := by rw [← hf2]; exact (List.getElem?_eq_some_iff.1 hv).1
        exact ihf i v v' hv hv' (hfs2 i v _ hv (Array.getElem?_eq_getElem hlt))
      · have hlt : i < c2.size := by rw [← hc2]; exact (List.getElem?_eq_some_iff.1 hv).1
        exact ihc i v v' hv hv' (hcs2 i v _ hv (Array.getElem?_eq_getElem hlt))
  | nilfunc => intro y _; exact .nilfunc
  | iface t v v' _ ih => intro y hy; cases hy with | iface _ _ _ h2 => exact .iface t v v' (ih h2)
  | niliface => intro y _; exact .niliface
  | agg cs cs' hl _ ih =>
    intro y hy
    cases hy with
    | agg _ c2 hl2 hs2 =>
      refine .agg cs cs' hl (fun i v v' hv hv' => ?_)
      have hlt : i < c2.size := by rw [← hl2]; exact (List.getElem?_eq_some_iff.1 hv).1
      exact ih i v v' hv hv' (hs2 i v _ hv (Array.getElem?_eq_getElem hlt))
  | tuple cs cs' hl _ ih =>
    intro y hy
    cases hy with
    | tuple _ c2 hl2 hs2 =>
      refine .tuple cs cs' hl (fun i v v' hv hv' => ?_)
      have hlt : i < c2.size := by rw [← hl2]; exact (List.getElem?_eq_some_iff.1 hv).1
      exact ih i v v' hv hv' (hs2 i v _ hv (Array.getElem?_eq_getElem hlt))
theorem BRel.inter {base : Nat} {ρ ρi : Emb} {x : Option ABlk} {l l' : Loc} {w w' : World} (h : BRel base ρ x l w) (hi : BRel base ρi x l' w') : BRel base (inter ρ ρi) x l w := by
  unfold BRel at h hi ⊢
  split
  · obtain ⟨cc, el, fz, h1, h2, h3, h4, h5⟩ := h
    obtain ⟨_, _, _, _, _, _, g4, _⟩ := hi
    exact ⟨cc, el, fz, h1, h2, h3, fun i v hv => by
      obtain ⟨v', a, b⟩ := h4 i v hv
      obtain ⟨_, _, c⟩ := g4 i v hv
      exact ⟨v', a, b.inter c⟩, h5⟩
  · obtain ⟨h0, ces, clk, h1, h2, h3⟩ := h
    obtain ⟨_, _, _, _, _, g3⟩ := hi
    exact ⟨h0, ces, clk, h1, h2, fun i k v hv => by
      obtain ⟨en, a, b, c⟩ := h3 i k v hv
      obtain ⟨_, _, b2, c2⟩ := g3 i k v hv
      exact ⟨en, a, b.inter b2, c.inter c2⟩⟩
  · obtain ⟨h0, L', h1, h2⟩ := h
    obtain ⟨_, L2, _, g2⟩ := hi
    exact ⟨h0, L', h1, ⟨h2.state, h2.pending, h2.params, h2.assign, h2.body, fun t => (h2.frame t).inter (g2.frame t), h2.okP, h2.okA, h2.okB⟩⟩
  · trivial
  · exact h.elim
theorem LRel.inter {ρ ρi : Emb} {vs : List AVal} {xs ys : List Value} (h : LRel ρ vs xs) (hi : LRel ρi vs ys) : LRel (inter ρ ρi) vs xs := by
  refine ⟨h.1, fun i v v' hv hv' => ?_⟩
  obtain ⟨y, _, hy⟩ := hi.at hv
  exact (h.2 i v v' hv hv').inter hy
theorem wanted_ok2 {ρ : Emb} {fr : AFrame} {tmps : Array Value} {ops : Array Oper} {o : Oper} {b : Bool} (hf : ∀ d ∈ looks ops.toList o, VRel ρ (fr.ev d) (tmps.getD d undef)) (hsz : ∀ o ∈ ops.toList, ∀ d, o.dst = some d → d < tmps.size) (hl : awanted ops.toList fr o.guard = some b) : Region.wanted o (yielded ops tmps) = b := by
  unfold awanted at hl
  unfold Region.wanted
  split at hl
  · rename_i hg; simp at hl; subst hl; simp [hg]
  · rename_i j want hg
    simp only [hg]
    unfold yielded
    have hl0 := hl
    rw [Array.getElem?_toList] at hl
    cases hd : (ops[j]?).bind (fun o => o.dst) with
    | none => rw [hd] at hl; simp at hl; subst hl; simp
    | some d =>
      rw [hd] at hl
      simp only at hl
      have hlt : d < tmps.size := by
        cases ho : ops[j]? with
        | none => rw [ho] at hd; cases hd
        | some o' =>
          rw [ho] at hd
          exact hsz o' (by rw [Array.mem_toList_iff]; exact Array.mem_of_getElem? ho) d hd
      have hv := hf d (by
        unfold looks
        refine List.mem_append.2 (.inr ?_)
        rw [hg]
        simp only [Array.getElem?_toList, hd]
        simp)
      have e : tmps.getD d undef = tmps[d] := by simp [Array.getD, hlt]
      rw [e] at hv
      simp only [Option.bind_some, Array.getElem?_eq_getElem hlt]
      generalize tmps[d] = y at hv
      generalize fr.ev d = x at hv hl
      cases hv <;> simp at hl <;> subst hl <;> simp
end Go.Ai

/- An abstract interpreter for the model's code: a drawn region, run in any order that its edges allow. -/
namespace Go.Ai
open Classical
structure Setup (T : Tab) (P : Program) (base : Nat) (call : Caller) (ops : Array Oper) (n : Nat) (st : Nat → AFrame × AHeap) (vl : Nat → AVal) (ft : Nat → Foot) (ex : Nat → Bool) : Prop where
  ok : T.Ok P
  hc : CallOk P base call
  hk : CallKeeps call
  hops : opsOk n ops
  hslots : slotsOk ops.toList ops.toList 0 = true
  tr : IsTrace T call ops.toList st vl ft ex 0 []
  run : ∀ i, i ≤ ops.size → ∃ ρi ti wi, ti.size = n ∧ FRel ρi (st i).1 ti ∧ HRel base ρi (st i).2 wi
section
variable {T : Tab} {P : Program} {base : Nat} {call : Caller} {ops : Array Oper} {n : Nat} {st : Nat → AFrame × AHeap} {vl : Nat → AVal} {ft : Nat → Foot} {ex : Nat → Bool}
theorem HRel.wm {ρ : Emb} {h : AHeap} {w : World} (hr : HRel base ρ h w) (x : Nat) : HRel base ρ { h with wm := x } w :=
  ⟨hr.toH0.congr (fun _ _ _ => rfl), hr.lt⟩
theorem chain_ok (ok : T.Ok P) (hc : CallOk P base call) (hops : opsOk n ops) (tr : IsTrace T call ops.toList st vl ft ex 0 []) {ρ : Emb} {tmps : Array Value} {w : World} (hsz : tmps.size = n) (hf : FRel ρ (st 0).1 tmps) (hr : HRel base ρ (st 0).2 w) :
    ∀ i, i ≤ ops.size → ∃ ρi ti wi, ti.size = n ∧ FRel ρi (st i).1 ti ∧ HRel base ρi (st i).2 wi
  | 0, _ => ⟨ρ, tmps, w, hsz, hf, hr⟩
  | i + 1, hi => by
    obtain ⟨ρi, ti, wi, h1, h2, h3⟩ := chain_ok ok hc hops tr hsz hf hr i (by omega)
    have hlt : i < ops.size := by omega
    have hoi : ops[i]? = some ops[i] := Array.getElem?_eq_getElem hlt
    have hol : ops.toList[i]? = some ops[i] := by simp [hlt]
    have hmem : ops[i] ∈ ops.toList := List.mem_of_getElem? hol
    obtain ⟨hdst, hsv⟩ := hops _ hmem
    have hall : ∀ o ∈ ops.toList, ∀ d, o.dst = some d → d < ti.size := fun o' ho' d hd' => by rw [h1]; exact (hops o' ho').1 d hd'
    rcases tr.step i _ (Nat.zero_le _) hol with ⟨_, _, _, e⟩ | ⟨_, hw, h', hst, _, e⟩
    · rw [e]
      exact ⟨ρi, putT ti ops[i].dst undef, wi, by rw [size_putT]; exact h1, h2.putDst (fun d hd => hall _ hmem d hd) (.tuple' (.nil _)), h3⟩
    · have hwant := wanted_ok h2 hall hw
      obtain ⟨r', w', ρ', hrel, hr', ht', _⟩ := astep_ok ok hc h2 (h3.wm _) hst hsv hoi hwant 0 .normal none [] [] [] []
      cases r' with
      | pan _ => exact hrel.elim
      | ret v' =>
        rw [e]
        exact ⟨ρ', putT ti ops[i].dst v', w', by rw [size_putT]; exact h1, (h2.mono ht'.ext).putDst (fun d hd => hall _ hmem d hd) hrel, hr'.wm _⟩
variable (s : Setup T P base call ops n st vl ft ex)
include s
theorem Setup.ev {m t : Nat} (hm : m < ops.size) : (st (m + 1)).1.ev t = if dstOf ops.toList m = some t then vl m else (st m).1.ev t := by
  have hol : ops.toList[m]? = some ops[m] := by simp [hm]
  have hd : dstOf ops.toList m = ops[m].dst := by unfold dstOf; rw [hol]; rfl
  have key : ∀ v, AFrame.ev (putDst (st m).1 ops[m].dst v) t = if dstOf ops.toList m = some t then v else (st m).1.ev t := by
    intro v
    rw [hd]
    cases h : ops[m].dst with
    | none => simp [putDst]
    | some d =>
      simp only [putDst, AFrame.ev_set, Option.some.injEq]
      by_cases e : t = d
      · subst e; simp
      · rw [if_neg e, if_neg (fun q => e q.symm)]
  rcases s.tr.step m _ (Nat.zero_le _) hol with ⟨_, _, hv, e⟩ | ⟨_, hw, h', hst, _, e⟩
  · rw [e, hv]; exact key _
  · rw [e]; exact key _
theorem Setup.mono1 {m : Nat} (hm : m < ops.size) : (st m).2.next ≤ (st (m + 1)).2.next := by
  have hol : ops.toList[m]? = some ops[m] := by simp [hm]
  rcases s.tr.step m _ (Nat.zero_le _) hol with ⟨_, _, hv, e⟩ | ⟨_, hw, h', hst, _, e⟩
  · rw [e]; exact Nat.le_refl _
  · rw [e]; exact (astep_keeps s.hk hst).1
theorem Setup.mono {m k : Nat} (hmk : m ≤ k) (hk : k ≤ ops.size) : (st m).2.next ≤ (st k).2.next := by
  induction k with
  | zero => have : m = 0 := by omega
            subst this; exact Nat.le_refl _
  | succ k ih =>
    by_cases e : m = k + 1
    · subst e; exact Nat.le_refl _
    · exact Nat.le_trans (ih (by omega) (by omega)) (s.mono1 (by omega))
theorem Setup.chg {m b : Nat} (hm : m < ops.size) (hb : b < (st m).2.next) (hne : (st (m + 1)).2.get b ≠ (st m).2.get b) : ex m = true ∧ (b ∈ (ft m).wr ∨ (ft m).wall = true) := by
  have hol : ops.toList[m]? = some ops[m] := by simp [hm]
  rcases s.tr.step m _ (Nat.zero_le _) hol with ⟨_, _, hv, e⟩ | ⟨hex, hw, h', hst, hft, e⟩
  · rw [e] at hne; exact absurd rfl hne
  · refine ⟨hex, ?_⟩
    rw [e] at hne
    have hne : h'.get b ≠ (st m).2.get b := hne
    unfold astep at hst
    split at hst
    · rename_i v h2 ha
      cases hst
      obtain ⟨f1, f2⟩ := foot_val ha
      obtain ⟨h2', g1, g2⟩ := aop_local ha rfl (fun _ _ => rfl)
      rw [ha] at g1; cases g1
      have hf : ft m = foot (st m).1.op ops[m] := by rw [hft]; unfold footOf; rw [f1]; rfl
      rw [hf]
      rcases g2.2.2 b with ⟨q, _⟩ | ⟨_, q | ⟨q, _⟩⟩
      · exact absurd q hne
      · exact .inl q
      · exact absurd hb (by rw [q]; exact Nat.lt_irrefl _)
    · rename_i f as ha
      have hf : ft m = footOf ⟨[], true, [], false⟩ (st m).2 h' := by rw [hft, foot_call ha]
      right
      rw [hf]
      unfold footOf
      simp only [cond_true]
      cases hb2 : Nat.ble (st m).2.next h'.wm with
      | false => rfl
      | true =>
        exfalso
        have hle := Nat.le_of_ble_eq_true hb2
        have := (s.hk _ _ _ _ _ hst).2.2 b hb (Nat.lt_of_lt_of_le hb hle)
        exact hne this
    · cases hst
theorem Setup.range_unique {m k b : Nat} (hm : m < ops.size) (hk : k < ops.size) (h1 : (st m).2.next ≤ b) (h2 : b < (st (m + 1)).2.next) (h3 : (st k).2.next ≤ b) (h4 : b < (st (k + 1)).2.next) : m = k := by
  rcases Nat.lt_trichotomy m k with q | q | q
  · have := s.mono (m := m + 1) (k := k) (by omega) (by omega); omega
  · exact q
  · have := s.mono (m := k + 1) (k := m) (by omega) (by omega); omega
end
structure Inv (base : Nat) (ops : Array Oper) (n : Nat) (st : Nat → AFrame × AHeap) (vl : Nat → AVal) (ρ0 : Emb) (w0 : World) (S : Nat → Prop) (ρ : Emb) (tmps : Array Value) (w : World) (hS : AHeap) : Prop where
  closed : Closed ops S
  lt : ∀ i, S i → i < ops.size
  size : tmps.size = n
  frame : ∀ t, VRel ρ (fcont ops.toList st vl S ops.size t) (tmps.getD t undef)
  cont : ∀ b l, ρ b = some l → hS.get b = hcont st S ops.size b
  heap : H0 base ρ hS w
  core : Core ρ0 (st 0).2 w0 ρ hS w
  dom : ∀ b l, ρ b = some l → ρ0 b = some l ∨ ∃ m, S m ∧ (st m).2.next ≤ b ∧ b < (st (m + 1)).2.next
  junk : ∀ m b, S m → b < (st m).2.next → ρ b = none → (st (m + 1)).2.get b = (st m).2.get b
section
variable {T : Tab} {P : Program} {base : Nat} {call : Caller} {ops : Array Oper} {n : Nat} {st : Nat → AFrame × AHeap} {vl : Nat → AVal} {ft : Nat → Foot} {ex : Nat → Bool}
variable {ρ0 : Emb} {w0 : World} {S : Nat → Prop} {ρ : Emb} {tmps : Array Value} {w : World} {hS : AHeap}
variable (s : Setup T P base call ops n st vl ft ex) (hl0 : ∀ b l, ρ0 b = some l → b < (st 0).2.next) (inv : Inv base ops n st vl ρ0 w0 S ρ tmps w hS)
variable {i : Nat} (hi : i < ops.size) (hn : ¬ S i) (hp : preds ops S i)
include s inv hi hn hp in
theorem slot_of {o : Oper} (ho : ops.toList[i]? = some o) {t : Nat} (ht : t ∈ looks ops.toList o) : fcont ops.toList st vl S ops.size t = (st i).1.ev t := by
  rw [fcont_from (i := i) ops.size (by omega) ?_, fcont_upto i (fun m hm => s.ev (by omega)) ?_]
  · intro m hm hd
    have hml : m < ops.size := by omega
    have hom : ops.toList[m]? = some ops[m] := by simp [hml]
    rcases slotsOk_spec ops.toList ops.toList 0 s.hslots i o ho m ops[m] (by omega) hom with q | q
    · exfalso
      have hd' : ops[m].dst = some t := by unfold dstOf at hd; rw [hom] at hd; exact hd
      unfold slotsApart at q
      rw [hd'] at q
      simp only [Bool.and_eq_true] at q
      have := q.1.1
      simp at this
      exact this ht
    · rw [Nat.zero_add] at q
      exact mem_allBefore inv.closed hp q
  · intro m h1 h2 hm hd
    have hne : m ≠ i := fun e => hn (e ▸ hm)
    have hom : ops.toList[m]? = some ops[m] := by simp [h2]
    rcases slotsOk_spec ops.toList ops.toList 0 s.hslots m ops[m] hom i o (by omega) ho with q | q
    · have hd' : ops[m].dst = some t := by unfold dstOf at hd; rw [hom] at hd; exact hd
      unfold slotsApart at q
      rw [hd'] at q
      simp only [Bool.and_eq_true] at q
      have := q.2
      simp at this
      exact this ht
    · rw [Nat.zero_add] at q
      exact hn (mem_allBefore inv.closed (inv.closed m hm) q)
include s inv hn in
theorem slot_put {o : Oper} (ho : ops.toList[i]? = some o) {t : Nat} (ht : o.dst = some t) : ∀ m, i < m → m < ops.size → S m → dstOf ops.toList m ≠ some t := by
  intro m h1 h2 hm hd
  have hom : ops.toList[m]? = some ops[m] := by simp [h2]
  rcases slotsOk_spec ops.toList ops.toList 0 s.hslots m ops[m] hom i o (by omega) ho with q | q
  · have hd' : ops[m].dst = some t := by unfold dstOf at hd; rw [hom] at hd; exact hd
    unfold slotsApart at q
    rw [hd', ht] at q
    simp only [Bool.and_eq_true] at q
    have := q.1.2
    simp at this
  · rw [Nat.zero_add] at q
    exact hn (mem_allBefore inv.closed (inv.closed m hm) q)
include s hl0 inv hi hn in
theorem fresh_of {b : Nat} (h1 : (st i).2.next ≤ b) (h2 : b < (st (i + 1)).2.next) : ρ b = none := by
  cases h : ρ b with
  | none => rfl
  | some l =>
    exfalso
    rcases inv.dom b l h with q | ⟨m, hm, q1, q2⟩
    · have := hl0 b l q
      have := s.mono (m := 0) (k := i) (by omega) (by omega)
      omega
    · have := s.range_unique (inv.lt m hm) hi q1 q2 h1 h2
      exact hn (this ▸ hm)
include s hl0 inv hi hn in
theorem later_new {b : Nat} (h1 : (st i).2.next ≤ b) (h2 : b < (st (i + 1)).2.next) : ∀ m, i < m → m < ops.size → S m → ¬ Chg st m b := by
  intro m h3 h4 hm hc
  have hr := fresh_of s hl0 inv hi hn h1 h2
  have hle := s.mono (m := i + 1) (k := m) (by omega) (by omega)
  have := inv.junk m b hm (by omega) hr
  rcases hc.2 with q | q
  · omega
  · exact q this
include s hl0 inv hi hn hp in
theorem foot_at (hex : ex i = true) {b : Nat} {l : Loc} (hb : ρ b = some l) (hlt : b < (st i).2.next) (hf : ¬ Clear (ft i) b) :
    hcont st S ops.size b = (st i).2.get b ∧ ∀ m, i < m → m < ops.size → S m → ¬ Chg st m b := by
  have later : ∀ m, i < m → m < ops.size → S m → ¬ Chg st m b := by
    intro m h3 h4 hm hc
    have hle := s.mono (m := i) (k := m) (by omega) (by omega)
    rcases hc.2 with q | q
    · omega
    · obtain ⟨e1, e2⟩ := s.chg h4 (by omega) q
      rcases s.tr.apart i m (Nat.zero_le _) h3 (by simpa using h4) e1 hex with a | a
      · exact hf (apart_right a e2)
      · exact hn (mem_allBefore inv.closed (inv.closed m hm) a)
  refine ⟨?_, later⟩
  rw [hcont_from (i := i) ops.size (by omega) ?_, hcont_upto i hlt (fun m hm => s.mono1 (by omega)) ?_]
  · intro m hm hc
    by_cases hbm : b < (st m).2.next
    · have hne : (st (m + 1)).2.get b ≠ (st m).2.get b := hc.2.resolve_left (by omega)
      obtain ⟨e1, e2⟩ := s.chg (by omega) hbm hne
      rcases s.tr.apart m i (Nat.zero_le _) hm (by simpa using hi) hex e1 with a | a
      · exact absurd (apart_left a e2) hf
      · exact mem_allBefore inv.closed hp a
    · rcases inv.dom b l hb with q | ⟨m', hm', q1, q2⟩
      · have := hl0 b l q
        have := s.mono (m := 0) (k := m) (by omega) (by omega)
        omega
      · have := s.range_unique (inv.lt m' hm') (by omega) q1 q2 (by omega : (st m).2.next ≤ b) hc.1
        exact this ▸ hm'
  · intro m h1 h2 hm
    by_cases e : m = i
    · exact absurd (e ▸ hm) hn
    · exact later m (by omega) h2 hm
end
noncomputable def union (ρ' ρ : Emb) : Emb := fun b => if (ρ' b).isSome then ρ' b else ρ b
theorem union_left {ρ' ρ : Emb} {b : Nat} {l : Loc} (h : ρ' b = some l) : union ρ' ρ b = some l := by
  unfold union; rw [h]; rfl
theorem union_right {ρ' ρ : Emb} {b : Nat} (h : ρ' b = none) : union ρ' ρ b = ρ b := by
  unfold union; rw [h]; rfl
section
variable {base : Nat} {ρ ρs ρ' : Emb} {hS g g' h2 : AHeap} {w w' : World}
theorem merge_ok (hr : H0 base ρ hS w) (hsub : Ext ρs ρ) (hg : ∀ b l, ρs b = some l → g.get b = hS.get b) (ht : Trans ρs g w ρ' g' w') (hr' : H0 base ρ' g' w')
    (hfr : ∀ b, g.next ≤ b → b < g'.next → ρ b = none) (ha : ∀ b l, ρ' b = some l → h2.get b = g'.get b) (hb : ∀ b l, ρ b = some l → ρ' b = none → h2.get b = hS.get b) :
    Ext ρ (union ρ' ρ) ∧ Ext ρ' (union ρ' ρ) ∧ H0 base (union ρ' ρ) h2 w' ∧ Core ρ hS w (union ρ' ρ) h2 w' := by
  have dom' : ∀ b l, ρ' b = some l → ρs b = some l ∨ (g.next ≤ b ∧ b < g'.next) := ht.dom
  have e1 : Ext ρ (union ρ' ρ) := by
    intro b l h
    cases h' : ρ' b with
    | none => rw [union_right h']; exact h
    | some l' =>
      rw [union_left h']
      rcases dom' b l' h' with q | ⟨q1, q2⟩
      · have := hsub b l' q
        rw [h] at this; cases this; rfl
      · rw [hfr b q1 q2] at h; cases h
  have e2 : Ext ρ' (union ρ' ρ) := fun b l h => union_left h
  have ows : ∀ b l, ρs b = some l → (Owns g b ↔ Owns hS b) := fun b l h => by unfold Owns; rw [hg b l h]
  have als : ∀ b l, ρs b = some l → (Alive g b ↔ Alive hS b) := fun b l h => by unfold Alive; rw [hg b l h]
  have ow' : ∀ b l, ρ' b = some l → (Owns h2 b ↔ Owns g' b) := fun b l h => by unfold Owns; rw [ha b l h]
  have al' : ∀ b l, ρ' b = some l → (Alive h2 b ↔ Alive g' b) := fun b l h => by unfold Alive; rw [ha b l h]
  have owr : ∀ b l, ρ b = some l → ρ' b = none → (Owns h2 b ↔ Owns hS b) := fun b l h h' => by unfold Owns; rw [hb b l h h']
  have alr : ∀ b l, ρ b = some l → ρ' b = none → (Alive h2 b ↔ Alive hS b) := fun b l h h' => by unfold Alive; rw [hb b l h h']
  have cases' : ∀ b l, union ρ' ρ b = some l → ρ' b = some l ∨ (ρ' b = none ∧ ρ b = some l) := by
    intro b l h
    cases h' : ρ' b with
    | none => rw [union_right h'] at h; exact .inr ⟨rfl, h⟩
    | some l' => rw [union_left h'] at h; exact .inl h
  have nos : ∀ b, ρ' b = none → ρs b = none := by
    intro b h
    cases h' : ρs b with
    | none => rfl
    | some l => rw [ht.ext b l h'] at h; cases h
  refine ⟨e1, e2, ⟨?_, ?_, ?_, ?_⟩, ⟨e1, ht.size, ?_, ?_, ht.os, ht.tape, ht.output, ?_⟩⟩
  · intro b l h
    rcases cases' b l h with q | ⟨_, q⟩
    · exact hr'.clt b l q
    · exact Nat.lt_of_lt_of_le (hr.clt b l q) ht.size
  · intro b l h
    rcases cases' b l h with q | ⟨q1, q⟩
    · rw [ha b l q]
      exact (hr'.blk b l q).mono e2 rfl
    · rw [hb b l q q1]
      by_cases al : Alive hS b
      · refine (hr.blk b l q).mono e1 (ht.frame l.c (hr.clt b l q) ?_)
        intro b1 l1 h1 ho1
        refine hr.inj b1 b l1 l (hsub b1 l1 h1) q ?_ ((ows b1 l1 h1).1 ho1) al
        rintro rfl
        rw [nos b1 q1] at h1; cases h1
      · have hblk := hr.blk b l q
        unfold Alive at al
        cases hx : hS.get b with
        | none => rw [hx] at hblk; exact hblk.elim
        | some x =>
          rw [hx] at al
          cases x with
          | dead => trivial
          | arr _ _ => exact absurd trivial al
          | mp _ => exact absurd trivial al
          | loop _ => exact absurd trivial al
  · intro b b' l l' h h' hne ho hal
    rcases cases' b l h with q | ⟨q1, q⟩ <;> rcases cases' b' l' h' with p | ⟨p1, p⟩
    · exact hr'.inj b b' l l' q p hne ((ow' b l q).1 ho) ((al' b' l' p).1 hal)
    · have hog := (ow' b l q).1 ho
      have hah := (alr b' l' p p1).1 hal
      rcases ht.own b l q hog.alive with ⟨g1, g2, g3⟩ | g1 | ⟨b0, l0, g1, g2, g3⟩
      · exact hr.inj b b' l l' (hsub b l g1) p hne ((ows b l g1).1 (g3 hog)) hah
      · have := hr.clt b' l' p; omega
      · have := hr.inj b0 b' l0 l' (hsub b0 l0 g1) p (fun e => by rw [e, nos b' p1] at g1; cases g1) ((ows b0 l0 g1).1 g2) hah
        omega
    · have hog := (owr b l q q1).1 ho
      have hah := (al' b' l' p).1 hal
      rcases ht.own b' l' p hah with ⟨g1, g2, g3⟩ | g1 | ⟨b0, l0, g1, g2, g3⟩
      · exact hr.inj b b' l l' q (hsub b' l' g1) hne hog ((als b' l' g1).1 g2)
      · have := hr.clt b l q; omega
      · have := hr.inj b0 b l0 l (hsub b0 l0 g1) q (fun e => by rw [e, nos b q1] at g1; cases g1) ((ows b0 l0 g1).1 g2) hog.alive
        omega
    · exact hr.inj b b' l l' q p hne ((owr b l q q1).1 ho) ((alr b' l' p p1).1 hal)
  · exact Nat.le_trans hr.base ht.size
  · intro k hk hb'
    exact ht.frame k hk (fun b l h1 h2 => hb' b l (hsub b l h1) ((ows b l h1).1 h2))
  · intro b l h hal
    rcases cases' b l h with q | ⟨q1, q⟩
    · rcases ht.own b l q ((al' b l q).1 hal) with ⟨g1, g2, g3⟩ | g1 | ⟨b0, l0, g1, g2, g3⟩
      · exact .inl ⟨hsub b l g1, (als b l g1).1 g2, fun z => (ows b l g1).1 (g3 ((ow' b l q).1 z))⟩
      · exact .inr (.inl g1)
      · exact .inr (.inr ⟨b0, l0, hsub b0 l0 g1, (ows b0 l0 g1).1 g2, g3⟩)
    · exact .inl ⟨q, (alr b l q q1).1 hal, fun z => (owr b l q q1).1 z⟩
  · intro b l L h hL
    cases hs : ρs b with
    | some l2 =>
      have hL' : g.get b = some (.loop L) := by rw [hg b l2 hs]; exact hL
      obtain ⟨L', g1, g2⟩ := ht.loops b l2 L hs hL'
      exact ⟨L', by rw [ha b l2 (ht.ext b l2 hs)]; exact g1, g2⟩
    | none =>
      have hnone : ρ' b = none := by
        cases h' : ρ' b with
        | none => rfl
        | some l' =>
          rcases dom' b l' h' with q | ⟨q1, q2⟩
          · rw [hs] at q; cases q
          · rw [hfr b q1 q2] at h; cases h
      exact ⟨L, by rw [hb b l h hnone]; exact hL, .refl L⟩
end
end Go.Ai

/- An abstract interpreter for the model's code: one more operation of a drawn region; the whole region. -/
namespace Go.Ai
open Classical
def opF (f : Nat → AVal) : Operand → AVal
  | .tmp t => f t
  | x => AFrame.op .leaf x
theorem opF_op (fr : AFrame) (x : Operand) : fr.op x = opF fr.ev x := by cases x <;> rfl
theorem opF_rel {ρ : Emb} {f : Nat → AVal} {tmps : Array Value} (h : ∀ t, VRel ρ (f t) (tmps.getD t undef)) (x : Operand) : VRel ρ (opF f x) (evT tmps x) := by
  cases x with
  | tmp t => exact h t
  | const v =>
    show VRel ρ ((ofVal v).getD .undef) v
    cases h : ofVal v with
    | none => exact .undef v
    | some y => exact ofVal_rel ρ v y h
  | global g => exact .undef _
  | func f => exact .func _ _ [] [] #[] #[] (.inr ⟨f, rfl, rfl⟩) rfl rfl (by simp) (by simp)
theorem looks_operand {ops : List Oper} {o : Oper} {t : Nat} (h : Operand.tmp t ∈ o.op.operands.toList) : t ∈ looks ops o := by
  unfold looks
  exact List.mem_append.2 (.inl (List.mem_flatMap.2 ⟨_, h, by simp [slotsOf]⟩))
section
variable {T : Tab} {P : Program} {base : Nat} {call : Caller} {ops : Array Oper} {n : Nat} {st : Nat → AFrame × AHeap} {vl : Nat → AVal} {ft : Nat → Foot} {ex : Nat → Bool}
variable {ρ0 : Emb} {w0 : World} {S : Nat → Prop} {ρ : Emb} {tmps : Array Value} {w : World} {hS : AHeap}
variable (s : Setup T P base call ops n st vl ft ex) (hl0 : ∀ b l, ρ0 b = some l → b < (st 0).2.next) (inv : Inv base ops n st vl ρ0 w0 S ρ tmps w hS)
variable {i : Nat} (hi : i < ops.size) (hn : ¬ S i) (hp : preds ops S i)
include s inv hi hn hp in
theorem operand_of {o : Oper} (ho : ops.toList[i]? = some o) {x : Operand} (hx : x ∈ o.op.operands.toList) : (st i).1.op x = opF (fcont ops.toList st vl S ops.size) x := by
  rw [opF_op]
  cases x with
  | tmp t => exact (slot_of s inv hi hn hp ho (looks_operand hx)).symm
  | const v => rfl
  | global g => rfl
  | func f => rfl
include inv hi hp in
theorem closed_add : Closed ops (fun x => S x ∨ x = i) := by
  intro j hj o ho e he hb
  rcases hj with hj | hj
  · exact .inl (inv.closed j hj o ho e he hb)
  · subst hj; exact .inl (hp o ho e he hb)
include s inv hi hn in
theorem frame_add {o : Oper} (ho : ops.toList[i]? = some o) {ρ2 : Emb} {v' : Value} (he : Ext ρ ρ2) (hv : VRel ρ2 (vl i) v') (hd : ∀ d, o.dst = some d → d < tmps.size) (t : Nat) :
    VRel ρ2 (fcont ops.toList st vl (fun x => S x ∨ x = i) ops.size t) ((putT tmps o.dst v').getD t undef) := by
  have hdo : dstOf ops.toList i = o.dst := by unfold dstOf; rw [ho]; rfl
  by_cases e : o.dst = some t
  · rw [(fcont_add hn ops.size).2 (hdo.trans e) hi (slot_put s inv hn ho e)]
    rw [e]
    have hlt := hd t e
    simp [putT, Array.getD, hlt]
    exact hv
  · rw [(fcont_add hn ops.size).1 (by rw [hdo]; exact e)]
    have := (inv.frame t).mono he
    cases hdst : o.dst with
    | none => exact this
    | some d =>
      have hne : d ≠ t := fun q => e (by rw [hdst, q])
      simp only [putT]
      rw [show (tmps.setIfInBounds d v').getD t undef = tmps.getD t undef from by
        simp [Array.getD_eq_getD_getElem?, Array.getElem?_setIfInBounds, hne]]
      exact this
variable (fn : FuncId) (kind : CallKind) (rnd : Option Nat) (ds : List Deferred) (is : List Nat) (k : List Item) (cs : List Frame)
def Goes (P : Program) (base : Nat) (ops : Array Oper) (n : Nat) (st : Nat → AFrame × AHeap) (vl : Nat → AVal) (ρ0 : Emb) (w0 : World) (S : Nat → Prop) (i : Nat) (tmps : Array Value) (w : World)
    (fn : FuncId) (kind : CallKind) (rnd : Option Nat) (ds : List Deferred) (is : List Nat) (k : List Item) (cs : List Frame) : Prop :=
  ∃ ρ2 tmps2 w2 h2, Inv base ops n st vl ρ0 w0 (fun x => S x ∨ x = i) ρ2 tmps2 w2 h2 ∧
      Steps P (lone (fat fn kind rnd tmps ds (.inRegion ops (i :: is) :: k)) cs w) (lone (fat fn kind rnd tmps2 ds (.inRegion ops is :: k)) cs w2)
include s inv hi hn hp in
theorem goes_skip {o : Oper} (ho : ops.toList[i]? = some o) (hd : ∀ d, o.dst = some d → d < tmps.size) (hw : Region.wanted o (yielded ops tmps) = false) (hv : vl i = unit) (e : (st (i + 1)).2 = (st i).2) :
    Goes P base ops n st vl ρ0 w0 S i tmps w fn kind rnd ds is k cs := by
  have hoi : ops[i]? = some o := by simpa using ho
  have hnc : ∀ b, ρ b ≠ none → ¬ Chg st i b := by
    intro b _ hc
    unfold Chg at hc
    rw [e] at hc
    rcases hc.2 with q | q
    · have := hc.1; omega
    · exact q rfl
  refine ⟨ρ, putT tmps o.dst undef, w, hS, ⟨closed_add inv hi hp, ?_, by rw [size_putT]; exact inv.size, ?_, ?_, inv.heap, inv.core, ?_, ?_⟩, ?_⟩
  · rintro j (hj | rfl)
    · exact inv.lt j hj
    · exact hi
  · exact frame_add s inv hi hn ho (.refl _) (by rw [hv]; exact .tuple' (.nil _)) hd
  · intro b l hb
    rw [(hcont_add hn ops.size).1 (hnc b (by rw [hb]; simp))]
    exact inv.cont b l hb
  · intro b l hb
    rcases inv.dom b l hb with q | ⟨m, hm, q⟩
    · exact .inl q
    · exact .inr ⟨m, .inl hm, q⟩
  · intro m b hm hb hr
    rcases hm with hm | rfl
    · exact inv.junk m b hm hb hr
    · rw [e]
  · have hst := st_op_skip (P := P) (fn := fn) (kind := kind) (rnd := rnd) (tmps := tmps) (ds := ds) (k := k) (cs := cs) (w := w) (ops := ops) (i := i) (is := is) (by simp [hoi, hw])
    rw [hoi] at hst
    simp only [Option.bind_some] at hst
    exact .one hst
include s hl0 inv hi hn hp in
theorem goes_of {o : Oper} (ho : ops.toList[i]? = some o) (hd : ∀ d, o.dst = some d → d < tmps.size) {ρs ρ' : Emb} {g g' : AHeap} {w' : World} {v' : Value}
    (hsub : Ext ρs ρ) (hg : ∀ b l, ρs b = some l → g.get b = hS.get b) (ht : Trans ρs g w ρ' g' w') (hr' : H0 base ρ' g' w') (hv : VRel ρ' (vl i) v')
    (gn : g.next = (st i).2.next) (gn' : g'.next = (st (i + 1)).2.next)
    (ha : ∀ b l, ρ' b = some l → g'.get b = hcont st (fun x => S x ∨ x = i) ops.size b)
    (hb : ∀ b l, ρ b = some l → ρ' b = none → ¬ Chg st i b)
    (hj : ∀ b, b < (st i).2.next → ρ b = none → (st (i + 1)).2.get b = (st i).2.get b)
    (hst : Steps P (lone (fat fn kind rnd tmps ds (.inRegion ops (i :: is) :: k)) cs w) (lone (fat fn kind rnd (putT tmps o.dst v') ds (.inRegion ops is :: k)) cs w')) :
    Goes P base ops n st vl ρ0 w0 S i tmps w fn kind rnd ds is k cs := by
  have hbound : ∀ b l, union ρ' ρ b = some l → b < (st ops.size).2.next := by
    intro b l h
    have old : ∀ l, ρ b = some l → b < (st ops.size).2.next := by
      intro l h
      rcases inv.dom b l h with q | ⟨m, hm, q1, q2⟩
      · have := hl0 b l q
        have := s.mono (m := 0) (k := ops.size) (by omega) (by omega)
        omega
      · have := inv.lt m hm
        have := s.mono (m := m + 1) (k := ops.size) (by omega) (by omega)
        omega
    cases h' : ρ' b with
    | none => rw [union_right h'] at h; exact old l h
    | some l' =>
      rcases ht.dom b l' h' with q | ⟨q1, q2⟩
      · exact old l' (hsub b l' q)
      · have := s.mono (m := i + 1) (k := ops.size) (by omega) (by omega)
        omega
  obtain ⟨h2, hn2, hget⟩ := mkHeap (hcont st (fun x => S x ∨ x = i) ops.size) 0 (st ops.size).2.next
  have hcont2 : ∀ b l, union ρ' ρ b = some l → h2.get b = hcont st (fun x => S x ∨ x = i) ops.size b := fun b l h => by
    rw [hget, if_pos (hbound b l h)]
  have ha2 : ∀ b l, ρ' b = some l → h2.get b = g'.get b := fun b l h => by rw [hcont2 b l (union_left h), ha b l h]
  have hb2 : ∀ b l, ρ b = some l → ρ' b = none → h2.get b = hS.get b := fun b l h h' => by
    rw [hcont2 b l (by rw [union_right h']; exact h), (hcont_add hn ops.size).1 (hb b l h h'), inv.cont b l h]
  obtain ⟨e1, e2, m1, m2⟩ := merge_ok inv.heap hsub hg ht hr' (fun b h1 h2 => fresh_of s hl0 inv hi hn (by omega) (by omega)) ha2 hb2
  refine ⟨union ρ' ρ, putT tmps o.dst v', w', h2, ⟨closed_add inv hi hp, ?_, by rw [size_putT]; exact inv.size, ?_, hcont2, m1, inv.core.trans m2, ?_, ?_⟩, hst⟩
  · rintro j (hj | rfl)
    · exact inv.lt j hj
    · exact hi
  · exact frame_add s inv hi hn ho e1 (hv.mono e2) hd
  · intro b l h
    have old : ρ b = some l → ρ0 b = some l ∨ ∃ m, (S m ∨ m = i) ∧ (st m).2.next ≤ b ∧ b < (st (m + 1)).2.next := by
      intro h
      rcases inv.dom b l h with q | ⟨m, hm, q⟩
      · exact .inl q
      · exact .inr ⟨m, .inl hm, q⟩
    cases h' : ρ' b with
    | none => rw [union_right h'] at h; exact old h
    | some l' =>
      have hl : l' = l := by rw [union_left h'] at h; cases h; rfl
      subst hl
      rcases ht.dom b l' h' with q | ⟨q1, q2⟩
      · exact old (hsub b l' q)
      · exact .inr ⟨i, .inr rfl, by omega, by omega⟩
  · intro m b hm hlt hr
    have hr1 : ρ b = none := by
      cases h : ρ b with
      | none => rfl
      | some l => rw [e1 b l h] at hr; cases hr
    rcases hm with hm | rfl
    · exact inv.junk m b hm hlt hr1
    · exact hj b hlt hr1
include s inv hi hn hp in
theorem foot_dom {o : Oper} (ho : ops.toList[i]? = some o) {b : Nat} (hb : b ∈ (foot (st i).1.op o).rd ∨ b ∈ (foot (st i).1.op o).wr) : (∃ l, ρ b = some l) ∧ b < (st i).2.next := by
  obtain ⟨a, ha, hb⟩ := foot_operand hb
  constructor
  · rw [operand_of s inv hi hn hp ho ha] at hb
    exact blkOf_dom (opF_rel inv.frame a) hb
  · obtain ⟨ρi, ti, wi, h1, h2, h3⟩ := s.run i (by omega)
    obtain ⟨l, hl⟩ := blkOf_dom (op_rel h2 a) hb
    exact h3.lt b l hl
include hi hn in
theorem cont_new {b : Nat} (hc : (st (i + 1)).2.get b ≠ (st i).2.get b ∨ (st i).2.next ≤ b) (hlt : b < (st (i + 1)).2.next) (hl : ∀ m, i < m → m < ops.size → S m → ¬ Chg st m b) :
    hcont st (fun x => S x ∨ x = i) ops.size b = (st (i + 1)).2.get b :=
  (hcont_add hn ops.size).2 ⟨hlt, hc.symm⟩ hi hl
include s hl0 inv hi hn hp in
theorem goes_value {o : Oper} (ho : ops.toList[i]? = some o) (hd : ∀ d, o.dst = some d → d < tmps.size) (hw : Region.wanted o (yielded ops tmps) = true) (hs : opServed o.op = true)
    (hex : ex i = true) {h' : AHeap} (ha : aop T (st i).1.op { (st i).2 with wm := (st i).2.next } o.op = some (.val (vl i) h'))
    (hft : ft i = foot (st i).1.op o) (e : (st (i + 1)).2 = { h' with wm := min (st i).2.wm h'.wm }) :
    Goes P base ops n st vl ρ0 w0 S i tmps w fn kind rnd ds is k cs := by
  have hoi : ops[i]? = some o := by simpa using ho
  have egt : ∀ b, (st (i + 1)).2.get b = h'.get b := fun b => by rw [e]; rfl
  have enx : (st (i + 1)).2.next = h'.next := by rw [e]
  have hat : ∀ b, b ∈ (foot (st i).1.op o).rd ∨ b ∈ (foot (st i).1.op o).wr → (∃ l, ρ b = some l) ∧ b < (st i).2.next ∧ hcont st S ops.size b = (st i).2.get b ∧ ∀ m, i < m → m < ops.size → S m → ¬ Chg st m b := by
    intro b hb
    obtain ⟨⟨l, hl⟩, hlt⟩ := foot_dom s inv hi hn hp ho hb
    refine ⟨⟨l, hl⟩, hlt, foot_at s hl0 inv hi hn hp hex hl hlt (fun c => ?_)⟩
    rw [hft] at c
    rcases hb with hb | hb
    · exact c.rd hb
    · exact c.wr hb
  obtain ⟨h2', g1, g2⟩ := aop_local (h2 := { hS with next := (st i).2.next, wm := (st i).2.next }) ha rfl (fun b hb => by
    obtain ⟨⟨l, hl⟩, hlt, hc, _⟩ := hat b hb
    show hS.get b = (st i).2.get b
    rw [inv.cont b l hl, hc])
  rw [aop_congr (ev' := opF (fcont ops.toList st vl S ops.size)) (fun x hx => operand_of s inv hi hn hp ho hx)] at g1
  have hH : H0 base ρ { hS with next := (st i).2.next, wm := (st i).2.next } w := inv.heap.congr (fun _ _ _ => rfl)
  obtain ⟨nx, v', w', ρ', q1, q2, q3, q4, q5⟩ := aop_ok s.ok (o := o) hH (fun hne => by
    have hne : h2'.next ≠ (st i).2.next := hne
    refine fresh_of s hl0 inv hi hn (b := (st i).2.next) (Nat.le_refl _) ?_
    have a1 : h2'.next = h'.next := g2.1
    have a2 : h'.next = (st i).2.next ∨ h'.next = (st i).2.next + 1 := g2.2.1
    omega) (fun x => opF_rel inv.frame x) g1
  have hnx : h2'.next = (st (i + 1)).2.next := by rw [enx]; exact g2.1
  refine goes_of s hl0 inv hi hn hp fn kind rnd ds is k cs ho hd (ρs := ρ) (ρ' := ρ') (g := { hS with next := (st i).2.next, wm := (st i).2.next }) (g' := h2') (.refl _) (fun _ _ _ => rfl) q5 q4 q3 rfl hnx ?_ ?_ ?_ ?_
  · intro b l hb
    have hbd : (∃ l, ρ b = some l) ∨ ((st i).2.next ≤ b ∧ b < (st (i + 1)).2.next) := by
      rcases q5.dom b l hb with z | ⟨z1, z2⟩
      · exact .inl ⟨l, z⟩
      · exact .inr ⟨z1, by rw [← hnx]; exact z2⟩
    rcases g2.2.2 b with ⟨z1, z2, z3⟩ | ⟨z1, z2⟩
    · have hnr : ¬ ((st i).2.next ≤ b ∧ b < (st (i + 1)).2.next) := by
        rintro ⟨y1, y2⟩
        rw [enx] at y2
        have := g2.2.1
        simp only at z3 this
        omega
      have hnc : ¬ Chg st i b := by
        rintro ⟨c1, c2⟩
        rcases c2 with c2 | c2
        · exact hnr ⟨c2, c1⟩
        · exact c2 ((egt b).trans z1)
      obtain ⟨l1, hl1⟩ := hbd.resolve_right hnr
      rw [z2, (hcont_add hn ops.size).1 hnc]
      exact inv.cont b l1 hl1
    · rw [z1, ← egt b]
      rcases z2 with z2 | ⟨z2, z3⟩
      · obtain ⟨⟨l1, hl1⟩, hlt, hc, hlat⟩ := hat b (.inr z2)
        by_cases hch : Chg st i b
        · exact ((hcont_add hn ops.size).2 hch hi hlat).symm
        · rw [(hcont_add hn ops.size).1 hch, hc]
          have hlt2 : b < (st (i + 1)).2.next := Nat.lt_of_lt_of_le hlt (s.mono1 hi)
          by_cases q : (st (i + 1)).2.get b = (st i).2.get b
          · exact q
          · exact absurd ⟨hlt2, .inr q⟩ hch
      · simp only at z2 z3
        have h1 : (st i).2.next ≤ b := by omega
        have h2 : b < (st (i + 1)).2.next := by omega
        exact (cont_new hi hn (.inr h1) h2 (later_new s hl0 inv hi hn h1 h2)).symm
  · intro b l hb hb'
    rw [q5.ext b l hb] at hb'; cases hb'
  · intro b hlt hr
    rw [egt]
    rcases g2.2.2 b with ⟨z1, z2, z3⟩ | ⟨z1, z2⟩
    · exact z1
    · rcases z2 with z2 | ⟨z2, z3⟩
      · obtain ⟨⟨l1, hl1⟩, _⟩ := hat b (.inr z2)
        rw [hr] at hl1; cases hl1
      · simp only at z2; omega
  · exact .one (st_op_value hoi hw hs q1 q2)
include s hl0 inv hi hn hp in
theorem goes_call {o : Oper} (ho : ops.toList[i]? = some o) (hd : ∀ d, o.dst = some d → d < tmps.size) (hw : Region.wanted o (yielded ops tmps) = true) (hs : opServed o.op = true)
    (hex : ex i = true) {f : AVal} {as : List AVal} {h' : AHeap} (ha : aop T (st i).1.op { (st i).2 with wm := (st i).2.next } o.op = some (.call f as)) (hcl : call f as { (st i).2 with wm := (st i).2.next } = some (.ret (vl i), h'))
    (hft : (ft i).rall = true) (e : (st (i + 1)).2 = { h' with wm := min (st i).2.wm h'.wm }) :
    Goes P base ops n st vl ρ0 w0 S i tmps w fn kind rnd ds is k cs := by
  have hoi : ops[i]? = some o := by simpa using ho
  have egt : ∀ b, (st (i + 1)).2.get b = h'.get b := fun b => by rw [e]; rfl
  have enx : (st (i + 1)).2.next = h'.next := by rw [e]
  obtain ⟨ρi, ti, wi, r1, r2, r3⟩ := s.run i (by omega)
  have hat : ∀ b l, inter ρ ρi b = some l → hcont st S ops.size b = (st i).2.get b ∧ ∀ m, i < m → m < ops.size → S m → ¬ Chg st m b := by
    intro b l hb
    obtain ⟨h1, li, h2⟩ := inter_inv hb
    refine foot_at s hl0 inv hi hn hp hex h1 (r3.lt b li h2) (fun c => ?_)
    have := c.rall
    rw [hft] at this; cases this
  have hget : ∀ b l, inter ρ ρi b = some l → (st i).2.get b = hS.get b := fun b l hb => by
    rw [inv.cont b l (inter_inv hb).1, (hat b l hb).1]
  have hH : HRel base (inter ρ ρi) { (st i).2 with wm := (st i).2.next } w := by
    refine ⟨⟨?_, ?_, ?_, inv.heap.base⟩, ?_⟩
    · intro b l hb; exact inv.heap.clt b l (inter_inv hb).1
    · intro b l hb
      obtain ⟨h1, li, h2⟩ := inter_inv hb
      have g1 := inv.heap.blk b l h1
      rw [← hget b l hb] at g1
      exact g1.inter (r3.blk b li h2)
    · intro b b' l l' hb hb' hne ho ha
      refine inv.heap.inj b b' l l' (inter_inv hb).1 (inter_inv hb').1 hne ?_ ?_
      · unfold Owns at ho ⊢; rw [← hget b l hb]; exact ho
      · unfold Alive at ha ⊢; rw [← hget b' l' hb']; exact ha
    · intro b l hb
      obtain ⟨h1, li, h2⟩ := inter_inv hb
      exact r3.lt b li h2
  have hop : ∀ x ∈ o.op.operands.toList, VRel (inter ρ ρi) ((st i).1.op x) (evT tmps x) := by
    intro x hx
    have h1 := opF_rel inv.frame x
    rw [← operand_of s inv hi hn hp ho hx] at h1
    exact h1.inter (op_rel r2 x)
  obtain ⟨c, fo, hopc, hcal, rfl, rfl⟩ := aop_call_inv ha
  have hfo : fo ∈ o.op.operands.toList := by rw [hopc]; simp [Op.operands, Call.operands, hcal]
  have hargs : LRel (inter ρ ρi) (c.args.toList.map (st i).1.op) (c.args.map (evT tmps)).toList := by
    refine ⟨by simp, fun j v v' hv hv' => ?_⟩
    rw [Array.toList_map] at hv'
    rw [List.getElem?_map] at hv hv'
    cases hx : c.args.toList[j]? with
    | none => rw [hx] at hv; cases hv
    | some x =>
      rw [hx] at hv hv'
      cases hv; cases hv'
      refine hop x ?_
      rw [hopc]
      simp only [Op.operands, Call.operands, Array.toList_append, List.mem_append]
      exact .inr (List.mem_of_getElem? hx)
  obtain ⟨nx, fs, h1, h2, h3⟩ := s.hc _ _ _ _ _ hcl (inter ρ ρi) w (evT tmps fo) (c.args.map (evT tmps)) (hop fo hfo) hargs hH
  have hrun : (execOp (evT tmps) o).run P w = .ok nx w := by
    unfold execOp
    rw [hopc]
    simp only [resolve, hcal]
    exact h1
  have hst := st_op_call (fn := fn) (kind := kind) (rnd := rnd) (ds := ds) (k := k) (cs := cs) (is := is) hoi hw hs hrun h2
  obtain ⟨r', w', ρ', q1, q2, q3, q4⟩ := h3 (fat fn kind rnd tmps ds (.inRegion ops (i :: is) :: k)) cs
  cases r' with
  | pan _ => exact q1.elim
  | ret v' =>
    have hfin : (CEnd.ret v').frame (fat fn kind rnd tmps ds (.inRegion ops (i :: is) :: k)) = fat fn kind rnd (putT tmps o.dst v') ds (.inRegion ops is :: k) := by
      simp only [CEnd.frame]
      rw [fat_finish, hoi]; rfl
    have hsteps := Steps.head hst q4
    rw [hfin] at hsteps
    have nr : ∀ b, ρ' b = none → inter ρ ρi b = none := by
      intro b hb
      cases z : inter ρ ρi b with
      | none => rfl
      | some l => rw [q3.ext b l z] at hb; cases hb
    have hj : ∀ b, b < (st i).2.next → inter ρ ρi b = none → (st (i + 1)).2.get b = (st i).2.get b := fun b hlt hr => by
      rw [egt]; exact q3.junk b hlt hr
    refine goes_of s hl0 inv hi hn hp fn kind rnd ds is k cs ho hd (ρs := inter ρ ρi) (ρ' := ρ') (g := { (st i).2 with wm := (st i).2.next }) (g' := h') (fun b l hb => (inter_inv hb).1) hget q3 q2.toH0 q1 rfl enx.symm ?_ ?_ ?_ hsteps
    · intro b l hb
      rw [← egt]
      rcases q3.dom b l hb with z | ⟨z1, z2⟩
      · obtain ⟨hc, hlat⟩ := hat b l z
        have hlt := hH.lt b l z
        have hlt : b < (st i).2.next := hlt
        by_cases hch : Chg st i b
        · exact ((hcont_add hn ops.size).2 hch hi hlat).symm
        · rw [(hcont_add hn ops.size).1 hch, hc]
          have hlt2 : b < (st (i + 1)).2.next := Nat.lt_of_lt_of_le hlt (s.mono1 hi)
          by_cases q : (st (i + 1)).2.get b = (st i).2.get b
          · exact q
          · exact absurd ⟨hlt2, .inr q⟩ hch
      · have h1 : (st i).2.next ≤ b := z1
        have h2 : b < (st (i + 1)).2.next := by rw [enx]; exact z2
        exact (cont_new hi hn (.inr h1) h2 (later_new s hl0 inv hi hn h1 h2)).symm
    · rintro b l hb hb' ⟨c1, c2⟩
      by_cases hlt : b < (st i).2.next
      · exact (c2.resolve_left (by omega)) (hj b hlt (nr b hb'))
      · rw [fresh_of s hl0 inv hi hn (by omega) c1] at hb; cases hb
    · intro b hlt hr
      refine hj b hlt ?_
      cases z : inter ρ ρi b with
      | none => rfl
      | some l => rw [(inter_inv z).1] at hr; cases hr
include s hl0 inv hi hn hp in
theorem goes : Goes P base ops n st vl ρ0 w0 S i tmps w fn kind rnd ds is k cs := by
  have hol : ops.toList[i]? = some ops[i] := by simp [hi]
  have hmem : ops[i] ∈ ops.toList := List.mem_of_getElem? hol
  obtain ⟨hdst, hsv⟩ := s.hops _ hmem
  have hall : ∀ o ∈ ops.toList, ∀ d, o.dst = some d → d < tmps.size := fun o' ho' d hd' => by rw [inv.size]; exact (s.hops o' ho').1 d hd'
  have hlk : ∀ d ∈ looks ops.toList ops[i], VRel ρ ((st i).1.ev d) (tmps.getD d undef) := fun d hd => by
    rw [← slot_of s inv hi hn hp hol hd]; exact inv.frame d
  rcases s.tr.step i _ (Nat.zero_le _) hol with ⟨_, hw, hv, e⟩ | ⟨hex, hw, h', hst, hft, e⟩
  · exact goes_skip s inv hi hn hp fn kind rnd ds is k cs hol (hall _ hmem) (wanted_ok2 hlk hall hw) hv (by rw [e])
  · have hwt := wanted_ok2 hlk hall hw
    unfold astep at hst
    split at hst
    · rename_i v h2 ha
      cases hst
      obtain ⟨f1, f2⟩ := foot_val ha
      exact goes_value s hl0 inv hi hn hp fn kind rnd ds is k cs hol (hall _ hmem) hwt hsv hex ha (by rw [hft]; unfold footOf; rw [f1]; rfl) (by rw [e])
    · rename_i f as ha
      exact goes_call s hl0 inv hi hn hp fn kind rnd ds is k cs hol (hall _ hmem) hwt hsv hex ha hst (by rw [hft, foot_call ha]; rfl) (by rw [e])
    · cases hst
include s hl0 in
theorem sched_ok {l : List Nat} (hs : Sched ops S l) : ∀ {ρ : Emb} {tmps : Array Value} {w : World} {hS : AHeap}, Inv base ops n st vl ρ0 w0 S ρ tmps w hS →
    ∃ ρ2 tmps2 w2 h2, Inv base ops n st vl ρ0 w0 (fun i => i < ops.size) ρ2 tmps2 w2 h2 ∧
      Steps P (lone (fat fn kind rnd tmps ds (.inRegion ops l :: k)) cs w) (lone (fat fn kind rnd tmps2 ds (.inRegion ops [] :: k)) cs w2) := by
  induction hs with
  | nil S h =>
    intro ρ tmps w hS inv
    have : S = (fun i => i < ops.size) := funext fun x => propext ⟨inv.lt x, h x⟩
    subst this
    exact ⟨ρ, tmps, w, hS, inv, .refl _ _⟩
  | cons S i l hi hn hp _ ih =>
    intro ρ tmps w hS inv
    obtain ⟨ρ1, t1, w1, h1, i1, s1⟩ := goes s hl0 inv hi hn hp fn kind rnd ds l k cs
    obtain ⟨ρ2, t2, w2, h2, i2, s2⟩ := ih i1
    exact ⟨ρ2, t2, w2, h2, i2, s1.trans s2⟩
end
theorem draw_ok {T : Tab} {P : Program} {base : Nat} (ok : T.Ok P) : DrawOk T P base := by
  intro call hc hk ops n hops hedge hslots fr h fr' h' hl ρ w ds rnd tmps t pre fn kind k cs
  obtain ⟨st, vl, ft, ex, s0, tr, sN⟩ := adraw_trace ops.toList 0 [] fr h fr' h' (by simp) hl
  simp only [Nat.zero_add, Array.length_toList] at sN
  have e1 : (st 0).1 = fr := by rw [s0]
  have e2 : (st 0).2 = h := by rw [s0]
  have s : Setup T P base call ops n st vl ft ex := ⟨ok, hc, hk, hops, hslots, tr, chain_ok ok hc hops tr pre.size (by rw [e1]; exact pre.frame) (by rw [e2]; exact pre.heap)⟩
  have hf0 : ∀ N t, fcont ops.toList st vl (fun _ => False) N t = fr.ev t := by
    intro N t
    induction N with
    | zero => simp only [fcont]; rw [e1]
    | succ N ih => simp only [fcont]; rw [if_neg (fun q => q.1)]; exact ih
  have hh0 : ∀ N b, hcont st (fun _ => False) N b = h.get b := by
    intro N b
    induction N with
    | zero => simp only [hcont]; rw [e2]
    | succ N ih => simp only [hcont]; rw [if_neg (fun q => q.1)]; exact ih
  have hl0 : ∀ b l, ρ b = some l → b < (st 0).2.next := by rw [e2]; exact pre.heap.lt
  have inv0 : Inv base ops n st vl ρ w (fun _ => False) ρ tmps w h := by
    refine ⟨fun i hi => hi.elim, fun i hi => hi.elim, pre.size, fun t => ?_, fun b l _ => ?_, pre.heap.toH0, ?_, fun b l hb => .inl hb, fun m b hm => hm.elim⟩
    · rw [hf0]; exact pre.frame t
    · rw [hh0]
    · rw [e2]; exact .refl _ _ _
  obtain ⟨ρ2, t2, w2, h2, inv, hsteps⟩ := sched_ok s hl0 fn kind rnd ds k cs (sched_schedule hedge t) inv0
  have ehc : ∀ b l, ρ2 b = some l → h2.get b = (st ops.size).2.get b := by
    intro b l hb
    rw [inv.cont b l hb]
    refine hcont_upto ops.size ?_ (fun m hm => s.mono1 hm) (fun m hm _ => hm)
    rcases inv.dom b l hb with q | ⟨m, hm, q1, q2⟩
    · exact Nat.lt_of_lt_of_le (hl0 b l q) (s.mono (Nat.zero_le _) (Nat.le_refl _))
    · exact Nat.lt_of_lt_of_le q2 (s.mono (by omega) (Nat.le_refl _))
  have efr : ∀ t, fcont ops.toList st vl (fun i => i < ops.size) ops.size t = (st ops.size).1.ev t := fun t => fcont_upto ops.size (fun m hm => s.ev hm) (fun m hm _ => hm)
  have eN1 : (st ops.size).1 = fr' := by rw [sN]
  have eN2 : (st ops.size).2 = h' := by rw [sN]
  have hH : H0 base ρ2 h' w2 := by rw [← eN2]; exact inv.heap.congr (fun b l hb => (ehc b l hb).symm)
  have hC : Core ρ h w ρ2 h' w2 := by
    have := inv.core.congr (g := h) (g' := h') (fun b l _ => by rw [e2]) (fun b l hb => by rw [← eN2]; exact (ehc b l hb).symm)
    exact this
  have hT : Trans ρ h w ρ2 h' w2 := by
    refine ⟨hC.ext, hC.size, hC.frame, hC.own, hC.os, hC.tape, hC.output, hC.loops, ?_, ?_, ?_⟩
    · rw [← e2, ← eN2]; exact s.mono (Nat.zero_le _) (Nat.le_refl _)
    · intro b l hb
      rcases inv.dom b l hb with q | ⟨m, hm, q1, q2⟩
      · exact .inl q
      · right
        rw [← e2, ← eN2]
        have := s.mono (m := 0) (k := m) (Nat.zero_le _) (by omega)
        have := s.mono (m := m + 1) (k := ops.size) (by omega) (Nat.le_refl _)
        omega
    · intro b hb hr
      have hnone : ρ2 b = none := by
        cases z : ρ2 b with
        | none => rfl
        | some l =>
          rcases inv.dom b l z with q | ⟨m, hm, q1, q2⟩
          · rw [hr] at q; cases q
          · have := s.mono (m := 0) (k := m) (Nat.zero_le _) (by omega)
            rw [e2] at this
            omega
      have all : ∀ m, m ≤ ops.size → (st m).2.get b = h.get b := by
        intro m
        induction m with
        | zero => intro _; rw [e2]
        | succ m ih =>
          intro hm
          have hle := s.mono (m := 0) (k := m) (Nat.zero_le _) (by omega)
          rw [e2] at hle
          rw [inv.junk m b (by omega) (by omega) hnone]
          exact ih (by omega)
      rw [← eN2]
      exact all ops.size (Nat.le_refl _)
  refine ⟨t2, w2, ρ2, inv.size, fun t => ?_, hH.toH hT pre.heap, hT, hsteps.trans (.one st_region_end)⟩
  rw [← eN1, ← efr]
  exact inv.frame t
end Go.Ai

/- An abstract interpreter for the model's code: sound, and steady in its fuel. -/
namespace Go.Ai
theorem aexec_sound {T : Tab} {P : Program} {base : Nat} (ok : T.Ok P) (n : Nat) : RunOk P base (aexec T n) :=
  aexec_ok ok (draw_ok ok) aexec_keeps acall_keeps n
theorem acallFn_sound {T : Tab} {P : Program} {base : Nat} (ok : T.Ok P) {n : Nat} {f : FuncId} {args : List AVal} {h : AHeap} {r : CRes} {h' : AHeap} (hl : acallFn T (aexec T n) f args h = some (r, h')) {ρ : Emb} {w : World} {args' : Array Value}
    (ha : LRel ρ args args'.toList) (hr : HRel base ρ h w) : Calls P f args' w (FnEnd base ρ h w r h') :=
  (fn_ok ok (aexec_sound ok n) hl ha hr).2
theorem const_ok {T : Tab} {P : Program} (ok : T.Ok P) {n : Nat} {g : FuncId} {b : Bool} {h' : AHeap} (hl : acallFn T (aexec T n) g [] ⟨.leaf, 0, 0⟩ = some (.ret (.bool b), h')) :
    (∃ F, P.funcs[g]? = some F ∧ (F.name == "runtime.NumGoroutine") = false ∧ F.body.isSome = true) ∧ ∀ w, Calls P g #[] w fun e w' =>
      ∃ v', e = .returned v' ∧ (∀ ρ, VRel ρ (.bool b) v') ∧ w.heap.size ≤ w'.heap.size ∧ (∀ k, k < w.heap.size → w'.heap[k]? = w.heap[k]?) ∧ w'.os = w.os ∧ w'.tape = w.tape ∧ w'.output = w.output := by
  have hr0 : ∀ w : World, HRel w.heap.size (fun _ => none) ⟨.leaf, 0, 0⟩ w := fun w => ⟨⟨fun _ _ h => (nomatch h), fun _ _ h => (nomatch h), fun _ _ _ _ h => (nomatch h), Nat.le_refl _⟩, fun _ _ h => (nomatch h)⟩
  have key : ∀ w : World, _ := fun w => fn_ok ok (aexec_sound (base := w.heap.size) ok n) hl (args' := #[]) (.nil _) (hr0 w)
  refine ⟨?_, fun w => ?_⟩
  · obtain ⟨h1, _⟩ := fn_ok ok (aexec_sound (base := 0) ok n) hl (args' := #[]) (ρ := fun _ => none) (w := default) (.nil _) ⟨⟨fun _ _ h => (nomatch h), fun _ _ h => (nomatch h), fun _ _ _ _ h => (nomatch h), Nat.zero_le _⟩, fun _ _ h => (nomatch h)⟩
    exact h1
  · refine (key w).2.mono fun e w' he => ?_
    obtain ⟨ρ', hr', ht, hend⟩ := he
    rcases hend with ⟨v, v', hv, rfl, hrel⟩ | ⟨v, v', hv, _⟩
    case inr => cases hv
    cases hv
    cases hrel
    exact ⟨_, rfl, fun ρ => .bool b, ht.size, fun k hk => ht.frame k hk (fun _ _ h => (nomatch h)), ht.os, ht.tape, ht.output⟩
theorem Tab.Ok.const {T : Tab} {P : Program} (ok : T.Ok P) {n : Nat} {g : FuncId} {b : Bool} {h' : AHeap} (hl : acallFn T (aexec T n) g [] ⟨.leaf, 0, 0⟩ = some (.ret (.bool b), h')) :
    Tab.Ok { T with consts := T.consts.set g (.bool b) } P := by
  refine ⟨ok.types, ok.funcs, ok.mixed, fun f v hv => ?_⟩
  have hv : (T.consts.set g (.bool b)).get f = some v := hv
  rw [Tr.get_set] at hv
  by_cases e : f = g
  · rw [if_pos e] at hv
    cases hv
    subst e
    exact const_ok ok hl
  · rw [if_neg e] at hv
    exact ok.consts f v hv
def Runner.Le (a b : Runner) : Prop := ∀ c fr h r, a c fr h = some r → b c fr h = some r
def Caller.Le (a b : Caller) : Prop := ∀ f as h r, a f as h = some r → b f as h = some r
section
variable {T : Tab}
theorem astep_le {a b : Caller} (h : Caller.Le a b) {ev : Operand → AVal} {o : Op} {hp : AHeap} {r : CRes × AHeap} (hl : astep T a ev o hp = some r) : astep T b ev o hp = some r := by
  unfold astep at hl ⊢
  split at hl
  · rename_i e; exact hl
  · rename_i e; exact h _ _ _ _ hl
  · cases hl
theorem aops_le {a b : Caller} (h : Caller.Le a b) {ops : List Oper} : ∀ (rest : List Oper) (fr : AFrame) (hp : AHeap) (r : AExit × AFrame × AHeap), aops T a ops rest fr hp = some r → aops T b ops rest fr hp = some r
  | [], _, _, _, hl => hl
  | o :: rest, fr, hp, r, hl => by
    simp only [aops] at hl ⊢
    split at hl
    · split at hl
      · rename_i e
        rw [astep_le h e]
        exact aops_le h rest _ _ _ hl
      · rename_i e
        rw [astep_le h e]
        exact hl
      · cases hl
    · exact aops_le h rest _ _ _ hl
    · cases hl
theorem adraw_le {a b : Caller} (h : Caller.Le a b) {ops : List Oper} : ∀ (rest : List Oper) (i : Nat) (done : List (Nat × Foot)) (fr : AFrame) (hp : AHeap) (r : AFrame × AHeap), adraw T a ops rest i done fr hp = some r → adraw T b ops rest i done fr hp = some r
  | [], _, _, _, _, _, hl => hl
  | o :: rest, i, done, fr, hp, r, hl => by
    simp only [adraw] at hl ⊢
    split at hl
    · split at hl
      · rename_i e
        rw [astep_le h e]
        cases hf : footsOk ops i _ done with
        | false => rw [hf] at hl; cases hl
        | true =>
          rw [hf] at hl
          simp only [cond_true] at hl ⊢
          simp only [hf, cond_true]
          exact adraw_le h rest _ _ _ _ _ hl
      · cases hl
    · exact adraw_le h rest _ _ _ _ _ hl
    · cases hl
theorem acallFn_le {a b : Runner} (h : Runner.Le a b) {f : FuncId} {as : List AVal} {hp : AHeap} {r : CRes × AHeap} (hl : acallFn T a f as hp = some r) : acallFn T b f as hp = some r := by
  unfold acallFn at hl ⊢
  split at hl
  · rename_i F hF
    cases hb : Nat.blt F.ntmps as.length with
    | true => rw [hb] at hl; cases hl
    | false =>
      rw [hb] at hl
      simp only [cond_false] at hl ⊢
      split at hl
      · rename_i c hc
        split at hl <;> first | (rename_i e; simp only [h _ _ _ _ e]; exact hl) | cases hl
      · cases hl
  · cases hl
theorem around_le {a b : Runner} (h : Runner.Le a b) {l : Nat} {as : List AVal} {hp : AHeap} {r : CRes × AHeap} (hl : around a l as hp = some r) : around b l as hp = some r := by
  unfold around at hl ⊢
  split at hl
  · rename_i L hL
    split at hl
    · rename_i hc
      rw [if_pos hc]
      split at hl
      · rename_i e
        simp only [h _ _ _ _ e]
        split at hl
        · rename_i L1 hL1
          split at hl
          · rename_i hr
            rw [if_pos hr]
            split at hl <;> first | (rename_i e; simp only [h _ _ _ _ e]; exact hl) | cases hl
          · cases hl
        · cases hl
      · cases hl
    · cases hl
  · cases hl
theorem acall_le {a b : Runner} (h : Runner.Le a b) : Caller.Le (acall T a) (acall T b) := by
  intro f as hp r hl
  unfold acall at hl ⊢
  split at hl
  · split at hl
    · exact hl
    · exact acallFn_le h hl
  · exact around_le h hl
  · cases hl
theorem aexec_le1 : ∀ n, Runner.Le (aexec T n) (aexec T (n + 1))
  | 0 => by intro c fr h r hl; simp [aexec] at hl
  | n + 1 => by
    have ih := aexec_le1 n
    have ihc := acall_le (T := T) ih
    intro c fr h r hl
    cases c with
    | skip => exact hl
    | label l => exact hl
    | region id ops draw =>
      rw [aexec] at hl ⊢
      cases draw with
      | true =>
        simp only [if_true] at hl ⊢
        split at hl
        · rename_i e
          simp only [adraw_le ihc _ _ _ _ _ _ e]
          exact hl
        · cases hl
      | false =>
        simp only [Bool.false_eq_true, if_false] at hl ⊢
        exact aops_le ihc _ _ _ _ hl
    | seq x y =>
      rw [aexec] at hl ⊢
      cases e : aexec T n x fr h with
      | none => rw [e] at hl; cases hl
      | some q =>
        obtain ⟨ex, fr', h'⟩ := q
        rw [ih _ _ _ _ e]
        rw [e] at hl
        cases ex <;> first | exact hl | exact ih _ _ _ _ hl
    | cond c x y =>
      rw [aexec] at hl ⊢
      split at hl
      · rename_i t e
        exact ih _ _ _ _ hl
      · cases hl
    | block id c =>
      rw [aexec] at hl ⊢
      cases e : aexec T n c fr h with
      | none => rw [e] at hl; cases hl
      | some q =>
        rw [ih _ _ _ _ e]
        rw [e] at hl
        exact hl
    | loop c =>
      rw [aexec] at hl ⊢
      cases e : aexec T n c fr h with
      | none => rw [e] at hl; cases hl
      | some q =>
        obtain ⟨ex, fr', h'⟩ := q
        rw [ih _ _ _ _ e]
        rw [e] at hl
        cases ex <;> first | exact hl | exact ih _ _ _ _ hl
    | rangeFunc f params assign body =>
      rw [aexec] at hl ⊢
      split at hl <;> first | (rename_i e; simp only [ihc _ _ _ _ e]; exact hl) | cases hl
    | exit id => exact hl
    | scope c =>
      rw [aexec] at hl ⊢
      cases e : aexec T n c fr h with
      | none => rw [e] at hl; cases hl
      | some q =>
        rw [ih _ _ _ _ e]
        rw [e] at hl
        exact hl
    | goto l => exact hl
    | ret => exact hl
    | refuse _ => simp [aexec] at hl
theorem aexec_le {n m : Nat} (h : n ≤ m) : Runner.Le (aexec T n) (aexec T m) := by
  induction m with
  | zero => have : n = 0 := by omega
            subst this; exact fun _ _ _ _ q => q
  | succ m ih =>
    by_cases e : n = m + 1
    · subst e; exact fun _ _ _ _ q => q
    · exact fun c fr hp r q => aexec_le1 m c fr hp r (ih (by omega) c fr hp r q)
end
end Go.Ai

/- An abstract interpreter for the model's code: its runs, told by what they come to. -/
namespace Go.Ai
section
variable (T : Tab)
def Run (c : Code) (fr : AFrame) (h : AHeap) (Q : AExit → AFrame → AHeap → Prop) : Prop := ∃ n e fr' h', aexec T n c fr h = some (e, fr', h') ∧ Q e fr' h'
def Ops (ops rest : List Oper) (fr : AFrame) (h : AHeap) (Q : AExit → AFrame → AHeap → Prop) : Prop := ∃ n e fr' h', aops T (acall T (aexec T n)) ops rest fr h = some (e, fr', h') ∧ Q e fr' h'
def Draw (ops rest : List Oper) (i : Nat) (done : List (Nat × Foot)) (fr : AFrame) (h : AHeap) (Q : AFrame → AHeap → Prop) : Prop := ∃ n fr' h', adraw T (acall T (aexec T n)) ops rest i done fr h = some (fr', h') ∧ Q fr' h'
def CallV (f : AVal) (vs : List AVal) (h : AHeap) (Q : CRes → AHeap → Prop) : Prop := ∃ n r h', acall T (aexec T n) f vs h = some (r, h') ∧ Q r h'
def CallF (g : FuncId) (vs : List AVal) (h : AHeap) (Q : CRes → AHeap → Prop) : Prop := ∃ n r h', acallFn T (aexec T n) g vs h = some (r, h') ∧ Q r h'
variable {T}
variable {fr : AFrame} {h : AHeap} {Q : AExit → AFrame → AHeap → Prop}
theorem Run.mono {c : Code} {Q Q' : AExit → AFrame → AHeap → Prop} (r : Run T c fr h Q) (hq : ∀ e fr' h', Q e fr' h' → Q' e fr' h') : Run T c fr h Q' :=
  let ⟨n, e, fr', h', a, b⟩ := r; ⟨n, e, fr', h', a, hq _ _ _ b⟩
theorem run_skip (q : Q .normal fr h) : Run T .skip fr h Q := ⟨1, _, _, _, rfl, q⟩
theorem run_label {l : Nat} (q : Q .normal fr h) : Run T (.label l) fr h Q := ⟨1, _, _, _, rfl, q⟩
theorem run_exit {id : Nat} (q : Q (.exit id) fr h) : Run T (.exit id) fr h Q := ⟨1, _, _, _, rfl, q⟩
theorem run_ret (q : Q .ret fr h) : Run T .ret fr h Q := ⟨1, _, _, _, rfl, q⟩
def SeqK (T : Tab) (b : Code) (Q : AExit → AFrame → AHeap → Prop) (e : AExit) (fr : AFrame) (h : AHeap) : Prop :=
  match e with
  | .normal => Run T b fr h Q
  | e => Q e fr h
theorem run_seq {a b : Code} (r : Run T a fr h (SeqK T b Q)) : Run T (.seq a b) fr h Q := by
  obtain ⟨n, e, fr', h', h1, h2⟩ := r
  cases e with
  | normal =>
    obtain ⟨m, e2, fr2, hh2, h3, h4⟩ := h2
    refine ⟨max n m + 1, e2, fr2, hh2, ?_, h4⟩
    rw [aexec, aexec_le (Nat.le_max_left n m) _ _ _ _ h1]
    exact aexec_le (Nat.le_max_right n m) _ _ _ _ h3
  | exit id => exact ⟨n + 1, _, _, _, by rw [aexec, h1], h2⟩
  | goto l => exact ⟨n + 1, _, _, _, by rw [aexec, h1], h2⟩
  | ret => exact ⟨n + 1, _, _, _, by rw [aexec, h1], h2⟩
  | pan v => exact ⟨n + 1, _, _, _, by rw [aexec, h1], h2⟩
theorem run_cond {c : Operand} {a b : Code} {t : Bool} (hc : fr.op c = .bool t) (r : Run T (if t then a else b) fr h Q) : Run T (.cond c a b) fr h Q := by
  obtain ⟨n, e, fr', h', h1, h2⟩ := r
  exact ⟨n + 1, e, fr', h', by rw [aexec, hc]; exact h1, h2⟩
def BlockK (id : Nat) (Q : AExit → AFrame → AHeap → Prop) (e : AExit) (fr : AFrame) (h : AHeap) : Prop :=
  match e with
  | .exit id' => if id' = id then Q .normal fr h else Q (.exit id') fr h
  | e => Q e fr h
theorem run_block {id : Nat} {c : Code} (r : Run T c fr h (BlockK id Q)) : Run T (.block id c) fr h Q := by
  obtain ⟨n, e, fr', h', h1, h2⟩ := r
  cases e with
  | exit id' =>
    by_cases q : id' = id
    · subst q
      refine ⟨n + 1, .normal, fr', h', by rw [aexec, h1]; simp, by simpa [BlockK] using h2⟩
    · refine ⟨n + 1, .exit id', fr', h', by rw [aexec, h1]; simp [q], by simpa [BlockK, q] using h2⟩
  | normal => exact ⟨n + 1, _, _, _, by rw [aexec, h1], h2⟩
  | goto l => exact ⟨n + 1, _, _, _, by rw [aexec, h1], h2⟩
  | ret => exact ⟨n + 1, _, _, _, by rw [aexec, h1], h2⟩
  | pan v => exact ⟨n + 1, _, _, _, by rw [aexec, h1], h2⟩
theorem run_scope {c : Code} (r : Run T c fr h Q) (hq : ∀ l fr' h', ¬ Q (.goto l) fr' h') : Run T (.scope c) fr h Q := by
  obtain ⟨n, e, fr', h', h1, h2⟩ := r
  cases e with
  | goto l => exact absurd h2 (hq _ _ _)
  | normal => exact ⟨n + 1, _, _, _, by rw [aexec, h1], h2⟩
  | exit l => exact ⟨n + 1, _, _, _, by rw [aexec, h1], h2⟩
  | ret => exact ⟨n + 1, _, _, _, by rw [aexec, h1], h2⟩
  | pan v => exact ⟨n + 1, _, _, _, by rw [aexec, h1], h2⟩
theorem run_region {id : Nat} {ops : Array Oper} (r : Ops T ops.toList ops.toList fr h Q) : Run T (.region id ops false) fr h Q := by
  obtain ⟨n, e, fr', h', h1, h2⟩ := r
  exact ⟨n + 1, e, fr', h', by rw [aexec]; exact h1, h2⟩
theorem run_draw {id : Nat} {ops : Array Oper} (r : Draw T ops.toList ops.toList 0 [] fr h (Q .normal)) : Run T (.region id ops true) fr h Q := by
  obtain ⟨n, fr', h', h1, h2⟩ := r
  exact ⟨n + 1, .normal, fr', h', by rw [aexec]; simp [h1], h2⟩
theorem ops_nil {ops : List Oper} (q : Q .normal fr h) : Ops T ops [] fr h Q := ⟨0, _, _, _, rfl, q⟩
theorem ops_val {ops rest : List Oper} {o : Oper} {v : AVal} {h' : AHeap} (hw : awanted ops fr o.guard = some true) (ha : aop T fr.op h o.op = some (.val v h')) (r : Ops T ops rest (putDst fr o.dst v) h' Q) : Ops T ops (o :: rest) fr h Q := by
  obtain ⟨n, e, fr', h2, h3, h4⟩ := r
  exact ⟨n, e, fr', h2, by simp only [aops, hw, astep, ha]; exact h3, h4⟩
theorem ops_skip {ops rest : List Oper} {o : Oper} (hw : awanted ops fr o.guard = some false) (r : Ops T ops rest (putDst fr o.dst unit) h Q) : Ops T ops (o :: rest) fr h Q := by
  obtain ⟨n, e, fr', h2, h3, h4⟩ := r
  exact ⟨n, e, fr', h2, by simp only [aops, hw]; exact h3, h4⟩
theorem ops_call {ops rest : List Oper} {o : Oper} {f : AVal} {vs : List AVal} (hw : awanted ops fr o.guard = some true) (ha : aop T fr.op h o.op = some (.call f vs))
    (r : CallV T f vs h fun r h' => ∃ v, r = .ret v ∧ Ops T ops rest (putDst fr o.dst v) h' Q) : Ops T ops (o :: rest) fr h Q := by
  obtain ⟨n, r, h1, h2, v, rfl, m, e, fr', h3, h4, h5⟩ := r
  refine ⟨max n m, e, fr', h3, ?_, h5⟩
  have c1 := acall_le (T := T) (aexec_le (Nat.le_max_left n m)) _ _ _ _ h2
  have c2 := aops_le (T := T) (acall_le (aexec_le (Nat.le_max_right n m))) _ _ _ _ h4
  simp only [aops, hw, astep, ha, c1]
  exact c2
theorem wanted_of {ops : List Oper} {j d : Nat} {want b : Bool} (hd : (ops[j]?).bind (fun (o : Oper) => o.dst) = some d) (hv : fr.ev d = .bool b) : awanted ops fr (some (j, want)) = some (b == want) := by
  unfold awanted
  simp only [hd, hv]
theorem draw_nil {ops : List Oper} {i : Nat} {done : List (Nat × Foot)} {Q : AFrame → AHeap → Prop} (q : Q fr h) : Draw T ops [] i done fr h Q := ⟨0, _, _, rfl, q⟩
theorem draw_skip {ops rest : List Oper} {o : Oper} {i : Nat} {done : List (Nat × Foot)} {Q : AFrame → AHeap → Prop} (hw : awanted ops fr o.guard = some false) (r : Draw T ops rest (i + 1) done (putDst fr o.dst unit) h Q) : Draw T ops (o :: rest) i done fr h Q := by
  obtain ⟨n, fr', h2, h3, h4⟩ := r
  exact ⟨n, fr', h2, by simp only [adraw, hw]; exact h3, h4⟩
theorem draw_val {ops rest : List Oper} {o : Oper} {i : Nat} {done : List (Nat × Foot)} {Q : AFrame → AHeap → Prop} {v : AVal} {h' : AHeap} {f : Foot} (hw : awanted ops fr o.guard = some true) (ha : aop T fr.op { h with wm := h.next } o.op = some (.val v h'))
    (hf : foot fr.op o = f) (hr : f.rall = false) (hk : footsOk ops i f done = true) (r : Draw T ops rest (i + 1) ((i, f) :: done) (putDst fr o.dst v) { h' with wm := min h.wm h'.wm } Q) : Draw T ops (o :: rest) i done fr h Q := by
  obtain ⟨n, fr', h2, h3, h4⟩ := r
  refine ⟨n, fr', h2, ?_, h4⟩
  have e : footOf (foot fr.op o) h h' = f := by rw [hf]; unfold footOf; rw [hr]; rfl
  simp only [adraw, hw, astep, ha, e, hk, cond_true]
  exact h3
end
end Go.Ai

/- An abstract interpreter for the model's code: an operation and the heap's low mark. -/
namespace Go.Ai
def lay (h : AHeap) (x : Nat) : AHeap := { h with wm := x }
def Wm (h h1 : AHeap) (x : Nat) (h2 : AHeap) : Prop := ∃ y, h1.wm = min h.wm y ∧ h2 = lay h1 (min x y)
section
variable {T : Tab} {h h1 : AHeap} {x : Nat}
theorem Wm.refl : Wm h h x (lay h x) := ⟨max h.wm x, by omega, by rw [Nat.min_eq_left (Nat.le_max_right ..)]⟩
theorem Wm.push (b : ABlk) : Wm h (h.push b) x ((lay h x).push b) := ⟨max h.wm x, by simp only [AHeap.push]; omega, by rw [Nat.min_eq_left (Nat.le_max_right ..)]; rfl⟩
theorem Wm.set (k : Nat) (b : ABlk) : Wm h (h.set k b) x ((lay h x).set k b) := ⟨k, rfl, rfl⟩
theorem Wm.move (k : Nat) (a b : ABlk) : Wm h ((h.set k a).push b) x (((lay h x).set k a).push b) := ⟨k, rfl, rfl⟩
theorem lay_get (b : Nat) : (lay h x).get b = h.get b := rfl
theorem lay_next : (lay h x).next = h.next := rfl
theorem arow_wm {es n : Nat} {v : AVal} : arow es n v (lay h x) = arow es n v h := rfl
theorem astore_wm {t : TypeId} {a v : AVal} : astore T t h a v = some h1 → ∃ h2, astore T t (lay h x) a v = some h2 ∧ Wm h h1 x h2 := by
  unfold astore
  simp only [lay_get]
  repeat' split
  all_goals (intro hl; cases hl; try exact ⟨_, rfl, Wm.set ..⟩)
theorem amakeRow_wm {elem : TypeId} {len n : Nat} {cap : Option Nat} {parts : List (Nat × AVal)} {v : AVal} : amakeRow T elem len cap n h parts = some (v, h1) → ∃ h2, amakeRow T elem len cap n (lay h x) parts = some (v, h2) ∧ Wm h h1 x h2 := by
  unfold amakeRow
  simp only [lay_next]
  repeat' split
  all_goals (intro hl; cases hl; try exact ⟨_, rfl, Wm.push ..⟩)
theorem amapUpdate_wm {t : TypeId} {m k v : AVal} : amapUpdate T t m k v h = some h1 → ∃ h2, amapUpdate T t m k v (lay h x) = some h2 ∧ Wm h h1 x h2 := by
  unfold amapUpdate
  simp only [lay_get]
  repeat' split
  all_goals (intro hl; cases hl; try exact ⟨_, rfl, Wm.set ..⟩)
theorem acopy_wm {ts : Array TypeId} {d s v : AVal} : acopy T ts d s h = some (v, h1) → ∃ h2, acopy T ts d s (lay h x) = some (v, h2) ∧ Wm h h1 x h2 := by
  unfold acopy
  simp only [lay_get, arow_wm]
  repeat' split
  all_goals (intro hl; cases hl <;> first | exact ⟨_, rfl, Wm.refl⟩ | exact ⟨_, rfl, Wm.set ..⟩)
theorem aappend_wm {ts : Array TypeId} {s z v : AVal} : aappend T ts s z h = some (v, h1) → ∃ h2, aappend T ts s z (lay h x) = some (v, h2) ∧ Wm h h1 x h2 := by
  unfold aappend
  simp only [lay_get, arow_wm, lay_next]
  repeat' split
  all_goals (intro hl; cases hl <;> first | exact ⟨_, rfl, Wm.refl⟩ | exact ⟨_, rfl, Wm.set ..⟩ | exact ⟨_, rfl, Wm.push ..⟩ | exact ⟨_, rfl, Wm.move ..⟩)
theorem optVal_wm {y : Option AVal} {v : AVal} (e : optVal h y = some (.val v h1)) : ∃ h2, optVal (lay h x) y = some (.val v h2) ∧ Wm h h1 x h2 := by
  obtain ⟨rfl, rfl⟩ := optVal_inv e
  exact ⟨_, rfl, Wm.refl⟩
theorem aop_wm {ev : Operand → AVal} {o : Op} {v : AVal} (hl : aop T ev h o = some (.val v h1)) : ∃ h2, aop T ev (lay h x) o = some (.val v h2) ∧ Wm h h1 x h2 := by
  have pair : ∀ {y y' : Option (AVal × AHeap)}, optPair y = some (.val v h1) → (y = some (v, h1) → ∃ h2, y' = some (v, h2) ∧ Wm h h1 x h2) → ∃ h2, optPair y' = some (.val v h2) ∧ Wm h h1 x h2 := by
    intro y y' e k
    obtain ⟨h2, rfl, w⟩ := k (optPair_inv e)
    exact ⟨h2, rfl, w⟩
  have heap : ∀ {y y' : Option AHeap}, optHeap y = some (.val v h1) → (y = some h1 → ∃ h2, y' = some h2 ∧ Wm h h1 x h2) → ∃ h2, optHeap y' = some (.val v h2) ∧ Wm h h1 x h2 := by
    intro y y' e k
    obtain ⟨e1, rfl⟩ := optHeap_inv e
    obtain ⟨h2, rfl, w⟩ := k e1
    exact ⟨h2, rfl, w⟩
  cases o <;> simp only [aop] at hl ⊢ <;> (try (cases hl; done)) <;> (try exact optVal_wm hl)
  case move => cases hl; exact ⟨_, rfl, Wm.refl⟩
  case assign => cases hl; exact ⟨_, rfl, Wm.refl⟩
  case pick => revert hl; unfold opPick; split <;> intro hl <;> cases hl; exact ⟨_, rfl, Wm.refl⟩
  case alloc => revert hl; unfold opAlloc; split <;> intro hl <;> cases hl; exact ⟨_, rfl, Wm.push ..⟩
  case box => revert hl; unfold opBox; split <;> intro hl <;> cases hl; exact ⟨_, rfl, Wm.push ..⟩
  case buildSlice =>
    refine pair hl ?_
    unfold abuildSlice
    repeat' split
    all_goals first | exact amakeRow_wm | (intro q; cases q; done)
  case store => exact heap hl astore_wm
  case nilCheck => revert hl; unfold opNilCheck; split <;> intro hl <;> cases hl <;> exact ⟨_, rfl, Wm.refl⟩
  case makeInterface => revert hl; unfold opMakeInterface; split <;> intro hl <;> cases hl; exact ⟨_, rfl, Wm.refl⟩
  case makeFunc => revert hl; unfold opMakeFunc; split <;> intro hl <;> cases hl; exact ⟨_, rfl, Wm.refl⟩
  case makeMap => revert hl; unfold opMakeMap; split <;> intro hl <;> cases hl; exact ⟨_, rfl, Wm.push ..⟩
  case makeSlice =>
    refine pair hl ?_
    unfold amakeSlice
    repeat' split
    all_goals first | exact amakeRow_wm | (intro q; cases q; done)
  case mapUpdate => exact heap hl amapUpdate_wm
  case insert => exact heap hl amapUpdate_wm
  case extract =>
    revert hl; unfold opExtract
    split
    · intro hl; exact optVal_wm hl
    · intro hl; cases hl
  case call c =>
    revert hl; unfold opCall
    split
    · unfold abuiltin
      split
      · split
        · intro hl; exact optVal_wm hl
        · intro hl; cases hl
      · intro hl; exact pair hl aappend_wm
      · intro hl; exact pair hl acopy_wm
      · intro hl; exact optVal_wm hl
      · intro hl; exact optVal_wm hl
      · intro hl; cases hl
    · intro hl; cases hl
    · intro hl; cases hl
structure Quiet (h h' : AHeap) : Prop where
  next : h.next ≤ h'.next
  same : ∀ b, b < h.next → h'.get b = h.get b
  wm : min h.wm h.next ≤ h'.wm
  ok : h.wm ≤ h.next → h'.wm ≤ h'.next
theorem Quiet.refl (h : AHeap) : Quiet h h := ⟨Nat.le_refl _, fun _ _ => rfl, Nat.min_le_left _ _, id⟩
theorem Quiet.trans {a b c : AHeap} (q : Quiet a b) (r : Quiet b c) : Quiet a c :=
  ⟨Nat.le_trans q.next r.next, fun k hk => (r.same k (Nat.lt_of_lt_of_le hk q.next)).trans (q.same k hk), by have := q.next; have := q.wm; have := r.wm; omega, fun k => r.ok (q.ok k)⟩
theorem Quiet.push {h0 h : AHeap} (q : Quiet h0 h) (x : ABlk) : Quiet h0 (h.push x) := by
  refine ⟨by rw [AHeap.next_push]; have := q.next; omega, fun b hb => ?_, q.wm, fun k => ?_⟩
  · rw [AHeap.get_push, if_neg (by have := q.next; omega)]; exact q.same b hb
  · have := q.ok k
    show h.wm ≤ h.next + 1
    omega
theorem Quiet.set {h0 h : AHeap} (q : Quiet h0 h) (b : Nat) (x : ABlk) (hb : h0.next ≤ b) : Quiet h0 (h.set b x) := by
  refine ⟨q.next, fun k hk => ?_, ?_, fun k => ?_⟩
  · rw [AHeap.get_set, if_neg (by omega)]; exact q.same k hk
  · show min h0.wm h0.next ≤ min h.wm b
    have := q.wm; omega
  · have := q.ok k
    show min h.wm b ≤ h.next
    omega
theorem Quiet.get {h h' : AHeap} (q : Quiet h h') {b : Nat} {x : ABlk} (hg : h.get b = some x) (hb : b < h.next) : h'.get b = some x := by rw [q.same b hb]; exact hg
theorem Quiet.lt {h h' : AHeap} (q : Quiet h h') {b : Nat} (hb : b < h.next) : b < h'.next := Nat.lt_of_lt_of_le hb q.next
theorem draw_op {ops rest : List Oper} {o : Oper} {i : Nat} {done : List (Nat × Foot)} {fr : AFrame} {Q : AFrame → AHeap → Prop} {v : AVal} {f : Foot} (hw : awanted ops fr o.guard = some true) (ha : aop T fr.op h o.op = some (.val v h1)) (hwm : h.wm ≤ h.next)
    (hf : foot fr.op o = f) (hk : footsOk ops i f done = true) (r : Draw T ops rest (i + 1) ((i, f) :: done) (putDst fr o.dst v) h1 Q) : Draw T ops (o :: rest) i done fr h Q := by
  obtain ⟨h2, e1, y, e2, e3⟩ := aop_wm (x := h.next) ha
  refine draw_val hw e1 hf (by rw [← hf]; exact (foot_val ha).1) hk ?_
  have e4 : ({ h2 with wm := min h.wm h2.wm } : AHeap) = h1 := by
    subst e3
    show ({ h1 with wm := min h.wm (min h.next y) } : AHeap) = h1
    have : min h.wm (min h.next y) = h1.wm := by rw [e2]; omega
    rw [this]
  rw [e4]
  exact r
theorem draw_call {ops rest : List Oper} {o : Oper} {i : Nat} {done : List (Nat × Foot)} {fr : AFrame} {Q : AFrame → AHeap → Prop} {f : AVal} {vs : List AVal} (hw : awanted ops fr o.guard = some true) (ha : aop T fr.op h o.op = some (.call f vs)) (hwm : h.wm ≤ h.next)
    (hk : footsOk ops i ⟨[], true, [], false⟩ done = true)
    (r : CallV T f vs { h with wm := h.next } fun r h1 => ∃ v, r = .ret v ∧ Quiet { h with wm := h.next } h1 ∧ Draw T ops rest (i + 1) ((i, ⟨[], true, [], false⟩) :: done) (putDst fr o.dst v) { h1 with wm := min h.wm h1.wm } Q) : Draw T ops (o :: rest) i done fr h Q := by
  obtain ⟨n, r, h1, h2, v, rfl, q, m, fr', h3, h4, h5⟩ := r
  have ha' : aop T fr.op { h with wm := h.next } o.op = some (.call f vs) := by
    obtain ⟨c, fo, ho, hc, e1, e2⟩ := aop_call_inv ha
    rw [ho]
    simp only [aop, opCall, hc, e1, e2]
  have hq : Nat.ble h.next h1.wm = true := by
    have := q.wm
    simp at this
    exact Nat.ble_eq_true_of_le this
  have e : footOf (foot fr.op o) h h1 = ⟨[], true, [], false⟩ := by rw [foot_call ha]; unfold footOf; simp [hq]
  refine ⟨max n m, fr', h3, ?_, h5⟩
  have c1 := acall_le (T := T) (aexec_le (Nat.le_max_left n m)) _ _ _ _ h2
  have c2 := adraw_le (T := T) (acall_le (aexec_le (Nat.le_max_right n m))) _ _ _ _ _ _ h4
  simp only [adraw, hw, astep, ha', c1, e, hk, cond_true]
  exact c2
end
end Go.Ai

/- An abstract interpreter for the model's code: the arguments of a call, laid as abstract values that nobody writes. -/
namespace Go.Ai
structure HExt (h h' : AHeap) : Prop where
  next : h.next ≤ h'.next
  same : ∀ b, b < h.next → h'.get b = h.get b
  wm : h.wm ≤ h.next → h'.wm ≤ h'.next
theorem HExt.refl (h : AHeap) : HExt h h := ⟨Nat.le_refl _, fun _ _ => rfl, id⟩
theorem HExt.trans {a b c : AHeap} (h : HExt a b) (h' : HExt b c) : HExt a c :=
  ⟨Nat.le_trans h.next h'.next, fun k hk => (h'.same k (Nat.lt_of_lt_of_le hk h.next)).trans (h.same k hk), fun q => h'.wm (h.wm q)⟩
theorem HExt.push (h : AHeap) (x : ABlk) : HExt h (h.push x) :=
  ⟨by simp [AHeap.next_push], fun b hb => by rw [AHeap.get_push, if_neg (by omega)], fun q => Nat.le_succ_of_le q⟩
def Store : Type := Nat → Option ABlk
def Store.le (z z' : Store) : Prop := ∀ b x, z b = some x → z' b = some x
theorem Store.le.refl (z : Store) : z.le z := fun _ _ h => h
theorem Store.le.trans {a b c : Store} (h : a.le b) (h' : b.le c) : a.le c := fun k x hk => h' k x (h k x hk)
def AHeap.st (h : AHeap) : Store := fun b => if b < h.next then h.get b else none
theorem AHeap.st_lt {h : AHeap} {b : Nat} {x : ABlk} (e : h.st b = some x) : b < h.next ∧ h.get b = some x := by
  unfold AHeap.st at e
  split at e
  · exact ⟨by assumption, e⟩
  · cases e
theorem AHeap.st_of {h : AHeap} {b : Nat} {x : ABlk} (hb : b < h.next) (e : h.get b = some x) : h.st b = some x := by
  unfold AHeap.st; rw [if_pos hb]; exact e
theorem HExt.st {h h' : AHeap} (e : HExt h h') : h.st.le h'.st := fun b x hb => by
  obtain ⟨h1, h2⟩ := AHeap.st_lt hb
  exact AHeap.st_of (Nat.lt_of_lt_of_le h1 e.next) (by rw [e.same b h1]; exact h2)
structure Rep (A : Type) where
  sz : Nat
  agg : Bool
  rel : Store → List AVal → A → Prop
  len : ∀ z cs x, rel z cs x → cs.length = sz
  mono : ∀ z z' cs x, z.le z' → rel z cs x → rel z' cs x
  one : agg = false → sz = 1
  ones : ∀ z cs x, rel z cs x → cs.all AVal.one = true
def rInt (k : IntKind) : Rep Int :=
  ⟨1, false, fun _ cs x => cs = [.int k x] ∧ k.min ≤ x ∧ x ≤ k.max, fun _ _ _ h => by rw [h.1]; rfl, fun _ _ _ _ _ h => h, fun _ => rfl, fun _ _ _ h => by rw [h.1]; rfl⟩
def rBool : Rep Bool := ⟨1, false, fun _ cs x => cs = [.bool x], fun _ _ _ h => by rw [h]; rfl, fun _ _ _ _ _ h => h, fun _ => rfl, fun _ _ _ h => by rw [h]; rfl⟩
def RowAt {A : Type} (R : Rep A) (z : Store) (v : AVal) (xs : List A) : Prop :=
  xs.length ≤ maxLen ∧ ((v = .nilslice ∧ xs = []) ∨ (∃ b off cap, v = .slice b off 0 R.sz cap ∧ xs = [] ∧ z b = some .dead) ∨
    ∃ b off cap cells ro, v = .slice b off xs.length R.sz cap ∧ z b = some (.arr cells ro) ∧ off + xs.length * R.sz ≤ cells.length ∧ (∀ c, cap = some c → xs.length ≤ c) ∧
      ∀ i x, xs[i]? = some x → R.rel z ((cells.drop (off + i * R.sz)).take R.sz) x)
theorem RowAt.mono {A : Type} {R : Rep A} {z z' : Store} {v : AVal} {xs : List A} (e : z.le z') (r : RowAt R z v xs) : RowAt R z' v xs := by
  obtain ⟨r0, r⟩ := r
  refine ⟨r0, ?_⟩
  rcases r with r | ⟨b, off, cap, r1, r2, r4⟩ | ⟨b, off, cap, cells, ro, r1, r3, r4, r6, r5⟩
  · exact .inl r
  · exact .inr (.inl ⟨b, off, cap, r1, r2, e _ _ r4⟩)
  · exact .inr (.inr ⟨b, off, cap, cells, ro, r1, e _ _ r3, r4, r6, fun i x hx => R.mono _ _ _ _ e (r5 i x hx)⟩)
theorem RowAt.one {A : Type} {R : Rep A} {z : Store} {v : AVal} {xs : List A} (r : RowAt R z v xs) : v.one = true := by
  rcases r.2 with ⟨rfl, _⟩ | ⟨b, off, cap, rfl, _⟩ | ⟨b, off, cap, cells, ro, rfl, _⟩ <;> rfl
def rSlice {A : Type} (R : Rep A) : Rep (List A) :=
  ⟨1, false, fun z cs xs => ∃ v, cs = [v] ∧ RowAt R z v xs, fun _ _ _ h => by obtain ⟨v, h, _⟩ := h; rw [h]; rfl, fun _ _ _ _ e h => let ⟨v, h1, h2⟩ := h; ⟨v, h1, h2.mono e⟩,
    fun _ => rfl, fun _ _ _ h => by obtain ⟨v, h, r⟩ := h; rw [h]; simp [r.one]⟩
def rUnit : Rep Unit := ⟨0, true, fun _ cs _ => cs = [], fun _ _ _ h => by rw [h]; rfl, fun _ _ _ _ _ h => h, fun h => (by cases h), fun _ _ _ h => by rw [h]; rfl⟩
def rPair {A B : Type} (R : Rep A) (S : Rep B) : Rep (A × B) :=
  ⟨R.sz + S.sz, true, fun z cs x => ∃ c1 c2, cs = c1 ++ c2 ∧ R.rel z c1 x.1 ∧ S.rel z c2 x.2,
    fun h cs x r => by obtain ⟨c1, c2, rfl, r1, r2⟩ := r; rw [List.length_append, R.len _ _ _ r1, S.len _ _ _ r2],
    fun _ _ _ _ e r => let ⟨c1, c2, r0, r1, r2⟩ := r; ⟨c1, c2, r0, R.mono _ _ _ _ e r1, S.mono _ _ _ _ e r2⟩,
    fun h => (by cases h), fun z cs x r => by obtain ⟨c1, c2, rfl, r1, r2⟩ := r; rw [List.all_append, R.ones _ _ _ r1, S.ones _ _ _ r2]; rfl⟩
def NoOwn (ρ : Emb) (h : AHeap) : Prop := ∀ b l, ρ b = some l → ¬ Owns h b
structure Lay (W : World) (ρ : Emb) (h : AHeap) (ρ' : Emb) (h' : AHeap) : Prop where
  ext : Ext ρ ρ'
  heap : HRel W.heap.size ρ' h' W
  none : NoOwn ρ' h'
  grow : HExt h h'
theorem Lay.trans {W : World} {ρ ρ1 ρ2 : Emb} {h h1 h2 : AHeap} (a : Lay W ρ h ρ1 h1) (b : Lay W ρ1 h1 ρ2 h2) : Lay W ρ h ρ2 h2 :=
  ⟨a.ext.trans b.ext, b.heap, b.none, a.grow.trans b.grow⟩
theorem Lay.push {W : World} {ρ : Emb} {h : AHeap} (hr : HRel W.heap.size ρ h W) (hn : NoOwn ρ h) (x : ABlk) (l : Loc) (hl : l.c < W.heap.size) (hb : BRel W.heap.size ρ (some x) l W) (ho : ∀ c, x = .arr c true ∨ x = .dead → True) (hx : (∃ c, x = .arr c true) ∨ x = .dead) :
    Lay W ρ h (ρ.add h.next l) (h.push x) := by
  have hfr := hr.none_next
  have hnx : ¬ Owns (h.push x) h.next := by
    unfold Owns
    rw [AHeap.get_push, if_pos rfl]
    rcases hx with ⟨c, rfl⟩ | rfl <;> exact fun q => q
  have hno : NoOwn (ρ.add h.next l) (h.push x) := by
    intro b l' hb'
    by_cases e : b = h.next
    · subst e; exact hnx
    · rw [Emb.add_ne _ _ _ e] at hb'
      rw [owns_push e]
      exact hn b l' hb'
  refine ⟨Ext.add hfr, ⟨⟨?_, ?_, ?_, hr.base⟩, ?_⟩, hno, HExt.push _ _⟩
  · intro b l' hb'
    by_cases e : b = h.next
    · subst e; rw [Emb.add_same] at hb'; cases hb'; exact hl
    · rw [Emb.add_ne _ _ _ e] at hb'; exact hr.clt b l' hb'
  · intro b l' hb'
    rw [AHeap.get_push]
    by_cases e : b = h.next
    · subst e; rw [Emb.add_same] at hb'; cases hb'; rw [if_pos rfl]; exact hb.mono (Ext.add hfr) rfl
    · rw [Emb.add_ne _ _ _ e] at hb'; rw [if_neg e]; exact (hr.blk b l' hb').mono (Ext.add hfr) rfl
  · intro b b' l' l'' hb' _ _ ho' _
    exact absurd ho' (hno b l' hb')
  · intro b l' hb'
    rw [AHeap.next_push]
    by_cases e : b = h.next
    · omega
    · rw [Emb.add_ne _ _ _ e] at hb'
      have := hr.lt b l' hb'
      omega
def Opens (P : Program) {A : Type} (t : TypeId) (R : Rep A) : Prop :=
  P.cellsOf t = R.sz ∧ R.agg = (match P.underlying t with | some (.struct _) => true | _ => false) ∧ ∀ (H : Type) (enc : TypeId × Value → H) (W : World) (fuel : Nat) (cs : List Value) (x : DataW H × List MemPlace), 0 < W.heap.size →
    DataW.trod enc P W 0 (fun _ => true) true fuel t cs = some x → ∀ (ρ : Emb) (h : AHeap), HRel W.heap.size ρ h W → NoOwn ρ h →
      ∃ ρ' h' cells d, Lay W ρ h ρ' h' ∧ LRel ρ' cells cs ∧ R.rel h'.st cells d
section
variable {P : Program}
theorem opens_int {t : TypeId} {k : IntKind} (ht : P.underlying t = some (.int k)) (hc : P.cellsOf t = 1) : Opens P t (rInt k) := by
  refine ⟨hc, by rw [ht]; rfl, fun H enc W fuel cs x _ hx ρ h hr hn => ?_⟩
  obtain ⟨n, rfl, _, hw⟩ := DataW.trod_int ht hx
  simp only [Lit.wf, Bool.and_eq_true, decide_eq_true_eq] at hw
  exact ⟨ρ, h, [.int k n], n, ⟨.refl _, hr, hn, .refl _⟩, .cons (.int k n) (.nil _), rfl, hw.1, hw.2⟩
theorem opens_bool {t : TypeId} (ht : P.underlying t = some .bool) (hc : P.cellsOf t = 1) : Opens P t rBool := by
  refine ⟨hc, by rw [ht]; rfl, fun H enc W fuel cs x _ hx ρ h hr hn => ?_⟩
  obtain ⟨b, rfl, _⟩ := DataW.trod_bool ht hx
  exact ⟨ρ, h, [.bool b], b, ⟨.refl _, hr, hn, .refl _⟩, .cons (.bool b) (.nil _), rfl⟩
theorem addr_add_add (a : Addr) (m n : Nat) : (a.add m).add n = a.add (m + n) := by
  unfold Addr.add
  by_cases h1 : n = 0
  · subst h1; simp
  · by_cases h2 : m = 0
    · subst h2; simp
    · rw [if_neg h1, if_neg h2, if_neg (by omega)]
      simp [Nat.add_assoc]
theorem opens_many {A : Type} {e : TypeId} {R : Rep A} (ho : Opens P e R) {H : Type} {enc : TypeId × Value → H} {W : World} (hpos : 0 < W.heap.size) {fuel : Nat} :
    ∀ (css : List (List Value)), (∀ cs ∈ css, ∃ x, DataW.trod enc P W 0 (fun _ => true) true fuel e cs = some x) → ∀ (ρ : Emb) (h : AHeap), HRel W.heap.size ρ h W → NoOwn ρ h →
      ∃ (ρ' : Emb) (h' : AHeap) (cellss : List (List AVal)) (xs : List A), Lay W ρ h ρ' h' ∧ cellss.length = css.length ∧ xs.length = css.length ∧ LRel ρ' cellss.flatten css.flatten ∧
        ∀ (i : Nat) (c : List AVal) (x : A), cellss[i]? = some c → xs[i]? = some x → R.rel h'.st c x
  | [], _, ρ, h, hr, hn => ⟨ρ, h, [], [], ⟨.refl _, hr, hn, .refl _⟩, rfl, rfl, .nil _, by simp⟩
  | cs :: css, hall, ρ, h, hr, hn => by
    obtain ⟨x, hx⟩ := hall cs (List.mem_cons_self ..)
    obtain ⟨ρ1, h1, c1, d1, l1, r1, q1⟩ := ho.2.2 H enc W fuel cs x hpos hx ρ h hr hn
    obtain ⟨ρ2, h2, cells2, xs, l2, e1, e2, r2, q2⟩ := opens_many ho hpos css (fun c hc => hall c (List.mem_cons_of_mem _ hc)) ρ1 h1 l1.heap l1.none
    refine ⟨ρ2, h2, c1 :: cells2, d1 :: xs, l1.trans l2, by simp [e1], by simp [e2], ?_, ?_⟩
    · simp only [List.flatten_cons]
      exact (r1.mono l2.ext).append r2
    · intro i c y hc hy
      cases i with
      | zero =>
        simp at hc hy
        subst hc hy
        exact R.mono _ _ _ _ l2.grow.st q1
      | succ i => exact q2 i c y (by simpa using hc) (by simpa using hy)
theorem flatten_piece {α : Type} {n : Nat} : ∀ (ls : List (List α)), (∀ l ∈ ls, l.length = n) → ls.flatten.length = ls.length * n ∧ ∀ i l, ls[i]? = some l → (ls.flatten.drop (i * n)).take n = l
  | [], _ => ⟨by simp, by simp⟩
  | l :: ls, h => by
    obtain ⟨h1, h2⟩ := flatten_piece ls (fun x hx => h x (List.mem_cons_of_mem _ hx))
    have hl := h l (List.mem_cons_self ..)
    refine ⟨by simp [h1, hl, Nat.add_mul]; omega, fun i x hx => ?_⟩
    cases i with
    | zero =>
      simp at hx
      subst hx
      simp [← hl]
    | succ i =>
      have := h2 i x (by simpa using hx)
      have e : (l :: ls).flatten.drop ((i + 1) * n) = ls.flatten.drop (i * n) := by
        rw [List.flatten_cons, show (i + 1) * n = l.length + i * n from by rw [hl, Nat.add_mul]; omega, List.drop_append, List.drop_eq_nil_of_le (by omega)]
        simp
      rw [e]; exact this
theorem flatten_get {α : Type} {n : Nat} (hn : 0 < n) (ls : List (List α)) (h : ∀ l ∈ ls, l.length = n) (k : Nat) (x : α) (hk : ls.flatten[k]? = some x) : ∃ l, ls[k / n]? = some l ∧ l[k % n]? = some x := by
  obtain ⟨h1, h2⟩ := flatten_piece ls h
  have hlt : k < ls.length * n := by rw [← h1]; exact (List.getElem?_eq_some_iff.1 hk).1
  have hd : k / n < ls.length := by rw [Nat.div_lt_iff_lt_mul hn]; exact hlt
  refine ⟨ls[k / n], List.getElem?_eq_getElem hd, ?_⟩
  rw [← h2 (k / n) _ (List.getElem?_eq_getElem hd), List.getElem?_take, if_pos (Nat.mod_lt _ hn), List.getElem?_drop]
  rw [show k / n * n + k % n = k from by rw [Nat.mul_comm]; exact Nat.div_add_mod k n]
  exact hk
theorem opens_slice {A : Type} {t e : TypeId} {R : Rep A} (ht : P.underlying t = some (.slice e)) (hc : P.cellsOf t = 1) (ho : Opens P e R) (hsz : 0 < R.sz) : Opens P t (rSlice R) := by
  refine ⟨hc, by rw [ht]; rfl, fun H enc W fuel cs x hpos hx ρ h hr hn => ?_⟩
  rcases DataW.trod_slice ht hx with ⟨rfl, _⟩ | ⟨a, len, cap, elems, rest, n, rfl, rfl, _, _, hlc, hcm, hel, helems, hrest, _⟩
  · exact ⟨ρ, h, [.nilslice], [], ⟨.refl _, hr, hn, .refl _⟩, .cons .nilslice (.nil _), _, rfl, by simp [maxLen], .inl ⟨rfl, rfl⟩⟩
  · obtain ⟨hrl, hrest⟩ := hrest rfl
    have hce := ho.1
    -- every element up to the capacity can be read
    have read : ∀ i, i < cap → ∃ ci x, W.cells? 0 (a.add (i * R.sz)) R.sz = some ci ∧ DataW.trod enc P W 0 (fun _ => true) true n e ci = some x := by
      intro i hi
      by_cases hil : i < len
      · have h1 := helems i hil
        rw [List.getElem?_eq_getElem (by omega), Option.bind_eq_some_iff] at h1
        obtain ⟨ci, h1, h2⟩ := h1
        rw [hce] at h1
        exact ⟨ci, _, h1, h2⟩
      · have h1 := hrest (i - len) (by omega)
        rw [List.getElem?_eq_getElem (by omega), Option.bind_eq_some_iff] at h1
        obtain ⟨ci, h1, h2⟩ := h1
        rw [hce, show len + (i - len) = i from by omega] at h1
        exact ⟨ci, _, h1, h2⟩
    by_cases hc0 : cap = 0
    · have hl0 : len = 0 := by omega
      subst hc0 hl0
      have hlay := Lay.push hr hn .dead ⟨0, 0, 0⟩ hpos trivial (fun _ _ => trivial) (.inr rfl)
      refine ⟨_, _, [.slice h.next 0 0 R.sz none], [], hlay, .cons (.slice h.next 0 0 R.sz none ⟨0, 0, 0⟩ a 0 (Emb.add_same _ _ _) (Nat.le_refl _) (fun k hk => by cases hk) (.inl rfl)) (.nil _), _, rfl, by simp [maxLen], .inr (.inl ⟨h.next, 0, none, rfl, rfl, ?_⟩)⟩
      exact AHeap.st_of (by rw [AHeap.next_push]; omega) (by rw [AHeap.get_push, if_pos rfl])
    · -- the block
      have hcell : ∀ k, k < cap * R.sz → ∃ v, W.cell? (a.add k) = some v := by
        intro k hk
        have hd : k / R.sz < cap := by rw [Nat.div_lt_iff_lt_mul hsz]; exact hk
        obtain ⟨ci, _, h1, _⟩ := read (k / R.sz) hd
        obtain ⟨_, h2, h3⟩ := World.cells?_some h1
        have hm := Nat.mod_lt k hsz
        have h4 := h3 (k % R.sz) hm
        rw [addr_add_add, show k / R.sz * R.sz + k % R.sz = k from by rw [Nat.mul_comm]; exact Nat.div_add_mod k _, List.getElem?_eq_getElem (by omega)] at h4
        exact ⟨_, h4⟩
      have hcs : 0 < cap * R.sz := Nat.mul_pos (by omega) hsz
      obtain ⟨v0, hv0⟩ := hcell 0 hcs
      have ha0 : a.add 0 = a := by simp [Addr.add]
      rw [ha0] at hv0
      unfold World.cell? at hv0
      split at hv0
      case h_2 => cases hv0
      rename_i cc el fz hblk
      have hspot : a.spot = none := by
        cases hs : a.spot with
        | none => rfl
        | some q => rw [hs] at hv0; simp at hv0
      have hadd : ∀ k, W.cell? (a.add k) = cc[a.off + k]? := by
        intro k
        unfold World.cell? Addr.add
        by_cases hk : k = 0
        · subst hk; simp [hblk, hspot]
        · simp [hk, hblk]
      have hfit : a.off + cap * R.sz ≤ cc.size := by
        obtain ⟨v, hv⟩ := hcell (cap * R.sz - 1) (by omega)
        rw [hadd] at hv
        have := (Array.getElem?_eq_some_iff.1 hv).1
        omega
      have hblt : a.block < W.heap.size := (Array.getElem?_eq_some_iff.1 hblk).1
      -- the elements
      have hpieces : ∀ i, i < len → ∃ x, DataW.trod enc P W 0 (fun _ => true) true n e ((cc.toList.drop (a.off + i * R.sz)).take R.sz) = some x := by
        intro i hi
        obtain ⟨ci, x, h1, h2⟩ := read i (by omega)
        obtain ⟨_, h3, h4⟩ := World.cells?_some h1
        have : ci = (cc.toList.drop (a.off + i * R.sz)).take R.sz := by
          apply List.ext_getElem?
          intro j
          by_cases hj : j < R.sz
          · rw [← h4 j hj, addr_add_add, hadd, List.getElem?_take, if_pos hj, List.getElem?_drop, Nat.add_assoc]
            simp
          · rw [List.getElem?_eq_none (by omega), List.getElem?_eq_none (by simp; omega)]
        exact ⟨x, by rw [← this]; exact h2⟩
      obtain ⟨ρ1, h1, cellss, xs, l1, e1, e2, r1, q1⟩ := opens_many ho hpos (enc := enc) (fuel := n) ((List.range len).map fun i => (cc.toList.drop (a.off + i * R.sz)).take R.sz) (by
        intro c hc
        obtain ⟨i, hi, rfl⟩ := List.mem_map.1 hc
        exact hpieces i (List.mem_range.1 hi)) ρ h hr hn
      simp only [List.length_map, List.length_range] at e1 e2
      have hclen : ∀ c ∈ cellss, c.length = R.sz := by
        intro c hc
        obtain ⟨i, hi, rfl⟩ := List.getElem_of_mem hc
        exact R.len _ _ _ (q1 i _ xs[i] (List.getElem?_eq_getElem hi) (List.getElem?_eq_getElem (by omega)))
      obtain ⟨fl, fp⟩ := flatten_piece cellss hclen
      have hplen : ∀ c ∈ (List.range len).map (fun i => (cc.toList.drop (a.off + i * R.sz)).take R.sz), c.length = R.sz := by
        intro c hc
        obtain ⟨i, hi, rfl⟩ := List.mem_map.1 hc
        have hi := List.mem_range.1 hi
        have : (i + 1) * R.sz ≤ cap * R.sz := Nat.mul_le_mul_right _ (by omega)
        rw [Nat.add_mul] at this
        simp
        omega
      have hbr : BRel W.heap.size ρ1 (some (.arr cellss.flatten true)) ⟨a.block, a.off, cc.size⟩ W := by
        refine ⟨cc, el, fz, hblk, rfl, ?_, fun i v hv => ?_, fun q => by cases q⟩
        · have : len * R.sz ≤ cap * R.sz := Nat.mul_le_mul_right _ hlc
          simp only [fl, e1]
          omega
        · obtain ⟨v', hv', hrel⟩ := r1.at hv
          obtain ⟨l, hl1, hl2⟩ := flatten_get hsz _ hplen i v' hv'
          rw [List.getElem?_map] at hl1
          cases hr' : (List.range len)[i / R.sz]? with
          | none => rw [hr'] at hl1; cases hl1
          | some q =>
            rw [hr'] at hl1
            cases hl1
            have hq : q = i / R.sz := by
              obtain ⟨h1, h2⟩ := List.getElem?_eq_some_iff.1 hr'
              simpa using h2.symm
            subst hq
            rw [List.getElem?_take, if_pos (Nat.mod_lt _ hsz), List.getElem?_drop] at hl2
            rw [Nat.add_assoc, show i / R.sz * R.sz + i % R.sz = i from by rw [Nat.mul_comm]; exact Nat.div_add_mod i _] at hl2
            exact ⟨v', by simpa using hl2, hrel⟩
      have hlay := Lay.push l1.heap l1.none (.arr cellss.flatten true) ⟨a.block, a.off, cc.size⟩ hblt hbr (fun _ _ => trivial) (.inl ⟨_, rfl⟩)
      refine ⟨_, _, [.slice h1.next 0 len R.sz none], xs, l1.trans hlay, .cons (.slice h1.next 0 len R.sz none ⟨a.block, a.off, cc.size⟩ a cap (Emb.add_same _ _ _) hlc (fun k hk => by cases hk) (.inr ⟨?_, by simpa using hfit⟩)) (.nil _), _, rfl, by omega, .inr (.inr ⟨h1.next, 0, none, cellss.flatten, true, by rw [e2], ?_, ?_, fun c q => (nomatch q), ?_⟩)⟩
      · obtain ⟨ab, ao, as⟩ := a; simp at hspot; subst hspot; rfl
      · exact AHeap.st_of (by rw [AHeap.next_push]; omega) (by rw [AHeap.get_push, if_pos rfl])
      · rw [fl, e1, e2]; omega
      · intro i x hx
        have hi : i < xs.length := (List.getElem?_eq_some_iff.1 hx).1
        rw [Nat.zero_add, fp i _ (List.getElem?_eq_getElem (by omega))]
        exact R.mono _ _ _ _ hlay.grow.st (q1 i _ x (List.getElem?_eq_getElem (by omega)) hx)
def OpensF (P : Program) {A : Type} (fs : List Field) (o : Nat) (R : Rep A) : Prop :=
  ∀ (H : Type) (enc : TypeId × Value → H) (W : World) (fuel : Nat) (cs : List Value), 0 < W.heap.size → cs.length = o + R.sz →
    (∀ f ∈ fs, ∃ x, DataW.trod enc P W 0 (fun _ => true) true fuel f.type ((cs.drop f.offset).take (P.cellsOf f.type)) = some x) → ∀ (ρ : Emb) (h : AHeap), HRel W.heap.size ρ h W → NoOwn ρ h →
      ∃ ρ' h' cells d, Lay W ρ h ρ' h' ∧ LRel ρ' cells (cs.drop o) ∧ R.rel h'.st cells d
theorem opensF_nil (o : Nat) : OpensF P [] o rUnit := by
  intro H enc W fuel cs _ hl _ ρ h hr hn
  refine ⟨ρ, h, [], (), ⟨.refl _, hr, hn, .refl _⟩, ?_, rfl⟩
  rw [List.drop_eq_nil_of_le (by rw [hl]; simp [rUnit])]
  exact .nil _
theorem opensF_cons {A B : Type} {f : Field} {fs : List Field} {o : Nat} {R : Rep A} {S : Rep B} (hf : f.offset = o) (ho : Opens P f.type R) (hs : OpensF P fs (o + R.sz) S) : OpensF P (f :: fs) o (rPair R S) := by
  intro H enc W fuel cs hpos hl hall ρ h hr hn
  obtain ⟨x, hx⟩ := hall f (List.mem_cons_self ..)
  rw [hf, ho.1] at hx
  obtain ⟨ρ1, h1, c1, d1, l1, r1, q1⟩ := ho.2.2 H enc W fuel _ x hpos hx ρ h hr hn
  obtain ⟨ρ2, h2, c2, d2, l2, r2, q2⟩ := hs H enc W fuel cs hpos (by rw [hl]; simp [rPair]; omega) (fun g hg => hall g (List.mem_cons_of_mem _ hg)) ρ1 h1 l1.heap l1.none
  refine ⟨ρ2, h2, c1 ++ c2, (d1, d2), l1.trans l2, ?_, c1, c2, rfl, R.mono _ _ _ _ l2.grow.st q1, q2⟩
  have e : cs.drop o = (cs.drop o).take R.sz ++ cs.drop (o + R.sz) := by
    rw [show cs.drop (o + R.sz) = (cs.drop o).drop R.sz from by rw [List.drop_drop]]
    exact (List.take_append_drop _ _).symm
  rw [e]
  exact (r1.mono l2.ext).append r2
theorem opens_struct {A : Type} {t : TypeId} {fs : Array Field} {R : Rep A} (ht : P.underlying t = some (.struct fs)) (hc : P.cellsOf t = R.sz) (hag : R.agg = true) (ho : OpensF P fs.toList 0 R) : Opens P t R := by
  refine ⟨hc, by rw [ht]; exact hag, fun H enc W fuel cs x hpos hx ρ h hr hn => ?_⟩
  obtain ⟨xs, n, rfl, _, h1, h2, h3⟩ := DataW.trod_struct ht hx
  obtain ⟨ρ', h', cells, d, l, r, q⟩ := ho H enc W n cs hpos (by rw [h1, hc]; omega) (fun f hf => by
    obtain ⟨i, hi, rfl⟩ := List.getElem_of_mem hf
    have hi' : i < fs.size := by simpa using hi
    have := h3 i fs.toList[i] (by simp [hi'])
    rw [List.getElem?_eq_getElem (by omega)] at this
    exact ⟨_, this⟩) ρ h hr hn
  exact ⟨ρ', h', cells, d, l, by simpa using r, q⟩
def AVal.isAgg : AVal → Bool
  | .agg _ => true
  | _ => false
structure TV {A : Type} (R : Rep A) (z : Store) (v : AVal) (x : A) : Prop where
  rel : R.rel z v.cells x
  agg : v.isAgg = R.agg
theorem TV.mono {A : Type} {R : Rep A} {z z' : Store} {v : AVal} {x : A} (e : z.le z') (t : TV R z v x) : TV R z' v x := ⟨R.mono _ _ _ _ e t.rel, t.agg⟩
theorem opens_arg {A : Type} {t : TypeId} {R : Rep A} (ho : Opens P t R) {H : Type} {enc : TypeId × Value → H} {W : World} {base : Nat} {v : Value} {d : DataW H} {ps : List MemPlace} (hpos : 0 < W.heap.size)
    (hok : Value.okWide P W .any base t v) (hflat : (match P.underlying t with | some (.int _) | some .bool | some (.slice _) | some (.struct _) => true | _ => false) = true)
    (hd : DataW.Trod enc P W 0 (fun _ => true) true t v d ps) {ρ : Emb} {h : AHeap} (hr : HRel W.heap.size ρ h W) (hn : NoOwn ρ h) :
    ∃ ρ' h' a x, Lay W ρ h ρ' h' ∧ VRel ρ' a v ∧ TV R h'.st a x := by
  obtain ⟨fuel, hd⟩ := hd
  obtain ⟨ρ', h', cells, x, l, r, q⟩ := ho.2.2 H enc W fuel _ _ hpos hd ρ h hr hn
  have scal : R.agg = false → v.cells = #[v] → (∀ cs, v ≠ .agg cs) → ∃ ρ' h' a x, Lay W ρ h ρ' h' ∧ VRel ρ' a v ∧ TV R h'.st a x := by
    intro hag e hna
    rw [e] at r
    cases cells with
    | nil => have := r.1; simp at this
    | cons c rest =>
      cases rest with
      | cons _ _ => have := r.1; simp at this
      | nil =>
        have hv : VRel ρ' c v := r.head
        refine ⟨ρ', h', c, x, l, hv, ?_⟩
        have : c.cells = [c] ∧ c.isAgg = false := by
          cases c with
          | agg cs => cases hv; exact absurd rfl (hna _)
          | _ => exact ⟨rfl, rfl⟩
        exact ⟨by rw [this.1]; exact q, by rw [this.2, hag]⟩
  split at hflat
  · rename_i k ht
    obtain ⟨n, rfl⟩ := WideShapes.okWide_int ht hok
    exact scal (by rw [ho.2.1, ht]) rfl (fun _ q => by cases q)
  · rename_i ht
    obtain ⟨n, rfl⟩ := WideShapes.okWide_bool ht hok
    exact scal (by rw [ho.2.1, ht]) rfl (fun _ q => by cases q)
  · rename_i ht
    obtain ⟨a, len, cap, rfl⟩ := WideShapes.okWide_slice ht hok
    exact scal (by rw [ho.2.1, ht]) rfl (fun _ q => by cases q)
  · rename_i fs ht
    simp only [Value.okWide, ht] at hok
    obtain ⟨cs, rfl, _⟩ := hok
    refine ⟨ρ', h', .agg cells, x, l, ?_, q, by rw [ho.2.1, ht]; rfl⟩
    exact .agg' (cs' := cs.toList) (by simpa [Value.cells] using r)
  · cases hflat
end
end Go.Ai

/- An abstract interpreter for the model's code: regions as propositions that simplification unfolds. -/
namespace Go.Ai
theorem CallV.mono {T : Tab} {f : AVal} {vs : List AVal} {h : AHeap} {Q Q' : CRes → AHeap → Prop} (c : CallV T f vs h Q) (hq : ∀ r h', Q r h' → Q' r h') : CallV T f vs h Q' :=
  let ⟨n, r, h', a, b⟩ := c; ⟨n, r, h', a, hq _ _ b⟩
theorem CallF.mono {T : Tab} {f : FuncId} {vs : List AVal} {h : AHeap} {Q Q' : CRes → AHeap → Prop} (c : CallF T f vs h Q) (hq : ∀ r h', Q r h' → Q' r h') : CallF T f vs h Q' :=
  let ⟨n, r, h', a, b⟩ := c; ⟨n, r, h', a, hq _ _ b⟩
def noWrite : Op → Bool
  | .store _ _ _ | .mapUpdate _ _ _ _ | .insert _ _ _ _ => false
  | .call c => (match c.callee with | .builtin .append | .builtin .copy => false | _ => true)
  | _ => true
theorem apart_quiet {a b : Foot} (ha : a.wr = []) (ha' : a.wall = false) (hb : b.wr = []) (hb' : b.wall = false) : a.apart b = true := by
  have e : ∀ l, disj l [] = true := by intro l; simp [disj]
  have e2 : ∀ l, disj [] l = true := by intro l; rfl
  unfold Foot.apart
  rw [ha, ha', hb, hb']
  simp [e, e2]
theorem noWrite_foot {ev : Operand → AVal} {o : Oper} (h : noWrite o.op = true) : (foot ev o).wr = [] ∧ (foot ev o).wall = false := by
  unfold foot
  cases ho : o.op <;> rw [ho] at h <;> simp only [noWrite] at h <;> (try (cases h; done)) <;> (try exact ⟨rfl, rfl⟩)
  rename_i c
  cases hc : c.callee with
  | value f => simp only [hc]; simp
  | invoke r m => simp only [hc]; simp
  | builtin b => rw [hc] at h; cases b <;> simp at h <;> simp [hc]
theorem footsOk_quiet {ops : List Oper} {i : Nat} {f : Foot} {done : List (Nat × Foot)} (hd : ∀ p ∈ done, p.2.wr = [] ∧ p.2.wall = false) (hf : f.wr = []) (hf' : f.wall = false) : footsOk ops i f done = true := by
  unfold footsOk
  rw [if_pos (List.all_eq_true.2 fun p hp => apart_quiet (hd p hp).1 (hd p hp).2 hf hf')]
theorem callF_of {T : Tab} {g : FuncId} {F : Func} {c : Code} {vs : List AVal} {h : AHeap} {Q : CRes → AHeap → Prop} (hF : T.funcs.get g = some F) (hb : F.body = some c) (hn : Nat.blt F.ntmps vs.length = false)
    (r : Run T c (argFrame 0 vs .leaf) h fun e fr h' => (e = .normal ∨ e = .ret) ∧ ∃ us, aresults T F.results.toList fr h' = some us ∧ Q (.ret (packed us)) h') : CallF T g vs h Q := by
  obtain ⟨n, e, fr, h', h1, h2, us, h3, h4⟩ := r
  refine ⟨n, _, h', ?_, h4⟩
  unfold acallFn
  rcases h2 with rfl | rfl <;> simp only [hF, hn, cond_false, hb, h1, h3]
theorem callV_func {T : Tab} {g : FuncId} {a b vs : List AVal} {h : AHeap} {Q : CRes → AHeap → Prop} (hc : T.consts.get g = none) (c : CallF T g (a ++ vs ++ b) h Q) : CallV T (.func (.func g) a b) vs h Q := by
  obtain ⟨n, r, h', h1, h2⟩ := c
  refine ⟨n, r, h', ?_, h2⟩
  simp only [acall, hc]
  exact h1
theorem put_some (fr : AFrame) (d : Nat) (v : AVal) : putDst fr (some d) v = Tr.set fr d v := rfl
theorem put_none (fr : AFrame) (v : AVal) : putDst fr none v = fr := rfl
end Go.Ai

/- Symbolic runs of the abstract interpreter: what a frame's places hold, what rows and boxes a function owns. -/
namespace Go.Ai.Sx
def _root_.Go.Ai.Store.Sub (z : Store) (h : AHeap) : Prop := ∀ b x, z b = some x → h.get b = some x ∧ b < h.next
def PtrAt {A : Type} (R : Rep A) (z : Store) (a : AVal) (x : A) : Prop :=
  ∃ b off cells ro, a = .ptr b off ∧ z b = some (.arr cells ro) ∧ off + R.sz ≤ cells.length ∧ R.rel z ((cells.drop off).take R.sz) x
def rPtr {A : Type} (R : Rep A) : Rep A :=
  ⟨1, false, fun z cs x => ∃ a, cs = [a] ∧ PtrAt R z a x, fun _ _ _ h => by obtain ⟨v, h, _⟩ := h; rw [h]; rfl,
    fun _ _ _ _ e h => let ⟨a, h1, b, off, cells, ro, h2, h3, h4, h5⟩ := h; ⟨a, h1, b, off, cells, ro, h2, e _ _ h3, h4, R.mono _ _ _ _ e h5⟩,
    fun _ => rfl, fun _ _ _ h => by obtain ⟨v, h, _, _, _, _, r, _⟩ := h; rw [h, r]; rfl⟩
inductive TE : Type 1 where
  | val {A : Type} (R : Rep A) (x : A)
  | raw (v : AVal)
  | elt (v : AVal) (i off : Nat)
  | tup (es : List TE)
mutual
def TE.ok (z : Store) : TE → AVal → Prop
  | .val R x, a => TV R z a x
  | .raw v, a => a = v
  | .elt v i off, a => ∃ b o len es cap, v = .slice b o len es cap ∧ a = .ptr b (o + i * es + off)
  | .tup es, a => ∃ vs, a = .tuple vs ∧ okAll z es vs
def okAll (z : Store) : List TE → List AVal → Prop
  | [], vs => vs = []
  | e :: es, vs => ∃ v vs', vs = v :: vs' ∧ e.ok z v ∧ okAll z es vs'
end
mutual
theorem TE.ok_mono {z z' : Store} (hz : z.le z') : ∀ {e : TE} {a : AVal}, e.ok z a → e.ok z' a
  | .val _ _, _, h => TV.mono hz h
  | .raw _, _, h => h
  | .elt .., _, h => h
  | .tup es, _, h => by
    simp only [TE.ok] at h ⊢
    obtain ⟨vs, h1, h2⟩ := h
    exact ⟨vs, h1, okAll_mono hz h2⟩
theorem okAll_mono {z z' : Store} (hz : z.le z') : ∀ {es : List TE} {vs : List AVal}, okAll z es vs → okAll z' es vs
  | [], _, h => by simp only [okAll] at h ⊢; exact h
  | e :: es, _, h => by
    simp only [okAll] at h ⊢
    obtain ⟨v, vs', h1, h2, h3⟩ := h
    exact ⟨v, vs', h1, TE.ok_mono hz h2, okAll_mono hz h3⟩
end
abbrev Env := List (Nat × TE)
def look : Env → Nat → Option TE
  | [], _ => none
  | p :: Γ, t => bif Nat.beq p.1 t then some p.2 else look Γ t
def FrOk (z : Store) (Γ : Env) (fr : AFrame) : Prop := ∀ t e, look Γ t = some e → e.ok z (fr.ev t)
theorem FrOk.mono {z z' : Store} {Γ : Env} {fr : AFrame} (hz : z.le z') (h : FrOk z Γ fr) : FrOk z' Γ fr := fun t e q => TE.ok_mono hz (h t e q)
theorem FrOk.set {z : Store} {Γ : Env} {fr : AFrame} {d : Nat} {e : TE} {v : AVal} (h : FrOk z Γ fr) (q : e.ok z v) : FrOk z ((d, e) :: Γ) (Tr.set fr d v) := by
  intro t e' hl
  rw [AFrame.ev_set]
  simp only [look] at hl
  by_cases hd : d = t
  · subst hd; simp at hl; subst hl; rw [if_pos rfl]; exact q
  · have : Nat.beq d t = false := by rw [Bool.eq_false_iff]; intro q; exact hd (Nat.eq_of_beq_eq_true q)
    rw [this] at hl
    rw [if_neg (Ne.symm hd)]
    exact h t e' hl
def Sublist (Γ Γ' : Env) : Prop := ∀ t e, look Γ t = some e → look Γ' t = some e
def AllIn (Γ' : Env) : Env → Prop
  | [] => True
  | p :: Γ => look Γ' p.1 = some p.2 ∧ AllIn Γ' Γ
theorem AllIn.sub {Γ' : Env} : ∀ {Γ : Env}, AllIn Γ' Γ → Sublist Γ Γ'
  | [], _, _, _, h => by cases h
  | p :: Γ, ha, t, e, h => by
    simp only [look] at h
    cases hb : Nat.beq p.1 t with
    | true =>
      rw [hb] at h
      have := Nat.eq_of_beq_eq_true hb
      subst this
      cases h
      exact ha.1
    | false => rw [hb] at h; exact ha.2.sub t e h
inductive Obj : Type 1 where
  | row {A : Type} (R : Rep A) (xs : List A)
  | box (es : List TE)
  | mp {B : Type} (R : Rep B) (k : IntKind) (es : List (Int × B))
  | cb (bs : List Nat) (ok : Store → AHeap → Prop)
def Stab (bs : List Nat) (ok : Store → AHeap → Prop) : Prop := ∀ z z' h h', z.le z' → (∀ b ∈ bs, h'.get b = h.get b) → ok z h → ok z' h'
def Obj.ok (z : Store) (h : AHeap) : Obj → AVal → Prop
  | .row R xs, v => xs.length ≤ maxLen ∧ ((v = .nilslice ∧ xs = []) ∨ ∃ b off cap cells, v = .slice b off xs.length R.sz cap ∧ h.get b = some (.arr cells false) ∧ off + xs.length * R.sz ≤ cells.length ∧
      (∀ c, cap = some c → xs.length ≤ c ∧ off + c * R.sz ≤ cells.length) ∧ ∀ i x, xs[i]? = some x → R.rel z ((cells.drop (off + i * R.sz)).take R.sz) x)
  | .box es, v => ∃ b cells, v = .ptr b 0 ∧ h.get b = some (.arr cells false) ∧ okAll z es cells ∧ cells.all AVal.one = true
  | .mp R k es, v => ∃ b l, v = .map b ∧ h.get b = some (.mp l) ∧ l.length = es.length ∧ ∀ (i : Nat) (p : AVal × AVal) (q : Int × _), l[i]? = some p → es[i]? = some q → p.1 = .int k q.1 ∧ TV R z p.2 q.2
  | .cb bs ok, _ => ok z h ∧ Stab bs ok
def blkO : AVal → Option Nat
  | .slice b _ _ _ _ => some b
  | .ptr b _ => some b
  | .map b => some b
  | _ => none
def blkE (p : AVal × Obj) : List Nat := match p.2 with
  | .cb bs _ => bs
  | _ => (blkO p.1).toList
def plainO : Obj → Bool
  | .cb _ _ => false
  | _ => true
theorem blkE_plain {v : AVal} {o : Obj} (h : plainO o = true) : blkE (v, o) = (blkO v).toList := by cases o <;> first | rfl | cases h
theorem Obj.ok_mono {z z' : Store} {h h' : AHeap} {o : Obj} {v : AVal} (hz : z.le z') (hs : ∀ b, b ∈ blkE (v, o) → h'.get b = h.get b) (q : o.ok z h v) : o.ok z' h' v := by
  cases o with
  | row R xs =>
    obtain ⟨q0, q⟩ := q
    refine ⟨q0, ?_⟩
    rcases q with q | ⟨b, off, cap, cells, rfl, q2, q3, q4, q5⟩
    · exact .inl q
    · exact .inr ⟨b, off, cap, cells, rfl, by rw [hs b (by simp [blkE, blkO])]; exact q2, q3, q4, fun i x hx => R.mono _ _ _ _ hz (q5 i x hx)⟩
  | box es =>
    obtain ⟨b, cells, rfl, q2, q3, q4⟩ := q
    exact ⟨b, cells, rfl, by rw [hs b (by simp [blkE, blkO])]; exact q2, okAll_mono hz q3, q4⟩
  | mp R k es =>
    obtain ⟨b, l, rfl, q2, q3, q4⟩ := q
    exact ⟨b, l, rfl, by rw [hs b (by simp [blkE, blkO])]; exact q2, q3, fun i p q hp hq => ⟨(q4 i p q hp hq).1, (q4 i p q hp hq).2.mono hz⟩⟩
  | cb bs ok => exact ⟨q.2 z z' h h' hz hs q.1, q.2⟩
abbrev Own := List (AVal × Obj)
def blks (L : Own) : List Nat := L.flatMap blkE
theorem blks_cons (p : AVal × Obj) (L : Own) : blks (p :: L) = blkE p ++ blks L := by simp [blks]
theorem mem_blks {L : Own} {b : Nat} : b ∈ blks L ↔ ∃ p ∈ L, b ∈ blkE p := by simp [blks, List.mem_flatMap]
structure Ctx where
  z0 : Store
  h0 : AHeap
  B0 : List Nat
structure OwnOk (C : Ctx) (z : Store) (h : AHeap) (L : Own) : Prop where
  ok : ∀ p ∈ L, p.2.ok z h p.1
  out : ∀ p ∈ L, ∀ b, b ∈ blkE p → z b = none ∧ b < h.next ∧ (C.h0.next ≤ b ∨ b ∈ C.B0)
  nodup : (blks L).Nodup
structure Chg (C : Ctx) (h : AHeap) : Prop where
  next : C.h0.next ≤ h.next
  same : ∀ b, b < C.h0.next → b ∉ C.B0 → h.get b = C.h0.get b
  wm : ∀ m, m ≤ C.h0.wm → m ≤ C.h0.next → (∀ b ∈ C.B0, m ≤ b) → m ≤ h.wm
  ok : h.wm ≤ h.next
structure StZ (C : Ctx) (Γ : Env) (L : Own) (z : Store) (fr : AFrame) (h : AHeap) : Prop where
  zle : C.z0.le z
  sub : z.Sub h
  old : ∀ b, b < C.h0.next → b ∉ C.B0 → z b = C.z0 b
  fr : FrOk z Γ fr
  own : OwnOk C z h L
  chg : Chg C h
def St (C : Ctx) (Γ : Env) (L : Own) (fr : AFrame) (h : AHeap) : Prop := ∃ z, StZ C Γ L z fr h
theorem StZ.low {C : Ctx} {Γ : Env} {L : Own} {z : Store} {fr : AFrame} {h : AHeap} (s : StZ C Γ L z fr h) {x : Nat} (h1 : x ≤ h.next) (h2 : ∀ m, m ≤ C.h0.wm → m ≤ C.h0.next → (∀ b ∈ C.B0, m ≤ b) → m ≤ x) : StZ C Γ L z fr (lay h x) :=
  ⟨s.zle, s.sub, s.old, s.fr, ⟨fun p hp => Obj.ok_mono (h := h) (h' := Go.Ai.lay h x) (.refl _) (fun _ _ => rfl) (s.own.ok p hp), s.own.out, s.own.nodup⟩, ⟨s.chg.next, s.chg.same, h2, h1⟩⟩
theorem StZ.set {C : Ctx} {Γ : Env} {L : Own} {z : Store} {fr : AFrame} {h : AHeap} (s : StZ C Γ L z fr h) {d : Nat} {e : TE} {v : AVal} (q : e.ok z v) : StZ C ((d, e) :: Γ) L z (Tr.set fr d v) h :=
  { s with fr := s.fr.set q }
def picks (L : Own) : List Nat → Own
  | [] => []
  | i :: is => match L[i]? with
    | some p => p :: picks L is
    | none => picks L is
theorem picks_mem {L : Own} : ∀ {is : List Nat} {p : AVal × Obj}, p ∈ picks L is → ∃ i ∈ is, L[i]? = some p
  | [], _, h => by cases h
  | i :: is, p, h => by
    simp only [picks] at h
    cases hi : L[i]? with
    | none => rw [hi] at h; obtain ⟨j, h1, h2⟩ := picks_mem h; exact ⟨j, List.mem_cons_of_mem _ h1, h2⟩
    | some q =>
      rw [hi] at h
      rcases List.mem_cons.1 h with rfl | h
      · exact ⟨i, List.mem_cons_self .., hi⟩
      · obtain ⟨j, h1, h2⟩ := picks_mem h; exact ⟨j, List.mem_cons_of_mem _ h1, h2⟩
theorem blks_apart {L : Own} (hn : (blks L).Nodup) : ∀ {i j : Nat} {p q : AVal × Obj} {b : Nat}, L[i]? = some p → L[j]? = some q → b ∈ blkE p → b ∈ blkE q → i = j := by
  induction L with
  | nil => intro i j p q b h; simp at h
  | cons a L ih =>
    intro i j p q b hi hj hp hq
    rw [blks_cons] at hn
    have hn' : (blks L).Nodup := (List.nodup_append.1 hn).2.1
    have key : ∀ {k : Nat} {p : AVal × Obj}, L[k]? = some p → b ∈ blkE p → b ∈ blkE a → False := by
      intro k p hk hp ha
      exact (List.nodup_append.1 hn).2.2 b ha b (mem_blks.2 ⟨p, List.mem_of_getElem? hk, hp⟩) rfl
    cases i with
    | zero =>
      simp at hi; subst hi
      cases j with
      | zero => rfl
      | succ j => exact (key (by simpa using hj) hq hp).elim
    | succ i =>
      cases j with
      | zero => simp at hj; subst hj; exact (key (by simpa using hi) hp hq).elim
      | succ j => exact congrArg (· + 1) (ih (i := i) (j := j) hn' (by simpa using hi) (by simpa using hj) hp hq)
theorem blkE_nodup {L : Own} (hn : (blks L).Nodup) {p : AVal × Obj} (hp : p ∈ L) : (blkE p).Nodup := by
  induction L with
  | nil => cases hp
  | cons a L ih =>
    rw [blks_cons] at hn
    rcases List.mem_cons.1 hp with rfl | hp
    · exact (List.nodup_append.1 hn).1
    · exact ih (List.nodup_append.1 hn).2.1 hp
theorem picks_nodup {L : Own} (hn : (blks L).Nodup) : ∀ {is : List Nat}, is.Nodup → (blks (picks L is)).Nodup
  | [], _ => by simp [picks, blks]
  | i :: is, h => by
    simp only [picks]
    have ih := picks_nodup hn (List.nodup_cons.1 h).2
    cases hi : L[i]? with
    | none => exact ih
    | some p =>
      show (blks (p :: picks L is)).Nodup
      rw [blks_cons]
      refine List.nodup_append.2 ⟨blkE_nodup hn (List.mem_of_getElem? hi), ih, fun b hb c hc e => ?_⟩
      subst e
      obtain ⟨q, hq1, hq2⟩ := mem_blks.1 hc
      obtain ⟨j, hj1, hj2⟩ := picks_mem hq1
      have := blks_apart hn hi hj2 hb hq2
      subst this
      exact (List.nodup_cons.1 h).1 hj1
theorem St.pick {C : Ctx} {Γ Γ' : Env} {L L' : Own} {fr : AFrame} {h : AHeap} (s : St C Γ L fr h) (is : List Nat) (q : AllIn Γ Γ') (hL : picks L is = L') (hn : is.Nodup) : St C Γ' L' fr h := by
  subst hL
  obtain ⟨z, s⟩ := s
  refine ⟨z, { s with fr := fun t e hl => s.fr t e (q.sub t e hl), own := ⟨fun p hp => ?_, fun p hp => ?_, picks_nodup s.own.nodup hn⟩ }⟩
  · obtain ⟨i, _, h2⟩ := picks_mem hp
    exact s.own.ok p (List.mem_of_getElem? h2)
  · obtain ⟨i, _, h2⟩ := picks_mem hp
    exact s.own.out p (List.mem_of_getElem? h2)
end Go.Ai.Sx

/- Symbolic runs of the abstract interpreter: operations one by one. -/
namespace Go.Ai.Sx
def wX (T : Tab) (ops : List Oper) : List Oper → AFrame → AHeap → (AFrame → AHeap → Prop) → Prop
  | [], fr, h, Q => Q fr h
  | o :: rest, fr, h, Q =>
    match awanted ops fr o.guard with
    | some true => (match aop T fr.op h o.op with
      | some (.val v h') => wX T ops rest (putDst fr o.dst v) h' Q
      | some (.call f vs) => CallV T f vs h fun r h1 => ∃ v, r = .ret v ∧ wX T ops rest (putDst fr o.dst v) h1 Q
      | none => False)
    | some false => wX T ops rest (putDst fr o.dst unit) h Q
    | none => False
theorem wX_plain {T : Tab} {ops : List Oper} : ∀ {rest : List Oper} {fr : AFrame} {h : AHeap} {Q : AExit → AFrame → AHeap → Prop}, wX T ops rest fr h (Q .normal) → Ops T ops rest fr h Q
  | [], _, _, _, w => ops_nil w
  | o :: rest, fr, h, Q, w => by
    simp only [wX] at w
    split at w
    · rename_i hw
      split at w
      · rename_i ha; exact ops_val hw ha (wX_plain w)
      · rename_i ha; exact ops_call hw ha (w.mono fun r h' ⟨v, e, w⟩ => ⟨v, e, wX_plain w⟩)
      · exact w.elim
    · rename_i hw; exact ops_skip hw (wX_plain w)
    · exact w.elim
def quietTo (ops : List Oper) (i : Nat) : Bool := (ops.take (i + 1)).all fun o => noWrite o.op
def coversTo (b : List Nat) : Nat → Bool
  | 0 => true
  | n + 1 => b.contains n && coversTo b n
def isAlloc : Op → Bool
  | .alloc _ | .box _ _ => true
  | _ => false
def notCall : Op → Bool
  | .call _ => false
  | _ => true
def madeAt (ops : List Oper) (t : Nat) : Nat → Option Nat
  | 0 => none
  | j + 1 => match ops[j]? with
    | some o => bif (match o.dst with | some t' => Nat.beq t' t | none => false) then (bif isAlloc o.op && o.guard.isNone && ((ops.drop (j + 1)).all fun q => match q.dst with | some t' => !Nat.beq t' t | none => true) then some j else none) else madeAt ops t j
    | none => none
def freshTo (ops : List Oper) (i : Nat) : Bool :=
  match ops[i]? with
  | some o => match o.op with
    | .store _ (.tmp t) _ => match madeAt ops t i with
      | some j => match allBefore ops i with
        | b => (List.range i).all fun p => b.contains p || (Nat.blt p j && (match ops[p]? with | some q => notCall q.op | none => false))
      | none => false
    | _ => false
  | none => false
def noFoot : Op → Bool
  | .load _ _ | .store _ _ _ | .lookup _ _ _ _ | .mapUpdate _ _ _ _ | .insert _ _ _ _ => false
  | .call c => (match c.callee with | .builtin .len | .builtin .append | .builtin .copy => false | .builtin _ => true | _ => false)
  | _ => true
def isLen : Op → Bool
  | .call c => (match c.callee with | .builtin .len => true | _ => false)
  | _ => false
def isLoad : Op → Bool
  | .load _ _ => true
  | _ => false
def emptyOp (o : Op) : Bool := noFoot o || isLen o
def quietRd (ol : List Nat) (i : Nat) (o : Op) : Bool := noFoot o || ((isLen o || isLoad o) && !ol.contains i)
def ownWr : Op → Bool
  | .store _ _ _ | .mapUpdate _ _ _ _ | .insert _ _ _ _ => true
  | .call c => (match c.callee with | .builtin .append => true | _ => false)
  | _ => false
def apartTo (ops : List Oper) (ol : List Nat) (i : Nat) : Bool :=
  match ops[i]? with
  | some o => noFoot o.op || (ownWr o.op && (match allBefore ops i with
      | b => (List.range i).all fun p => b.contains p || (match ops[p]? with | some q => quietRd ol p q.op | none => false)))
  | none => false
def drawOk (ops : List Oper) (ol : List Nat) : Nat → Bool
  | 0 => true
  | n + 1 => (quietTo ops n || coversTo (allBefore ops n) n || freshTo ops n || apartTo ops ol n) && drawOk ops ol n
theorem coversTo_mem {b : List Nat} : ∀ {n : Nat}, coversTo b n = true → ∀ j, j < n → b.contains j = true
  | 0, _, j, hj => by omega
  | n + 1, h, j, hj => by
    simp only [coversTo, Bool.and_eq_true] at h
    by_cases e : j = n
    · subst e; exact h.1
    · exact coversTo_mem h.2 j (by omega)
theorem drawOk_at {ops : List Oper} {ol : List Nat} : ∀ {n : Nat}, drawOk ops ol n = true → ∀ i, i < n → quietTo ops i = true ∨ coversTo (allBefore ops i) i = true ∨ freshTo ops i = true ∨ apartTo ops ol i = true
  | 0, _, i, hi => by omega
  | n + 1, h, i, hi => by
    simp only [drawOk, Bool.and_eq_true, Bool.or_eq_true] at h
    by_cases e : i = n
    · subst e
      rcases h.1 with ((q | q) | q) | q
      · exact .inl q
      · exact .inr (.inl q)
      · exact .inr (.inr (.inl q))
      · exact .inr (.inr (.inr q))
    · exact drawOk_at h.2 i (by omega)
theorem madeAt_inv {ops : List Oper} {t : Nat} : ∀ {i j : Nat}, madeAt ops t i = some j → j < i ∧ ∃ o, ops[j]? = some o ∧ o.dst = some t ∧ isAlloc o.op = true ∧ o.guard = none ∧ ∀ k q, j < k → ops[k]? = some q → q.dst ≠ some t
  | 0, _, h => by cases h
  | i + 1, j, h => by
    simp only [madeAt] at h
    split at h
    · rename_i o ho
      cases hb : (match o.dst with | some t' => Nat.beq t' t | none => false) with
      | true =>
        rw [hb] at h
        simp only [cond_true] at h
        have hd : o.dst = some t := by
          split at hb
          · rename_i t' e; rw [e, Nat.eq_of_beq_eq_true hb]
          · cases hb
        cases hc : (isAlloc o.op && o.guard.isNone && ((ops.drop (i + 1)).all fun q => match q.dst with | some t' => !Nat.beq t' t | none => true)) with
        | false => rw [hc] at h; cases h
        | true =>
          rw [hc] at h
          cases h
          simp only [Bool.and_eq_true] at hc
          refine ⟨Nat.lt_succ_self _, o, ho, hd, hc.1.1, by simpa using hc.1.2, fun k q hk hq e => ?_⟩
          have := List.all_eq_true.1 hc.2 q (List.mem_of_getElem? (i := k - (i + 1)) (by rw [List.getElem?_drop]; rw [show i + 1 + (k - (i + 1)) = k by omega]; exact hq))
          rw [e] at this
          simp at this
      | false =>
        rw [hb] at h
        obtain ⟨h1, h2⟩ := madeAt_inv (i := i) h
        exact ⟨Nat.lt_succ_of_lt h1, h2⟩
    · cases h
def DoneOk (ops : List Oper) (ol : List Nat) (z : Store) (i : Nat) (fr : AFrame) (h : AHeap) (done : List (Nat × Foot)) : Prop :=
  (∀ p ∈ done, p.1 < i ∧ p.2.wall = false ∧ (∀ o, ops[p.1]? = some o → noWrite o.op = true → p.2.wr = []) ∧ (∀ o, ops[p.1]? = some o → notCall o.op = true → p.2.rall = false) ∧ (∀ b, b ∈ p.2.rd ∨ b ∈ p.2.wr → b < h.next) ∧
    ∀ o, ops[p.1]? = some o → quietRd ol p.1 o.op = true → p.2.wr = [] ∧ p.2.rall = false ∧ (∀ b, b ∈ p.2.rd → z b ≠ none) ∧ (emptyOp o.op = true → p.2.rd = [])) ∧
  ∀ j o t, j < i → ops[j]? = some o → isAlloc o.op = true → o.guard = none → o.dst = some t → (∀ k q, j < k → ops[k]? = some q → q.dst ≠ some t) → ∃ b, fr.ev t = .ptr b 0 ∧ ∀ p ∈ done, p.1 < j → ∀ c, c ∈ p.2.rd ∨ c ∈ p.2.wr → c < b
structure FootOk (z : Store) (h : AHeap) (f : Foot) : Prop where
  rd : ∀ b, b ∈ f.rd → b < h.next
  wr : ∀ b, b ∈ f.wr → b < h.next ∧ z b = none
theorem footsOk_draw {ops : List Oper} {i : Nat} {f : Foot} {done : List (Nat × Foot)} {o : Oper} {ol : List Nat} {z : Store} {fr : AFrame} {h : AHeap} (hi : ops[i]? = some o) (hd : DoneOk ops ol z i fr h done) (hok : quietTo ops i = true ∨ coversTo (allBefore ops i) i = true ∨ freshTo ops i = true ∨ apartTo ops ol i = true) (hf : f.wall = false) (hfo : FootOk z h f) (hnf : noFoot o.op = true → f = ⟨[], false, [], false⟩) (how : ownWr o.op = true → f.rall = false) (hf' : noWrite o.op = true → f.wr = [])
    (hst : ∀ t et y, o.op = .store et (.tmp t) y → f = ⟨[], false, blkOf (fr.ev t), false⟩) : footsOk ops i f done = true := by
  rcases hok with hq | hc | hs | hs
  · unfold quietTo at hq
    rw [List.all_eq_true] at hq
    have at' : ∀ j o', j ≤ i → ops[j]? = some o' → noWrite o'.op = true := by
      intro j o' hj ho
      refine hq o' (List.mem_of_getElem? (i := j) ?_)
      rw [List.getElem?_take, if_pos (by omega)]; exact ho
    refine footsOk_quiet (fun p hp => ?_) (hf' (at' i o (Nat.le_refl _) hi)) hf
    obtain ⟨h1, h2, h3, _⟩ := hd.1 p hp
    have hlt : p.1 < ops.length := Nat.lt_trans h1 (List.getElem?_eq_some_iff.1 hi).1
    exact ⟨h3 _ (List.getElem?_eq_getElem hlt) (at' p.1 _ (by omega) (List.getElem?_eq_getElem hlt)), h2⟩
  · unfold footsOk
    by_cases h : (done.all fun p => p.2.apart f) = true
    · rw [if_pos h]
    · rw [if_neg h]
      refine List.all_eq_true.2 fun p hp => ?_
      rw [Bool.or_eq_true]
      exact .inr (coversTo_mem hc _ (hd.1 p hp).1)
  · unfold footsOk
    by_cases h : (done.all fun p => p.2.apart f) = true
    · rw [if_pos h]
    · rw [if_neg h]
      refine List.all_eq_true.2 fun p hp => ?_
      rw [Bool.or_eq_true]
      unfold freshTo at hs
      rw [hi] at hs
      simp only at hs
      split at hs
      · rename_i et t y hop
        split at hs
        · rename_i j hj
          obtain ⟨hji, oj, hj1, hj2, hj3, hj4, hj5⟩ := madeAt_inv hj
          obtain ⟨g1, g2, g3, g4, g5, g6⟩ := hd.1 p hp
          have := List.all_eq_true.1 hs p.1 (List.mem_range.2 g1)
          rw [Bool.or_eq_true] at this
          rcases this with q | q
          · exact .inr q
          · left
            rw [Bool.and_eq_true] at q
            have hpj : p.1 < j := by
              have := q.1
              simp only [Nat.blt_eq] at this
              exact this
            have hlt : p.1 < ops.length := Nat.lt_trans g1 (List.getElem?_eq_some_iff.1 hi).1
            have hr := g4 _ (List.getElem?_eq_getElem hlt) (by have := q.2; rw [List.getElem?_eq_getElem hlt] at this; exact this)
            obtain ⟨b, hb1, hb2⟩ := hd.2 j oj t hji hj1 hj3 hj4 hj2 hj5
            have hfe := hst t et y hop
            rw [hb1] at hfe
            subst hfe
            have n1 : ∀ l : List Nat, (∀ c, c ∈ l → c < b) → disj l (blkOf (.ptr b 0)) = true := by
              intro l hl
              unfold disj
              refine List.all_eq_true.2 fun c hc => ?_
              have := hl c hc
              simp [blkOf]; omega
            have d0 : ∀ l : List Nat, disj l [] = true := fun l => by simp [disj]
            unfold Foot.apart
            rw [n1 _ (fun c hc => hb2 p hp hpj c (.inr hc)), n1 _ (fun c hc => hb2 p hp hpj c (.inl hc)), g2, hr]
            simp [d0]
        · cases hs
      · cases hs
  · unfold footsOk
    by_cases h : (done.all fun p => p.2.apart f) = true
    · rw [if_pos h]
    · rw [if_neg h]
      refine List.all_eq_true.2 fun p hp => ?_
      rw [Bool.or_eq_true]
      obtain ⟨g1, g2, g3, g4, g5, g6⟩ := hd.1 p hp
      have hlt : p.1 < ops.length := Nat.lt_trans g1 (List.getElem?_eq_some_iff.1 hi).1
      have d0 : ∀ l : List Nat, disj l [] = true := fun l => by simp [disj]
      have d1 : ∀ l : List Nat, disj [] l = true := fun l => rfl
      unfold apartTo at hs
      rw [hi] at hs
      simp only [Bool.or_eq_true, Bool.and_eq_true] at hs
      rcases hs with q | ⟨q1, q2⟩
      · left
        rw [hnf q]
        unfold Foot.apart
        simp [d0, g2]
      · have := List.all_eq_true.1 q2 p.1 (List.mem_range.2 g1)
        rw [Bool.or_eq_true] at this
        rcases this with q | q
        · exact .inr q
        · left
          rw [List.getElem?_eq_getElem hlt] at q
          obtain ⟨k1, k2, k3, _⟩ := g6 _ (List.getElem?_eq_getElem hlt) q
          have e : disj p.2.rd f.wr = true := by
            unfold disj
            refine List.all_eq_true.2 fun c hc => ?_
            have := k3 c hc
            simp only [Bool.not_eq_true', List.contains_eq_mem, decide_eq_false_iff_not]
            intro hm
            exact this (hfo.wr c hm).2
          unfold Foot.apart
          rw [k1, k2, g2, hf, how q1, e]
          simp [d1]
theorem foot_st (ev : Operand → AVal) {o : Oper} {et : TypeId} {t : Nat} {y : Operand} (ho : o.op = .store et (.tmp t) y) : foot ev o = ⟨[], false, blkOf (ev (.tmp t)), false⟩ := by unfold foot; rw [ho]
theorem foot_rall (ev : Operand → AVal) {o : Oper} (h : notCall o.op = true) : (foot ev o).rall = false := by
  unfold foot
  cases ho : o.op <;> rw [ho] at h <;> (try rfl)
  cases h
theorem alloc_val {T : Tab} {ev : Operand → AVal} {h h' : AHeap} {o : Op} {v : AVal} (ha : isAlloc o = true) (hv : aop T ev h o = some (.val v h')) : v = .ptr h.next 0 ∧ h'.next = h.next + 1 := by
  cases o <;> simp only [isAlloc] at ha <;> (try (cases ha; done))
  · simp only [aop, opAlloc] at hv
    split at hv
    · cases hv; exact ⟨rfl, rfl⟩
    · cases hv
  · simp only [aop, opBox] at hv
    split at hv
    · cases hv
    · cases hv; exact ⟨rfl, rfl⟩
theorem alloc_call {T : Tab} {ev : Operand → AVal} {h : AHeap} {o : Op} {f : AVal} {vs : List AVal} (ha : isAlloc o = true) (hv : aop T ev h o = some (.call f vs)) : False := by
  cases o <;> simp only [isAlloc] at ha <;> (try (cases ha; done))
  · simp only [aop, opAlloc] at hv
    split at hv <;> cases hv
  · simp only [aop, opBox] at hv
    split at hv <;> cases hv
theorem ev_put {fr : AFrame} {d : Option Nat} {v : AVal} {t : Nat} (h : d ≠ some t) : (putDst fr d v).ev t = fr.ev t := by
  cases d with
  | none => rfl
  | some d => rw [put_some, AFrame.ev_set, if_neg (fun e => h (by rw [e]))]
theorem DoneOk.next {ops : List Oper} {ol : List Nat} {z z' : Store} {i : Nat} {fr : AFrame} {h h' : AHeap} {done : List (Nat × Foot)} {o : Oper} {v : AVal} (hd : DoneOk ops ol z i fr h done) (hi : ops[i]? = some o) (hz : z.le z') (hn : h.next ≤ h'.next) (new : List (Nat × Foot))
    (hnew : ∀ p ∈ new, p.1 = i ∧ p.2.wall = false ∧ (noWrite o.op = true → p.2.wr = []) ∧ (notCall o.op = true → p.2.rall = false) ∧ (∀ b, b ∈ p.2.rd ∨ b ∈ p.2.wr → b < h'.next) ∧ (quietRd ol i o.op = true → p.2.wr = [] ∧ p.2.rall = false ∧ (∀ b, b ∈ p.2.rd → z b ≠ none) ∧ (emptyOp o.op = true → p.2.rd = [])))
    (hal : isAlloc o.op = true → o.guard = none → ∀ t, o.dst = some t → ∃ b, (putDst fr o.dst v).ev t = .ptr b 0 ∧ h.next ≤ b) : DoneOk ops ol z' (i + 1) (putDst fr o.dst v) h' (new ++ done) := by
  have up : ∀ b, z b ≠ none → z' b ≠ none := fun b hb => by
    cases e : z b with
    | none => exact absurd e hb
    | some x => rw [hz b x e]; exact fun q => by cases q
  refine ⟨fun p hp => ?_, fun j oj t hj hoj ha hg hdst hu => ?_⟩
  · rcases List.mem_append.1 hp with hp | hp
    · obtain ⟨e, h1, h2, h3, h4, h5⟩ := hnew p hp
      refine ⟨by omega, h1, fun o' ho' => ?_, fun o' ho' => ?_, h4, fun o' ho' hq => ?_⟩
      · rw [e, hi] at ho'; cases ho'; exact h2
      · rw [e, hi] at ho'; cases ho'; exact h3
      · rw [e] at hq ho'; rw [hi] at ho'; cases ho'
        obtain ⟨k1, k2, k3, k4⟩ := h5 hq
        exact ⟨k1, k2, fun b hb => up b (k3 b hb), k4⟩
    · obtain ⟨h1, h2, h3, h4, h5, h6⟩ := hd.1 p hp
      refine ⟨by omega, h2, h3, h4, fun b hb => Nat.lt_of_lt_of_le (h5 b hb) hn, fun o' ho' hq => ?_⟩
      obtain ⟨k1, k2, k3, k4⟩ := h6 o' ho' hq
      exact ⟨k1, k2, fun b hb => up b (k3 b hb), k4⟩
  · by_cases e : j = i
    · subst e
      rw [hi] at hoj; cases hoj
      obtain ⟨b, h1, h2⟩ := hal ha hg t hdst
      refine ⟨b, h1, fun p hp hpj c hc => ?_⟩
      rcases List.mem_append.1 hp with hp | hp
      · obtain ⟨e, _⟩ := hnew p hp; omega
      · exact Nat.lt_of_lt_of_le ((hd.1 p hp).2.2.2.2.1 c hc) h2
    · obtain ⟨b, h1, h2⟩ := hd.2 j oj t (by omega) hoj ha hg hdst hu
      refine ⟨b, by rw [ev_put (hu i o (by omega) hi)]; exact h1, fun p hp hpj c hc => ?_⟩
      rcases List.mem_append.1 hp with hp | hp
      · obtain ⟨e, _⟩ := hnew p hp; omega
      · exact h2 p hp hpj c hc
theorem foot_nf (ev : Operand → AVal) {o : Oper} (h : noFoot o.op = true) : foot ev o = ⟨[], false, [], false⟩ := by
  unfold foot
  cases ho : o.op <;> rw [ho] at h <;> simp only [noFoot] at h <;> (try (cases h; done)) <;> (try rfl)
  rename_i c
  cases hc : c.callee with
  | value f => rw [hc] at h; cases h
  | invoke r m => rw [hc] at h; cases h
  | builtin bb =>
    rw [hc] at h
    cases bb <;> simp at h <;> simp [hc]
theorem foot_own (ev : Operand → AVal) {o : Oper} (h : ownWr o.op = true) : (foot ev o).rall = false := by
  unfold foot
  cases ho : o.op <;> rw [ho] at h <;> simp only [ownWr] at h <;> (try (cases h; done)) <;> (try rfl)
  rename_i c
  cases hc : c.callee with
  | value f => rw [hc] at h; cases h
  | invoke r m => rw [hc] at h; cases h
  | builtin bb =>
    rw [hc] at h
    cases bb <;> simp at h <;> simp [hc]
theorem foot_wall (ev : Operand → AVal) (o : Oper) : (foot ev o).wall = false := by
  unfold foot
  split <;> (try rfl)
  split <;> rfl
def SOps (C : Ctx) (T : Tab) (d : Option (List Nat)) (ops rest : List Oper) (Γ : Env) (L : Own) (Q : AFrame → AHeap → Prop) : Prop :=
  match d with
  | none => ∀ fr h, St C Γ L fr h → wX T ops rest fr h Q
  | some ol => ∀ z fr h i done, StZ C Γ L z fr h → ops.drop i = rest → drawOk ops ol ops.length = true → DoneOk ops ol z i fr h done → Draw T ops rest i done fr h Q
def SRun (C : Ctx) (T : Tab) (c : Code) (Γ : Env) (L : Own) (P : AExit → AFrame → AHeap → Prop) : Prop := ∀ fr h, St C Γ L fr h → Run T c fr h P
section
variable {C : Ctx} {T : Tab} {d : Option (List Nat)} {ops rest : List Oper} {Γ : Env} {L : Own} {Q : AFrame → AHeap → Prop} {P : AExit → AFrame → AHeap → Prop} {o : Oper}
inductive Want (ops : List Oper) (Γ : Env) (w : Bool) : Option (Nat × Bool) → Prop where
  | n (h : w = true) : Want ops Γ w none
  | g {j t : Nat} {want b : Bool} (h1 : (ops[j]?).bind (fun (o : Oper) => o.dst) = some t) (h2 : look Γ t = some (.val rBool b)) (h3 : (b == want) = w) : Want ops Γ w (some (j, want))
  | u {j t : Nat} {want : Bool} (hw : w = false) (h1 : (ops[j]?).bind (fun (o : Oper) => o.dst) = some t) (h2 : look Γ t = some (.raw unit)) : Want ops Γ w (some (j, want))
theorem tv_bool {z : Store} {v : AVal} {b : Bool} (t : TV rBool z v b) : v = .bool b := by
  have h1 := t.agg
  have h2 := t.rel
  cases v <;> simp_all [AVal.isAgg, AVal.cells, rBool]
theorem tv_int {z : Store} {v : AVal} {k : IntKind} {n : Int} (t : TV (rInt k) z v n) : v = .int k n := by
  have h1 := t.agg
  have h2 := t.rel
  cases v <;> simp_all [AVal.isAgg, AVal.cells, rInt]
theorem tv_int_mk {z : Store} {k : IntKind} {n : Int} (h1 : k.min ≤ n) (h2 : n ≤ k.max) : TV (rInt k) z (.int k n) n := ⟨⟨rfl, h1, h2⟩, rfl⟩
theorem tv_int_range {z : Store} {v : AVal} {k : IntKind} {n : Int} (t : TV (rInt k) z v n) : k.min ≤ n ∧ n ≤ k.max := t.rel.2
theorem tv_bool_mk {z : Store} {b : Bool} : TV rBool z (.bool b) b := ⟨rfl, rfl⟩
theorem tv_slice {A : Type} {R : Rep A} {z : Store} {v : AVal} {xs : List A} (t : TV (rSlice R) z v xs) : RowAt R z v xs := by
  obtain ⟨h1, h2⟩ := t
  obtain ⟨w, h3, h4⟩ := h1
  cases v <;> simp_all [AVal.isAgg, AVal.cells, rSlice]
theorem tv_slice_mk {A : Type} {R : Rep A} {z : Store} {v : AVal} {xs : List A} (r : RowAt R z v xs) : TV (rSlice R) z v xs := by
  rcases r.2 with ⟨rfl, _⟩ | ⟨b, off, cap, rfl, _⟩ | ⟨b, off, cap, cells, ro, rfl, _⟩ <;> exact ⟨⟨_, rfl, r⟩, rfl⟩
theorem tv_ptr {A : Type} {R : Rep A} {z : Store} {v : AVal} {x : A} (t : TV (rPtr R) z v x) : PtrAt R z v x := by
  obtain ⟨h1, h2⟩ := t
  obtain ⟨w, h3, h4⟩ := h1
  cases v <;> simp_all [AVal.isAgg, AVal.cells, rPtr]
theorem tv_ptr_mk {A : Type} {R : Rep A} {z : Store} {v : AVal} {x : A} (r : PtrAt R z v x) : TV (rPtr R) z v x := by
  obtain ⟨b, off, cells, ro, rfl, h⟩ := r
  exact ⟨⟨_, rfl, b, off, cells, ro, rfl, h⟩, rfl⟩
theorem Want.ok {w : Bool} {g : Option (Nat × Bool)} (q : Want ops Γ w g) {z : Store} {fr : AFrame} (hf : FrOk z Γ fr) : awanted ops fr g = some w := by
  cases q with
  | n h => rw [h]; rfl
  | g h1 h2 h3 =>
    have := tv_bool (by simpa only [TE.ok] using hf _ _ h2)
    rw [wanted_of h1 this, h3]
  | u hw h1 h2 =>
    have := hf _ _ h2
    simp only [TE.ok] at this
    subst hw
    unfold awanted
    simp only [h1, this, unit]
theorem s_nil (q : ∀ fr h, St C Γ L fr h → Q fr h) : SOps C T d ops [] Γ L Q := by
  cases d with
  | none => exact fun fr h s => q fr h s
  | some ol => exact fun z fr h i done s _ _ _ => draw_nil (q fr h ⟨z, s⟩)
theorem s_st {Γ' : Env} {L' : Own} (q : ∀ z fr h, StZ C Γ L z fr h → ∃ z', z.le z' ∧ StZ C Γ' L' z' fr h) (r : SOps C T d ops rest Γ' L' Q) : SOps C T d ops rest Γ L Q := by
  cases d with
  | none =>
    intro fr h ⟨z, s⟩
    obtain ⟨z', _, s'⟩ := q z fr h s
    exact r fr h ⟨z', s'⟩
  | some ol =>
    intro z fr h i done s hr hok hd
    obtain ⟨z', hz, s'⟩ := q z fr h s
    refine r z' fr h i done s' hr hok ⟨fun p hp => ?_, hd.2⟩
    obtain ⟨h1, h2, h3, h4, h5, h6⟩ := hd.1 p hp
    refine ⟨h1, h2, h3, h4, h5, fun o ho hq => ?_⟩
    obtain ⟨k1, k2, k3, k4⟩ := h6 o ho hq
    refine ⟨k1, k2, fun b hb => ?_, k4⟩
    cases e : z b with
    | none => exact absurd e (k3 b hb)
    | some x => rw [hz b x e]; exact fun q => by cases q
theorem s_skip {t : Nat} (hw : Want ops Γ false o.guard) (hd : o.dst = some t) (r : SOps C T d ops rest ((t, .raw unit) :: Γ) L Q) : SOps C T d ops (o :: rest) Γ L Q := by
  cases d with
  | none =>
    intro fr h ⟨z, s⟩
    simp only [wX, hw.ok s.fr, hd, put_some]
    exact r _ _ ⟨z, s.set (by simp only [TE.ok])⟩
  | some ol =>
    intro z fr h i done s hr hok hdn
    have hi : ops[i]? = some o := by have := congrArg (fun l => l[0]?) hr; simpa using this
    have hr' : ops.drop (i + 1) = rest := by have := congrArg List.tail hr; simpa using this
    refine draw_skip (hw.ok s.fr) ?_
    have hn := hdn.next (z' := z) (h' := h) (v := unit) hi (.refl _) (Nat.le_refl _) [] (fun p hp => by cases hp) (fun hal hg t hdst => by
      have := hw.ok s.fr
      rw [hg] at this; cases this)
    rw [hd, put_some] at hn ⊢
    exact r z _ h (i + 1) done (s.set (by simp only [TE.ok])) hr' hok hn
def Listed (d : Option (List Nat)) (ops rest : List Oper) : Prop := ∀ ol, d = some ol → ol.contains (ops.length - (rest.length + 1)) = true
inductive Rd (C : Ctx) (d : Option (List Nat)) (ops rest : List Oper) (Γ : Env) (L : Own) (o : Oper) : Prop where
  | f (h : ∀ z fr h, StZ C Γ L z fr h → (foot fr.op o).wr = [] ∧ (foot fr.op o).rall = false ∧ (∀ b, b ∈ (foot fr.op o).rd → z b ≠ none) ∧ (emptyOp o.op = true → (foot fr.op o).rd = []))
  | l (h : Listed d ops rest) (hn : noFoot o.op = false)
  | w (hn : noFoot o.op = false) (hl : ∀ t a, o.op ≠ .load t a) (hle : isLen o.op = false)
theorem Rd.ok {ol : List Nat} {z : Store} {fr : AFrame} {h : AHeap} {i : Nat} (q : Rd C (some ol) ops rest Γ L o) (s : StZ C Γ L z fr h) (hr : ops.drop i = o :: rest) (hq : quietRd ol i o.op = true) : (foot fr.op o).wr = [] ∧ (foot fr.op o).rall = false ∧ (∀ b, b ∈ (foot fr.op o).rd → z b ≠ none) ∧ (emptyOp o.op = true → (foot fr.op o).rd = []) := by
  have hi : i = ops.length - (rest.length + 1) := by
    have := congrArg List.length hr
    simp at this
    omega
  cases q with
  | f h => exact h z fr _ s
  | l h hn =>
    have := h ol rfl
    rw [← hi] at this
    unfold quietRd at hq
    rw [hn, Bool.false_or, this, Bool.not_true, Bool.and_false] at hq
    cases hq
  | w hn hl hle =>
    unfold quietRd at hq
    rw [hn, Bool.false_or, hle, Bool.false_or, Bool.and_eq_true] at hq
    have := hq.1
    unfold isLoad at this
    split at this
    · rename_i t a e; exact absurd e (hl t a)
    · cases this
theorem step_val (hw : Want ops Γ true o.guard) (hrd : Rd C d ops rest Γ L o)
    (H : ∀ z fr h, StZ C Γ L z fr h → ∃ v h' z' Γ' L', aop T fr.op h o.op = some (.val v h') ∧ FootOk z h (foot fr.op o) ∧ z.le z' ∧ StZ C Γ' L' z' (putDst fr o.dst v) h' ∧ SOps C T d ops rest Γ' L' Q) : SOps C T d ops (o :: rest) Γ L Q := by
  cases d with
  | none =>
    intro fr h ⟨z, s⟩
    obtain ⟨v, h', z', Γ', L', ha, _, _, s', r⟩ := H z fr h s
    simp only [wX, hw.ok s.fr, ha]
    exact r _ _ ⟨z', s'⟩
  | some ol =>
    intro z fr h i done s hr hok hd
    obtain ⟨v, h', z', Γ', L', ha, hft, hz, s', r⟩ := H z fr h s
    have hi : ops[i]? = some o := by have := congrArg (fun l => l[0]?) hr; simpa using this
    have hlt : i < ops.length := (List.getElem?_eq_some_iff.1 hi).1
    have hr' : ops.drop (i + 1) = rest := by have := congrArg List.tail hr; simpa using this
    have hk := aop_keeps ha
    refine draw_op (hw.ok s.fr) ha s.chg.ok rfl (footsOk_draw hi hd (drawOk_at hok i hlt) (foot_wall _ _) hft (foot_nf _) (foot_own _) (fun q => (noWrite_foot q).1) (fun t et y q => foot_st _ q)) ?_
    refine r z' _ h' (i + 1) _ s' hr' hok (hd.next (v := v) hi hz hk.1 [(i, foot fr.op o)] ?_ ?_)
    · intro p hp
      rw [List.mem_singleton] at hp
      subst hp
      exact ⟨rfl, foot_wall _ _, fun q => (noWrite_foot q).1, fun q => foot_rall _ q, fun b hb => Nat.lt_of_lt_of_le (hb.elim (hft.rd b) (fun q => (hft.wr b q).1)) hk.1, fun q => hrd.ok s hr q⟩
    · intro hal hg t hdst
      obtain ⟨e1, e2⟩ := alloc_val hal ha
      refine ⟨h.next, ?_, Nat.le_refl _⟩
      rw [hdst, put_some, AFrame.ev_set, if_pos rfl, e1]
theorem nf (h : noFoot o.op = true) : Rd C d ops rest Γ L o := .f fun z fr hh _ => by
  rw [foot_nf _ h]
  exact ⟨rfl, rfl, fun b hb => (nomatch hb), fun _ => rfl⟩
theorem nfo {z : Store} {fr : AFrame} {hh : AHeap} (h : noFoot o.op = true) : FootOk z hh (foot fr.op o) := by
  rw [foot_nf _ h]
  exact ⟨fun b hb => (nomatch hb), fun b hb => (nomatch hb)⟩
theorem s_pureF {t : Nat} {e : TE} (hrd : Rd C d ops rest Γ L o) (hft : ∀ z fr h, StZ C Γ L z fr h → FootOk z h (foot fr.op o)) (hw : Want ops Γ true o.guard) (hd : o.dst = some t) (H : ∀ z fr h, StZ C Γ L z fr h → ∃ v, aop T fr.op h o.op = some (.val v h) ∧ e.ok z v) (r : SOps C T d ops rest ((t, e) :: Γ) L Q) : SOps C T d ops (o :: rest) Γ L Q :=
  step_val hw hrd fun z fr h s => by
    obtain ⟨v, h1, h2⟩ := H z fr h s
    exact ⟨v, h, z, _, _, h1, hft z fr h s, .refl _, by rw [hd, put_some]; exact s.set h2, r⟩
theorem s_pure {t : Nat} {e : TE} (hn : noFoot o.op = true) (hw : Want ops Γ true o.guard) (hd : o.dst = some t) (H : ∀ z fr h, StZ C Γ L z fr h → ∃ v, aop T fr.op h o.op = some (.val v h) ∧ e.ok z v) (r : SOps C T d ops rest ((t, e) :: Γ) L Q) : SOps C T d ops (o :: rest) Γ L Q :=
  s_pureF (nf hn) (fun _ _ _ _ => nfo hn) hw hd H r
inductive Opd (Γ : Env) : Operand → TE → Prop where
  | t {t : Nat} {e : TE} (h : look Γ t = some e) : Opd Γ (.tmp t) e
  | i {k : IntKind} {n : Int} (h1 : k.min ≤ n) (h2 : n ≤ k.max) : Opd Γ (.const (.int k n)) (.val (rInt k) n)
  | b {b : Bool} : Opd Γ (.const (.bool b)) (.val rBool b)
  | nil {A : Type} {R : Rep A} : Opd Γ (.const (.slice none 0 0)) (.val (rSlice R) [])
  | nilr : Opd Γ (.const (.slice none 0 0)) (.raw .nilslice)
  | f {g : FuncId} : Opd Γ (.func g) (.raw (.func (.func g) [] []))
  | fv {A : Type} {R : Rep A} {x : A} {g : FuncId} (h : ∀ z, TV R z (.func (.func g) [] []) x) : Opd Γ (.func g) (.val R x)
theorem row_nil {A : Type} {R : Rep A} {z : Store} : RowAt R z .nilslice [] := ⟨by simp [maxLen], .inl ⟨rfl, rfl⟩⟩
theorem Opd.ok {x : Operand} {e : TE} (q : Opd Γ x e) {z : Store} {fr : AFrame} (hf : FrOk z Γ fr) : e.ok z (fr.op x) := by
  cases q with
  | t h => exact hf _ _ h
  | i h1 h2 => simp only [TE.ok]; exact tv_int_mk h1 h2
  | b => simp only [TE.ok]; exact tv_bool_mk
  | nil => simp only [TE.ok]; exact tv_slice_mk row_nil
  | nilr => simp only [TE.ok]; rfl
  | f => simp only [TE.ok]; rfl
  | fv h => simp only [TE.ok]; exact h z
theorem Opd.int {x : Operand} {k : IntKind} {n : Int} (q : Opd Γ x (.val (rInt k) n)) {z : Store} {fr : AFrame} (hf : FrOk z Γ fr) : fr.op x = .int k n := tv_int (by simpa only [TE.ok] using q.ok hf)
theorem Opd.bool {x : Operand} {b : Bool} (q : Opd Γ x (.val rBool b)) {z : Store} {fr : AFrame} (hf : FrOk z Γ fr) : fr.op x = .bool b := tv_bool (by simpa only [TE.ok] using q.ok hf)
theorem Opd.val {A : Type} {R : Rep A} {x : Operand} {a : A} (q : Opd Γ x (.val R a)) {z : Store} {fr : AFrame} (hf : FrOk z Γ fr) : TV R z (fr.op x) a := by simpa only [TE.ok] using q.ok hf
theorem Opd.raw {x : Operand} {v : AVal} (q : Opd Γ x (.raw v)) {z : Store} {fr : AFrame} (hf : FrOk z Γ fr) : fr.op x = v := by simpa only [TE.ok] using q.ok hf
variable {t : Nat}
theorem s_move {x : Operand} {e : TE} (hw : Want ops Γ true o.guard) (ho : o.op = .move x) (hd : o.dst = some t) (hx : Opd Γ x e) (r : SOps C T d ops rest ((t, e) :: Γ) L Q) : SOps C T d ops (o :: rest) Γ L Q :=
  s_pure (by rw [ho]; rfl) hw hd (fun z fr h s => ⟨fr.op x, by rw [ho]; rfl, hx.ok s.fr⟩) r
theorem s_assign {x : Operand} {e : TE} (hw : Want ops Γ true o.guard) (ho : o.op = .assign x) (hd : o.dst = some t) (hx : Opd Γ x e) (r : SOps C T d ops rest ((t, e) :: Γ) L Q) : SOps C T d ops (o :: rest) Γ L Q :=
  s_pure (by rw [ho]; rfl) hw hd (fun z fr h s => ⟨fr.op x, by rw [ho]; rfl, hx.ok s.fr⟩) r
inductive Ar (k : IntKind) (a b : Int) : BinOp → Int → Prop where
  | add : Ar k a b .add (k.wrap (a + b))
  | sub : Ar k a b .sub (k.wrap (a - b))
  | mul : Ar k a b .mul (k.wrap (a * b))
  | quo (h : b ≠ 0) : Ar k a b .quo (k.wrap (a.tdiv b))
  | and : Ar k a b .and (k.wrap ((BitVec.ofInt k.bits a &&& BitVec.ofInt k.bits b).toNat))
  | or : Ar k a b .or (k.wrap ((BitVec.ofInt k.bits a ||| BitVec.ofInt k.bits b).toNat))
  | xor : Ar k a b .xor (k.wrap ((BitVec.ofInt k.bits a ^^^ BitVec.ofInt k.bits b).toNat))
  | andNot : Ar k a b .andNot (k.wrap ((BitVec.ofInt k.bits a &&& ~~~ (BitVec.ofInt k.bits b)).toNat))
inductive Cmp (a b : Int) : BinOp → Bool → Prop where
  | eql : Cmp a b .eql (a == b)
  | neq : Cmp a b .neq (a != b)
  | lss : Cmp a b .lss (decide (a < b))
  | leq : Cmp a b .leq (decide (a ≤ b))
  | gtr : Cmp a b .gtr (decide (a > b))
  | geq : Cmp a b .geq (decide (a ≥ b))
theorem wrap_range (k : IntKind) (n : Int) : k.min ≤ k.wrap n ∧ k.wrap n ≤ k.max := by
  cases k <;> simp only [IntKind.wrap, IntKind.min, IntKind.max, IntKind.bits, IntKind.signed] <;> simp <;> (try split) <;> omega
theorem s_ar {op : BinOp} {u u' : TypeId} {k : IntKind} {x y : Operand} {a b n : Int} (hw : Want ops Γ true o.guard) (ho : o.op = .binOp op u x y u') (hd : o.dst = some t) (hx : Opd Γ x (.val (rInt k) a)) (hy : Opd Γ y (.val (rInt k) b)) (hr : Ar k a b op n)
    (r : SOps C T d ops rest ((t, .val (rInt k) n) :: Γ) L Q) : SOps C T d ops (o :: rest) Γ L Q := by
  refine s_pure (by rw [ho]; rfl) hw hd (fun z fr h s => ⟨.int k n, ?_, ?_⟩) r
  · rw [ho]
    simp only [aop, abin, hx.int s.fr, hy.int s.fr]
    cases hr <;> simp_all [aint, optVal]
  · simp only [TE.ok]
    have : ∃ m, n = k.wrap m := by cases hr <;> exact ⟨_, rfl⟩
    obtain ⟨m, rfl⟩ := this
    exact tv_int_mk (wrap_range k m).1 (wrap_range k m).2
end
end Go.Ai.Sx

/- Symbolic runs of the abstract interpreter: numbers, rows, pointers, structs. -/
namespace Go.Ai.Sx
structure FOk {A B : Type} (R : Rep A) (off : Nat) (S : Rep B) (g : A → B) (w : A → B → A) : Prop where
  fit : off + S.sz ≤ R.sz
  get : ∀ z cs x, R.rel z cs x → S.rel z ((cs.drop off).take S.sz) (g x)
  set : ∀ z cs x ds y, R.rel z cs x → S.rel z ds y → R.rel z (cs.take off ++ ds ++ cs.drop (off + S.sz)) (w x y)
theorem FOk.self {A : Type} {R : Rep A} : FOk R 0 R (fun x => x) (fun _ y => y) :=
  ⟨by omega, fun z cs x h => by rw [List.drop_zero, ← R.len _ _ _ h, List.take_length]; exact h, fun z cs x ds y h h' => by rw [List.take_zero, Nat.zero_add, ← R.len _ _ _ h, List.drop_length]; simpa using h'⟩
theorem FOk.here {A B : Type} {R : Rep A} {S : Rep B} : FOk (rPair R S) 0 R (fun x => x.1) (fun x y => (y, x.2)) :=
  ⟨by simp [rPair], fun z cs x h => by
    obtain ⟨c1, c2, rfl, h1, h2⟩ := h
    rw [List.drop_zero, ← R.len _ _ _ h1, List.take_left']
    · exact h1
    · rfl, fun z cs x ds y h h' => by
    obtain ⟨c1, c2, rfl, h1, h2⟩ := h
    refine ⟨ds, c2, ?_, h', h2⟩
    rw [List.take_zero, Nat.zero_add, ← R.len _ _ _ h1, List.drop_left']
    · simp
    · rfl⟩
theorem FOk.there {A B D : Type} {R : Rep A} {S : Rep B} {U : Rep D} {off : Nat} {g : B → D} {w : B → D → B} (f : FOk S off U g w) : FOk (rPair R S) (R.sz + off) U (fun x => g x.2) (fun x y => (x.1, w x.2 y)) :=
  ⟨by have := f.fit; simp only [rPair]; omega, fun z cs x h => by
    obtain ⟨c1, c2, rfl, h1, h2⟩ := h
    rw [List.drop_append, List.drop_eq_nil_of_le (by rw [R.len _ _ _ h1]; omega), R.len _ _ _ h1, Nat.add_sub_cancel_left, List.nil_append]
    exact f.get _ _ _ h2, fun z cs x ds y h h' => by
    obtain ⟨c1, c2, rfl, h1, h2⟩ := h
    refine ⟨c1, _, ?_, h1, f.set _ _ _ _ _ h2 h'⟩
    rw [List.take_append, List.take_of_length_le (by rw [R.len _ _ _ h1]; omega), List.drop_append, List.drop_eq_nil_of_le (by rw [R.len _ _ _ h1]; omega), R.len _ _ _ h1, Nat.add_sub_cancel_left, Nat.add_assoc, Nat.add_sub_cancel_left]
    simp⟩
theorem FOk.off {A B : Type} {R : Rep A} {o o' : Nat} {S : Rep B} {g : A → B} {w : A → B → A} (f : FOk R o S g w) (e : o = o') : FOk R o' S g w := e ▸ f
structure Und (T : Tab) (t : TypeId) {A : Type} (R : Rep A) : Prop where
  sz : szT T t = some R.sz
  agg : isAggT T t = some R.agg
structure Sl (T : Tab) (st : TypeId) (et : TypeId) {A : Type} (R : Rep A) : Prop where
  und : T.und st = some (.slice et)
  sz : szT T et = some R.sz
  agg : isAggT T et = some R.agg
  pos : 0 < R.sz
structure Fld (T : Tab) (s : TypeId) (i : Nat) (ft : TypeId) (off n : Nat) : Prop where
  fld : ∃ fs f, T.und s = some (.struct fs) ∧ fs[i]? = some f ∧ f.offset = off ∧ f.type = ft
  sz : szT T ft = some n
section
variable {C : Ctx} {T : Tab} {d : Option (List Nat)} {ops rest : List Oper} {Γ : Env} {L : Own} {Q : AFrame → AHeap → Prop} {P : AExit → AFrame → AHeap → Prop} {o : Oper} {t : Nat}
theorem apart_ok {A : Type} {R : Rep A} {et : TypeId} {cells : List AVal} {off : Nat} {z : Store} {x : A} (hs : szT T et = some R.sz) (ha : isAggT T et = some R.agg) (hl : off + R.sz ≤ cells.length) (hr : R.rel z ((cells.drop off).take R.sz) x) :
    ∃ v, apart T et cells off = some v ∧ TV R z v x := by
  unfold apart
  rw [ha]
  cases hb : R.agg with
  | true =>
    simp only [hs]
    rw [if_pos hl]
    exact ⟨_, rfl, hr, hb.symm⟩
  | false =>
    have h1 := R.one hb
    have hlt : off < cells.length := by omega
    simp only [List.getElem?_eq_getElem hlt]
    refine ⟨_, rfl, ?_, ?_⟩
    all_goals rw [h1] at hr
    all_goals have e : (cells.drop off).take 1 = [cells[off]] := by
                rw [List.drop_eq_getElem_cons hlt]; rfl
    all_goals rw [e] at hr
    all_goals have ho := R.ones _ _ _ hr
    all_goals simp only [List.all_cons, List.all_nil, Bool.and_true] at ho
    · have : cells[off].cells = [cells[off]] := by
        cases hc : cells[off] <;> rw [hc] at ho <;> simp_all [AVal.cells, AVal.one]
      rw [this]; exact hr
    · rw [hb]
      cases hc : cells[off] <;> rw [hc] at ho <;> simp_all [AVal.isAgg, AVal.one]
theorem s_cmp {op : BinOp} {u u' : TypeId} {k : IntKind} {x y : Operand} {a b : Int} {q : Bool} (hw : Want ops Γ true o.guard) (ho : o.op = .binOp op u x y u') (hd : o.dst = some t) (hx : Opd Γ x (.val (rInt k) a)) (hy : Opd Γ y (.val (rInt k) b)) (hr : Cmp a b op q)
    (r : SOps C T d ops rest ((t, .val rBool q) :: Γ) L Q) : SOps C T d ops (o :: rest) Γ L Q := by
  refine s_pure (by rw [ho]; rfl) hw hd (fun z fr h s => ⟨.bool q, ?_, by simp only [TE.ok]; exact tv_bool_mk⟩) r
  rw [ho]
  simp only [aop, abin, hx.int s.fr, hy.int s.fr]
  cases hr <;> simp [aint, optVal]
theorem s_shl {u u' : TypeId} {k k' : IntKind} {x y : Operand} {a b : Int} (hw : Want ops Γ true o.guard) (ho : o.op = .binOp .shl u x y u') (hd : o.dst = some t) (hx : Opd Γ x (.val (rInt k) a)) (hy : Opd Γ y (.val (rInt k') b)) (hb : 0 ≤ b)
    (r : SOps C T d ops rest ((t, .val (rInt k) (k.wrap (a * 2 ^ (min b.toNat k.bits)))) :: Γ) L Q) : SOps C T d ops (o :: rest) Γ L Q := by
  refine s_pure (by rw [ho]; rfl) hw hd (fun z fr h s => ⟨.int k (k.wrap (a * 2 ^ (min b.toNat k.bits))), ?_, ?_⟩) r
  · rw [ho]
    simp only [aop, abin, hx.int s.fr, hy.int s.fr, aint]
    rw [if_neg (by omega)]; rfl
  · simp only [TE.ok]; exact tv_int_mk (wrap_range _ _).1 (wrap_range _ _).2
theorem s_shr {u u' : TypeId} {k k' : IntKind} {x y : Operand} {a b : Int} (hw : Want ops Γ true o.guard) (ho : o.op = .binOp .shr u x y u') (hd : o.dst = some t) (hx : Opd Γ x (.val (rInt k) a)) (hy : Opd Γ y (.val (rInt k') b)) (hb : 0 ≤ b)
    (r : SOps C T d ops rest ((t, .val (rInt k) (a.fdiv (2 ^ (min b.toNat k.bits)))) :: Γ) L Q) : SOps C T d ops (o :: rest) Γ L Q := by
  refine s_pure (by rw [ho]; rfl) hw hd (fun z fr h s => ⟨.int k (a.fdiv (2 ^ (min b.toNat k.bits))), ?_, ?_⟩) r
  · rw [ho]
    simp only [aop, abin, hx.int s.fr, hy.int s.fr, aint]
    rw [if_neg (by omega)]; rfl
  · simp only [TE.ok]
    have h1 := tv_int_range (hx.val s.fr)
    have hm : k.min ≤ 0 ∧ 0 ≤ k.max ∧ k.min ≤ -1 ∨ k.min = 0 := by cases k <;> simp [IntKind.min, IntKind.max, IntKind.bits, IntKind.signed]
    have hp : (0 : Int) < 2 ^ (min b.toNat k.bits) := Int.pow_pos (by decide)
    rw [Int.fdiv_eq_ediv_of_nonneg _ (Int.le_of_lt hp)]
    have e := Int.emod_add_mul_ediv a (2 ^ (min b.toNat k.bits))
    have e1 := Int.emod_nonneg a (Int.ne_of_gt hp)
    generalize (2 : Int) ^ (min b.toNat k.bits) = p at *
    refine tv_int_mk ?_ ?_
    · rcases Int.lt_or_le a 0 with h | h
      · have : a ≤ a / p := by
          rw [Int.le_ediv_iff_mul_le hp]
          have := Int.mul_le_mul_of_nonpos_left (show a ≤ 0 by omega) (show (1:Int) ≤ p by omega)
          omega
        omega
      · have := Int.ediv_nonneg h (Int.le_of_lt hp); omega
    · rcases Int.lt_or_le a 0 with h | h
      · have := Int.ediv_neg_of_neg_of_pos h hp
        have hm2 : 0 ≤ k.max := by cases k <;> simp [IntKind.max, IntKind.bits, IntKind.signed]
        omega
      · have := Int.ediv_le_self p h; omega
theorem s_not {u : TypeId} {x : Operand} {a : Bool} (hw : Want ops Γ true o.guard) (ho : o.op = .unOp .not u x) (hd : o.dst = some t) (hx : Opd Γ x (.val rBool a))
    (r : SOps C T d ops rest ((t, .val rBool (!a)) :: Γ) L Q) : SOps C T d ops (o :: rest) Γ L Q := by
  refine s_pure (by rw [ho]; rfl) hw hd (fun z fr h s => ⟨.bool (!a), ?_, by simp only [TE.ok]; exact tv_bool_mk⟩) r
  rw [ho]
  simp [aop, aun, hx.bool s.fr, optVal]
theorem s_neg {u : TypeId} {k : IntKind} {x : Operand} {a : Int} (hw : Want ops Γ true o.guard) (ho : o.op = .unOp .neg u x) (hd : o.dst = some t) (hx : Opd Γ x (.val (rInt k) a))
    (r : SOps C T d ops rest ((t, .val (rInt k) (k.wrap (0 - a))) :: Γ) L Q) : SOps C T d ops (o :: rest) Γ L Q := by
  refine s_pure (by rw [ho]; rfl) hw hd (fun z fr h s => ⟨.int k (k.wrap (0 - a)), ?_, by simp only [TE.ok]; exact tv_int_mk (wrap_range _ _).1 (wrap_range _ _).2⟩) r
  rw [ho]
  simp [aop, aun, hx.int s.fr, optVal, aint]
theorem s_conv {u u' : TypeId} {k k' : IntKind} {x : Operand} {a : Int} (h1 : (T.und u).isSome = true) (h2 : T.und u' = some (.int k')) (hw : Want ops Γ true o.guard) (ho : o.op = .convert u u' x) (hd : o.dst = some t) (hx : Opd Γ x (.val (rInt k) a))
    (r : SOps C T d ops rest ((t, .val (rInt k') (k'.wrap a)) :: Γ) L Q) : SOps C T d ops (o :: rest) Γ L Q := by
  refine s_pure (by rw [ho]; rfl) hw hd (fun z fr h s => ⟨.int k' (k'.wrap a), ?_, by simp only [TE.ok]; exact tv_int_mk (wrap_range _ _).1 (wrap_range _ _).2⟩) r
  rw [ho]
  cases e : T.und u with
  | none => rw [e] at h1; cases h1
  | some q => simp [aop, aconvert, hx.int s.fr, h2, e, optVal]
theorem s_pick1 {c x y : Operand} {e : TE} (hw : Want ops Γ true o.guard) (ho : o.op = .pick c x y) (hd : o.dst = some t) (hc : Opd Γ c (.val rBool true)) (hx : Opd Γ x e)
    (r : SOps C T d ops rest ((t, e) :: Γ) L Q) : SOps C T d ops (o :: rest) Γ L Q := by
  refine s_pure (by rw [ho]; rfl) hw hd (fun z fr h s => ⟨fr.op x, ?_, hx.ok s.fr⟩) r
  rw [ho]
  simp [aop, opPick, hc.bool s.fr]
theorem s_pick0 {c x y : Operand} {e : TE} (hw : Want ops Γ true o.guard) (ho : o.op = .pick c x y) (hd : o.dst = some t) (hc : Opd Γ c (.val rBool false)) (hy : Opd Γ y e)
    (r : SOps C T d ops rest ((t, e) :: Γ) L Q) : SOps C T d ops (o :: rest) Γ L Q := by
  refine s_pure (by rw [ho]; rfl) hw hd (fun z fr h s => ⟨fr.op y, ?_, hy.ok s.fr⟩) r
  rw [ho]
  simp [aop, opPick, hc.bool s.fr]
def lenI {A : Type} (xs : List A) : Int := xs.length
theorem len_range {A : Type} {xs : List A} (h : xs.length ≤ maxLen) : IntKind.i64.min ≤ lenI xs ∧ lenI xs ≤ IntKind.i64.max := by
  unfold lenI
  simp [IntKind.min, IntKind.max, IntKind.bits, IntKind.signed, maxLen] at *
  omega
theorem row_foot {A : Type} {R : Rep A} {z : Store} {h : AHeap} {v : AVal} {xs : List A} (hs : z.Sub h) (r : RowAt R z v xs) : ∀ b, b ∈ blkOf v → b < h.next := by
  intro b hb
  rcases r.2 with ⟨q, _⟩ | ⟨b', off, cap, q, _, hg⟩ | ⟨b', off, cap, cells, ro, q, hg, _⟩ <;> subst q <;> simp [blkOf] at hb
  · subst hb; exact (hs _ _ hg).2
  · subst hb; exact (hs _ _ hg).2
theorem row_nomap {A : Type} {R : Rep A} {z : Store} {v : AVal} {xs : List A} (r : RowAt R z v xs) : mapOf v = [] := by
  rcases r.2 with ⟨q, _⟩ | ⟨b', off, cap, q, _, hg⟩ | ⟨b', off, cap, cells, ro, q, hg, _⟩ <;> subst q <;> rfl
theorem own_foot {z : Store} {fr : AFrame} {h : AHeap} (s : StZ C Γ L z fr h) {k : Nat} {v : AVal} {ob : Obj} (hk : L[k]? = some (v, ob)) (hnc : plainO ob = true) : ∀ b, b ∈ blkOf v → b < h.next := by
  intro b hb
  have := (s.own.out _ (List.mem_of_getElem? hk) b (by rw [blkE_plain hnc]; cases v <;> simp_all [blkOf, blkO])).2.1
  exact this
theorem ptr_foot {A : Type} {R : Rep A} {z : Store} {h : AHeap} {v : AVal} {x : A} (hs : z.Sub h) (r : PtrAt R z v x) : ∀ b, b ∈ blkOf v → b < h.next := by
  intro b hb
  obtain ⟨b', off, cells, ro, q, hg, _⟩ := r
  subst q
  simp [blkOf] at hb
  subst hb; exact (hs _ _ hg).2
theorem ptr_quiet {A : Type} {R : Rep A} {z : Store} {v : AVal} {x : A} (r : PtrAt R z v x) : ∀ b, b ∈ blkOf v → z b ≠ none := by
  intro b hb
  obtain ⟨b', off, cells, ro, q, hg, _⟩ := r
  subst q
  simp [blkOf] at hb
  subst hb; rw [hg]; exact fun q => by cases q
theorem own_none {z : Store} {fr : AFrame} {h : AHeap} (s : StZ C Γ L z fr h) {k : Nat} {v : AVal} {ob : Obj} (hk : L[k]? = some (v, ob)) (hnc : plainO ob = true) : ∀ b, b ∈ blkOf v → b < h.next ∧ z b = none := by
  intro b hb
  have := s.own.out _ (List.mem_of_getElem? hk) b (by rw [blkE_plain hnc]; cases v <;> simp_all [blkOf, blkO])
  exact ⟨this.2.1, this.1⟩
theorem s_len {A : Type} {R : Rep A} {c : Call} {x : Operand} {xs : List A} {st et : TypeId} (hsl : Sl T st et R) (hw : Want ops Γ true o.guard) (ho : o.op = .call c) (hd : o.dst = some t) (hc : c.callee = .builtin .len) (ha : c.args.toList = [x]) (ht : c.argTypes[0]? = some st)
    (hx : Opd Γ x (.val (rSlice R) xs)) (r : SOps C T d ops rest ((t, .val (rInt .i64) (lenI xs)) :: Γ) L Q) : SOps C T d ops (o :: rest) Γ L Q := by
  have hf : ∀ z fr h, StZ C Γ L z fr h → foot fr.op o = ⟨[], false, [], false⟩ := fun z fr h s => by
    unfold foot; rw [ho]; simp only [hc]
    simp [ha, row_nomap (tv_slice (hx.val s.fr))]
  refine s_pureF (.f fun z fr h s => by rw [hf z fr h s]; exact ⟨rfl, rfl, fun b hb => (nomatch hb), fun _ => rfl⟩) (fun z fr h s => by rw [hf z fr h s]; exact ⟨fun b hb => (nomatch hb), fun b hb => (nomatch hb)⟩) hw hd (fun z fr h s => ?_) r
  have hr := tv_slice (hx.val s.fr)
  refine ⟨.int .i64 (lenI xs), ?_, by simp only [TE.ok]; exact tv_int_mk (len_range hr.1).1 (len_range hr.1).2⟩
  rw [ho]
  simp only [aop, opCall, hc, abuiltin, ha, List.map, ht, alen, hsl.und]
  rcases hr.2 with ⟨q, rfl⟩ | ⟨b, off, cap, q, rfl, _⟩ | ⟨b, off, cap, cells, ro, q, _⟩ <;> rw [q] <;> simp [optVal, lenI]
theorem s_leno {A : Type} {R : Rep A} {c : Call} {x : Operand} {xs : List A} {st et : TypeId} {v : AVal} (k : Nat) (hsl : Sl T st et R) (hw : Want ops Γ true o.guard) (ho : o.op = .call c) (hd : o.dst = some t) (hc : c.callee = .builtin .len) (ha : c.args.toList = [x]) (ht : c.argTypes[0]? = some st)
    (hx : Opd Γ x (.raw v)) (hk : L[k]? = some (v, .row R xs)) (r : SOps C T d ops rest ((t, .val (rInt .i64) (lenI xs)) :: Γ) L Q) : SOps C T d ops (o :: rest) Γ L Q := by
  have hf : ∀ z fr h, StZ C Γ L z fr h → foot fr.op o = ⟨[], false, [], false⟩ := fun z fr h s => by
    have hr := s.own.ok _ (List.mem_of_getElem? hk)
    simp only [Obj.ok] at hr
    have e : mapOf v = [] := by rcases hr.2 with ⟨q, _⟩ | ⟨_, _, _, _, q, _⟩ <;> rw [q] <;> rfl
    unfold foot; rw [ho]; simp only [hc]
    simp [ha, hx.raw s.fr, e]
  refine s_pureF (.f fun z fr h s => by rw [hf z fr h s]; exact ⟨rfl, rfl, fun b hb => (nomatch hb), fun _ => rfl⟩) (fun z fr h s => by rw [hf z fr h s]; exact ⟨fun b hb => (nomatch hb), fun b hb => (nomatch hb)⟩) hw hd (fun z fr h s => ?_) r
  have hr := s.own.ok _ (List.mem_of_getElem? hk)
  simp only [Obj.ok] at hr
  refine ⟨.int .i64 (lenI xs), ?_, by simp only [TE.ok]; exact tv_int_mk (len_range hr.1).1 (len_range hr.1).2⟩
  rw [ho]
  simp only [aop, opCall, hc, abuiltin, ha, List.map, ht, alen, hsl.und, hx.raw s.fr]
  rcases hr.2 with ⟨q, rfl⟩ | ⟨b, off, cap, cells, q, _⟩ <;> rw [q] <;> simp [optVal, lenI]
def idx {A : Type} (xs : List A) (i : Int) : Option A := if 0 ≤ i then xs[i.toNat]? else none
theorem idx_inv {A : Type} {xs : List A} {i : Int} {x : A} (h : idx xs i = some x) : 0 ≤ i ∧ i < xs.length ∧ i.toNat < xs.length ∧ xs[i.toNat]? = some x := by
  unfold idx at h
  split at h
  · have := (List.getElem?_eq_some_iff.1 h).1
    exact ⟨by assumption, by omega, this, h⟩
  · cases h
theorem row_ptr {A : Type} {R : Rep A} {z : Store} {v : AVal} {xs : List A} {i : Int} {x : A} {st et : TypeId} {k : IntKind} (hsl : Sl T st et R) (r : RowAt R z v xs) (hi : idx xs i = some x) : ∃ a, aindexAddr T st v (.int k i) = some a ∧ PtrAt R z a x := by
  obtain ⟨h0, h1, h2, h3⟩ := idx_inv hi
  rcases r.2 with ⟨rfl, rfl⟩ | ⟨b, off, cap, rfl, rfl, _⟩ | ⟨b, off, cap, cells, ro, rfl, hg, hl, _, hx⟩
  · simp at h2
  · simp at h2
  · refine ⟨.ptr b (off + i.toNat * R.sz), ?_, b, _, cells, ro, rfl, hg, ?_, hx _ _ h3⟩
    · simp only [aindexAddr, hsl.und, hsl.sz]
      rw [if_pos (by exact ⟨h0, by omega, by trivial⟩)]
    · have : (i.toNat + 1) * R.sz ≤ xs.length * R.sz := Nat.mul_le_mul_right _ h2
      rw [Nat.add_mul] at this
      omega
theorem s_idx {A : Type} {R : Rep A} {x y : Operand} {xs : List A} {st et : TypeId} {k : IntKind} {i : Int} {a : A} (hsl : Sl T st et R) (hi : idx xs i = some a) (hw : Want ops Γ true o.guard) (ho : o.op = .indexAddr st x y) (hd : o.dst = some t)
    (hx : Opd Γ x (.val (rSlice R) xs)) (hy : Opd Γ y (.val (rInt k) i)) (r : SOps C T d ops rest ((t, .val (rPtr R) a) :: Γ) L Q) : SOps C T d ops (o :: rest) Γ L Q := by
  refine s_pure (by rw [ho]; rfl) hw hd (fun z fr h s => ?_) r
  obtain ⟨p, h1, h2⟩ := row_ptr (k := k) hsl (tv_slice (hx.val s.fr)) hi
  refine ⟨p, ?_, by simp only [TE.ok]; exact tv_ptr_mk h2⟩
  rw [ho]
  simp only [aop, hy.int s.fr, h1, optVal, Option.map]
theorem s_idxo {A : Type} {R : Rep A} {x y : Operand} {xs : List A} {st et : TypeId} {kk : IntKind} {i : Int} {a : A} {v : AVal} (k : Nat) (hsl : Sl T st et R) (hi : idx xs i = some a) (hw : Want ops Γ true o.guard) (ho : o.op = .indexAddr st x y) (hd : o.dst = some t)
    (hx : Opd Γ x (.raw v)) (hk : L[k]? = some (v, .row R xs)) (hy : Opd Γ y (.val (rInt kk) i)) (r : SOps C T d ops rest ((t, .elt v i.toNat 0) :: Γ) L Q) : SOps C T d ops (o :: rest) Γ L Q := by
  refine s_pure (by rw [ho]; rfl) hw hd (fun z fr h s => ?_) r
  obtain ⟨h0, h1, h2, h3⟩ := idx_inv hi
  have hr := s.own.ok _ (List.mem_of_getElem? hk)
  simp only [Obj.ok] at hr
  rcases hr.2 with ⟨rfl, rfl⟩ | ⟨b, off, cap, cells, rfl, _⟩
  · simp at h2
  · refine ⟨.ptr b (off + i.toNat * R.sz), ?_, by simp only [TE.ok]; exact ⟨b, off, _, _, _, rfl, by simp⟩⟩
    rw [ho]
    simp only [aop, hy.int s.fr, hx.raw s.fr, aindexAddr, hsl.und, hsl.sz]
    rw [if_pos (by exact ⟨h0, by omega, by trivial⟩)]
    rfl
theorem s_load {A : Type} {R : Rep A} {x : Operand} {et : TypeId} {a : A} (hu : Und T et R) (hw : Want ops Γ true o.guard) (ho : o.op = .load et x) (hd : o.dst = some t)
    (hx : Opd Γ x (.val (rPtr R) a)) (r : SOps C T d ops rest ((t, .val R a) :: Γ) L Q) : SOps C T d ops (o :: rest) Γ L Q := by
  have hf : ∀ z fr h, StZ C Γ L z fr h → foot fr.op o = ⟨blkOf (fr.op x), false, [], false⟩ := fun z fr h s => by unfold foot; rw [ho]
  refine s_pureF (.f fun z fr h s => by rw [hf z fr h s]; exact ⟨rfl, rfl, ptr_quiet (tv_ptr (hx.val s.fr)), fun q => by rw [ho] at q; cases q⟩) (fun z fr h s => by rw [hf z fr h s]; exact ⟨ptr_foot s.sub (tv_ptr (hx.val s.fr)), fun b hb => (nomatch hb)⟩) hw hd (fun z fr h s => ?_) r
  obtain ⟨b, off, cells, ro, h1, h2, h3, h4⟩ := tv_ptr (hx.val s.fr)
  obtain ⟨v, h5, h6⟩ := apart_ok hu.sz hu.agg h3 h4
  refine ⟨v, ?_, by simp only [TE.ok]; exact h6⟩
  rw [ho]
  simp only [aop, h1, aload, (s.sub _ _ h2).1, h5, optVal, Option.map]
theorem row_cells {A : Type} {R : Rep A} {xs : List A} {off i : Nat} {x : A} {cells : List AVal} (hl : off + xs.length * R.sz ≤ cells.length) (hx : xs[i]? = some x) : off + i * R.sz + R.sz ≤ cells.length := by
  have h2 := (List.getElem?_eq_some_iff.1 hx).1
  have : (i + 1) * R.sz ≤ xs.length * R.sz := Nat.mul_le_mul_right _ h2
  rw [Nat.add_mul] at this
  omega
theorem s_loado {A B : Type} {R : Rep A} {S : Rep B} {g : A → B} {w : A → B → A} {x : Operand} {et : TypeId} {a : A} {xs : List A} {v : AVal} {i off : Nat} (k : Nat) (hls : Listed d ops rest) (hu : Und T et S) (hf : FOk R off S g w) (hi : xs[i]? = some a) (hw : Want ops Γ true o.guard) (ho : o.op = .load et x) (hd : o.dst = some t)
    (hx : Opd Γ x (.elt v i off)) (hk : L[k]? = some (v, .row R xs)) (r : SOps C T d ops rest ((t, .val S (g a)) :: Γ) L Q) : SOps C T d ops (o :: rest) Γ L Q := by
  have hft : ∀ z fr h, StZ C Γ L z fr h → foot fr.op o = ⟨blkOf (fr.op x), false, [], false⟩ := fun z fr h s => by unfold foot; rw [ho]
  refine s_pureF (.l hls (by rw [ho]; rfl)) (fun z fr h s => by
    rw [hft z fr h s]
    refine ⟨fun b hb => ?_, fun b hb => (nomatch hb)⟩
    have hp := hx.ok s.fr
    simp only [TE.ok] at hp
    obtain ⟨bb, oo, len, es, cap, q, hp⟩ := hp
    rw [hp] at hb
    refine own_foot s hk rfl b ?_
    subst q
    simpa [blkOf] using hb) hw hd (fun z fr h s => ?_) r
  have hr := s.own.ok _ (List.mem_of_getElem? hk)
  simp only [Obj.ok] at hr
  have hp := hx.ok s.fr
  simp only [TE.ok] at hp
  obtain ⟨b, oo, len, es, cap, rfl, hp⟩ := hp
  rcases hr.2 with ⟨q, _⟩ | ⟨b', off', cap', cells, q, h2, h3, _, h5⟩
  · cases q
  · cases q
    have h6 := row_cells h3 hi
    have h7 := hf.get _ _ _ (h5 _ _ hi)
    have hfit := hf.fit
    rw [List.drop_take, List.take_take, List.drop_drop, Nat.min_eq_left (by omega)] at h7
    obtain ⟨u, h8, h9⟩ := apart_ok hu.sz hu.agg (by omega) h7
    refine ⟨u, ?_, by simp only [TE.ok]; exact h9⟩
    rw [ho]
    simp only [aop, hp, aload, h2, h8, optVal, Option.map]
theorem fldAddr {s : TypeId} {i : Nat} {ft : TypeId} {off n : Nat} (h : Fld T s i ft off n) (hn : 0 < n) (b q : Nat) : afieldAddr T s (.ptr b q) i = some (.ptr b (q + off)) := by
  obtain ⟨⟨fs, f, h1, h2, h3, h4⟩, h5⟩ := h
  subst h3 h4
  simp only [afieldAddr, h1, h2, h5]
  rw [if_neg (by omega)]
theorem s_fa {A B : Type} {R : Rep A} {S : Rep B} {g : A → B} {w : A → B → A} {x : Operand} {s ft : TypeId} {i off : Nat} {a : A} (hf : Fld T s i ft off S.sz) (hg : FOk R off S g w) (hp : 0 < S.sz) (hw : Want ops Γ true o.guard) (ho : o.op = .fieldAddr s x i) (hd : o.dst = some t)
    (hx : Opd Γ x (.val (rPtr R) a)) (r : SOps C T d ops rest ((t, .val (rPtr S) (g a)) :: Γ) L Q) : SOps C T d ops (o :: rest) Γ L Q := by
  refine s_pure (by rw [ho]; rfl) hw hd (fun z fr h s => ?_) r
  obtain ⟨b, q, cells, ro, h1, h2, h3, h4⟩ := tv_ptr (hx.val s.fr)
  have h7 := hg.get _ _ _ h4
  have hfit := hg.fit
  rw [List.drop_take, List.take_take, List.drop_drop, Nat.min_eq_left (by omega)] at h7
  refine ⟨.ptr b (q + off), ?_, by simp only [TE.ok]; exact tv_ptr_mk ⟨b, _, cells, ro, rfl, h2, by omega, h7⟩⟩
  rw [ho]
  simp only [aop, h1, fldAddr hf hp, optVal, Option.map]
theorem s_faraw {x : Operand} {s ft : TypeId} {i off q n b : Nat} (hf : Fld T s i ft off n) (hp : 0 < n) (hw : Want ops Γ true o.guard) (ho : o.op = .fieldAddr s x i) (hd : o.dst = some t)
    (hx : Opd Γ x (.raw (.ptr b q))) (r : SOps C T d ops rest ((t, .raw (.ptr b (q + off))) :: Γ) L Q) : SOps C T d ops (o :: rest) Γ L Q := by
  refine s_pure (by rw [ho]; rfl) hw hd (fun z fr h s => ⟨.ptr b (q + off), ?_, by simp only [TE.ok]⟩) r
  rw [ho]
  simp only [aop, hx.raw s.fr, fldAddr hf hp, optVal, Option.map]
theorem s_nilck {A : Type} {R : Rep A} {x : Operand} {a : A} (hw : Want ops Γ true o.guard) (ho : o.op = .nilCheck x) (hd : o.dst = some t)
    (hx : Opd Γ x (.val (rPtr R) a)) (r : SOps C T d ops rest ((t, .val (rPtr R) a) :: Γ) L Q) : SOps C T d ops (o :: rest) Γ L Q := by
  refine s_pure (by rw [ho]; rfl) hw hd (fun z fr h s => ?_) r
  obtain ⟨b, q, cells, ro, h1, h2⟩ := tv_ptr (hx.val s.fr)
  refine ⟨.ptr b q, ?_, by simp only [TE.ok]; exact tv_ptr_mk ⟨b, q, cells, ro, rfl, h2⟩⟩
  rw [ho]
  simp only [aop, h1, opNilCheck]
theorem s_field {A B : Type} {R : Rep A} {S : Rep B} {g : A → B} {w : A → B → A} {x : Operand} {s ft : TypeId} {i off n : Nat} {a : A} (hf : Fld T s i ft off n) (hu : Und T ft S) (hR : R.agg = true) (hg : FOk R off S g w) (hw : Want ops Γ true o.guard) (ho : o.op = .field s x i) (hd : o.dst = some t)
    (hx : Opd Γ x (.val R a)) (r : SOps C T d ops rest ((t, .val S (g a)) :: Γ) L Q) : SOps C T d ops (o :: rest) Γ L Q := by
  refine s_pure (by rw [ho]; rfl) hw hd (fun z fr h s => ?_) r
  have hv := hx.val s.fr
  obtain ⟨⟨fs, f, h1, h2, h3, h4⟩, h5⟩ := hf
  subst h3 h4
  have hc := hv.agg
  rw [hR] at hc
  cases hq : fr.op x with
  | agg cs =>
    rw [hq] at hv
    have hrel := hv.rel
    simp only [AVal.cells] at hrel
    obtain ⟨u, h8, h9⟩ := apart_ok (cells := cs) hu.sz hu.agg (by rw [R.len _ _ _ hrel]; exact hg.fit) (hg.get _ _ _ hrel)
    refine ⟨u, ?_, by simp only [TE.ok]; exact h9⟩
    rw [ho]
    simp only [aop, hq, afield, h1, h2, h8, optVal, Option.map]
  | _ => rw [hq] at hc; cases hc
theorem s_ext {x : Operand} {es : List TE} {e : TE} {i : Nat} (hi : es[i]? = some e) (hw : Want ops Γ true o.guard) (ho : o.op = .extract x i) (hd : o.dst = some t)
    (hx : Opd Γ x (.tup es)) (r : SOps C T d ops rest ((t, e) :: Γ) L Q) : SOps C T d ops (o :: rest) Γ L Q := by
  refine s_pure (by rw [ho]; rfl) hw hd (fun z fr h s => ?_) r
  have hq := hx.ok s.fr
  simp only [TE.ok] at hq
  obtain ⟨vs, h1, h2⟩ := hq
  have key : ∀ (es : List TE) (vs : List AVal) (i : Nat), okAll z es vs → es[i]? = some e → ∃ v, vs[i]? = some v ∧ e.ok z v := by
    intro es
    induction es with
    | nil => intro vs i _ h; simp at h
    | cons a es ih =>
      intro vs i h hi
      simp only [okAll] at h
      obtain ⟨v, vs', rfl, h1, h2⟩ := h
      cases i with
      | zero => simp at hi; subst hi; exact ⟨v, rfl, h1⟩
      | succ i => simpa using ih vs' i h2 (by simpa using hi)
  obtain ⟨v, h3, h4⟩ := key es vs i h2 hi
  refine ⟨v, ?_, h4⟩
  rw [ho]
  simp only [aop, h1, opExtract, h3, optVal, Option.map]
theorem s_slice {A : Type} {R : Rep A} {x : Operand} {lo hi : Option Operand} {xs : List A} {st et : TypeId} {i j : Int} {kl kh : IntKind} (hsl : Sl T st et R) (hij : 0 ≤ i ∧ i ≤ j ∧ j ≤ lenI xs) (hw : Want ops Γ true o.guard) (ho : o.op = .slice st x lo hi none) (hd : o.dst = some t)
    (hx : Opd Γ x (.val (rSlice R) xs)) (hlo : (lo = none ∧ i = 0) ∨ ∃ y, lo = some y ∧ Opd Γ y (.val (rInt kl) i)) (hhi : (hi = none ∧ j = lenI xs) ∨ ∃ y, hi = some y ∧ Opd Γ y (.val (rInt kh) j))
    (r : SOps C T d ops rest ((t, .val (rSlice R) ((xs.take j.toNat).drop i.toNat)) :: Γ) L Q) : SOps C T d ops (o :: rest) Γ L Q := by
  refine s_pure (by rw [ho]; rfl) hw hd (fun z fr h s => ?_) r
  obtain ⟨hi0, hij, hj⟩ := hij
  unfold lenI at hj hhi
  have hr := tv_slice (hx.val s.fr)
  have blo : ∀ top : Nat, j.toNat ≤ top → abound (lo.map fr.op) 0 j.toNat = some i.toNat := by
    intro top _
    rcases hlo with ⟨rfl, rfl⟩ | ⟨y, rfl, hy⟩
    · rfl
    · simp only [Option.map, abound, hy.int s.fr]
      rw [if_pos ⟨hi0, by omega⟩]
  have bhi : ∀ n : Nat, n = xs.length → abound (hi.map fr.op) n n = some j.toNat := by
    intro n hn
    rcases hhi with ⟨rfl, rfl⟩ | ⟨y, rfl, hy⟩
    · subst hn; simp [abound]
    · simp only [Option.map, abound, hy.int s.fr]
      rw [if_pos ⟨by omega, by omega⟩]
  have hlen : ((xs.take j.toNat).drop i.toNat).length = j.toNat - i.toNat := by simp; omega
  rcases hr.2 with ⟨q, rfl⟩ | ⟨b, off, cap, q, rfl, hg⟩ | ⟨b, off, cap, cells, ro, q, hg, hl, hcap, hel⟩
  · have : j = 0 := by simp at hj; omega
    subst this
    have b1 := bhi 0 rfl
    have b2 := blo 0 (Nat.le_refl _)
    rw [Int.toNat_zero] at b1 b2
    refine ⟨.nilslice, ?_, by simp only [TE.ok]; simpa using tv_slice_mk row_nil⟩
    rw [ho]
    simp only [aop, aslice, hsl.und, hsl.sz, q, Option.map_none, b1, b2, optVal, Option.map_some]
  · have : j = 0 := by simp at hj; omega
    subst this
    have : i = 0 := by omega
    subst this
    have b1 := bhi 0 rfl
    have b2 := blo 0 (Nat.le_refl _)
    rw [Int.toNat_zero] at b1 b2
    have fin : ∀ cap', TV (rSlice R) z (.slice b (off + 0 * R.sz) (0 - 0) R.sz cap') ((([] : List A).take (0 : Int).toNat).drop (0 : Int).toNat) := fun cap' => by
      simpa using tv_slice_mk (R := R) (xs := []) ⟨by simp [maxLen], .inr (.inl ⟨b, _, _, rfl, rfl, hg⟩)⟩
    rw [ho]
    cases cap with
    | none =>
      refine ⟨_, ?_, by simp only [TE.ok]; exact fin none⟩
      simp only [aop, aslice, hsl.und, hsl.sz, q, Option.map_none, b1, b2, optVal, Option.map_some]
      rw [if_pos ⟨trivial, hsl.pos⟩]
      rfl
    | some c =>
      have b3 : abound none c c = some c := rfl
      have b4 : abound (hi.map fr.op) 0 c = some 0 := by
        rcases hhi with ⟨rfl, _⟩ | ⟨y, rfl, hy⟩
        · rfl
        · simp only [Option.map, abound, hy.int s.fr]; rw [if_pos ⟨by omega, by omega⟩]; rfl
      refine ⟨_, ?_, by simp only [TE.ok]; exact fin (some (c - 0))⟩
      simp only [aop, aslice, hsl.und, hsl.sz, q, Option.map_none, b3, b4, b2, optVal, Option.isSome_none, Bool.false_and]
      rw [if_pos ⟨trivial, hsl.pos⟩]
      simp [b2]
  · have b1 := bhi xs.length rfl
    have b2 := blo xs.length (by omega)
    have hmul : i.toNat * R.sz + (j.toNat - i.toNat) * R.sz ≤ xs.length * R.sz := by rw [← Nat.add_mul]; exact Nat.mul_le_mul_right _ (by omega)
    have row : ∀ cap' : Option Nat, (∀ c, cap' = some c → j.toNat - i.toNat ≤ c) → RowAt R z (.slice b (off + i.toNat * R.sz) (j.toNat - i.toNat) R.sz cap') ((xs.take j.toNat).drop i.toNat) := by
      intro cap' hc'
      refine ⟨by rw [hlen]; have := hr.1; omega, .inr (.inr ⟨b, _, _, cells, ro, by rw [hlen], hg, by rw [hlen]; omega, by rw [hlen]; exact hc', fun n y hy => ?_⟩)⟩
      rw [List.getElem?_drop] at hy
      have hy' : xs[i.toNat + n]? = some y := by
        rw [List.getElem?_take] at hy
        split at hy
        · exact hy
        · cases hy
      have := hel _ _ hy'
      rw [Nat.add_mul] at this
      rw [Nat.add_assoc]; exact this
    rw [ho]
    cases cap with
    | none =>
      refine ⟨_, ?_, by simp only [TE.ok]; exact tv_slice_mk (row none (fun c q => by cases q))⟩
      simp only [aop, aslice, hsl.und, hsl.sz, q, Option.map_none, b1, b2, optVal, Option.map_some]
      rw [if_pos ⟨trivial, hsl.pos⟩]
      rfl
    | some c =>
      have hc := hcap c rfl
      have b3 : abound none c c = some c := rfl
      have b4 : abound (hi.map fr.op) xs.length c = some j.toNat := by
        rcases hhi with ⟨rfl, e⟩ | ⟨y, rfl, hy⟩
        · subst e; simp [abound]
        · simp only [Option.map, abound, hy.int s.fr]; rw [if_pos ⟨by omega, by omega⟩]
      refine ⟨_, ?_, by simp only [TE.ok]; exact tv_slice_mk (row (some (c - i.toNat)) (fun c' q => by cases q; omega))⟩
      simp only [aop, aslice, hsl.und, hsl.sz, q, Option.map_none, b3, b4, b2, optVal, Option.isSome_none, Bool.false_and]
      rw [if_pos ⟨trivial, hsl.pos⟩]
      simp [b2]
end
def rArr {A : Type} (n : Nat) (R : Rep A) : Rep (List A) :=
  ⟨n * R.sz, true, fun z cs xs => xs.length = n ∧ cs.length = n * R.sz ∧ cs.all AVal.one = true ∧ ∀ i x, xs[i]? = some x → R.rel z ((cs.drop (i * R.sz)).take R.sz) x,
    fun _ _ _ h => h.2.1, fun _ _ _ _ e h => ⟨h.1, h.2.1, h.2.2.1, fun i x hx => R.mono _ _ _ _ e (h.2.2.2 i x hx)⟩, fun h => (by cases h), fun _ _ _ h => h.2.2.1⟩
theorem ones_of {A : Type} {R : Rep A} {z : Store} {xs : List A} {l : List AVal} (hp : 0 < R.sz) (hl : l.length = xs.length * R.sz) (h : ∀ i x, xs[i]? = some x → R.rel z ((l.drop (i * R.sz)).take R.sz) x) : l.all AVal.one = true := by
  refine List.all_eq_true.2 fun c hc => ?_
  obtain ⟨j, hj, rfl⟩ := List.getElem_of_mem hc
  have hi : j / R.sz < xs.length := by rw [Nat.div_lt_iff_lt_mul hp]; omega
  have h1 := R.ones _ _ _ (h _ _ (List.getElem?_eq_getElem hi))
  rw [List.all_eq_true] at h1
  refine h1 _ (List.mem_of_getElem? (i := j % R.sz) ?_)
  have hm := Nat.mod_lt j hp
  have e := Nat.div_add_mod j R.sz
  rw [Nat.mul_comm] at e
  rw [List.getElem?_take, if_pos hm, List.getElem?_drop, e]
  simp
structure Ar1 (T : Tab) (at_ : TypeId) (et : TypeId) (n : Nat) {A : Type} (R : Rep A) : Prop where
  und : T.und at_ = some (.array n et)
  sz : szT T et = some R.sz
  agg : isAggT T et = some R.agg
  whole : szT T at_ = some (n * R.sz)
  isagg : isAggT T at_ = some true
  pos : 0 < R.sz
end Go.Ai.Sx

/- Symbolic runs of the abstract interpreter: memory. -/
namespace Go.Ai.Sx
def setAt : Own → Nat → AVal × Obj → Option Own
  | [], _, _ => none
  | _ :: l, 0, e => some (e :: l)
  | p :: l, n + 1, e => match setAt l n e with
    | some l' => some (p :: l')
    | none => none
def dropAt : Own → Nat → Option Own
  | [], _ => none
  | _ :: l, 0 => some l
  | p :: l, n + 1 => match dropAt l n with
    | some l' => some (p :: l')
    | none => none
theorem setAt_eq : ∀ {L L' : Own} {k : Nat} {e : AVal × Obj}, setAt L k e = some L' → L' = L.set k e ∧ k < L.length
  | [], _, _, _, h => by cases h
  | _ :: _, _, 0, _, h => by cases h; exact ⟨rfl, by simp⟩
  | p :: l, _, n + 1, e, h => by
    simp only [setAt] at h
    split at h
    · rename_i l' h'
      cases h
      obtain ⟨h1, h2⟩ := setAt_eq h'
      exact ⟨by rw [h1]; rfl, by simpa using h2⟩
    · cases h
theorem dropAt_eq : ∀ {L L' : Own} {k : Nat}, dropAt L k = some L' → L' = L.eraseIdx k
  | [], _, _, h => by cases h
  | _ :: _, _, 0, h => by cases h; rfl
  | p :: l, _, n + 1, h => by
    simp only [dropAt] at h
    split at h
    · rename_i l' h'
      cases h
      rw [dropAt_eq h']; rfl
    · cases h
theorem sublist_flatMap {α β : Type _} {f : α → List β} {l l' : List α} (h : l.Sublist l') : (l.flatMap f).Sublist (l'.flatMap f) := by
  induction h with
  | slnil => exact List.Sublist.refl _
  | cons a _ ih => simp only [List.flatMap_cons]; exact ih.trans (List.sublist_append_right _ _)
  | cons_cons a _ ih => simp only [List.flatMap_cons]; exact (List.Sublist.refl _).append ih
def _root_.Go.Ai.Store.add (z : Store) (b : Nat) (x : ABlk) : Store := fun k => if k = b then some x else z k
theorem add_le {z : Store} {b : Nat} {x : ABlk} (h : z b = none) : z.le (z.add b x) := fun k y hk => by
  unfold Store.add
  rw [if_neg (fun e => by subst e; rw [h] at hk; cases hk)]; exact hk
theorem add_at {z : Store} {b : Nat} {x : ABlk} : z.add b x b = some x := by unfold Store.add; rw [if_pos rfl]
theorem add_ne {z : Store} {b k : Nat} {x : ABlk} (h : k ≠ b) : z.add b x k = z k := by unfold Store.add; rw [if_neg h]
section
variable {C : Ctx} {T : Tab} {d : Option (List Nat)} {ops rest : List Oper} {Γ : Env} {L : Own} {Q : AFrame → AHeap → Prop} {P : AExit → AFrame → AHeap → Prop} {o : Oper} {t : Nat} {z : Store} {fr : AFrame} {h : AHeap}
theorem StZ.next_none (s : StZ C Γ L z fr h) : z h.next = none := by
  cases e : z h.next with
  | none => rfl
  | some x => exact absurd (s.sub _ _ e).2 (Nat.lt_irrefl _)
theorem StZ.upd (s : StZ C Γ L z fr h) {k : Nat} {v v' : AVal} {ob ob' : Obj} {b : Nat} (hk : L[k]? = some (v, ob)) (hb : blkE (v, ob) = [b]) (hb' : blkE (v', ob') = [b]) (x : ABlk) (ho : ob'.ok z (h.set b x) v') {L' : Own} (hL : setAt L k (v', ob') = some L') : StZ C Γ L' z fr (h.set b x) := by
  obtain ⟨rfl, hlt⟩ := setAt_eq hL
  obtain ⟨o1, o2, o3⟩ := s.own.out _ (List.mem_of_getElem? hk) b (by rw [hb]; simp)
  have cases_ : ∀ p ∈ L.set k (v', ob'), p = (v', ob') ∨ ∃ j, j ≠ k ∧ L[j]? = some p := by
    intro p hp
    obtain ⟨j, hj, e⟩ := List.getElem_of_mem hp
    rw [List.getElem_set] at e
    by_cases q : k = j
    · rw [if_pos q] at e; exact .inl e.symm
    · rw [if_neg q] at e; exact .inr ⟨j, Ne.symm q, by rw [← e]; exact List.getElem?_eq_getElem _⟩
  refine { zle := s.zle, sub := ?_, old := s.old, fr := s.fr, own := ⟨?_, ?_, ?_⟩, chg := ⟨s.chg.next, ?_, ?_, ?_⟩ }
  · intro c y hc
    obtain ⟨h1, h2⟩ := s.sub c y hc
    refine ⟨?_, h2⟩
    rw [AHeap.get_set, if_neg (fun e => by subst e; rw [o1] at hc; cases hc)]; exact h1
  · intro p hp
    rcases cases_ p hp with rfl | ⟨j, hj, hjp⟩
    · exact ho
    · refine Obj.ok_mono (.refl _) (fun c hc => ?_) (s.own.ok p (List.mem_of_getElem? hjp))
      rw [AHeap.get_set, if_neg]
      intro e
      subst e
      exact hj (blks_apart s.own.nodup hjp hk hc (by rw [hb]; simp))
  · intro p hp
    rcases cases_ p hp with rfl | ⟨j, hj, hjp⟩
    · intro c hc; rw [hb', List.mem_singleton] at hc; subst hc; exact ⟨o1, o2, o3⟩
    · exact s.own.out p (List.mem_of_getElem? hjp)
  · have key : ∀ (L : Own) (k : Nat), L[k]? = some (v, ob) → blks (L.set k (v', ob')) = blks L := by
      intro L
      induction L with
      | nil => intro k h; simp at h
      | cons p L ih =>
        intro k h
        cases k with
        | zero =>
          simp at h; subst h
          rw [List.set_cons_zero, blks_cons, blks_cons, hb, hb']
        | succ k =>
          have := ih k (by simpa using h)
          rw [List.set_cons_succ, blks_cons, blks_cons, this]
    rw [key L k hk]; exact s.own.nodup
  · intro c hc hB
    rw [AHeap.get_set, if_neg]
    · exact s.chg.same c hc hB
    · intro e; subst e
      rcases o3 with q | q
      · omega
      · exact hB q
  · intro m m1 m2 m3
    have := s.chg.wm m m1 m2 m3
    have hb' : m ≤ b := by
      rcases o3 with q | q
      · exact Nat.le_trans m2 q
      · exact m3 _ q
    show m ≤ min h.wm b
    omega
  · show min h.wm b ≤ h.next
    have := s.chg.ok; omega
theorem StZ.drop (s : StZ C Γ L z fr h) {k : Nat} {L' : Own} (hL : dropAt L k = some L') : StZ C Γ L' z fr h := by
  have := dropAt_eq hL
  subst this
  have hs : (L.eraseIdx k).Sublist L := List.eraseIdx_sublist L k
  refine { s with own := ⟨fun p hp => s.own.ok p (hs.subset hp), fun p hp => s.own.out p (hs.subset hp), ?_⟩ }
  exact List.Nodup.sublist (sublist_flatMap hs) s.own.nodup
theorem dropAt_perm : ∀ {L L' : Own} {k : Nat} {e : AVal × Obj}, L[k]? = some e → dropAt L k = some L' → (e :: L').Perm L
  | [], _, _, _, h, _ => by simp at h
  | p :: l, _, 0, e, h, h' => by simp at h; cases h'; subst h; exact .refl _
  | p :: l, _, n + 1, e, h, h' => by
    simp only [dropAt] at h'
    split at h'
    · rename_i l' h2
      cases h'
      exact (List.Perm.swap p e l').trans ((dropAt_perm (by simpa using h) h2).cons p)
    · cases h'
theorem StZ.front (s : StZ C Γ L z fr h) {k : Nat} {e : AVal × Obj} {L' : Own} (hk : L[k]? = some e) (hL : dropAt L k = some L') : StZ C Γ (e :: L') z fr h := by
  have hp := dropAt_perm hk hL
  refine { s with own := ⟨fun p hp' => s.own.ok p (hp.mem_iff.1 hp'), fun p hp' => s.own.out p (hp.mem_iff.1 hp'), ?_⟩ }
  exact (List.Perm.flatMap_right _ hp).nodup_iff.2 s.own.nodup
theorem StZ.wild (s : StZ C Γ L z fr h) {b : Nat} (o1 : z b = none) (o2 : b < h.next) (o3 : C.h0.next ≤ b ∨ b ∈ C.B0) (hn : b ∉ blks L) (x : ABlk) : StZ C Γ L z fr (h.set b x) := by
  refine { zle := s.zle, sub := ?_, old := s.old, fr := s.fr, own := ⟨?_, s.own.out, s.own.nodup⟩, chg := ⟨s.chg.next, ?_, ?_, ?_⟩ }
  · intro c y hc
    obtain ⟨h1, h2⟩ := s.sub c y hc
    exact ⟨by rw [AHeap.get_set, if_neg (fun e => by subst e; rw [o1] at hc; cases hc)]; exact h1, h2⟩
  · intro p hp
    refine Obj.ok_mono (.refl _) (fun c hc => ?_) (s.own.ok p hp)
    rw [AHeap.get_set, if_neg]
    intro e; subst e
    exact hn (mem_blks.2 ⟨p, hp, hc⟩)
  · intro c hc hB
    rw [AHeap.get_set, if_neg]
    · exact s.chg.same c hc hB
    · intro e; subst e
      rcases o3 with q | q
      · omega
      · exact hB q
  · intro m m1 m2 m3
    have := s.chg.wm m m1 m2 m3
    have hb' : m ≤ b := by
      rcases o3 with q | q
      · exact Nat.le_trans m2 q
      · exact m3 _ q
    show m ≤ min h.wm b
    omega
  · show min h.wm b ≤ h.next
    have := s.chg.ok; omega
theorem StZ.push (s : StZ C Γ L z fr h) (x : ABlk) : StZ C Γ L (z.add h.next x) fr (h.push x) := by
  have hle : z.le (z.add h.next x) := add_le s.next_none
  refine { zle := s.zle.trans hle, sub := ?_, old := ?_, fr := s.fr.mono hle, own := ⟨?_, ?_, s.own.nodup⟩, chg := ⟨?_, ?_, s.chg.wm, ?_⟩ }
  · intro b y hb
    by_cases e : b = h.next
    · subst e
      rw [add_at] at hb; cases hb
      exact ⟨by rw [AHeap.get_push, if_pos rfl], by rw [AHeap.next_push]; omega⟩
    · rw [add_ne e] at hb
      obtain ⟨h1, h2⟩ := s.sub b y hb
      exact ⟨by rw [AHeap.get_push, if_neg e]; exact h1, by rw [AHeap.next_push]; omega⟩
  · intro b hb hB
    rw [add_ne (by have := s.chg.next; omega)]; exact s.old b hb hB
  · intro p hp
    refine Obj.ok_mono hle (fun b hb => ?_) (s.own.ok p hp)
    rw [AHeap.get_push, if_neg (by have := (s.own.out p hp b hb).2.1; omega)]
  · intro p hp b hb
    obtain ⟨o1, o2, o3⟩ := s.own.out p hp b hb
    exact ⟨by rw [add_ne (by omega)]; exact o1, by rw [AHeap.next_push]; omega, o3⟩
  · rw [AHeap.next_push]; have := s.chg.next; omega
  · intro b hb hB
    rw [AHeap.get_push, if_neg (by have := s.chg.next; omega)]; exact s.chg.same b hb hB
  · show h.wm ≤ h.next + 1
    have := s.chg.ok; omega
theorem StZ.pushOwn (s : StZ C Γ L z fr h) (x : ABlk) {v : AVal} {ob : Obj} (hv : blkE (v, ob) = [h.next]) (ho : ob.ok z (h.push x) v) : StZ C Γ ((v, ob) :: L) z fr (h.push x) := by
  refine { zle := s.zle, sub := ?_, old := s.old, fr := s.fr, own := ⟨?_, ?_, ?_⟩, chg := ⟨?_, ?_, s.chg.wm, ?_⟩ }
  · intro b y hb
    obtain ⟨h1, h2⟩ := s.sub b y hb
    exact ⟨by rw [AHeap.get_push, if_neg (by omega)]; exact h1, by rw [AHeap.next_push]; omega⟩
  · intro p hp
    rcases List.mem_cons.1 hp with rfl | hp
    · exact ho
    · refine Obj.ok_mono (.refl _) (fun b hb => ?_) (s.own.ok p hp)
      rw [AHeap.get_push, if_neg (by have := (s.own.out p hp b hb).2.1; omega)]
  · intro p hp b hb
    rcases List.mem_cons.1 hp with rfl | hp
    · rw [hv, List.mem_singleton] at hb; subst hb
      exact ⟨s.next_none, by rw [AHeap.next_push]; omega, .inl s.chg.next⟩
    · obtain ⟨o1, o2, o3⟩ := s.own.out p hp b hb
      exact ⟨o1, by rw [AHeap.next_push]; omega, o3⟩
  · rw [blks_cons, hv]
    refine List.nodup_cons.2 ⟨fun hm => ?_, s.own.nodup⟩
    obtain ⟨p, hp, hb⟩ := mem_blks.1 hm
    have := (s.own.out p hp _ hb).2.1
    omega
  · rw [AHeap.next_push]; have := s.chg.next; omega
  · intro b hb hB
    rw [AHeap.get_push, if_neg (by have := s.chg.next; omega)]; exact s.chg.same b hb hB
  · show h.wm ≤ h.next + 1
    have := s.chg.ok; omega
theorem StZ.nilrow {A : Type} (R : Rep A) (s : StZ C Γ L z fr h) : StZ C Γ ((.nilslice, .row R []) :: L) z fr h := by
  refine { s with own := ⟨fun p hp => ?_, fun p hp b hb => ?_, ?_⟩ }
  · rcases List.mem_cons.1 hp with rfl | hp
    · exact ⟨by simp [maxLen], .inl ⟨rfl, rfl⟩⟩
    · exact s.own.ok p hp
  · rcases List.mem_cons.1 hp with rfl | hp
    · simp [blkE, blkO] at hb
    · exact s.own.out p hp b hb
  · rw [blks_cons]; exact s.own.nodup
def holdAll (ts : List Nat) (e : TE) (Γ : Env) : Env := match ts with
  | [] => Γ
  | t :: ts => (t, e) :: holdAll ts e Γ
def AllRaw (Γ : Env) (v : AVal) : List Nat → Prop
  | [] => True
  | t :: ts => look Γ t = some (.raw v) ∧ AllRaw Γ v ts
theorem holdAll_ok {e : TE} {v : AVal} (he : e.ok z v) : ∀ {ts : List Nat}, AllRaw Γ v ts → FrOk z Γ fr → FrOk z (holdAll ts e Γ) fr
  | [], _, hf => hf
  | t :: ts, ⟨h1, h2⟩, hf => by
    have ih := holdAll_ok he h2 hf
    intro t' e' hl
    simp only [holdAll, look] at hl
    cases hb : Nat.beq t t' with
    | true =>
      rw [hb] at hl
      have := Nat.eq_of_beq_eq_true hb
      subst this
      cases hl
      have := hf _ _ h1
      simp only [TE.ok] at this
      rw [this]; exact he
    | false => rw [hb] at hl; exact ih t' e' hl
theorem StZ.freeze {A : Type} {R : Rep A} {xs : List A} {v : AVal} (s : StZ C Γ L z fr h) {k : Nat} {L' : Own} (hk : L[k]? = some (v, .row R xs)) (hL : dropAt L k = some L') : ∃ z', z.le z' ∧ StZ C Γ L' z' fr h ∧ RowAt R z' v xs := by
  have ho := s.own.ok _ (List.mem_of_getElem? hk)
  simp only [Obj.ok] at ho
  rcases ho.2 with ⟨q, rfl⟩ | ⟨b, off, cap, cells, rfl, h2, h3, h4, h5⟩
  · exact ⟨z, .refl _, s.drop hL, by rw [q]; exact row_nil⟩
  · obtain ⟨o1, o2, o3⟩ := s.own.out _ (List.mem_of_getElem? hk) b (by simp [blkE, blkO])
    have hle : z.le (z.add b (.arr cells false)) := add_le o1
    have s' := s.drop hL
    have hne : ∀ p ∈ L', ∀ c, c ∈ blkE p → c ≠ b := by
      intro p hp c hc e
      subst e
      rw [dropAt_eq hL] at hp
      obtain ⟨j, hj, hjp⟩ := List.getElem_of_mem hp
      have hj' : (L.eraseIdx k)[j]? = some p := by rw [← hjp]; exact List.getElem?_eq_getElem _
      rw [List.getElem?_eraseIdx] at hj'
      split at hj'
      · have := blks_apart s.own.nodup hj' hk hc (by simp [blkE, blkO]); omega
      · have := blks_apart s.own.nodup hj' hk hc (by simp [blkE, blkO]); omega
    refine ⟨z.add b (.arr cells false), hle, { zle := s.zle.trans hle, sub := ?_, old := ?_, fr := s.fr.mono hle, own := ⟨fun p hp => Obj.ok_mono hle (fun _ _ => rfl) (s'.own.ok p hp), fun p hp c hc => ?_, s'.own.nodup⟩, chg := s.chg }, ?_⟩
    · intro c y hc
      by_cases e : c = b
      · subst e; rw [add_at] at hc; cases hc; exact ⟨h2, o2⟩
      · rw [add_ne e] at hc; exact s.sub c y hc
    · intro c hc hB
      rw [add_ne]
      · exact s.old c hc hB
      · intro e; subst e
        rcases o3 with q | q
        · omega
        · exact hB q
    · obtain ⟨q1, q2, q3⟩ := s'.own.out p hp c hc
      exact ⟨by rw [add_ne (hne p hp c hc)]; exact q1, q2, q3⟩
    · exact ⟨ho.1, .inr (.inr ⟨b, off, cap, cells, false, rfl, add_at, h3, fun c hc => (h4 c hc).1, fun i x hx => R.mono _ _ _ _ hle (h5 i x hx)⟩)⟩
end
end Go.Ai.Sx

/- Symbolic runs of the abstract interpreter: operations that write. -/
namespace Go.Ai.Sx
structure Ty (T : Tab) (et : TypeId) {A : Type} (R : Rep A) (bytes : Nat) : Prop where
  info : ∃ i, T.types.get et = some i ∧ i.bytes = bytes ∧ i.size = R.sz
  zero : ∃ zv, zeroT T et = some zv ∧ zv.cells.length = R.sz
  pos : 0 < R.sz
structure Zr (T : Tab) (et : TypeId) {A : Type} (R : Rep A) (x : A) : Prop where
  zero : ∃ zv, zeroT T et = some zv ∧ ∀ z, TV R z zv x
section
variable {C : Ctx} {T : Tab} {d : Option (List Nat)} {ops rest : List Oper} {Γ : Env} {L : Own} {Q : AFrame → AHeap → Prop} {P : AExit → AFrame → AHeap → Prop} {o : Oper} {t : Nat} {z : Store} {fr : AFrame} {h : AHeap}
theorem r_st {c : Code} {Γ' : Env} {L' : Own} (q : ∀ z fr h, StZ C Γ L z fr h → ∃ z', z.le z' ∧ StZ C Γ' L' z' fr h) (r : SRun C T c Γ' L' P) : SRun C T c Γ L P := fun fr h ⟨z, s⟩ => by
  obtain ⟨z', _, s'⟩ := q z fr h s
  exact r fr h ⟨z', s'⟩
theorem st_nilrow {A : Type} (R : Rep A) : ∀ z fr h, StZ C Γ L z fr h → ∃ z', z.le z' ∧ StZ C Γ ((.nilslice, .row R []) :: L) z' fr h := fun z _ _ s => ⟨z, .refl _, s.nilrow R⟩
theorem st_freeze {A : Type} {R : Rep A} {xs : List A} {v : AVal} (k : Nat) (ts : List Nat) {L' : Own} (hk : L[k]? = some (v, .row R xs)) (hL : dropAt L k = some L') (hts : AllRaw Γ v ts) : ∀ z fr h, StZ C Γ L z fr h → ∃ z', z.le z' ∧ StZ C (holdAll ts (.val (rSlice R) xs) Γ) L' z' fr h := by
  intro z fr h s
  obtain ⟨z', hz, s', hr⟩ := s.freeze hk hL
  exact ⟨z', hz, { s' with fr := holdAll_ok (by simp only [TE.ok]; exact tv_slice_mk hr) hts s'.fr }⟩
theorem s_mem {t : Nat} {e : TE} {L' : Own} (hrd : Rd C d ops rest Γ L o) (hft : ∀ z fr h, StZ C Γ L z fr h → FootOk z h (foot fr.op o)) (hw : Want ops Γ true o.guard) (hd : o.dst = some t) (H : ∀ z fr h, StZ C Γ L z fr h → ∃ v h' z', aop T fr.op h o.op = some (.val v h') ∧ z.le z' ∧ StZ C Γ L' z' fr h' ∧ e.ok z' v) (r : SOps C T d ops rest ((t, e) :: Γ) L' Q) : SOps C T d ops (o :: rest) Γ L Q :=
  step_val hw hrd fun z fr h s => by
    obtain ⟨v, h', z', h1, hz, h2, h3⟩ := H z fr h s
    exact ⟨v, h', z', _, _, h1, hft z fr h s, hz, by rw [hd, put_some]; exact h2.set h3, r⟩
theorem s_memv {t : Nat} {e : AVal → TE} {L' : AVal → Own} (hrd : Rd C d ops rest Γ L o) (hft : ∀ z fr h, StZ C Γ L z fr h → FootOk z h (foot fr.op o)) (hw : Want ops Γ true o.guard) (hd : o.dst = some t) (H : ∀ z fr h, StZ C Γ L z fr h → ∃ v h' u, aop T fr.op h o.op = some (.val v h') ∧ StZ C Γ (L' u) z fr h' ∧ (e u).ok z v) (r : ∀ u, SOps C T d ops rest ((t, e u) :: Γ) (L' u) Q) : SOps C T d ops (o :: rest) Γ L Q :=
  step_val hw hrd fun z fr h s => by
    obtain ⟨v, h', u, h1, h2, h3⟩ := H z fr h s
    exact ⟨v, h', z, _, _, h1, hft z fr h s, .refl _, by rw [hd, put_some]; exact h2.set h3, r u⟩
theorem s_memn {L' : Own} (hrd : Rd C d ops rest Γ L o) (hft : ∀ z fr h, StZ C Γ L z fr h → FootOk z h (foot fr.op o)) (hw : Want ops Γ true o.guard) (hd : o.dst = none) (H : ∀ z fr h, StZ C Γ L z fr h → ∃ v h', aop T fr.op h o.op = some (.val v h') ∧ StZ C Γ L' z fr h') (r : SOps C T d ops rest Γ L' Q) : SOps C T d ops (o :: rest) Γ L Q :=
  step_val hw hrd fun z fr h s => by
    obtain ⟨v, h', h1, h2⟩ := H z fr h s
    exact ⟨v, h', z, _, _, h1, hft z fr h s, .refl _, by rw [hd, put_none]; exact h2, r⟩
theorem splice_len {cells vs : List AVal} {off : Nat} (h : off + vs.length ≤ cells.length) : (splice cells off vs).length = cells.length := by
  unfold splice; simp; omega
theorem splice_piece {cells vs : List AVal} {off p n : Nat} (h : off + vs.length ≤ cells.length) (hd : p + n ≤ off ∨ off + vs.length ≤ p) : ((splice cells off vs).drop p).take n = (cells.drop p).take n := by
  apply List.ext_getElem?
  intro i
  unfold splice
  simp only [List.getElem?_take, List.getElem?_drop, List.getElem?_append, List.length_append, List.length_take]
  repeat' split
  all_goals (try omega)
  all_goals (first | rfl | (congr 1; omega))
theorem splice_in {cells vs : List AVal} {off p n k : Nat} (h : off + n ≤ cells.length) (hp : p = off + k) (hk : k + vs.length ≤ n) : ((splice cells p vs).drop off).take n = ((cells.drop off).take n).take k ++ vs ++ ((cells.drop off).take n).drop (k + vs.length) := by
  subst hp
  apply List.ext_getElem?
  intro i
  unfold splice
  simp only [List.getElem?_take, List.getElem?_drop, List.getElem?_append, List.length_append, List.length_take, List.length_drop]
  repeat' split
  all_goals (try omega)
  all_goals (first | rfl | (congr 1; omega) | (rw [List.getElem?_eq_none (by omega)]) | (symm; rw [List.getElem?_eq_none (by omega)]))
theorem mul_apart {i j m : Nat} (h : i ≠ j) : i * m + m ≤ j * m ∨ j * m + m ≤ i * m := by
  rcases Nat.lt_or_gt_of_ne h with q | q
  · left; have := Nat.mul_le_mul_right m (show i + 1 ≤ j from q); rw [Nat.add_mul] at this; omega
  · right; have := Nat.mul_le_mul_right m (show j + 1 ≤ i from q); rw [Nat.add_mul] at this; omega
theorem s_storeo {A B : Type} {R : Rep A} {S : Rep B} {g : A → B} {w : A → B → A} {x y : Operand} {et : TypeId} {a : A} {b : B} {xs : List A} {v : AVal} {i off : Nat} (k : Nat) (hu : Und T et S) (hf : FOk R off S g w) (hi : xs[i]? = some a) (hw : Want ops Γ true o.guard) (ho : o.op = .store et x y) (hd : o.dst = none)
    (hx : Opd Γ x (.elt v i off)) (hy : Opd Γ y (.val S b)) (hk : L[k]? = some (v, .row R xs)) {L' : Own} (hL : setAt L k (v, .row R (xs.set i (w a b))) = some L') (r : SOps C T d ops rest Γ L' Q) : SOps C T d ops (o :: rest) Γ L Q := by
  have hfo : ∀ z fr h, StZ C Γ L z fr h → foot fr.op o = ⟨[], false, blkOf (fr.op x), false⟩ := fun z fr h s => by unfold foot; rw [ho]
  refine s_memn (.w (by rw [ho]; rfl) (fun t a q => by rw [ho] at q; cases q) (by rw [ho]; rfl)) (fun z fr h s => by
    rw [hfo z fr h s]
    refine ⟨fun b hb => (nomatch hb), fun b hb => ?_⟩
    have hp := hx.ok s.fr
    simp only [TE.ok] at hp
    obtain ⟨bb, oo, len, es, cap, q, hp⟩ := hp
    rw [hp] at hb
    refine own_none s hk rfl b ?_
    subst q
    simpa [blkOf] using hb) hw hd (fun z fr h s => ?_) r
  have hr := s.own.ok _ (List.mem_of_getElem? hk)
  simp only [Obj.ok] at hr
  have hp := hx.ok s.fr
  simp only [TE.ok] at hp
  obtain ⟨bb, oo, len, es, cap, rfl, hp⟩ := hp
  have hval := hy.val s.fr
  rcases hr.2 with ⟨q, _⟩ | ⟨b', off', cap', cells, q, h2, h3, h4, h5⟩
  · cases q
  · cases q
    have h6 := row_cells h3 hi
    have hfit := hf.fit
    have hlen := S.len _ _ _ hval.rel
    have hin : oo + i * R.sz + off + (fr.op y).cells.length ≤ cells.length := by omega
    refine ⟨.tuple [], h.set bb (.arr (splice cells (oo + i * R.sz + off) (fr.op y).cells) false), ?_, s.upd hk rfl rfl _ ?_ hL⟩
    · rw [ho]
      simp only [aop, hp, astore, h2, hu.sz]
      rw [if_pos (by exact ⟨hlen, by omega, S.ones _ _ _ hval.rel⟩)]
      rfl
    · simp only [Obj.ok]
      refine ⟨by rw [List.length_set]; exact hr.1, .inr ⟨bb, oo, cap, splice cells (oo + i * R.sz + off) (fr.op y).cells, by rw [List.length_set], by rw [AHeap.get_set, if_pos rfl], by rw [splice_len hin, List.length_set]; exact h3, by rw [splice_len hin, List.length_set]; exact h4, fun j u hj => ?_⟩⟩
      rw [List.getElem?_set] at hj
      by_cases q : i = j
      · subst q
        rw [if_pos rfl, if_pos (List.getElem?_eq_some_iff.1 hi).1] at hj
        cases hj
        rw [splice_in (k := off) h6 rfl (by omega), hlen]
        exact hf.set _ _ _ _ _ (h5 _ _ hi) hval.rel
      · rw [if_neg q] at hj
        rw [splice_piece hin]
        · exact h5 _ _ hj
        · have := mul_apart (m := R.sz) q; omega
theorem copies_len (n : Nat) (zc : List AVal) : (copies n zc).length = n * zc.length := by
  induction n with
  | zero => simp [copies]
  | succ n ih => simp only [copies, List.length_append, ih, Nat.add_mul]; omega
theorem copies_piece {n i : Nat} (zc : List AVal) (h : i < n) : ((copies n zc).drop (i * zc.length)).take zc.length = zc := by
  induction n generalizing i with
  | zero => omega
  | succ n ih =>
    simp only [copies]
    cases i with
    | zero => simp
    | succ i =>
      rw [List.drop_append, List.drop_eq_nil_of_le (by rw [Nat.add_mul]; omega), List.nil_append, Nat.add_mul, Nat.one_mul, Nat.add_sub_cancel]
      exact ih (by omega)
inductive Elts (Γ : Env) {A : Type} (R : Rep A) : Nat → List (Nat × Operand) → List A → Prop where
  | n {i : Nat} : Elts Γ R i [] []
  | c {i : Nat} {x : Operand} {a : A} {ps : List (Nat × Operand)} {as : List A} (h : Opd Γ x (.val R a)) (r : Elts Γ R (i + 1) ps as) : Elts Γ R i ((i, x) :: ps) (a :: as)
theorem elts_fill {A : Type} {R : Rep A} {ps : List (Nat × Operand)} {as : List A} {i : Nat} (e : Elts Γ R i ps as) (hf : FrOk z Γ fr) (hp : 0 < R.sz) : ∀ (cells : List AVal), cells.length = (i + as.length) * R.sz →
    ∃ cells', afill (fun i => some (i * R.sz, R.sz)) cells (evParts fr.op ps) = some cells' ∧ cells'.length = cells.length ∧ (∀ j, j < i → (cells'.drop (j * R.sz)).take R.sz = (cells.drop (j * R.sz)).take R.sz) ∧
      ∀ j a, as[j]? = some a → R.rel z ((cells'.drop ((i + j) * R.sz)).take R.sz) a := by
  induction e with
  | n => intro cells _; exact ⟨cells, rfl, rfl, fun _ _ => rfl, by simp⟩
  | @c i x a ps as hx _ ih =>
    intro cells hl
    have hv := hx.val hf
    have hlen := R.len _ _ _ hv.rel
    simp only [List.length_cons] at hl
    have hin : i * R.sz + (fr.op x).cells.length ≤ cells.length := by
      rw [hl, hlen]
      have := Nat.mul_le_mul_right R.sz (show i + 1 ≤ i + (as.length + 1) by omega)
      rw [Nat.add_mul] at this; omega
    have hdef : (fr.op x).defd = true := by
      have := R.ones _ _ _ hv.rel
      cases hq : fr.op x <;> rw [hq] at this <;> simp_all [AVal.defd, AVal.cells, AVal.one]
    obtain ⟨c', h1, h2, h3, h4⟩ := ih (splice cells (i * R.sz) (fr.op x).cells) (by rw [splice_len hin, hl]; congr 1; omega)
    refine ⟨c', ?_, by rw [h2, splice_len hin], fun j hj => ?_, fun j a' hj => ?_⟩
    · simp only [evParts, List.map, afill]
      rw [if_pos ⟨hdef, hlen, hin⟩]
      exact h1
    · rw [h3 j (by omega), splice_piece hin]
      have := mul_apart (m := R.sz) (show i ≠ j by omega)
      have := Nat.mul_le_mul_right R.sz (show j + 1 ≤ i from hj)
      rw [Nat.add_mul] at this
      omega
    · cases j with
      | zero =>
        simp at hj; subst hj
        rw [Nat.add_zero, h3 i (by omega), splice_in (n := R.sz) (k := 0) (by omega) (Nat.add_zero _).symm (by omega)]
        have : ((cells.drop (i * R.sz)).take R.sz).drop (0 + (fr.op x).cells.length) = [] := List.drop_eq_nil_of_le (by rw [List.length_take]; omega)
        rw [this]
        simpa using hv.rel
      | succ j =>
        have := h4 j a' (by simpa using hj)
        rw [show i + (j + 1) = i + 1 + j by omega]; exact this
theorem bs_of {A : Type} {R : Rep A} {bytes : Nat} {st et : TypeId} {n : Nat} {parts : Array (Nat × Operand)} {as : List A} (hsl : Sl T st et R) (hty : Ty T et R bytes) (he : Elts Γ R 0 parts.toList as) (hn : as.length = n) (hb : n * R.sz ≤ 2 ^ 24) (hf : FrOk z Γ fr) :
    ∃ cells, aop T fr.op h (.buildSlice st n parts) = some (.val (.slice h.next 0 n R.sz (some n)) (h.push (.arr cells false))) ∧ cells.length = n * R.sz ∧ ∀ i x, as[i]? = some x → R.rel z ((cells.drop (i * R.sz)).take R.sz) x := by
  obtain ⟨zv, h1, h2⟩ := hty.zero
  obtain ⟨cells, h3, h4, _, h5⟩ := elts_fill he hf hty.pos (copies n zv.cells) (by rw [copies_len, h2, ← hn]; simp)
  refine ⟨cells, ?_, by rw [h4, copies_len, h2], fun i x hx => by simpa using h5 i x hx⟩
  simp only [aop, abuildSlice, hsl.und, hsl.sz, Option.getD_some, amakeRow, h1]
  rw [if_neg (by omega), if_neg (by have := hty.pos; omega), if_pos h2, h3]
  rfl
theorem s_bs {A : Type} {R : Rep A} {bytes : Nat} {st et : TypeId} {n : Nat} {parts : Array (Nat × Operand)} {as : List A} (hsl : Sl T st et R) (hty : Ty T et R bytes) (hw : Want ops Γ true o.guard) (ho : o.op = .buildSlice st n parts) (hd : o.dst = some t) (he : Elts Γ R 0 parts.toList as) (hn : as.length = n) (hb : n * R.sz ≤ 2 ^ 24)
    (r : SOps C T d ops rest ((t, .val (rSlice R) as) :: Γ) L Q) : SOps C T d ops (o :: rest) Γ L Q := by
  refine s_mem (nf (by rw [ho]; rfl)) (fun _ _ _ _ => nfo (by rw [ho]; rfl)) hw hd (fun z fr h s => ?_) r
  obtain ⟨cells, h1, h2, h3⟩ := bs_of (h := h) hsl hty he hn hb s.fr
  refine ⟨_, _, z.add h.next (.arr cells false), by rw [ho]; exact h1, add_le s.next_none, s.push _, ?_⟩
  simp only [TE.ok]
  refine tv_slice_mk ⟨?_, .inr (.inr ⟨h.next, 0, _, cells, false, by rw [hn], add_at, by rw [hn]; omega, fun c hc => by cases hc; omega, fun i x hx => ?_⟩)⟩
  · have := Nat.mul_le_mul_left as.length hty.pos
    rw [hn] at this ⊢
    simp only [maxLen]; omega
  · rw [Nat.zero_add]; exact R.mono _ _ _ _ (add_le s.next_none) (h3 i x hx)
theorem s_bso {A : Type} {R : Rep A} {bytes : Nat} {st et : TypeId} {n : Nat} {parts : Array (Nat × Operand)} {as : List A} (hsl : Sl T st et R) (hty : Ty T et R bytes) (hw : Want ops Γ true o.guard) (ho : o.op = .buildSlice st n parts) (hd : o.dst = some t) (he : Elts Γ R 0 parts.toList as) (hn : as.length = n) (hb : n * R.sz ≤ 2 ^ 24)
    (r : ∀ v, SOps C T d ops rest ((t, .raw v) :: Γ) ((v, .row R as) :: L) Q) : SOps C T d ops (o :: rest) Γ L Q := by
  refine s_memv (e := fun v => .raw v) (L' := fun v => (v, .row R as) :: L) (nf (by rw [ho]; rfl)) (fun _ _ _ _ => nfo (by rw [ho]; rfl)) hw hd (fun z fr h s => ?_) r
  obtain ⟨cells, h1, h2, h3⟩ := bs_of (h := h) hsl hty he hn hb s.fr
  refine ⟨_, _, .slice h.next 0 n R.sz (some n), by rw [ho]; exact h1, s.pushOwn _ rfl ?_, by simp only [TE.ok]⟩
  simp only [Obj.ok]
  refine ⟨?_, .inr ⟨h.next, 0, _, cells, by rw [hn], by rw [AHeap.get_push, if_pos rfl], by rw [hn]; omega, fun c hc => by cases hc; omega, fun i x hx => ?_⟩⟩
  · have := Nat.mul_le_mul_left as.length hty.pos
    rw [hn] at this ⊢
    simp only [maxLen]; omega
  · rw [Nat.zero_add]; exact h3 i x hx
def mkO {A : Type} (bytes : Nat) (n : Int) (x : A) : Option (List A) := if 0 ≤ n ∧ (bytes : Int) * n ≤ 2 ^ 47 ∧ n ≤ 2 ^ 62 then some (List.replicate n.toNat x) else none
theorem s_mk {A : Type} {R : Rep A} {bytes : Nat} {st et : TypeId} {x : A} {l c : Operand} {n : Int} {xs : List A} (hsl : Sl T st et R) (hty : Ty T et R bytes) (hz : Zr T et R x) (hm : mkO bytes n x = some xs) (hw : Want ops Γ true o.guard) (ho : o.op = .makeSlice st l c) (hd : o.dst = some t) (hl : Opd Γ l (.val (rInt .i64) n)) (hc : Opd Γ c (.val (rInt .i64) n))
    (r : ∀ v, SOps C T d ops rest ((t, .raw v) :: Γ) ((v, .row R xs) :: L) Q) : SOps C T d ops (o :: rest) Γ L Q := by
  unfold mkO at hm
  split at hm
  case isFalse => cases hm
  cases hm
  rename_i hcond
  refine s_memv (e := fun v => .raw v) (L' := fun v => (v, .row R _) :: L) (nf (by rw [ho]; rfl)) (fun _ _ _ _ => nfo (by rw [ho]; rfl)) hw hd (fun z fr h s => ?_) r
  obtain ⟨i, h1, h2, h3⟩ := hty.info
  obtain ⟨zv, h4, h5⟩ := hz.zero
  have h5 := h5 z
  have hlen := R.len _ _ _ h5.rel
  refine ⟨.slice h.next 0 n.toNat R.sz (some n.toNat), h.push (.arr (copies n.toNat zv.cells) false), .slice h.next 0 n.toNat R.sz (some n.toNat), ?_, s.pushOwn _ rfl ?_, by simp only [TE.ok]⟩
  · rw [ho]
    simp only [aop, hl.int s.fr, hc.int s.fr, amakeSlice, hsl.und, h1, h2]
    rw [if_pos ⟨hcond.1, Int.le_refl _, by simpa using hcond.2⟩]
    simp only [amakeRow, hsl.sz, h4]
    rw [if_neg (by have := hty.pos; omega), if_pos hlen]
    rfl
  · simp only [Obj.ok]
    have hcl : (copies n.toNat zv.cells).length = n.toNat * R.sz := by rw [copies_len, hlen]
    refine ⟨by rw [List.length_replicate]; simp only [maxLen]; omega, .inr ⟨h.next, 0, _, copies n.toNat zv.cells, by rw [List.length_replicate], by rw [AHeap.get_push, if_pos rfl], by rw [List.length_replicate]; omega, fun c hc => by cases hc; rw [List.length_replicate]; omega, fun i x' hx => ?_⟩⟩
    have hi := (List.getElem?_eq_some_iff.1 hx).1
    rw [List.length_replicate] at hi
    rw [List.getElem?_replicate, if_pos hi] at hx
    cases hx
    rw [Nat.zero_add, ← hlen, copies_piece _ hi]
    exact h5.rel
def appO {A : Type} (bytes : Nat) (xs ys : List A) : Option (List A) := if (xs.length + ys.length) * bytes ≤ 2 ^ 46 ∧ xs.length + ys.length ≤ 2 ^ 62 then some (xs ++ ys) else none
theorem row_news {A : Type} {R : Rep A} {v : AVal} {ys : List A} (hr : RowAt R z v ys) (hsub : z.Sub h) : lenOf v = ys.length ∧ ∃ news, arow R.sz ys.length v h = some news ∧ news.length = ys.length * R.sz ∧ news.all AVal.one = true ∧ ∀ i y, ys[i]? = some y → R.rel z ((news.drop (i * R.sz)).take R.sz) y := by
  rcases hr.2 with ⟨rfl, rfl⟩ | ⟨b, off, cap, rfl, rfl, hg⟩ | ⟨b, off, cap, cells, ro, rfl, hg, hl, hcap, hx⟩
  · exact ⟨rfl, [], rfl, by simp, rfl, by simp⟩
  · exact ⟨rfl, [], by simp only [arow]; rfl, by simp, rfl, by simp⟩
  · refine ⟨rfl, (cells.drop off).take (ys.length * R.sz), ?_, by simp; omega, ?_, fun i y hy => ?_⟩
    · simp only [arow, (hsub _ _ hg).1]
      by_cases h0 : ys.length = 0
      · rw [if_pos h0, if_pos trivial, h0]; simp
      · rw [if_neg h0, if_pos (by exact ⟨by trivial, Nat.le_refl _⟩), if_pos hl]
    · refine List.all_eq_true.2 fun c hc => ?_
      obtain ⟨j, hj, rfl⟩ := List.getElem_of_mem hc
      simp only [List.length_take, List.length_drop] at hj
      have hsz : 0 < R.sz := by
        rcases Nat.eq_zero_or_pos R.sz with q | q
        · rw [q] at hj; omega
        · exact q
      have hi : j / R.sz < ys.length := by rw [Nat.div_lt_iff_lt_mul hsz]; omega
      have h1 := R.ones _ _ _ (hx _ _ (List.getElem?_eq_getElem hi))
      rw [List.all_eq_true] at h1
      refine h1 _ (List.mem_of_getElem? (i := j % R.sz) ?_)
      have hm := Nat.mod_lt j hsz
      have e := Nat.div_add_mod j R.sz
      rw [Nat.mul_comm] at e
      rw [List.getElem?_take, if_pos hm, List.getElem?_drop, Nat.add_assoc, e]
      simp
    · have h1 := hx i y hy
      have h2 := row_cells (off := 0) (i := i) (R := R) (cells := (cells.drop off).take (ys.length * R.sz)) (by simp; omega) hy
      rw [List.drop_take, List.take_take, List.drop_drop, Nat.min_eq_left]
      · exact h1
      · simp at h2; omega
theorem piece_app {l m : List AVal} {p n : Nat} (h : p + n ≤ l.length) : ((l ++ m).drop p).take n = (l.drop p).take n := by
  apply List.ext_getElem?
  intro i
  simp only [List.getElem?_take, List.getElem?_drop, List.getElem?_append]
  repeat' split
  all_goals (first | rfl | omega)
theorem piece_app' {l m : List AVal} {p n : Nat} (h : l.length ≤ p) : ((l ++ m).drop p).take n = (m.drop (p - l.length)).take n := by
  apply List.ext_getElem?
  intro i
  simp only [List.getElem?_take, List.getElem?_drop, List.getElem?_append]
  repeat' split
  all_goals (first | rfl | omega | (congr 1; omega))
theorem grown_ok {A : Type} {R : Rep A} {xs ys : List A} {old news : List AVal} (ho : old.length = xs.length * R.sz) (hn : news.length = ys.length * R.sz) (h1 : ∀ (i : Nat) (x : A), xs[i]? = some x → R.rel z ((old.drop (i * R.sz)).take R.sz) x) (h2 : ∀ (i : Nat) (y : A), ys[i]? = some y → R.rel z ((news.drop (i * R.sz)).take R.sz) y) :
    ∀ (i : Nat) (x : A), (xs ++ ys)[i]? = some x → R.rel z (((old ++ news).drop (i * R.sz)).take R.sz) x := by
  intro i x hi
  rw [List.getElem?_append] at hi
  split at hi
  · rename_i q
    rw [piece_app]
    · exact h1 i x hi
    · rw [ho]; have := Nat.mul_le_mul_right R.sz (show i + 1 ≤ xs.length from q); rw [Nat.add_mul] at this; omega
  · rename_i q
    have hq : xs.length * R.sz ≤ i * R.sz := Nat.mul_le_mul_right _ (by omega)
    rw [piece_app' (by omega), ho, ← Nat.sub_mul]
    exact h2 _ x hi
theorem s_app {A : Type} {R : Rep A} {bytes : Nat} {x y : Operand} {c : Call} {st et : TypeId} {v : AVal} {xs ys zs : List A} (k : Nat) (hsl : Sl T st et R) (hty : Ty T et R bytes) (hap : appO bytes xs ys = some zs) (hw : Want ops Γ true o.guard) (ho : o.op = .call c) (hd : o.dst = some t) (hc : c.callee = .builtin .append) (ha : c.args.toList = [x, y]) (hat : c.argTypes.toList = [st, st])
    (hx : Opd Γ x (.raw v)) (hk : L[k]? = some (v, .row R xs)) (hy : Opd Γ y (.val (rSlice R) ys)) {L' : Own} (hL : dropAt L k = some L') (r : ∀ v', SOps C T d ops rest ((t, .raw v') :: Γ) ((v', .row R zs) :: L') Q) : SOps C T d ops (o :: rest) Γ L Q := by
  unfold appO at hap
  split at hap
  case isFalse => cases hap
  cases hap
  rename_i hcond
  obtain ⟨hcb, hcl⟩ := hcond
  refine s_memv (e := fun v' => .raw v') (L' := fun v' => (v', .row R (xs ++ ys)) :: L') (.w (by rw [ho]; simp only [noFoot, hc]) (fun t a q => by rw [ho] at q; cases q) (by rw [ho]; simp only [isLen, hc])) (fun z fr h s => by
    rw [show foot fr.op o = ⟨((c.args.toList.map fr.op).drop 1).flatMap blkOf, false, ((c.args.toList.map fr.op).take 1).flatMap blkOf, false⟩ by unfold foot; rw [ho]; simp only [hc]]
    simp only [ha, List.map, List.drop_succ_cons, List.drop_zero, List.take_succ_cons, List.take_zero, List.flatMap_cons, List.flatMap_nil, List.append_nil, hx.raw s.fr]
    exact ⟨row_foot s.sub (tv_slice (hy.val s.fr)), own_none s hk rfl⟩) hw hd (fun z fr h s => ?_) r
  have hr := s.own.ok _ (List.mem_of_getElem? hk)
  simp only [Obj.ok] at hr
  obtain ⟨hl0, news, hrow, hnl, hone, hnews⟩ := row_news (tv_slice (hy.val s.fr)) s.sub
  obtain ⟨i, h1, h2, h3⟩ := hty.info
  obtain ⟨zv, h4, h5⟩ := hty.zero
  have hpos := hty.pos
  have hml : (xs ++ ys).length ≤ maxLen := by rw [List.length_append]; simp only [maxLen]; omega
  have sd := s.drop hL
  have frame : ∀ w h', aappend T c.argTypes v (fr.op y) h = some (w, h') → aop T fr.op h o.op = some (.val w h') := by
    intro w h' e
    rw [ho]
    simp only [aop, opCall, hc, abuiltin, ha, List.map, hx.raw s.fr, e, optPair, Option.map]
  -- a new block
  have fresh : ∀ (h1 : AHeap) (s1 : StZ C Γ L' z fr h1) (old : List AVal), h1.next = h.next → old.length = xs.length * R.sz → (∀ (i : Nat) (x : A), xs[i]? = some x → R.rel z ((old.drop (i * R.sz)).take R.sz) x) →
      StZ C Γ ((.slice h.next 0 (xs.length + ys.length) R.sz none, .row R (xs ++ ys)) :: L') z fr (h1.push (.arr (old ++ news) false)) := by
    intro h1 s1 old e hol hold
    rw [← e]
    refine s1.pushOwn _ rfl ?_
    simp only [Obj.ok]
    refine ⟨hml, .inr ⟨h1.next, 0, none, old ++ news, by rw [List.length_append], by rw [AHeap.get_push, if_pos rfl], by rw [List.length_append, List.length_append, hol, hnl, Nat.add_mul]; omega, fun c q => (nomatch q), fun i x hi => ?_⟩⟩
    rw [Nat.zero_add]
    exact grown_ok hol hnl hold hnews i x hi
  rcases hr.2 with ⟨rfl, rfl⟩ | ⟨b, off, cap, cells, rfl, g1, g2, g3, g4⟩
  · by_cases hn0 : ys.length = 0
    · have : ys = [] := List.length_eq_zero_iff.1 hn0
      subst this
      refine ⟨.nilslice, h, .nilslice, frame _ _ ?_, sd.nilrow R, by simp only [TE.ok]⟩
      simp only [aappend, hat, hsl.und, h1, h4, h5, h3, hl0, hrow]
      simp [Nat.ne_of_gt hpos]
    · refine ⟨.slice h.next 0 (([] : List A).length + ys.length) R.sz none, _, .slice h.next 0 (([] : List A).length + ys.length) R.sz none, frame _ _ ?_, fresh h sd [] rfl (by simp) (by simp), by simp only [TE.ok]⟩
      simp only [aappend, hat, hsl.und, h1, h4, h5, h3, hl0, hrow, h2]
      have hne : ¬ (R.sz = 0 ∨ R.sz ≠ R.sz) := by omega
      simp only [List.length_nil, Nat.zero_add] at hcb hcl
      rw [if_neg (fun q => q rfl), if_neg hne, if_neg hn0, if_pos ⟨hcb, hcl⟩]
      simp
  · have hne : ¬ (R.sz = 0 ∨ R.sz ≠ R.sz) := by omega
    have hold : ∀ (i : Nat) (x : A), xs[i]? = some x → R.rel z ((((cells.drop off).take (xs.length * R.sz)).drop (i * R.sz)).take R.sz) x := by
      intro i x hi
      have h6 := row_cells (off := 0) (i := i) (R := R) (cells := (cells.drop off).take (xs.length * R.sz)) (by simp; omega) hi
      rw [List.drop_take, List.take_take, List.drop_drop, Nat.min_eq_left]
      · exact g4 i x hi
      · simp at h6; omega
    have hol : ((cells.drop off).take (xs.length * R.sz)).length = xs.length * R.sz := by simp; omega
    have base : ∀ w h', (match cap with
                 | some c =>
                   if xs.length + ys.length ≤ c then
                     (if (false = false) ∧ off + (xs.length + ys.length) * R.sz ≤ cells.length ∧ news.all AVal.one = true
                      then some (AVal.slice b off (xs.length + ys.length) R.sz cap, h.set b (.arr (splice cells (off + xs.length * R.sz) news) false)) else none)
                   else if off + xs.length * R.sz ≤ cells.length then
                     some (AVal.slice h.next 0 (xs.length + ys.length) R.sz none, h.push (.arr ((cells.drop off).take (xs.length * R.sz) ++ news) false)) else none
                 | none => if (false = false) ∧ off + xs.length * R.sz ≤ cells.length ∧ news.all AVal.one = true then
                     some (AVal.slice h.next 0 (xs.length + ys.length) R.sz none, (h.set b .dead).push (.arr ((cells.drop off).take (xs.length * R.sz) ++ news) false)) else none) = some (w, h') →
        aappend T c.argTypes (.slice b off xs.length R.sz cap) (fr.op y) h = some (w, h') := by
      intro w h' e
      simp only [aappend, hat, hsl.und, h1, h4, h5, h3, hl0, hrow, h2, g1]
      rw [if_neg (fun q => q rfl), if_neg hne, if_pos ⟨trivial, hcb, hcl⟩]
      cases cap <;> simpa using e
    cases cap with
    | none =>
      refine ⟨.slice h.next 0 (xs.length + ys.length) R.sz none, _, .slice h.next 0 (xs.length + ys.length) R.sz none, frame _ _ (base _ _ (if_pos ⟨rfl, g2, hone⟩)), fresh (h.set b .dead) ?_ _ rfl hol hold, by simp only [TE.ok]⟩
      obtain ⟨o1, o2, o3⟩ := s.own.out _ (List.mem_of_getElem? hk) b (by simp [blkE, blkO])
      refine sd.wild o1 o2 o3 ?_ .dead
      have hp := (List.Perm.flatMap_right blkE (dropAt_perm hk hL)).nodup_iff.2 s.own.nodup
      have hp : (blks ((AVal.slice b off xs.length R.sz none, Obj.row R xs) :: L')).Nodup := hp
      rw [blks_cons] at hp
      exact fun q => (List.nodup_append.1 hp).2.2 b (by simp [blkE, blkO]) b q rfl
    | some cc =>
      by_cases hroom : xs.length + ys.length ≤ cc
      · have hfit : off + (xs.length + ys.length) * R.sz ≤ cells.length := by
          have := (g3 cc rfl).2
          have := Nat.mul_le_mul_right R.sz hroom
          omega
        have hin : off + xs.length * R.sz + news.length ≤ cells.length := by rw [hnl, Nat.add_assoc, ← Nat.add_mul]; exact hfit
        refine ⟨.slice b off (xs.length + ys.length) R.sz (some cc), _, .slice b off (xs.length + ys.length) R.sz (some cc), frame _ _ (base _ _ ((if_pos hroom).trans (if_pos ⟨rfl, hfit, hone⟩))), (s.front hk hL).upd (k := 0) rfl rfl rfl _ ?_ rfl, by simp only [TE.ok]⟩
        simp only [Obj.ok]
        refine ⟨hml, .inr ⟨b, off, some cc, splice cells (off + xs.length * R.sz) news, by rw [List.length_append], by rw [AHeap.get_set, if_pos rfl], by rw [splice_len hin, List.length_append]; exact hfit, fun c q => by cases q; rw [splice_len hin, List.length_append]; exact ⟨hroom, (g3 _ rfl).2⟩, fun i x hi => ?_⟩⟩
        rw [List.getElem?_append] at hi
        split at hi
        · rename_i q
          rw [splice_piece hin]
          · exact g4 i x hi
          · left; have := Nat.mul_le_mul_right R.sz (show i + 1 ≤ xs.length from q); rw [Nat.add_mul] at this; omega
        · rename_i q
          have hy' := (List.getElem?_eq_some_iff.1 hi).1
          have e : i * R.sz = xs.length * R.sz + (i - xs.length) * R.sz := by rw [← Nat.add_mul]; congr 1; omega
          have h7 := hnews _ _ hi
          have h8 := row_cells (off := 0) (i := i - xs.length) (R := R) (cells := news) (by omega) hi
          have : ((splice cells (off + xs.length * R.sz) news).drop (off + i * R.sz)).take R.sz = (news.drop ((i - xs.length) * R.sz)).take R.sz := by
            apply List.ext_getElem?
            intro j
            unfold splice
            simp only [List.getElem?_take, List.getElem?_drop, List.getElem?_append, List.length_append, List.length_take]
            repeat' split
            all_goals (try omega)
            all_goals (first | rfl | (congr 1; omega))
          rw [this]; exact h7
      · refine ⟨.slice h.next 0 (xs.length + ys.length) R.sz none, _, .slice h.next 0 (xs.length + ys.length) R.sz none, frame _ _ (base _ _ ((if_neg hroom).trans (if_pos g2))), fresh h sd _ rfl hol hold, by simp only [TE.ok]⟩
end
end Go.Ai.Sx

/- Symbolic runs of the abstract interpreter: boxes and structs. -/
namespace Go.Ai.Sx
structure Stt (T : Tab) (t : TypeId) (zc : List AVal) (places : List (Nat × Nat)) : Prop where
  zero : zeroT T t = some (.agg zc)
  pl : ∃ fs, T.und t = some (.struct fs) ∧ aplaces T fs.toList = some places
theorem zint {z : Store} : (rInt .i64).rel z [.int .i64 0] 0 := ⟨rfl, by decide, by decide⟩
theorem zbool {z : Store} : rBool.rel z [.bool false] false := rfl
theorem znil {A : Type} {R : Rep A} {z : Store} : (rSlice R).rel z [.nilslice] [] := ⟨_, rfl, row_nil⟩
theorem zunit {z : Store} : rUnit.rel z [] () := rfl
theorem zpair {A B : Type} {R : Rep A} {S : Rep B} {z : Store} {c1 c2 cs : List AVal} {a : A} {b : B} (h1 : R.rel z c1 a) (h2 : S.rel z c2 b) (e : c1 ++ c2 = cs) : (rPair R S).rel z cs (a, b) := ⟨c1, c2, e.symm, h1, h2⟩
section
variable {C : Ctx} {T : Tab} {d : Option (List Nat)} {ops rest : List Oper} {Γ : Env} {L : Own} {Q : AFrame → AHeap → Prop} {P : AExit → AFrame → AHeap → Prop} {o : Oper} {t : Nat} {z : Store} {fr : AFrame} {h : AHeap}
inductive Bld (Γ : Env) (zc : List AVal) (places : List (Nat × Nat)) : {A : Type} → Rep A → Nat → Nat → List (Nat × Operand) → A → Prop where
  | n {i off : Nat} (e : zc.length = off) : Bld Γ zc places rUnit i off [] ()
  | p {A B : Type} {R : Rep A} {S : Rep B} {i off : Nat} {x : Operand} {ps : List (Nat × Operand)} {a : A} {b : B} (hx : Opd Γ x (.val R a)) (hp : places[i]? = some (off, R.sz)) (r : Bld Γ zc places S (i + 1) (off + R.sz) ps b) : Bld Γ zc places (rPair R S) i off ((i, x) :: ps) (a, b)
  | z {A B : Type} {R : Rep A} {S : Rep B} {i off : Nat} {ps : List (Nat × Operand)} {a : A} {b : B} (hz : ∀ z, R.rel z ((zc.drop off).take R.sz) a) (r : Bld Γ zc places S (i + 1) (off + R.sz) ps b) : Bld Γ zc places (rPair R S) i off ps (a, b)
theorem bld_fill {zc : List AVal} {places : List (Nat × Nat)} {A : Type} {R : Rep A} {i off : Nat} {ps : List (Nat × Operand)} {a : A} (b : Bld Γ zc places R i off ps a) (hf : FrOk z Γ fr) : off + R.sz = zc.length ∧ ∀ (cells : List AVal), cells.length = zc.length → cells.drop off = zc.drop off →
    ∃ cells', afill (fun i => places[i]?) cells (evParts fr.op ps) = some cells' ∧ cells'.length = zc.length ∧ cells'.take off = cells.take off ∧ R.rel z (cells'.drop off) a := by
  induction b with
  | n e => exact ⟨e.symm, fun cells hl _ => ⟨cells, rfl, hl, rfl, List.drop_eq_nil_of_le (by omega)⟩⟩
  | @p A B R S i off x ps a b hx hp _ ih =>
    obtain ⟨ih0, ih⟩ := ih
    simp only [rPair] at *
    refine ⟨by omega, fun cells hl hd => ?_⟩
    have hv := hx.val hf
    have hlen := R.len _ _ _ hv.rel
    have hin : off + (fr.op x).cells.length ≤ cells.length := by omega
    have hdef : (fr.op x).defd = true := by
      cases hq : fr.op x with
      | undef =>
        have h1 := hv.agg
        have h2 := R.ones _ _ _ hv.rel
        rw [hq] at h2; simp [AVal.cells, AVal.one] at h2
      | _ => rfl
    have hsl := splice_len hin
    obtain ⟨c', h1, h2, h3, h4⟩ := ih (splice cells off (fr.op x).cells) (by omega) (by
      have e : (splice cells off (fr.op x).cells).drop (off + R.sz) = cells.drop (off + R.sz) := by
        apply List.ext_getElem?
        intro j
        unfold splice
        simp only [List.getElem?_drop, List.getElem?_append, List.length_append, List.length_take]
        repeat' split
        all_goals (try omega)
        all_goals (first | rfl | (congr 1; omega))
      rw [e]
      have := congrArg (List.drop R.sz) hd
      rwa [List.drop_drop, List.drop_drop] at this)
    refine ⟨c', ?_, h2, ?_, (fr.op x).cells, c'.drop (off + R.sz), ?_, hv.rel, h4⟩
    · simp only [evParts, List.map, afill, hp]
      rw [if_pos ⟨hdef, hlen, hin⟩]
      exact h1
    · have := congrArg (List.take off) h3
      rw [List.take_take, List.take_take, Nat.min_eq_left (by omega)] at this
      rw [this]
      unfold splice
      rw [List.append_assoc, List.take_append_of_le_length (by simp; omega), List.take_take, Nat.min_self]
    · have e : c'.drop off = (c'.drop off).take R.sz ++ c'.drop (off + R.sz) := by
        rw [← List.drop_drop]; exact (List.take_append_drop _ _).symm
      rw [e]
      congr 1
      have := congrArg (List.drop off) h3
      rw [List.drop_take, List.drop_take, Nat.add_sub_cancel_left] at this
      rw [this, splice_in (n := R.sz) (k := 0) (by omega) (Nat.add_zero _).symm (by omega)]
      have : ((cells.drop off).take R.sz).drop (0 + (fr.op x).cells.length) = [] := List.drop_eq_nil_of_le (by rw [List.length_take]; omega)
      rw [this]; simp
  | @z A B R S i off ps a b hz _ ih =>
    obtain ⟨ih0, ih⟩ := ih
    simp only [rPair] at *
    refine ⟨by omega, fun cells hl hd => ?_⟩
    obtain ⟨c', h1, h2, h3, h4⟩ := ih cells hl (by
      have := congrArg (List.drop R.sz) hd
      rwa [List.drop_drop, List.drop_drop] at this)
    refine ⟨c', h1, h2, ?_, (zc.drop off).take R.sz, c'.drop (off + R.sz), ?_, hz _, h4⟩
    · have := congrArg (List.take off) h3
      rwa [List.take_take, List.take_take, Nat.min_eq_left (by omega)] at this
    · have e : c'.drop off = (c'.drop off).take R.sz ++ c'.drop (off + R.sz) := by
        rw [← List.drop_drop]; exact (List.take_append_drop _ _).symm
      rw [e]
      congr 1
      have := congrArg (List.drop off) h3
      rw [List.drop_take, List.drop_take, Nat.add_sub_cancel_left, hd] at this
      exact this
theorem s_build {A : Type} {R : Rep A} {zc : List AVal} {places : List (Nat × Nat)} {tt : TypeId} {parts : Array (Nat × Operand)} {a : A} (hst : Stt T tt zc places) (hw : Want ops Γ true o.guard) (ho : o.op = .build tt parts) (hd : o.dst = some t) (hagg : R.agg = true) (hb : Bld Γ zc places R 0 0 parts.toList a)
    (r : SOps C T d ops rest ((t, .val R a) :: Γ) L Q) : SOps C T d ops (o :: rest) Γ L Q := by
  refine s_pure (by rw [ho]; rfl) hw hd (fun z fr h s => ?_) r
  obtain ⟨fs, h1, h2⟩ := hst.pl
  obtain ⟨h0, hb⟩ := bld_fill hb s.fr
  obtain ⟨c', h3, h4, _, h5⟩ := hb zc rfl rfl
  refine ⟨.agg c', ?_, by simp only [TE.ok]; exact ⟨by rw [List.drop_zero] at h5; exact h5, by rw [hagg]; rfl⟩⟩
  rw [ho]
  simp only [aop, abuild, hst.zero, h1, h2, AVal.cells, h3, optVal, Option.map]
theorem okAll_len : ∀ {es : List TE} {vs : List AVal}, okAll z es vs → vs.length = es.length
  | [], _, h => by simp only [okAll] at h; rw [h]; rfl
  | e :: es, _, h => by
    simp only [okAll] at h
    obtain ⟨v, vs', rfl, _, h2⟩ := h
    simp [okAll_len h2]
theorem okAll_at : ∀ {es : List TE} {vs : List AVal} {i : Nat} {e : TE}, okAll z es vs → es[i]? = some e → ∃ v, vs[i]? = some v ∧ e.ok z v
  | [], _, _, _, _, hi => by simp at hi
  | a :: es, _, i, e, h, hi => by
    simp only [okAll] at h
    obtain ⟨v, vs', rfl, h1, h2⟩ := h
    cases i with
    | zero => simp at hi; subst hi; exact ⟨v, rfl, h1⟩
    | succ i => simpa using okAll_at h2 (by simpa using hi)
theorem okAll_set : ∀ {es : List TE} {vs : List AVal} {i : Nat} {e : TE} {v : AVal}, okAll z es vs → e.ok z v → okAll z (es.set i e) (vs.set i v)
  | [], _, _, _, _, h, _ => by simp only [okAll] at h; subst h; simp [okAll]
  | a :: es, _, i, e, v, h, hv => by
    simp only [okAll] at h
    obtain ⟨u, vs', rfl, h1, h2⟩ := h
    cases i with
    | zero => simp only [List.set_cons_zero, okAll]; exact ⟨v, vs', rfl, hv, h2⟩
    | succ i => simp only [List.set_cons_succ, okAll]; exact ⟨u, _, rfl, h1, okAll_set h2 hv⟩
def Cells {A : Type} (R : Rep A) (a : A) (es : List TE) : Prop := ∀ z cs, R.rel z cs a ↔ okAll z es cs
theorem cells_one {A : Type} {R : Rep A} {a : A} (h : R.agg = false) : Cells R a [.val R a] := by
  intro z cs
  simp only [okAll, TE.ok]
  have h1 := R.one h
  constructor
  · intro hr
    have hl := R.len _ _ _ hr
    have ho := R.ones _ _ _ hr
    match cs, hl with
    | [c], _ =>
      simp at ho
      refine ⟨c, [], rfl, ⟨?_, ?_⟩, rfl⟩
      · have : c.cells = [c] := by cases c <;> simp_all [AVal.cells, AVal.one]
        rw [this]; exact hr
      · rw [h]; cases c <;> simp_all [AVal.isAgg, AVal.one]
    | [], hl => rw [h1] at hl; simp at hl
    | _ :: _ :: _, hl => rw [h1] at hl; simp at hl
  · rintro ⟨v, vs, rfl, hv, rfl⟩
    have : v.cells = [v] := by
      have := hv.agg
      rw [h] at this
      cases v <;> simp_all [AVal.cells, AVal.isAgg]
    rw [← this]; exact hv.rel
theorem cells_unit : Cells rUnit () [] := by intro z cs; simp [rUnit, okAll]
theorem okAll_app : ∀ {es fs : List TE} {cs : List AVal}, okAll z (es ++ fs) cs ↔ ∃ c1 c2, cs = c1 ++ c2 ∧ okAll z es c1 ∧ okAll z fs c2
  | [], fs, cs => by
    simp only [List.nil_append, okAll]
    constructor
    · intro h; exact ⟨[], cs, rfl, rfl, h⟩
    · rintro ⟨c1, c2, rfl, rfl, h⟩; exact h
  | e :: es, fs, cs => by
    simp only [List.cons_append, okAll]
    constructor
    · rintro ⟨v, vs, rfl, h1, h2⟩
      obtain ⟨c1, c2, rfl, h3, h4⟩ := okAll_app.1 h2
      exact ⟨v :: c1, c2, rfl, ⟨v, c1, rfl, h1, h3⟩, h4⟩
    · rintro ⟨c1, c2, rfl, ⟨v, vs, rfl, h1, h2⟩, h3⟩
      exact ⟨v, vs ++ c2, rfl, h1, okAll_app.2 ⟨vs, c2, rfl, h2, h3⟩⟩
theorem cells_pair {A B : Type} {R : Rep A} {S : Rep B} {a : A} {b : B} {es fs gs : List TE} (h1 : Cells R a es) (h2 : Cells S b fs) (e : es ++ fs = gs) : Cells (rPair R S) (a, b) gs := by
  subst e
  intro z cs
  rw [okAll_app]
  constructor
  · rintro ⟨c1, c2, rfl, h3, h4⟩; exact ⟨c1, c2, rfl, (h1 _ _).1 h3, (h2 _ _).1 h4⟩
  · rintro ⟨c1, c2, rfl, h3, h4⟩; exact ⟨c1, c2, rfl, (h1 _ _).2 h3, (h2 _ _).2 h4⟩
theorem s_alloc {et : TypeId} {zv : AVal} {es : List TE} (hz : zeroT T et = some zv) (hes : ∀ z, okAll z es zv.cells) (h1 : zv.cells.all AVal.one = true) (hw : Want ops Γ true o.guard) (ho : o.op = .alloc et) (hd : o.dst = some t)
    (r : ∀ b, SOps C T d ops rest ((t, .raw (.ptr b 0)) :: Γ) ((.ptr b 0, .box es) :: L) Q) : SOps C T d ops (o :: rest) Γ L Q := by
  refine step_val hw (nf (by rw [ho]; rfl)) fun z fr h s => ?_
  have ha : aop T fr.op h o.op = some (.val (.ptr h.next 0) (h.push (.arr zv.cells false))) := by rw [ho]; simp only [aop, opAlloc, hz]
  refine ⟨_, _, z, _, _, ha, nfo (by rw [ho]; rfl), .refl _, ?_, r h.next⟩
  rw [hd, put_some]
  refine (s.pushOwn (v := .ptr h.next 0) (ob := .box es) _ rfl ?_).set (by simp only [TE.ok])
  exact ⟨h.next, zv.cells, rfl, by rw [AHeap.get_push, if_pos rfl], hes z, h1⟩
theorem s_box {A : Type} {R : Rep A} {et : TypeId} {x : Operand} {a : A} (hw : Want ops Γ true o.guard) (ho : o.op = .box et x) (hd : o.dst = some t) (hx : Opd Γ x (.val R a))
    (r : SOps C T d ops rest ((t, .val (rPtr R) a) :: Γ) L Q) : SOps C T d ops (o :: rest) Γ L Q := by
  refine s_mem (nf (by rw [ho]; rfl)) (fun _ _ _ _ => nfo (by rw [ho]; rfl)) hw hd (fun z fr h s => ?_) r
  have hv := hx.val s.fr
  have h1 := R.ones _ _ _ hv.rel
  refine ⟨.ptr h.next 0, h.push (.arr (fr.op x).cells false), z.add h.next (.arr (fr.op x).cells false), ?_, add_le s.next_none, s.push _, ?_⟩
  · rw [ho]
    simp only [aop, opBox]
    split
    · rename_i q; rw [q] at h1; simp [AVal.cells, AVal.one] at h1
    · rfl
  · simp only [TE.ok]
    have hl := R.len _ _ _ hv.rel
    refine tv_ptr_mk ⟨h.next, 0, _, false, rfl, add_at, by omega, ?_⟩
    rw [List.drop_zero, ← hl, List.take_length]
    exact R.mono _ _ _ _ (add_le s.next_none) hv.rel
theorem st_freezeb {A : Type} {R : Rep A} {a : A} {es : List TE} {b : Nat} (k : Nat) (ts : List Nat) (hc : Cells R a es) {L' : Own} (hk : L[k]? = some (.ptr b 0, .box es)) (hL : dropAt L k = some L') (hts : AllRaw Γ (.ptr b 0) ts) : ∀ z fr h, StZ C Γ L z fr h → ∃ z', z.le z' ∧ StZ C (holdAll ts (.val (rPtr R) a) Γ) L' z' fr h := by
  intro z fr h s
  have ho := s.own.ok _ (List.mem_of_getElem? hk)
  simp only [Obj.ok] at ho
  obtain ⟨b', cells, q, h2, h3, h4⟩ := ho
  cases q
  obtain ⟨o1, o2, o3⟩ := s.own.out _ (List.mem_of_getElem? hk) b (by simp [blkE, blkO])
  have hle : z.le (z.add b (.arr cells false)) := add_le o1
  have s' := s.drop hL
  have hne : ∀ p ∈ L', ∀ c, c ∈ blkE p → c ≠ b := by
    intro p hp c hc e
    subst e
    have hp' := (List.Perm.flatMap_right blkE (dropAt_perm hk hL)).nodup_iff.2 s.own.nodup
    have hp' : (blks ((AVal.ptr c 0, Obj.box es) :: L')).Nodup := hp'
    rw [blks_cons] at hp'
    exact (List.nodup_append.1 hp').2.2 c (by simp [blkE, blkO]) c (mem_blks.2 ⟨p, hp, hc⟩) rfl
  have hr := (hc z cells).2 h3
  refine ⟨z.add b (.arr cells false), hle, { zle := s.zle.trans hle, sub := ?_, old := ?_, fr := holdAll_ok ?_ hts (s.fr.mono hle), own := ⟨fun p hp => Obj.ok_mono hle (fun _ _ => rfl) (s'.own.ok p hp), fun p hp c hc => ?_, s'.own.nodup⟩, chg := s.chg }⟩
  · intro c y hc
    by_cases e : c = b
    · subst e; rw [add_at] at hc; cases hc; exact ⟨h2, o2⟩
    · rw [add_ne e] at hc; exact s.sub c y hc
  · intro c hc hB
    rw [add_ne]
    · exact s.old c hc hB
    · intro e; subst e
      rcases o3 with q | q
      · omega
      · exact hB q
  · simp only [TE.ok]
    have hl := R.len _ _ _ hr
    refine tv_ptr_mk ⟨b, 0, cells, false, rfl, add_at, by omega, ?_⟩
    rw [List.drop_zero, ← hl, List.take_length]
    exact R.mono _ _ _ _ hle hr
  · obtain ⟨q1, q2, q3⟩ := s'.own.out p hp c hc
    exact ⟨by rw [add_ne (hne p hp c hc)]; exact q1, q2, q3⟩
theorem s_loadb {et : TypeId} {x : Operand} {b q : Nat} {es : List TE} {e : TE} (k : Nat) (hls : Listed d ops rest) (hag : isAggT T et = some false) (he : es[q]? = some e) (hw : Want ops Γ true o.guard) (ho : o.op = .load et x) (hd : o.dst = some t) (hx : Opd Γ x (.raw (.ptr b q))) (hk : L[k]? = some (.ptr b 0, .box es))
    (r : SOps C T d ops rest ((t, e) :: Γ) L Q) : SOps C T d ops (o :: rest) Γ L Q := by
  refine s_pureF (.l hls (by rw [ho]; rfl)) (fun z fr h s => by
    rw [show foot fr.op o = ⟨blkOf (fr.op x), false, [], false⟩ by unfold foot; rw [ho]]
    exact ⟨fun b' hb => own_foot s hk rfl b' (by simpa [blkOf, hx.raw s.fr] using hb), fun b hb => (nomatch hb)⟩) hw hd (fun z fr h s => ?_) r
  have hob := s.own.ok _ (List.mem_of_getElem? hk)
  simp only [Obj.ok] at hob
  obtain ⟨b', cells, q', h2, h3, h4⟩ := hob
  cases q'
  obtain ⟨v, h5, h6⟩ := okAll_at h3 he
  refine ⟨v, ?_, h6⟩
  rw [ho]
  simp only [aop, hx.raw s.fr, aload, h2, Go.Ai.apart, hag, h5, optVal, Option.map]
theorem s_loadbs {A : Type} {R : Rep A} {a : A} {et : TypeId} {x : Operand} {b : Nat} {es : List TE} (k : Nat) (hls : Listed d ops rest) (hu : Und T et R) (hc : Cells R a es) (hw : Want ops Γ true o.guard) (ho : o.op = .load et x) (hd : o.dst = some t) (hx : Opd Γ x (.raw (.ptr b 0))) (hk : L[k]? = some (.ptr b 0, .box es))
    (r : SOps C T d ops rest ((t, .val R a) :: Γ) L Q) : SOps C T d ops (o :: rest) Γ L Q := by
  refine s_pureF (.l hls (by rw [ho]; rfl)) (fun z fr h s => by
    rw [show foot fr.op o = ⟨blkOf (fr.op x), false, [], false⟩ by unfold foot; rw [ho]]
    exact ⟨fun b' hb => own_foot s hk rfl b' (by simpa [blkOf, hx.raw s.fr] using hb), fun b hb => (nomatch hb)⟩) hw hd (fun z fr h s => ?_) r
  have hob := s.own.ok _ (List.mem_of_getElem? hk)
  simp only [Obj.ok] at hob
  obtain ⟨b', cells, q', h2, h3, h4⟩ := hob
  cases q'
  have hr := (hc z cells).2 h3
  have hl := R.len _ _ _ hr
  obtain ⟨v, h5, h6⟩ := apart_ok (off := 0) (cells := cells) hu.sz hu.agg (by omega) (by rw [List.drop_zero, ← hl, List.take_length]; exact hr)
  refine ⟨v, ?_, by simp only [TE.ok]; exact h6⟩
  rw [ho]
  simp only [aop, hx.raw s.fr, aload, h2, h5, optVal, Option.map]
theorem splice_one {cells : List AVal} {q : Nat} {v : AVal} (h : q < cells.length) : splice cells q [v] = cells.set q v := by
  apply List.ext_getElem?
  intro i
  unfold splice
  rw [List.append_assoc, List.getElem?_append, List.getElem?_set, List.length_take, Nat.min_eq_left (by omega)]
  by_cases h1 : i < q
  · rw [if_pos h1, if_neg (by omega), List.getElem?_take, if_pos h1]
  · rw [if_neg h1]
    by_cases h2 : q = i
    · subst h2; rw [if_pos rfl, if_pos h]; simp
    · rw [if_neg h2, List.getElem?_append_right (by simp; omega), List.getElem?_drop]
      congr 1; simp; omega
theorem s_storeb {A : Type} {R : Rep A} {a : A} {et : TypeId} {x y : Operand} {b q : Nat} {es : List TE} (k : Nat) (hsz : szT T et = some 1) (hk : L[k]? = some (.ptr b 0, .box es)) (hq : q < es.length) (hw : Want ops Γ true o.guard) (ho : o.op = .store et x y) (hd : o.dst = none) (hx : Opd Γ x (.raw (.ptr b q))) (hy : Opd Γ y (.val R a)) (hR : R.agg = false)
    {L' : Own} (hL : setAt L k (.ptr b 0, .box (es.set q (.val R a))) = some L') (r : SOps C T d ops rest Γ L' Q) : SOps C T d ops (o :: rest) Γ L Q := by
  refine s_memn (.w (by rw [ho]; rfl) (fun t a q => by rw [ho] at q; cases q) (by rw [ho]; rfl)) (fun z fr h s => by
    rw [show foot fr.op o = ⟨[], false, blkOf (fr.op x), false⟩ by unfold foot; rw [ho]]
    exact ⟨fun b hb => (nomatch hb), fun b' hb => own_none s hk rfl b' (by simpa [blkOf, hx.raw s.fr] using hb)⟩) hw hd (fun z fr h s => ?_) r
  have hob := s.own.ok _ (List.mem_of_getElem? hk)
  simp only [Obj.ok] at hob
  obtain ⟨b', cells, q', h2, h3, h4⟩ := hob
  cases q'
  have hv := hy.val s.fr
  have h1 := R.one hR
  have hcs : (fr.op y).cells = [fr.op y] := by
    have := hv.agg
    rw [hR] at this
    cases e : fr.op y <;> rw [e] at this <;> simp_all [AVal.cells, AVal.isAgg]
  have hon := R.ones _ _ _ hv.rel
  rw [hcs] at hon
  have hlt : q < cells.length := by rw [okAll_len h3]; exact hq
  refine ⟨.tuple [], h.set b (.arr (cells.set q (fr.op y)) false), ?_, s.upd hk rfl rfl _ ?_ hL⟩
  · rw [ho]
    simp only [aop, hx.raw s.fr, astore, h2, hsz, hcs, List.length_singleton]
    rw [if_pos (by exact ⟨by trivial, by omega, hon⟩), splice_one hlt]
    rfl
  · refine ⟨b, _, rfl, by rw [AHeap.get_set, if_pos rfl], okAll_set h3 (by simp only [TE.ok]; exact hv), ?_⟩
    rw [List.all_eq_true] at h4 ⊢
    intro c hc
    rcases List.mem_or_eq_of_mem_set hc with q | rfl
    · exact h4 c q
    · simpa using hon
theorem s_storebs {A : Type} {R : Rep A} {a : A} {et : TypeId} {x y : Operand} {b : Nat} {es es' : List TE} (k : Nat) (hu : Und T et R) (hk : L[k]? = some (.ptr b 0, .box es)) (hc : Cells R a es') (hl : es'.length = es.length) (hw : Want ops Γ true o.guard) (ho : o.op = .store et x y) (hd : o.dst = none) (hx : Opd Γ x (.raw (.ptr b 0))) (hy : Opd Γ y (.val R a))
    {L' : Own} (hL : setAt L k (.ptr b 0, .box es') = some L') (r : SOps C T d ops rest Γ L' Q) : SOps C T d ops (o :: rest) Γ L Q := by
  refine s_memn (.w (by rw [ho]; rfl) (fun t a q => by rw [ho] at q; cases q) (by rw [ho]; rfl)) (fun z fr h s => by
    rw [show foot fr.op o = ⟨[], false, blkOf (fr.op x), false⟩ by unfold foot; rw [ho]]
    exact ⟨fun b hb => (nomatch hb), fun b' hb => own_none s hk rfl b' (by simpa [blkOf, hx.raw s.fr] using hb)⟩) hw hd (fun z fr h s => ?_) r
  have hob := s.own.ok _ (List.mem_of_getElem? hk)
  simp only [Obj.ok] at hob
  obtain ⟨b', cells, q', h2, h3, h4⟩ := hob
  cases q'
  have hv := hy.val s.fr
  have hlen := R.len _ _ _ hv.rel
  have hok := (hc _ _).1 hv.rel
  have hle := okAll_len hok
  have hlc := okAll_len h3
  have e : splice cells 0 (fr.op y).cells = (fr.op y).cells := by
    unfold splice
    rw [List.take_zero, Nat.zero_add, List.drop_eq_nil_of_le (by omega)]; simp
  refine ⟨.tuple [], h.set b (.arr (fr.op y).cells false), ?_, s.upd hk rfl rfl _ ?_ hL⟩
  · rw [ho]
    simp only [aop, hx.raw s.fr, astore, h2, hu.sz]
    rw [if_pos ⟨hlen, by omega, R.ones _ _ _ hv.rel⟩, e]
    rfl
  · exact ⟨b, _, rfl, by rw [AHeap.get_set, if_pos rfl], hok, R.ones _ _ _ hv.rel⟩
end
end Go.Ai.Sx
