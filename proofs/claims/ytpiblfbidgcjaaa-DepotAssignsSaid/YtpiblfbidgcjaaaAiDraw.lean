/- An abstract interpreter for the model's code: a region that draws its order. -/
import Derived.Test.YtpiblfbidgcjaaaAiTrace
namespace Go.Ai
open Classical

/- heaps that agree on what is laid -/
theorem H0.congr {base : Nat} {ρ : Emb} {h h2 : AHeap} {w : World} (hr : H0 base ρ h w) (e : ∀ b l, ρ b = some l → h2.get b = h.get b) : H0 base ρ h2 w := by
  have ow : ∀ b l, ρ b = some l → (Owns h2 b ↔ Owns h b) := fun b l hb => by unfold Owns; rw [e b l hb]
  have al : ∀ b l, ρ b = some l → (Alive h2 b ↔ Alive h b) := fun b l hb => by unfold Alive; rw [e b l hb]
  exact ⟨hr.clt, fun b l hb => by rw [e b l hb]; exact hr.blk b l hb, fun b b' l l' hb hb' hn ho ha => hr.inj b b' l l' hb hb' hn ((ow b l hb).1 ho) ((al b' l' hb').1 ha), hr.base⟩

/- the part of Trans that looks at what is laid alone -/
structure Core (ρ : Emb) (h : AHeap) (w : World) (ρ' : Emb) (h' : AHeap) (w' : World) : Prop where
  ext : Ext ρ ρ'
  size : w.heap.size ≤ w'.heap.size
  frame : ∀ k, k < w.heap.size → (∀ b l, ρ b = some l → Owns h b → l.c ≠ k) → w'.heap[k]? = w.heap[k]?
  own : ∀ b l, ρ' b = some l → Alive h' b → (ρ b = some l ∧ Alive h b ∧ (Owns h' b → Owns h b)) ∨ w.heap.size ≤ l.c ∨ ∃ b0 l0, ρ b0 = some l0 ∧ Owns h b0 ∧ l0.c = l.c
  os : w'.os = w.os
  tape : w'.tape = w.tape
  output : w'.output = w.output
  loops : ∀ b l L, ρ b = some l → h.get b = some (.loop L) → ∃ L', h'.get b = some (.loop L') ∧ LSame L L'

theorem Trans.core {ρ ρ' : Emb} {h h' : AHeap} {w w' : World} (t : Trans ρ h w ρ' h' w') : Core ρ h w ρ' h' w' := ⟨t.ext, t.size, t.frame, t.own, t.os, t.tape, t.output, t.loops⟩

theorem Core.refl (ρ : Emb) (h : AHeap) (w : World) : Core ρ h w ρ h w := (Trans.refl ρ h w).core

theorem Core.trans {ρ ρ₁ ρ₂ : Emb} {h h₁ h₂ : AHeap} {w w₁ w₂ : World} (a : Core ρ h w ρ₁ h₁ w₁) (b : Core ρ₁ h₁ w₁ ρ₂ h₂ w₂) : Core ρ h w ρ₂ h₂ w₂ := by
  refine ⟨a.ext.trans b.ext, Nat.le_trans a.size b.size, fun k hk hb => ?_, fun b' l hb' ho => ?_, b.os.trans a.os, b.tape.trans a.tape, b.output.trans a.output,
    fun b' l L hb hg => let ⟨L1, h1, s1⟩ := a.loops b' l L hb hg; let ⟨L2, h2, s2⟩ := b.loops b' l L1 (a.ext _ _ hb) h1; ⟨L2, h2, s1.trans s2⟩⟩
  · rw [b.frame k (Nat.lt_of_lt_of_le hk a.size) ?_, a.frame k hk hb]
    intro b1 l1 hb1 ho1 e
    rcases a.own b1 l1 hb1 ho1.alive with ⟨h0, _, h2⟩ | h1 | ⟨b0, l0, h0, ho0, e0⟩
    · exact hb b1 l1 h0 (h2 ho1) e
    · omega
    · exact hb b0 l0 h0 ho0 (e0.trans e)
  · rcases b.own b' l hb' ho with ⟨h1, h2, h3⟩ | h1 | ⟨b1, l1, h1, ho1, e1⟩
    · rcases a.own b' l h1 h2 with ⟨g1, g2, g3⟩ | g1 | g1
      · exact .inl ⟨g1, g2, fun q => g3 (h3 q)⟩
      · exact .inr (.inl g1)
      · exact .inr (.inr g1)
    · exact .inr (.inl (Nat.le_trans a.size h1))
    · rcases a.own b1 l1 h1 ho1.alive with ⟨g1, g2, g3⟩ | h2 | ⟨b0, l0, h0, ho0, e0⟩
      · exact .inr (.inr ⟨b1, l1, g1, g3 ho1, e1⟩)
      · exact .inr (.inl (by rw [← e1]; exact h2))
      · exact .inr (.inr ⟨b0, l0, h0, ho0, e0.trans e1⟩)

theorem Core.congr {ρ ρ' : Emb} {h h' g g' : AHeap} {w w' : World} (t : Core ρ h w ρ' h' w') (e : ∀ b l, ρ b = some l → g.get b = h.get b) (e' : ∀ b l, ρ' b = some l → g'.get b = h'.get b) : Core ρ g w ρ' g' w' := by
  have ow : ∀ b l, ρ b = some l → (Owns g b ↔ Owns h b) := fun b l hb => by unfold Owns; rw [e b l hb]
  have al : ∀ b l, ρ b = some l → (Alive g b ↔ Alive h b) := fun b l hb => by unfold Alive; rw [e b l hb]
  have ow' : ∀ b l, ρ' b = some l → (Owns g' b ↔ Owns h' b) := fun b l hb => by unfold Owns; rw [e' b l hb]
  have al' : ∀ b l, ρ' b = some l → (Alive g' b ↔ Alive h' b) := fun b l hb => by unfold Alive; rw [e' b l hb]
  refine ⟨t.ext, t.size, fun k hk hb => t.frame k hk (fun b l h1 h2 => hb b l h1 ((ow b l h1).2 h2)), fun b l hb ha => ?_, t.os, t.tape, t.output, fun b l L hb hg => ?_⟩
  · rcases t.own b l hb ((al' b l hb).1 ha) with ⟨h1, h2, h3⟩ | h1 | ⟨b0, l0, h1, h2, h3⟩
    · exact .inl ⟨h1, (al b l h1).2 h2, fun q => (ow b l h1).2 (h3 ((ow' b l hb).1 q))⟩
    · exact .inr (.inl h1)
    · exact .inr (.inr ⟨b0, l0, h1, (ow b0 l0 h1).2 h2, h3⟩)
  · rw [e b l hb] at hg
    obtain ⟨L', h1, h2⟩ := t.loops b l L hb hg
    exact ⟨L', by rw [e' b l (t.ext _ _ hb)]; exact h1, h2⟩

/- a heap with given contents -/
theorem mkHeap (g : Nat → Option ABlk) (nx : Nat) : ∀ B : Nat, ∃ h : AHeap, h.next = nx ∧ ∀ b, h.get b = if b < B then g b else none
  | 0 => ⟨⟨.leaf, nx, 0⟩, rfl, fun b => by simp [AHeap.get, Tr.get]⟩
  | B + 1 => by
    obtain ⟨h, h1, h2⟩ := mkHeap g nx B
    cases hg : g B with
    | none =>
      refine ⟨h, h1, fun b => ?_⟩
      rw [h2]
      by_cases e : b = B
      · subst e; simp [hg]
      · by_cases q : b < B
        · rw [if_pos q, if_pos (by omega)]
        · rw [if_neg q, if_neg (by omega)]
    | some x =>
      refine ⟨h.set B x, h1, fun b => ?_⟩
      rw [AHeap.get_set, h2]
      by_cases e : b = B
      · subst e; simp [hg]
      · rw [if_neg e]
        by_cases q : b < B
        · rw [if_pos q, if_pos (by omega)]
        · rw [if_neg q, if_neg (by omega)]

section
variable (os : List Oper) (st : Nat → AFrame × AHeap) (vl : Nat → AVal)

def dstOf (m : Nat) : Option Nat := (os[m]?).bind (fun (o : Oper) => o.dst)

noncomputable def fcont (S : Nat → Prop) : Nat → Nat → AVal
  | 0, t => (st 0).1.ev t
  | m + 1, t => if S m ∧ dstOf os m = some t then vl m else fcont S m t

def Chg (m b : Nat) : Prop := b < (st (m + 1)).2.next ∧ ((st m).2.next ≤ b ∨ (st (m + 1)).2.get b ≠ (st m).2.get b)

noncomputable def hcont (S : Nat → Prop) : Nat → Nat → Option ABlk
  | 0, b => (st 0).2.get b
  | m + 1, b => if S m ∧ Chg st m b then (st (m + 1)).2.get b else hcont S m b

variable {os st vl}

/- what the frame holds, where all that matters has run -/
theorem fcont_upto {S : Nat → Prop} {t : Nat} : ∀ (i : Nat), (∀ m, m < i → (st (m + 1)).1.ev t = if dstOf os m = some t then vl m else (st m).1.ev t) → (∀ m, m < i → dstOf os m = some t → S m) → fcont os st vl S i t = (st i).1.ev t
  | 0, _, _ => rfl
  | i + 1, hs, h => by
    simp only [fcont]
    rw [hs i (by omega), fcont_upto i (fun m hm => hs m (by omega)) (fun m hm => h m (by omega))]
    by_cases e : dstOf os i = some t
    · rw [if_pos ⟨h i (by omega) e, e⟩, if_pos e]
    · rw [if_neg (fun q => e q.2), if_neg e]
theorem fcont_from {S : Nat → Prop} {t i : Nat} : ∀ (N : Nat), i ≤ N → (∀ m, i ≤ m → m < N → S m → dstOf os m ≠ some t) → fcont os st vl S N t = fcont os st vl S i t
  | 0, hi, _ => by have : i = 0 := by omega
                   subst this; rfl
  | N + 1, hi, h => by
    by_cases e : i = N + 1
    · rw [e]
    · simp only [fcont]
      rw [if_neg (fun q => h N (by omega) (by omega) q.1 q.2)]
      exact fcont_from N (by omega) (fun m h1 h2 => h m h1 (by omega))
theorem fcont_add {S : Nat → Prop} {i t : Nat} (hi : ¬ S i) : ∀ (N : Nat), (dstOf os i ≠ some t → fcont os st vl (fun x => S x ∨ x = i) N t = fcont os st vl S N t) ∧
    (dstOf os i = some t → i < N → (∀ m, i < m → m < N → S m → dstOf os m ≠ some t) → fcont os st vl (fun x => S x ∨ x = i) N t = vl i)
  | 0 => ⟨fun _ => rfl, fun _ h => by omega⟩
  | N + 1 => by
    obtain ⟨h1, h2⟩ := fcont_add hi N
    refine ⟨fun hd => ?_, fun hd hN hm => ?_⟩
    · simp only [fcont]
      rw [h1 hd]
      by_cases e : N = i
      · subst e
        rw [if_neg (fun q => hd q.2), if_neg (fun q => hd q.2)]
      · by_cases q : S N ∧ dstOf os N = some t
        · rw [if_pos ⟨.inl q.1, q.2⟩, if_pos q]
        · rw [if_neg (fun q2 => q ⟨q2.1.resolve_right e, q2.2⟩), if_neg q]
    · simp only [fcont]
      by_cases e : N = i
      · subst e; rw [if_pos ⟨.inr rfl, hd⟩]
      · rw [if_neg (fun q => hm N (by omega) (by omega) (q.1.resolve_right e) q.2)]
        exact h2 hd (by omega) (fun m a b => hm m a (by omega))

theorem hcont_upto {S : Nat → Prop} {b : Nat} : ∀ (i : Nat), (b < (st i).2.next) → (∀ m, m < i → (st m).2.next ≤ (st (m + 1)).2.next) → (∀ m, m < i → Chg st m b → S m) → hcont st S i b = (st i).2.get b
  | 0, _, _, _ => rfl
  | i + 1, hb, hmono, h => by
    simp only [hcont]
    by_cases c : Chg st i b
    · rw [if_pos ⟨h i (by omega) c, c⟩]
    · rw [if_neg (fun q => c q.2)]
      unfold Chg at c
      have c1 : b < (st i).2.next := by
        by_cases q : b < (st i).2.next
        · exact q
        · exact absurd ⟨hb, .inl (by omega)⟩ c
      have c2 : (st (i + 1)).2.get b = (st i).2.get b := by
        by_cases q : (st (i + 1)).2.get b = (st i).2.get b
        · exact q
        · exact absurd ⟨hb, .inr q⟩ c
      rw [hcont_upto i c1 (fun m hm => hmono m (by omega)) (fun m hm => h m (by omega)), c2]
theorem hcont_from {S : Nat → Prop} {b i : Nat} : ∀ (N : Nat), i ≤ N → (∀ m, i ≤ m → m < N → S m → ¬ Chg st m b) → hcont st S N b = hcont st S i b
  | 0, hi, _ => by have : i = 0 := by omega
                   subst this; rfl
  | N + 1, hi, h => by
    by_cases e : i = N + 1
    · rw [e]
    · simp only [hcont]
      rw [if_neg (fun q => h N (by omega) (by omega) q.1 q.2)]
      exact hcont_from N (by omega) (fun m h1 h2 => h m h1 (by omega))
theorem hcont_add {S : Nat → Prop} {i b : Nat} (hi : ¬ S i) : ∀ (N : Nat), (¬ Chg st i b → hcont st (fun x => S x ∨ x = i) N b = hcont st S N b) ∧
    (Chg st i b → i < N → (∀ m, i < m → m < N → S m → ¬ Chg st m b) → hcont st (fun x => S x ∨ x = i) N b = (st (i + 1)).2.get b)
  | 0 => ⟨fun _ => rfl, fun _ h => by omega⟩
  | N + 1 => by
    obtain ⟨h1, h2⟩ := hcont_add hi N
    refine ⟨fun hd => ?_, fun hd hN hm => ?_⟩
    · simp only [hcont]
      rw [h1 hd]
      by_cases e : N = i
      · subst e
        rw [if_neg (fun q => hd q.2), if_neg (fun q => hd q.2)]
      · by_cases q : S N ∧ Chg st N b
        · rw [if_pos ⟨.inl q.1, q.2⟩, if_pos q]
        · rw [if_neg (fun q2 => q ⟨q2.1.resolve_right e, q2.2⟩), if_neg q]
    · simp only [hcont]
      by_cases e : N = i
      · subst e; rw [if_pos ⟨.inr rfl, hd⟩]
      · rw [if_neg (fun q => hm N (by omega) (by omega) (q.1.resolve_right e) q.2)]
        exact h2 hd (by omega) (fun m a b => hm m a (by omega))
end

end Go.Ai
