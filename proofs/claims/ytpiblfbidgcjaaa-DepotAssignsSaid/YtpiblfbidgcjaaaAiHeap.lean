/- An abstract interpreter for the model's code: the steps of the two heaps side by side. -/
import Derived.Test.YtpiblfbidgcjaaaAiRel
import Derived.Laws.CopyRow
import Derived.Laws.Append
import Derived.Laws.AppendOwn
import Derived.Laws.Rows
import Derived.Laws.MakeOwn
namespace Go.Ai

def Emb.add (ρ : Emb) (b : Nat) (l : Loc) : Emb := fun x => if x = b then some l else ρ x

theorem Emb.add_same (ρ : Emb) (b : Nat) (l : Loc) : (ρ.add b l) b = some l := by simp [Emb.add]
theorem Emb.add_ne (ρ : Emb) (b : Nat) (l : Loc) {x : Nat} (h : x ≠ b) : (ρ.add b l) x = ρ x := by simp [Emb.add, h]
theorem Ext.add {ρ : Emb} {b : Nat} {l : Loc} (h : ρ b = none) : Ext ρ (ρ.add b l) := by
  intro x lx hx
  by_cases e : x = b
  · subst e; rw [h] at hx; cases hx
  · rw [Emb.add_ne _ _ _ e]; exact hx

theorem LoopRel.mono {ρ ρ' : Emb} {L : ALoop} {L' : Loop} (h : LoopRel ρ L L') (e : Ext ρ ρ') : LoopRel ρ' L L' :=
  ⟨h.state, h.pending, h.params, h.assign, h.body, h.frame.mono e, h.okP, h.okA, h.okB⟩

theorem BRel.mono {base : Nat} {ρ ρ' : Emb} {x : Option ABlk} {l : Loc} {w w' : World} (h : BRel base ρ x l w) (e : Ext ρ ρ') (hw : w'.heap[l.c]? = w.heap[l.c]?) : BRel base ρ' x l w' := by
  unfold BRel at h ⊢
  split
  · obtain ⟨cc, el, fz, h1, h2, h3, h4, h5⟩ := h
    exact ⟨cc, el, fz, hw.trans h1, h2, h3, fun i v hv => let ⟨v', a, b⟩ := h4 i v hv; ⟨v', a, b.mono e⟩, h5⟩
  · obtain ⟨h0, ces, clk, h1, h2, h3⟩ := h
    exact ⟨h0, ces, clk, hw.trans h1, h2, fun i k v hv => let ⟨en, a, b, c⟩ := h3 i k v hv; ⟨en, a, b.mono e, c.mono e⟩⟩
  · obtain ⟨h0, L', h1, h2⟩ := h
    exact ⟨h0, L', hw.trans h1, h2.mono e⟩
  · trivial
  · exact h.elim

/- the world's heap is what counts -/
theorem H0.heap {base : Nat} {ρ : Emb} {h : AHeap} {w w' : World} (hr : H0 base ρ h w) (e : w'.heap = w.heap) : H0 base ρ h w' :=
  ⟨fun b l hb => by rw [e]; exact hr.clt b l hb, fun b l hb => (hr.blk b l hb).mono (.refl _) (by rw [e]), hr.inj, by rw [e]; exact hr.base⟩
theorem HRel.heap {base : Nat} {ρ : Emb} {h : AHeap} {w w' : World} (hr : HRel base ρ h w) (e : w'.heap = w.heap) : HRel base ρ h w' := ⟨hr.toH0.heap e, hr.lt⟩

theorem Trans.heap {ρ : Emb} {h : AHeap} {w w' : World} (e : w'.heap = w.heap) (h1 : w'.os = w.os) (h2 : w'.tape = w.tape) (h3 : w'.output = w.output) : Trans ρ h w ρ h w' :=
  .same (by rw [e]; exact Nat.le_refl _) (fun _ _ _ => by rw [e]) h1 h2 h3

theorem owns_push {h : AHeap} {x : ABlk} {b : Nat} (hb : b ≠ h.next) : Owns (h.push x) b ↔ Owns h b := by
  unfold Owns; rw [AHeap.get_push, if_neg hb]
theorem alive_push {h : AHeap} {x : ABlk} {b : Nat} (hb : b ≠ h.next) : Alive (h.push x) b ↔ Alive h b := by
  unfold Alive; rw [AHeap.get_push, if_neg hb]
theorem owns_set {h : AHeap} {x : ABlk} {b b' : Nat} (hb : b' ≠ b) : Owns (h.set b x) b' ↔ Owns h b' := by
  unfold Owns; rw [AHeap.get_set, if_neg hb]
theorem alive_set {h : AHeap} {x : ABlk} {b b' : Nat} (hb : b' ≠ b) : Alive (h.set b x) b' ↔ Alive h b' := by
  unfold Alive; rw [AHeap.get_set, if_neg hb]
/- a new block -/
theorem push_rel {base : Nat} {ρ : Emb} {h : AHeap} {w : World} (hr : H0 base ρ h w) (hfresh : ρ h.next = none) (x : ABlk) (o : Obj) (w' : World) (n : Nat)
    (hw : w'.heap = w.heap.push o) (h1 : w'.os = w.os) (h2 : w'.tape = w.tape) (h3 : w'.output = w.output)
    (hx : BRel base (ρ.add h.next ⟨w.heap.size, 0, n⟩) (some x) ⟨w.heap.size, 0, n⟩ w') :
    H0 base (ρ.add h.next ⟨w.heap.size, 0, n⟩) (h.push x) w' ∧ Trans ρ h w (ρ.add h.next ⟨w.heap.size, 0, n⟩) (h.push x) w' := by
  have he : Ext ρ (ρ.add h.next ⟨w.heap.size, 0, n⟩) := .add hfresh
  have hold : ∀ k, k < w.heap.size → w'.heap[k]? = w.heap[k]? := fun k hk => by
    rw [hw, Array.getElem?_push]; rw [if_neg (by omega)]
  have hsz : w'.heap.size = w.heap.size + 1 := by rw [hw]; simp
  refine ⟨⟨?_, ?_, ?_, by have := hr.base; omega⟩, ⟨he, by omega, fun k hk _ => hold k hk, ?_, h1, h2, h3, fun b l L hb hg => ⟨L, ?_, .refl L⟩, Nat.le_succ _, fun b l hb => ?_, fun b hb _ => ?_⟩⟩
  · intro b l hb
    by_cases e : b = h.next
    · subst e; rw [Emb.add_same] at hb; cases hb; simp; omega
    · rw [Emb.add_ne _ _ _ e] at hb; have := hr.clt b l hb; omega
  · intro b l hb
    rw [AHeap.get_push]
    by_cases e : b = h.next
    · subst e; rw [Emb.add_same] at hb; cases hb; rw [if_pos rfl]; exact hx
    · rw [Emb.add_ne _ _ _ e] at hb; rw [if_neg e]
      exact (hr.blk b l hb).mono he (hold _ (hr.clt b l hb))
  · intro b b' l l' hb hb' hne ho ha
    by_cases e : b = h.next
    · have e' : b' ≠ h.next := fun q => hne (e.trans q.symm)
      subst e
      rw [Emb.add_same] at hb; cases hb
      rw [Emb.add_ne _ _ _ e'] at hb'
      have := hr.clt b' l' hb'
      simp; omega
    · rw [Emb.add_ne _ _ _ e] at hb
      have hc := hr.clt b l hb
      by_cases e' : b' = h.next
      · subst e'; rw [Emb.add_same] at hb'; cases hb'; simp; omega
      · rw [Emb.add_ne _ _ _ e'] at hb'
        exact hr.inj b b' l l' hb hb' hne ((owns_push e).1 ho) ((alive_push e').1 ha)
  · intro b l hb ho
    by_cases e : b = h.next
    · subst e; rw [Emb.add_same] at hb; cases hb; exact .inr (.inl (Nat.le_refl _))
    · rw [Emb.add_ne _ _ _ e] at hb
      exact .inl ⟨hb, (alive_push e).1 ho, (owns_push e).1⟩
  · rw [AHeap.get_push, if_neg (fun q => by rw [q, hfresh] at hb; cases hb)]; exact hg
  · by_cases e : b = h.next
    · exact .inr ⟨by omega, by simp [AHeap.next_push]; omega⟩
    · rw [Emb.add_ne _ _ _ e] at hb; exact .inl hb
  · rw [AHeap.get_push, if_neg (by omega)]

/- an owned block is written -/
theorem set_rel {base : Nat} {ρ : Emb} {h : AHeap} {w : World} (hr : H0 base ρ h w) {b : Nat} {l : Loc} (hb : ρ b = some l) (ho : Owns h b) (x : ABlk) (w' : World)
    (hsz : w'.heap.size = w.heap.size) (hoth : ∀ k, k ≠ l.c → w'.heap[k]? = w.heap[k]?) (h1 : w'.os = w.os) (h2 : w'.tape = w.tape) (h3 : w'.output = w.output)
    (hx : BRel base ρ (some x) l w') (hlp : ∀ L, h.get b = some (.loop L) → ∃ L', x = .loop L' ∧ LSame L L') : H0 base ρ (h.set b x) w' ∧ Trans ρ h w ρ (h.set b x) w' := by
  refine ⟨⟨fun b' l' hb' => by rw [hsz]; exact hr.clt b' l' hb', ?_, ?_, by rw [hsz]; exact hr.base⟩, ⟨.refl ρ, by rw [hsz]; exact Nat.le_refl _, ?_, ?_, h1, h2, h3, fun b' l' L hb' hg => ?_, Nat.le_refl _, fun _ _ hb => .inl hb, fun b' hb' hn => ?_⟩⟩
  · intro b' l' hb'
    rw [AHeap.get_set]
    by_cases e : b' = b
    · subst e; rw [hb] at hb'; cases hb'; rw [if_pos rfl]; exact hx
    · rw [if_neg e]
      have hblk := hr.blk b' l' hb'
      cases hg : h.get b' with
      | none => rw [hg] at hblk; exact hblk.elim
      | some y =>
        cases y with
        | dead => trivial
        | _ =>
          rw [hg] at hblk
          exact hblk.mono (.refl _) (hoth _ (fun q => hr.inj b b' l l' hb hb' (fun q => e q.symm) ho (by unfold Alive; rw [hg]; trivial) q.symm))
  · intro b1 b2 l1 l2 hb1 hb2 hne ho1 ha2
    refine hr.inj b1 b2 l1 l2 hb1 hb2 hne ?_ ?_
    · by_cases e : b1 = b
      · rw [e]; exact ho
      · exact (owns_set e).1 ho1
    · by_cases e : b2 = b
      · rw [e]; exact ho.alive
      · exact (alive_set e).1 ha2
  · intro k _ hk
    exact hoth k (fun q => hk b l hb ho q.symm)
  · intro b' l' hb' ha'
    by_cases e : b' = b
    · subst e; exact .inl ⟨hb', ho.alive, fun _ => ho⟩
    · exact .inl ⟨hb', (alive_set e).1 ha', (owns_set e).1⟩
  · rw [AHeap.get_set]
    by_cases e : b' = b
    · subst e; obtain ⟨L', rfl, hs⟩ := hlp L hg; exact ⟨L', if_pos rfl, hs⟩
    · exact ⟨L, by rw [if_neg e]; exact hg, .refl L⟩
  · rw [AHeap.get_set, if_neg (fun q => by rw [q, hb] at hn; cases hn)]

/- an owned block goes over into a new abstract block that lies in the same concrete block -/
theorem move_rel {base : Nat} {ρ : Emb} {h : AHeap} {w : World} (hr : H0 base ρ h w) (hfresh : ρ h.next = none) {b : Nat} {l : Loc} (hb : ρ b = some l) (ho : Owns h b) (x : ABlk) (o : Nat) (w' : World)
    (hsz : w'.heap.size = w.heap.size) (hoth : ∀ k, k ≠ l.c → w'.heap[k]? = w.heap[k]?) (h1 : w'.os = w.os) (h2 : w'.tape = w.tape) (h3 : w'.output = w.output)
    (hx : BRel base (ρ.add h.next ⟨l.c, o, l.n⟩) (some x) ⟨l.c, o, l.n⟩ w') (hlp : ∀ L, h.get b ≠ some (.loop L)) :
    H0 base (ρ.add h.next ⟨l.c, o, l.n⟩) ((h.set b .dead).push x) w' ∧ Trans ρ h w (ρ.add h.next ⟨l.c, o, l.n⟩) ((h.set b .dead).push x) w' := by
  have hnx : (h.set b .dead).next = h.next := rfl
  have he : Ext ρ (ρ.add h.next ⟨l.c, o, l.n⟩) := .add hfresh
  have hbn : b ≠ h.next := fun q => by rw [q, hfresh] at hb; cases hb
  have hdn : ∀ b' l', ρ b' = some l' → b' ≠ h.next := fun b' l' hb' q => by rw [q, hfresh] at hb'; cases hb'
  have hcl := hr.clt b l hb
  have getp : ∀ b', b' ≠ h.next → ((h.set b .dead).push x).get b' = if b' = b then some .dead else h.get b' := fun b' e => by
    rw [AHeap.get_push, hnx, if_neg e, AHeap.get_set]
  have ownp : ∀ b', b' ≠ h.next → Owns ((h.set b .dead).push x) b' → b' ≠ b ∧ Owns h b' := by
    intro b' e ho'
    unfold Owns at ho'
    rw [getp b' e] at ho'
    by_cases q : b' = b
    · rw [if_pos q] at ho'; exact ho'.elim
    · rw [if_neg q] at ho'; exact ⟨q, ho'⟩
  have alivep : ∀ b', b' ≠ h.next → Alive ((h.set b .dead).push x) b' → b' ≠ b ∧ Alive h b' := by
    intro b' e ho'
    unfold Alive at ho'
    rw [getp b' e] at ho'
    by_cases q : b' = b
    · rw [if_pos q] at ho'; exact ho'.elim
    · rw [if_neg q] at ho'; exact ⟨q, ho'⟩
  refine ⟨⟨?_, ?_, ?_, by rw [hsz]; exact hr.base⟩, ⟨he, by rw [hsz]; exact Nat.le_refl _, ?_, ?_, h1, h2, h3, fun b' l' L hb' hg => ⟨L, ?_, .refl L⟩, Nat.le_succ _, fun b' l' hb' => ?_, fun b' hb' hn => ?_⟩⟩
  · intro b' l' hb'
    rw [hsz]
    by_cases e : b' = h.next
    · subst e; rw [Emb.add_same] at hb'; cases hb'; exact hcl
    · rw [Emb.add_ne _ _ _ e] at hb'; exact hr.clt b' l' hb'
  · intro b' l' hb'
    by_cases e : b' = h.next
    · subst e; rw [Emb.add_same] at hb'; cases hb'
      rw [AHeap.get_push, hnx, if_pos rfl]; exact hx
    · rw [Emb.add_ne _ _ _ e] at hb'
      rw [getp b' e]
      by_cases q : b' = b
      · rw [if_pos q]; trivial
      · rw [if_neg q]
        have hblk := hr.blk b' l' hb'
        cases hg : h.get b' with
        | none => rw [hg] at hblk; exact hblk.elim
        | some y =>
          cases y with
          | dead => trivial
          | _ =>
            rw [hg] at hblk
            exact hblk.mono he (hoth _ (fun z => hr.inj b b' l l' hb hb' (fun z => q z.symm) ho (by unfold Alive; rw [hg]; trivial) z.symm))
  · intro b1 b2 l1 l2 hb1 hb2 hne ho1 ha2
    by_cases e1 : b1 = h.next
    · have e2 : b2 ≠ h.next := fun q => hne (e1.trans q.symm)
      subst e1
      rw [Emb.add_same] at hb1; cases hb1
      rw [Emb.add_ne _ _ _ e2] at hb2
      obtain ⟨q, ha⟩ := alivep b2 e2 ha2
      exact hr.inj b b2 l l2 hb hb2 (fun z => q z.symm) ho ha
    · rw [Emb.add_ne _ _ _ e1] at hb1
      obtain ⟨q1, hh1⟩ := ownp b1 e1 ho1
      by_cases e2 : b2 = h.next
      · subst e2; rw [Emb.add_same] at hb2; cases hb2
        exact hr.inj b1 b l1 l hb1 hb q1 hh1 ho.alive
      · rw [Emb.add_ne _ _ _ e2] at hb2
        obtain ⟨q2, hh2⟩ := alivep b2 e2 ha2
        exact hr.inj b1 b2 l1 l2 hb1 hb2 hne hh1 hh2
  · intro k _ hk
    exact hoth k (fun q => hk b l hb ho q.symm)
  · intro b' l' hb' ha'
    by_cases e : b' = h.next
    · subst e; rw [Emb.add_same] at hb'; cases hb'; exact .inr (.inr ⟨b, l, hb, ho, rfl⟩)
    · rw [Emb.add_ne _ _ _ e] at hb'; exact .inl ⟨hb', (alivep b' e ha').2, fun q => (ownp b' e q).2⟩
  · have hq : ¬ b' = b := fun q => hlp L (by rw [← q]; exact hg)
    rw [getp b' (hdn b' l' hb'), if_neg hq]; exact hg
  · by_cases e : b' = h.next
    · exact .inr ⟨by omega, by rw [AHeap.next_push, hnx]; omega⟩
    · rw [Emb.add_ne _ _ _ e] at hb'; exact .inl hb'
  · rw [getp b' (by omega), if_neg (fun q => by rw [q, hb] at hn; cases hn)]

/- the tables -/
theorem Tab.Ok.und {T : Tab} {P : Program} (ok : T.Ok P) {t : TypeId} {d : TypeDesc} (h : T.und t = some d) : P.underlying t = some d := by
  unfold Tab.und at h
  cases hg : T.types.get t with
  | none => rw [hg] at h; cases h
  | some i => rw [hg] at h; cases h; exact (ok.types t i hg).1

theorem Tab.Ok.size {T : Tab} {P : Program} (ok : T.Ok P) {t : TypeId} {n : Nat} (h : szT T t = some n) : ∃ j, P.info? t = some j ∧ j.size = n := by
  unfold szT at h
  cases hg : T.types.get t with
  | none => rw [hg] at h; cases h
  | some i => rw [hg] at h; cases h; obtain ⟨_, j, hj, hs, _⟩ := ok.types t i hg; exact ⟨j, hj, hs⟩

theorem Tab.Ok.zero {T : Tab} {P : Program} (ok : T.Ok P) {t : TypeId} {z : AVal} (h : zeroT T t = some z) : ∃ j zv, P.info? t = some j ∧ j.zero = some zv ∧ ofVal zv = some z := by
  unfold zeroT at h
  cases hg : T.types.get t with
  | none => rw [hg] at h; cases h
  | some i =>
    rw [hg] at h
    obtain ⟨_, j, hj, _, _, hz, _⟩ := ok.types t i hg
    obtain ⟨zv, hz1, hz2⟩ := hz z h
    exact ⟨j, zv, hj, hz1, hz2⟩

theorem run_underlying' {P : Program} {t : TypeId} {d : TypeDesc} (h : P.underlying t = some d) (w : World) : (underlying t).run P w = .ok d w := by
  simp [underlying, h]
theorem run_sizeOf' {P : Program} {t : TypeId} {j : TypeInfo} (h : P.info? t = some j) (w : World) : (sizeOf t).run P w = .ok j.size w := by
  simp [sizeOf, typeInfo, h]
theorem run_typeInfo' {P : Program} {t : TypeId} {j : TypeInfo} (h : P.info? t = some j) (w : World) : (typeInfo t).run P w = .ok j w := by
  simp [typeInfo, h]
theorem run_zeroValue' {P : Program} {t : TypeId} {j : TypeInfo} {z : Value} (h : P.info? t = some j) (hz : j.zero = some z) (w : World) : (zeroValue t).run P w = .ok z w := by
  simp [zeroValue, typeInfo, h, hz]
theorem run_isAgg' {T : Tab} {P : Program} (ok : T.Ok P) {t : TypeId} {b : Bool} (h : isAggT T t = some b) (w : World) : (isAgg t).run P w = .ok b w := by
  unfold isAggT at h
  split at h
  · rename_i hu; cases h; simp [isAgg, run_underlying' (ok.und hu)]
  · rename_i hu; cases h; simp [isAgg, run_underlying' (ok.und hu)]
  · rename_i d h1 h2 hu
    cases h
    have hd := ok.und hu
    cases d <;> first | (simp [isAgg, run_underlying' hd]; done) | (exact absurd rfl (h1 _)) | (exact absurd rfl (h2 _ _))
  · cases h

/- what an operation comes to: a value · nothing -/
def VOk (P : Program) (base : Nat) (ρ : Emb) (h : AHeap) (w : World) (s : Sem Value) (v : AVal) (h' : AHeap) : Prop :=
  ∃ v' w' ρ', s.run P w = .ok v' w' ∧ VRel ρ' v v' ∧ H0 base ρ' h' w' ∧ Trans ρ h w ρ' h' w'
def UOk (P : Program) (base : Nat) (ρ : Emb) (h : AHeap) (w : World) (s : Sem Unit) (h' : AHeap) : Prop :=
  ∃ w' ρ', s.run P w = .ok () w' ∧ H0 base ρ' h' w' ∧ Trans ρ h w ρ' h' w'

theorem VOk.pure {P : Program} {base : Nat} {ρ : Emb} {h : AHeap} {w : World} {s : Sem Value} {v : AVal} {v' : Value} (hr : H0 base ρ h w) (hs : s.run P w = .ok v' w) (hv : VRel ρ v v') : VOk P base ρ h w s v h :=
  ⟨v', w, ρ, hs, hv, hr, .refl ρ h w⟩

end Go.Ai
