/- Symbolic runs of the abstract interpreter: memory. -/
import Derived.Test.YtpiblfbidgcjaaaAiSz
namespace Go.Ai.Sx

def setAt : Own → Nat → AVal × Obj → Option Own
  | [], _, _ => none
  | _ :: l, 0, e => some (e :: l)
  | p :: l, n + 1, e => match setAt l n e with
    | some l' => some (p :: l')
    | none => none
def dropAt : Own → Nat → Option Own
  | [], _ => none
  | _ :: l, 0 => some l
  | p :: l, n + 1 => match dropAt l n with
    | some l' => some (p :: l')
    | none => none

theorem setAt_eq : ∀ {L L' : Own} {k : Nat} {e : AVal × Obj}, setAt L k e = some L' → L' = L.set k e ∧ k < L.length
  | [], _, _, _, h => by cases h
  | _ :: _, _, 0, _, h => by cases h; exact ⟨rfl, by simp⟩
  | p :: l, _, n + 1, e, h => by
    simp only [setAt] at h
    split at h
    · rename_i l' h'
      cases h
      obtain ⟨h1, h2⟩ := setAt_eq h'
      exact ⟨by rw [h1]; rfl, by simpa using h2⟩
    · cases h
theorem dropAt_eq : ∀ {L L' : Own} {k : Nat}, dropAt L k = some L' → L' = L.eraseIdx k
  | [], _, _, h => by cases h
  | _ :: _, _, 0, h => by cases h; rfl
  | p :: l, _, n + 1, h => by
    simp only [dropAt] at h
    split at h
    · rename_i l' h'
      cases h
      rw [dropAt_eq h']; rfl
    · cases h

theorem sublist_flatMap {α β : Type _} {f : α → List β} {l l' : List α} (h : l.Sublist l') : (l.flatMap f).Sublist (l'.flatMap f) := by
  induction h with
  | slnil => exact List.Sublist.refl _
  | cons a _ ih => simp only [List.flatMap_cons]; exact ih.trans (List.sublist_append_right _ _)
  | cons_cons a _ ih => simp only [List.flatMap_cons]; exact (List.Sublist.refl _).append ih

def _root_.Go.Ai.Store.add (z : Store) (b : Nat) (x : ABlk) : Store := fun k => if k = b then some x else z k
theorem add_le {z : Store} {b : Nat} {x : ABlk} (h : z b = none) : z.le (z.add b x) := fun k y hk => by
  unfold Store.add
  rw [if_neg (fun e => by subst e; rw [h] at hk; cases hk)]; exact hk
theorem add_at {z : Store} {b : Nat} {x : ABlk} : z.add b x b = some x := by unfold Store.add; rw [if_pos rfl]
theorem add_ne {z : Store} {b k : Nat} {x : ABlk} (h : k ≠ b) : z.add b x k = z k := by unfold Store.add; rw [if_neg h]

section
variable {C : Ctx} {T : Tab} {d : Option (List Nat)} {ops rest : List Oper} {Γ : Env} {L : Own} {Q : AFrame → AHeap → Prop} {P : AExit → AFrame → AHeap → Prop} {o : Oper} {t : Nat} {z : Store} {fr : AFrame} {h : AHeap}

theorem StZ.next_none (s : StZ C Γ L z fr h) : z h.next = none := by
  cases e : z h.next with
  | none => rfl
  | some x => exact absurd (s.sub _ _ e).2 (Nat.lt_irrefl _)

/- an owned thing changes -/
theorem StZ.upd (s : StZ C Γ L z fr h) {k : Nat} {v v' : AVal} {ob ob' : Obj} {b : Nat} (hk : L[k]? = some (v, ob)) (hb : blkE (v, ob) = [b]) (hb' : blkE (v', ob') = [b]) (x : ABlk) (ho : ob'.ok z (h.set b x) v') {L' : Own} (hL : setAt L k (v', ob') = some L') : StZ C Γ L' z fr (h.set b x) := by
  obtain ⟨rfl, hlt⟩ := setAt_eq hL
  obtain ⟨o1, o2, o3⟩ := s.own.out _ (List.mem_of_getElem? hk) b (by rw [hb]; simp)
  have cases_ : ∀ p ∈ L.set k (v', ob'), p = (v', ob') ∨ ∃ j, j ≠ k ∧ L[j]? = some p := by
    intro p hp
    obtain ⟨j, hj, e⟩ := List.getElem_of_mem hp
    rw [List.getElem_set] at e
    by_cases q : k = j
    · rw [if_pos q] at e; exact .inl e.symm
    · rw [if_neg q] at e; exact .inr ⟨j, Ne.symm q, by rw [← e]; exact List.getElem?_eq_getElem _⟩
  refine { zle := s.zle, sub := ?_, old := s.old, fr := s.fr, own := ⟨?_, ?_, ?_⟩, chg := ⟨s.chg.next, ?_, ?_, ?_⟩ }
  · intro c y hc
    obtain ⟨h1, h2⟩ := s.sub c y hc
    refine ⟨?_, h2⟩
    rw [AHeap.get_set, if_neg (fun e => by subst e; rw [o1] at hc; cases hc)]; exact h1
  · intro p hp
    rcases cases_ p hp with rfl | ⟨j, hj, hjp⟩
    · exact ho
    · refine Obj.ok_mono (.refl _) (fun c hc => ?_) (s.own.ok p (List.mem_of_getElem? hjp))
      rw [AHeap.get_set, if_neg]
      intro e
      subst e
      exact hj (blks_apart s.own.nodup hjp hk hc (by rw [hb]; simp))
  · intro p hp
    rcases cases_ p hp with rfl | ⟨j, hj, hjp⟩
    · intro c hc; rw [hb', List.mem_singleton] at hc; subst hc; exact ⟨o1, o2, o3⟩
    · exact s.own.out p (List.mem_of_getElem? hjp)
  · have key : ∀ (L : Own) (k : Nat), L[k]? = some (v, ob) → blks (L.set k (v', ob')) = blks L := by
      intro L
      induction L with
      | nil => intro k h; simp at h
      | cons p L ih =>
        intro k h
        cases k with
        | zero =>
          simp at h; subst h
          rw [List.set_cons_zero, blks_cons, blks_cons, hb, hb']
        | succ k =>
          have := ih k (by simpa using h)
          rw [List.set_cons_succ, blks_cons, blks_cons, this]
    rw [key L k hk]; exact s.own.nodup
  · intro c hc hB
    rw [AHeap.get_set, if_neg]
    · exact s.chg.same c hc hB
    · intro e; subst e
      rcases o3 with q | q
      · omega
      · exact hB q
  · intro m m1 m2 m3
    have := s.chg.wm m m1 m2 m3
    have hb' : m ≤ b := by
      rcases o3 with q | q
      · exact Nat.le_trans m2 q
      · exact m3 _ q
    show m ≤ min h.wm b
    omega
  · show min h.wm b ≤ h.next
    have := s.chg.ok; omega

/- an owned thing is forgotten -/
theorem StZ.drop (s : StZ C Γ L z fr h) {k : Nat} {L' : Own} (hL : dropAt L k = some L') : StZ C Γ L' z fr h := by
  have := dropAt_eq hL
  subst this
  have hs : (L.eraseIdx k).Sublist L := List.eraseIdx_sublist L k
  refine { s with own := ⟨fun p hp => s.own.ok p (hs.subset hp), fun p hp => s.own.out p (hs.subset hp), ?_⟩ }
  exact List.Nodup.sublist (sublist_flatMap hs) s.own.nodup

/- an owned thing comes first -/
theorem dropAt_perm : ∀ {L L' : Own} {k : Nat} {e : AVal × Obj}, L[k]? = some e → dropAt L k = some L' → (e :: L').Perm L
  | [], _, _, _, h, _ => by simp at h
  | p :: l, _, 0, e, h, h' => by simp at h; cases h'; subst h; exact .refl _
  | p :: l, _, n + 1, e, h, h' => by
    simp only [dropAt] at h'
    split at h'
    · rename_i l' h2
      cases h'
      exact (List.Perm.swap p e l').trans ((dropAt_perm (by simpa using h) h2).cons p)
    · cases h'
theorem StZ.front (s : StZ C Γ L z fr h) {k : Nat} {e : AVal × Obj} {L' : Own} (hk : L[k]? = some e) (hL : dropAt L k = some L') : StZ C Γ (e :: L') z fr h := by
  have hp := dropAt_perm hk hL
  refine { s with own := ⟨fun p hp' => s.own.ok p (hp.mem_iff.1 hp'), fun p hp' => s.own.out p (hp.mem_iff.1 hp'), ?_⟩ }
  exact (List.Perm.flatMap_right _ hp).nodup_iff.2 s.own.nodup

/- a block that nobody else holds changes -/
theorem StZ.wild (s : StZ C Γ L z fr h) {b : Nat} (o1 : z b = none) (o2 : b < h.next) (o3 : C.h0.next ≤ b ∨ b ∈ C.B0) (hn : b ∉ blks L) (x : ABlk) : StZ C Γ L z fr (h.set b x) := by
  refine { zle := s.zle, sub := ?_, old := s.old, fr := s.fr, own := ⟨?_, s.own.out, s.own.nodup⟩, chg := ⟨s.chg.next, ?_, ?_, ?_⟩ }
  · intro c y hc
    obtain ⟨h1, h2⟩ := s.sub c y hc
    exact ⟨by rw [AHeap.get_set, if_neg (fun e => by subst e; rw [o1] at hc; cases hc)]; exact h1, h2⟩
  · intro p hp
    refine Obj.ok_mono (.refl _) (fun c hc => ?_) (s.own.ok p hp)
    rw [AHeap.get_set, if_neg]
    intro e; subst e
    exact hn (mem_blks.2 ⟨p, hp, hc⟩)
  · intro c hc hB
    rw [AHeap.get_set, if_neg]
    · exact s.chg.same c hc hB
    · intro e; subst e
      rcases o3 with q | q
      · omega
      · exact hB q
  · intro m m1 m2 m3
    have := s.chg.wm m m1 m2 m3
    have hb' : m ≤ b := by
      rcases o3 with q | q
      · exact Nat.le_trans m2 q
      · exact m3 _ q
    show m ≤ min h.wm b
    omega
  · show min h.wm b ≤ h.next
    have := s.chg.ok; omega

/- a new block that nobody writes -/
theorem StZ.push (s : StZ C Γ L z fr h) (x : ABlk) : StZ C Γ L (z.add h.next x) fr (h.push x) := by
  have hle : z.le (z.add h.next x) := add_le s.next_none
  refine { zle := s.zle.trans hle, sub := ?_, old := ?_, fr := s.fr.mono hle, own := ⟨?_, ?_, s.own.nodup⟩, chg := ⟨?_, ?_, s.chg.wm, ?_⟩ }
  · intro b y hb
    by_cases e : b = h.next
    · subst e
      rw [add_at] at hb; cases hb
      exact ⟨by rw [AHeap.get_push, if_pos rfl], by rw [AHeap.next_push]; omega⟩
    · rw [add_ne e] at hb
      obtain ⟨h1, h2⟩ := s.sub b y hb
      exact ⟨by rw [AHeap.get_push, if_neg e]; exact h1, by rw [AHeap.next_push]; omega⟩
  · intro b hb hB
    rw [add_ne (by have := s.chg.next; omega)]; exact s.old b hb hB
  · intro p hp
    refine Obj.ok_mono hle (fun b hb => ?_) (s.own.ok p hp)
    rw [AHeap.get_push, if_neg (by have := (s.own.out p hp b hb).2.1; omega)]
  · intro p hp b hb
    obtain ⟨o1, o2, o3⟩ := s.own.out p hp b hb
    exact ⟨by rw [add_ne (by omega)]; exact o1, by rw [AHeap.next_push]; omega, o3⟩
  · rw [AHeap.next_push]; have := s.chg.next; omega
  · intro b hb hB
    rw [AHeap.get_push, if_neg (by have := s.chg.next; omega)]; exact s.chg.same b hb hB
  · show h.wm ≤ h.next + 1
    have := s.chg.ok; omega

/- a new block that is owned -/
theorem StZ.pushOwn (s : StZ C Γ L z fr h) (x : ABlk) {v : AVal} {ob : Obj} (hv : blkE (v, ob) = [h.next]) (ho : ob.ok z (h.push x) v) : StZ C Γ ((v, ob) :: L) z fr (h.push x) := by
  refine { zle := s.zle, sub := ?_, old := s.old, fr := s.fr, own := ⟨?_, ?_, ?_⟩, chg := ⟨?_, ?_, s.chg.wm, ?_⟩ }
  · intro b y hb
    obtain ⟨h1, h2⟩ := s.sub b y hb
    exact ⟨by rw [AHeap.get_push, if_neg (by omega)]; exact h1, by rw [AHeap.next_push]; omega⟩
  · intro p hp
    rcases List.mem_cons.1 hp with rfl | hp
    · exact ho
    · refine Obj.ok_mono (.refl _) (fun b hb => ?_) (s.own.ok p hp)
      rw [AHeap.get_push, if_neg (by have := (s.own.out p hp b hb).2.1; omega)]
  · intro p hp b hb
    rcases List.mem_cons.1 hp with rfl | hp
    · rw [hv, List.mem_singleton] at hb; subst hb
      exact ⟨s.next_none, by rw [AHeap.next_push]; omega, .inl s.chg.next⟩
    · obtain ⟨o1, o2, o3⟩ := s.own.out p hp b hb
      exact ⟨o1, by rw [AHeap.next_push]; omega, o3⟩
  · rw [blks_cons, hv]
    refine List.nodup_cons.2 ⟨fun hm => ?_, s.own.nodup⟩
    obtain ⟨p, hp, hb⟩ := mem_blks.1 hm
    have := (s.own.out p hp _ hb).2.1
    omega
  · rw [AHeap.next_push]; have := s.chg.next; omega
  · intro b hb hB
    rw [AHeap.get_push, if_neg (by have := s.chg.next; omega)]; exact s.chg.same b hb hB
  · show h.wm ≤ h.next + 1
    have := s.chg.ok; omega

/- an owned empty row without memory -/
theorem StZ.nilrow {A : Type} (R : Rep A) (s : StZ C Γ L z fr h) : StZ C Γ ((.nilslice, .row R []) :: L) z fr h := by
  refine { s with own := ⟨fun p hp => ?_, fun p hp b hb => ?_, ?_⟩ }
  · rcases List.mem_cons.1 hp with rfl | hp
    · exact ⟨by simp [maxLen], .inl ⟨rfl, rfl⟩⟩
    · exact s.own.ok p hp
  · rcases List.mem_cons.1 hp with rfl | hp
    · simp [blkE, blkO] at hb
    · exact s.own.out p hp b hb
  · rw [blks_cons]; exact s.own.nodup

/- an owned row is written no more -/
def holdAll (ts : List Nat) (e : TE) (Γ : Env) : Env := match ts with
  | [] => Γ
  | t :: ts => (t, e) :: holdAll ts e Γ

def AllRaw (Γ : Env) (v : AVal) : List Nat → Prop
  | [] => True
  | t :: ts => look Γ t = some (.raw v) ∧ AllRaw Γ v ts

theorem holdAll_ok {e : TE} {v : AVal} (he : e.ok z v) : ∀ {ts : List Nat}, AllRaw Γ v ts → FrOk z Γ fr → FrOk z (holdAll ts e Γ) fr
  | [], _, hf => hf
  | t :: ts, ⟨h1, h2⟩, hf => by
    have ih := holdAll_ok he h2 hf
    intro t' e' hl
    simp only [holdAll, look] at hl
    cases hb : Nat.beq t t' with
    | true =>
      rw [hb] at hl
      have := Nat.eq_of_beq_eq_true hb
      subst this
      cases hl
      have := hf _ _ h1
      simp only [TE.ok] at this
      rw [this]; exact he
    | false => rw [hb] at hl; exact ih t' e' hl

theorem StZ.freeze {A : Type} {R : Rep A} {xs : List A} {v : AVal} (s : StZ C Γ L z fr h) {k : Nat} {L' : Own} (hk : L[k]? = some (v, .row R xs)) (hL : dropAt L k = some L') : ∃ z', z.le z' ∧ StZ C Γ L' z' fr h ∧ RowAt R z' v xs := by
  have ho := s.own.ok _ (List.mem_of_getElem? hk)
  simp only [Obj.ok] at ho
  rcases ho.2 with ⟨q, rfl⟩ | ⟨b, off, cap, cells, rfl, h2, h3, h4, h5⟩
  · exact ⟨z, .refl _, s.drop hL, by rw [q]; exact row_nil⟩
  · obtain ⟨o1, o2, o3⟩ := s.own.out _ (List.mem_of_getElem? hk) b (by simp [blkE, blkO])
    have hle : z.le (z.add b (.arr cells false)) := add_le o1
    have s' := s.drop hL
    have hne : ∀ p ∈ L', ∀ c, c ∈ blkE p → c ≠ b := by
      intro p hp c hc e
      subst e
      rw [dropAt_eq hL] at hp
      obtain ⟨j, hj, hjp⟩ := List.getElem_of_mem hp
      have hj' : (L.eraseIdx k)[j]? = some p := by rw [← hjp]; exact List.getElem?_eq_getElem _
      rw [List.getElem?_eraseIdx] at hj'
      split at hj'
      · have := blks_apart s.own.nodup hj' hk hc (by simp [blkE, blkO]); omega
      · have := blks_apart s.own.nodup hj' hk hc (by simp [blkE, blkO]); omega
    refine ⟨z.add b (.arr cells false), hle, { zle := s.zle.trans hle, sub := ?_, old := ?_, fr := s.fr.mono hle, own := ⟨fun p hp => Obj.ok_mono hle (fun _ _ => rfl) (s'.own.ok p hp), fun p hp c hc => ?_, s'.own.nodup⟩, chg := s.chg }, ?_⟩
    · intro c y hc
      by_cases e : c = b
      · subst e; rw [add_at] at hc; cases hc; exact ⟨h2, o2⟩
      · rw [add_ne e] at hc; exact s.sub c y hc
    · intro c hc hB
      rw [add_ne]
      · exact s.old c hc hB
      · intro e; subst e
        rcases o3 with q | q
        · omega
        · exact hB q
    · obtain ⟨q1, q2, q3⟩ := s'.own.out p hp c hc
      exact ⟨by rw [add_ne (hne p hp c hc)]; exact q1, q2, q3⟩
    · exact ⟨ho.1, .inr (.inr ⟨b, off, cap, cells, false, rfl, add_at, h3, fun c hc => (h4 c hc).1, fun i x hx => R.mono _ _ _ _ hle (h5 i x hx)⟩)⟩

end
end Go.Ai.Sx
