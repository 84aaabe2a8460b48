/- Symbolic runs of the abstract interpreter: what a frame's places hold, what rows and boxes a function owns. -/
import Derived.Test.YtpiblfbidgcjaaaAiWalk
namespace Go.Ai.Sx

def _root_.Go.Ai.Store.Sub (z : Store) (h : AHeap) : Prop := ∀ b x, z b = some x → h.get b = some x ∧ b < h.next

/- a pointer to cells that nobody writes -/
def PtrAt {A : Type} (R : Rep A) (z : Store) (a : AVal) (x : A) : Prop :=
  ∃ b off cells ro, a = .ptr b off ∧ z b = some (.arr cells ro) ∧ off + R.sz ≤ cells.length ∧ R.rel z ((cells.drop off).take R.sz) x

def rPtr {A : Type} (R : Rep A) : Rep A :=
  ⟨1, false, fun z cs x => ∃ a, cs = [a] ∧ PtrAt R z a x, fun _ _ _ h => by obtain ⟨v, h, _⟩ := h; rw [h]; rfl,
    fun _ _ _ _ e h => let ⟨a, h1, b, off, cells, ro, h2, h3, h4, h5⟩ := h; ⟨a, h1, b, off, cells, ro, h2, e _ _ h3, h4, R.mono _ _ _ _ e h5⟩,
    fun _ => rfl, fun _ _ _ h => by obtain ⟨v, h, _, _, _, _, r, _⟩ := h; rw [h, r]; rfl⟩

/- what a place of a frame holds -/
inductive TE : Type 1 where
  | val {A : Type} (R : Rep A) (x : A)
  | raw (v : AVal)
  | elt (v : AVal) (i off : Nat)
  | tup (es : List TE)

mutual
def TE.ok (z : Store) : TE → AVal → Prop
  | .val R x, a => TV R z a x
  | .raw v, a => a = v
  | .elt v i off, a => ∃ b o len es cap, v = .slice b o len es cap ∧ a = .ptr b (o + i * es + off)
  | .tup es, a => ∃ vs, a = .tuple vs ∧ okAll z es vs
def okAll (z : Store) : List TE → List AVal → Prop
  | [], vs => vs = []
  | e :: es, vs => ∃ v vs', vs = v :: vs' ∧ e.ok z v ∧ okAll z es vs'
end

mutual
theorem TE.ok_mono {z z' : Store} (hz : z.le z') : ∀ {e : TE} {a : AVal}, e.ok z a → e.ok z' a
  | .val _ _, _, h => TV.mono hz h
  | .raw _, _, h => h
  | .elt .., _, h => h
  | .tup es, _, h => by
    simp only [TE.ok] at h ⊢
    obtain ⟨vs, h1, h2⟩ := h
    exact ⟨vs, h1, okAll_mono hz h2⟩
theorem okAll_mono {z z' : Store} (hz : z.le z') : ∀ {es : List TE} {vs : List AVal}, okAll z es vs → okAll z' es vs
  | [], _, h => by simp only [okAll] at h ⊢; exact h
  | e :: es, _, h => by
    simp only [okAll] at h ⊢
    obtain ⟨v, vs', h1, h2, h3⟩ := h
    exact ⟨v, vs', h1, TE.ok_mono hz h2, okAll_mono hz h3⟩
end

abbrev Env := List (Nat × TE)
def look : Env → Nat → Option TE
  | [], _ => none
  | p :: Γ, t => bif Nat.beq p.1 t then some p.2 else look Γ t

def FrOk (z : Store) (Γ : Env) (fr : AFrame) : Prop := ∀ t e, look Γ t = some e → e.ok z (fr.ev t)

theorem FrOk.mono {z z' : Store} {Γ : Env} {fr : AFrame} (hz : z.le z') (h : FrOk z Γ fr) : FrOk z' Γ fr := fun t e q => TE.ok_mono hz (h t e q)
theorem FrOk.set {z : Store} {Γ : Env} {fr : AFrame} {d : Nat} {e : TE} {v : AVal} (h : FrOk z Γ fr) (q : e.ok z v) : FrOk z ((d, e) :: Γ) (Tr.set fr d v) := by
  intro t e' hl
  rw [AFrame.ev_set]
  simp only [look] at hl
  by_cases hd : d = t
  · subst hd; simp at hl; subst hl; rw [if_pos rfl]; exact q
  · have : Nat.beq d t = false := by rw [Bool.eq_false_iff]; intro q; exact hd (Nat.eq_of_beq_eq_true q)
    rw [this] at hl
    rw [if_neg (Ne.symm hd)]
    exact h t e' hl

/- every entry of the first is one of the second -/
def Sublist (Γ Γ' : Env) : Prop := ∀ t e, look Γ t = some e → look Γ' t = some e
def AllIn (Γ' : Env) : Env → Prop
  | [] => True
  | p :: Γ => look Γ' p.1 = some p.2 ∧ AllIn Γ' Γ
theorem AllIn.sub {Γ' : Env} : ∀ {Γ : Env}, AllIn Γ' Γ → Sublist Γ Γ'
  | [], _, _, _, h => by cases h
  | p :: Γ, ha, t, e, h => by
    simp only [look] at h
    cases hb : Nat.beq p.1 t with
    | true =>
      rw [hb] at h
      have := Nat.eq_of_beq_eq_true hb
      subst this
      cases h
      exact ha.1
    | false => rw [hb] at h; exact ha.2.sub t e h

/- what a function owns -/
inductive Obj : Type 1 where
  | row {A : Type} (R : Rep A) (xs : List A)
  | box (es : List TE)
  | mp {B : Type} (R : Rep B) (k : IntKind) (es : List (Int × B))
  | cb (bs : List Nat) (ok : Store → AHeap → Prop)

/- a claim on memory that hangs on some blocks alone -/
def Stab (bs : List Nat) (ok : Store → AHeap → Prop) : Prop := ∀ z z' h h', z.le z' → (∀ b ∈ bs, h'.get b = h.get b) → ok z h → ok z' h'

def Obj.ok (z : Store) (h : AHeap) : Obj → AVal → Prop
  | .row R xs, v => xs.length ≤ maxLen ∧ ((v = .nilslice ∧ xs = []) ∨ ∃ b off cap cells, v = .slice b off xs.length R.sz cap ∧ h.get b = some (.arr cells false) ∧ off + xs.length * R.sz ≤ cells.length ∧
      (∀ c, cap = some c → xs.length ≤ c ∧ off + c * R.sz ≤ cells.length) ∧ ∀ i x, xs[i]? = some x → R.rel z ((cells.drop (off + i * R.sz)).take R.sz) x)
  | .box es, v => ∃ b cells, v = .ptr b 0 ∧ h.get b = some (.arr cells false) ∧ okAll z es cells ∧ cells.all AVal.one = true
  | .mp R k es, v => ∃ b l, v = .map b ∧ h.get b = some (.mp l) ∧ l.length = es.length ∧ ∀ (i : Nat) (p : AVal × AVal) (q : Int × _), l[i]? = some p → es[i]? = some q → p.1 = .int k q.1 ∧ TV R z p.2 q.2
  | .cb bs ok, _ => ok z h ∧ Stab bs ok

def blkO : AVal → Option Nat
  | .slice b _ _ _ _ => some b
  | .ptr b _ => some b
  | .map b => some b
  | _ => none

def blkE (p : AVal × Obj) : List Nat := match p.2 with
  | .cb bs _ => bs
  | _ => (blkO p.1).toList

def plainO : Obj → Bool
  | .cb _ _ => false
  | _ => true
theorem blkE_plain {v : AVal} {o : Obj} (h : plainO o = true) : blkE (v, o) = (blkO v).toList := by cases o <;> first | rfl | cases h

theorem Obj.ok_mono {z z' : Store} {h h' : AHeap} {o : Obj} {v : AVal} (hz : z.le z') (hs : ∀ b, b ∈ blkE (v, o) → h'.get b = h.get b) (q : o.ok z h v) : o.ok z' h' v := by
  cases o with
  | row R xs =>
    obtain ⟨q0, q⟩ := q
    refine ⟨q0, ?_⟩
    rcases q with q | ⟨b, off, cap, cells, rfl, q2, q3, q4, q5⟩
    · exact .inl q
    · exact .inr ⟨b, off, cap, cells, rfl, by rw [hs b (by simp [blkE, blkO])]; exact q2, q3, q4, fun i x hx => R.mono _ _ _ _ hz (q5 i x hx)⟩
  | box es =>
    obtain ⟨b, cells, rfl, q2, q3, q4⟩ := q
    exact ⟨b, cells, rfl, by rw [hs b (by simp [blkE, blkO])]; exact q2, okAll_mono hz q3, q4⟩
  | mp R k es =>
    obtain ⟨b, l, rfl, q2, q3, q4⟩ := q
    exact ⟨b, l, rfl, by rw [hs b (by simp [blkE, blkO])]; exact q2, q3, fun i p q hp hq => ⟨(q4 i p q hp hq).1, (q4 i p q hp hq).2.mono hz⟩⟩
  | cb bs ok => exact ⟨q.2 z z' h h' hz hs q.1, q.2⟩

abbrev Own := List (AVal × Obj)
def blks (L : Own) : List Nat := L.flatMap blkE
theorem blks_cons (p : AVal × Obj) (L : Own) : blks (p :: L) = blkE p ++ blks L := by simp [blks]
theorem mem_blks {L : Own} {b : Nat} : b ∈ blks L ↔ ∃ p ∈ L, b ∈ blkE p := by simp [blks, List.mem_flatMap]

/- where a run began: the quiet blocks, the heap, the blocks that it may write -/
structure Ctx where
  z0 : Store
  h0 : AHeap
  B0 : List Nat

structure OwnOk (C : Ctx) (z : Store) (h : AHeap) (L : Own) : Prop where
  ok : ∀ p ∈ L, p.2.ok z h p.1
  out : ∀ p ∈ L, ∀ b, b ∈ blkE p → z b = none ∧ b < h.next ∧ (C.h0.next ≤ b ∨ b ∈ C.B0)
  nodup : (blks L).Nodup

structure Chg (C : Ctx) (h : AHeap) : Prop where
  next : C.h0.next ≤ h.next
  same : ∀ b, b < C.h0.next → b ∉ C.B0 → h.get b = C.h0.get b
  wm : ∀ m, m ≤ C.h0.wm → m ≤ C.h0.next → (∀ b ∈ C.B0, m ≤ b) → m ≤ h.wm
  ok : h.wm ≤ h.next

structure StZ (C : Ctx) (Γ : Env) (L : Own) (z : Store) (fr : AFrame) (h : AHeap) : Prop where
  zle : C.z0.le z
  sub : z.Sub h
  old : ∀ b, b < C.h0.next → b ∉ C.B0 → z b = C.z0 b
  fr : FrOk z Γ fr
  own : OwnOk C z h L
  chg : Chg C h

def St (C : Ctx) (Γ : Env) (L : Own) (fr : AFrame) (h : AHeap) : Prop := ∃ z, StZ C Γ L z fr h

theorem StZ.quiet {C : Ctx} {Γ : Env} {L : Own} {z : Store} {fr : AFrame} {h : AHeap} (s : StZ C Γ L z fr h) (hB : C.B0 = []) : Quiet C.h0 h :=
  ⟨s.chg.next, fun b hb => s.chg.same b hb (by rw [hB]; exact fun q => nomatch q), s.chg.wm _ (Nat.min_le_left _ _) (Nat.min_le_right _ _) (by rw [hB]; exact fun _ q => nomatch q), fun _ => s.chg.ok⟩

theorem StZ.low {C : Ctx} {Γ : Env} {L : Own} {z : Store} {fr : AFrame} {h : AHeap} (s : StZ C Γ L z fr h) {x : Nat} (h1 : x ≤ h.next) (h2 : ∀ m, m ≤ C.h0.wm → m ≤ C.h0.next → (∀ b ∈ C.B0, m ≤ b) → m ≤ x) : StZ C Γ L z fr (lay h x) :=
  ⟨s.zle, s.sub, s.old, s.fr, ⟨fun p hp => Obj.ok_mono (h := h) (h' := Go.Ai.lay h x) (.refl _) (fun _ _ => rfl) (s.own.ok p hp), s.own.out, s.own.nodup⟩, ⟨s.chg.next, s.chg.same, h2, h1⟩⟩

theorem StZ.set {C : Ctx} {Γ : Env} {L : Own} {z : Store} {fr : AFrame} {h : AHeap} (s : StZ C Γ L z fr h) {d : Nat} {e : TE} {v : AVal} (q : e.ok z v) : StZ C ((d, e) :: Γ) L z (Tr.set fr d v) h :=
  { s with fr := s.fr.set q }

theorem St.weak {C : Ctx} {Γ Γ' : Env} {L : Own} {fr : AFrame} {h : AHeap} (s : St C Γ L fr h) (q : AllIn Γ Γ') : St C Γ' L fr h := by
  obtain ⟨z, s⟩ := s
  exact ⟨z, { s with fr := fun t e hl => s.fr t e (q.sub t e hl) }⟩

/- fewer things owned: the places of those that stay -/
def picks (L : Own) : List Nat → Own
  | [] => []
  | i :: is => match L[i]? with
    | some p => p :: picks L is
    | none => picks L is

theorem picks_mem {L : Own} : ∀ {is : List Nat} {p : AVal × Obj}, p ∈ picks L is → ∃ i ∈ is, L[i]? = some p
  | [], _, h => by cases h
  | i :: is, p, h => by
    simp only [picks] at h
    cases hi : L[i]? with
    | none => rw [hi] at h; obtain ⟨j, h1, h2⟩ := picks_mem h; exact ⟨j, List.mem_cons_of_mem _ h1, h2⟩
    | some q =>
      rw [hi] at h
      rcases List.mem_cons.1 h with rfl | h
      · exact ⟨i, List.mem_cons_self .., hi⟩
      · obtain ⟨j, h1, h2⟩ := picks_mem h; exact ⟨j, List.mem_cons_of_mem _ h1, h2⟩

theorem blks_apart {L : Own} (hn : (blks L).Nodup) : ∀ {i j : Nat} {p q : AVal × Obj} {b : Nat}, L[i]? = some p → L[j]? = some q → b ∈ blkE p → b ∈ blkE q → i = j := by
  induction L with
  | nil => intro i j p q b h; simp at h
  | cons a L ih =>
    intro i j p q b hi hj hp hq
    rw [blks_cons] at hn
    have hn' : (blks L).Nodup := (List.nodup_append.1 hn).2.1
    have key : ∀ {k : Nat} {p : AVal × Obj}, L[k]? = some p → b ∈ blkE p → b ∈ blkE a → False := by
      intro k p hk hp ha
      exact (List.nodup_append.1 hn).2.2 b ha b (mem_blks.2 ⟨p, List.mem_of_getElem? hk, hp⟩) rfl
    cases i with
    | zero =>
      simp at hi; subst hi
      cases j with
      | zero => rfl
      | succ j => exact (key (by simpa using hj) hq hp).elim
    | succ i =>
      cases j with
      | zero => simp at hj; subst hj; exact (key (by simpa using hi) hp hq).elim
      | succ j => exact congrArg (· + 1) (ih (i := i) (j := j) hn' (by simpa using hi) (by simpa using hj) hp hq)

theorem blkE_nodup {L : Own} (hn : (blks L).Nodup) {p : AVal × Obj} (hp : p ∈ L) : (blkE p).Nodup := by
  induction L with
  | nil => cases hp
  | cons a L ih =>
    rw [blks_cons] at hn
    rcases List.mem_cons.1 hp with rfl | hp
    · exact (List.nodup_append.1 hn).1
    · exact ih (List.nodup_append.1 hn).2.1 hp

theorem picks_nodup {L : Own} (hn : (blks L).Nodup) : ∀ {is : List Nat}, is.Nodup → (blks (picks L is)).Nodup
  | [], _ => by simp [picks, blks]
  | i :: is, h => by
    simp only [picks]
    have ih := picks_nodup hn (List.nodup_cons.1 h).2
    cases hi : L[i]? with
    | none => exact ih
    | some p =>
      show (blks (p :: picks L is)).Nodup
      rw [blks_cons]
      refine List.nodup_append.2 ⟨blkE_nodup hn (List.mem_of_getElem? hi), ih, fun b hb c hc e => ?_⟩
      subst e
      obtain ⟨q, hq1, hq2⟩ := mem_blks.1 hc
      obtain ⟨j, hj1, hj2⟩ := picks_mem hq1
      have := blks_apart hn hi hj2 hb hq2
      subst this
      exact (List.nodup_cons.1 h).1 hj1

theorem St.pick {C : Ctx} {Γ Γ' : Env} {L L' : Own} {fr : AFrame} {h : AHeap} (s : St C Γ L fr h) (is : List Nat) (q : AllIn Γ Γ') (hL : picks L is = L') (hn : is.Nodup) : St C Γ' L' fr h := by
  subst hL
  obtain ⟨z, s⟩ := s
  refine ⟨z, { s with fr := fun t e hl => s.fr t e (q.sub t e hl), own := ⟨fun p hp => ?_, fun p hp => ?_, picks_nodup s.own.nodup hn⟩ }⟩
  · obtain ⟨i, _, h2⟩ := picks_mem hp
    exact s.own.ok p (List.mem_of_getElem? h2)
  · obtain ⟨i, _, h2⟩ := picks_mem hp
    exact s.own.out p (List.mem_of_getElem? h2)

end Go.Ai.Sx
