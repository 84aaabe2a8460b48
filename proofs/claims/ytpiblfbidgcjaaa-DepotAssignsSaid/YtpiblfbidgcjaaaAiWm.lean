/- An abstract interpreter for the model's code: an operation and the heap's low mark. -/
import Derived.Test.YtpiblfbidgcjaaaAiWp
namespace Go.Ai

def lay (h : AHeap) (x : Nat) : AHeap := { h with wm := x }

/- how a step goes, whatever the low mark -/
def Wm (h h1 : AHeap) (x : Nat) (h2 : AHeap) : Prop := ∃ y, h1.wm = min h.wm y ∧ h2 = lay h1 (min x y)

section
variable {T : Tab} {h h1 : AHeap} {x : Nat}

theorem Wm.refl : Wm h h x (lay h x) := ⟨max h.wm x, by omega, by rw [Nat.min_eq_left (Nat.le_max_right ..)]⟩
theorem Wm.push (b : ABlk) : Wm h (h.push b) x ((lay h x).push b) := ⟨max h.wm x, by simp only [AHeap.push]; omega, by rw [Nat.min_eq_left (Nat.le_max_right ..)]; rfl⟩
theorem Wm.set (k : Nat) (b : ABlk) : Wm h (h.set k b) x ((lay h x).set k b) := ⟨k, rfl, rfl⟩
theorem Wm.move (k : Nat) (a b : ABlk) : Wm h ((h.set k a).push b) x (((lay h x).set k a).push b) := ⟨k, rfl, rfl⟩

theorem lay_get (b : Nat) : (lay h x).get b = h.get b := rfl
theorem lay_next : (lay h x).next = h.next := rfl
theorem arow_wm {es n : Nat} {v : AVal} : arow es n v (lay h x) = arow es n v h := rfl

theorem astore_wm {t : TypeId} {a v : AVal} : astore T t h a v = some h1 → ∃ h2, astore T t (lay h x) a v = some h2 ∧ Wm h h1 x h2 := by
  unfold astore
  simp only [lay_get]
  repeat' split
  all_goals (intro hl; cases hl; try exact ⟨_, rfl, Wm.set ..⟩)

theorem amakeRow_wm {elem : TypeId} {len n : Nat} {cap : Option Nat} {parts : List (Nat × AVal)} {v : AVal} : amakeRow T elem len cap n h parts = some (v, h1) → ∃ h2, amakeRow T elem len cap n (lay h x) parts = some (v, h2) ∧ Wm h h1 x h2 := by
  unfold amakeRow
  simp only [lay_next]
  repeat' split
  all_goals (intro hl; cases hl; try exact ⟨_, rfl, Wm.push ..⟩)

theorem amapUpdate_wm {t : TypeId} {m k v : AVal} : amapUpdate T t m k v h = some h1 → ∃ h2, amapUpdate T t m k v (lay h x) = some h2 ∧ Wm h h1 x h2 := by
  unfold amapUpdate
  simp only [lay_get]
  repeat' split
  all_goals (intro hl; cases hl; try exact ⟨_, rfl, Wm.set ..⟩)

theorem acopy_wm {ts : Array TypeId} {d s v : AVal} : acopy T ts d s h = some (v, h1) → ∃ h2, acopy T ts d s (lay h x) = some (v, h2) ∧ Wm h h1 x h2 := by
  unfold acopy
  simp only [lay_get, arow_wm]
  repeat' split
  all_goals (intro hl; cases hl <;> first | exact ⟨_, rfl, Wm.refl⟩ | exact ⟨_, rfl, Wm.set ..⟩)

theorem aappend_wm {ts : Array TypeId} {s z v : AVal} : aappend T ts s z h = some (v, h1) → ∃ h2, aappend T ts s z (lay h x) = some (v, h2) ∧ Wm h h1 x h2 := by
  unfold aappend
  simp only [lay_get, arow_wm, lay_next]
  repeat' split
  all_goals (intro hl; cases hl <;> first | exact ⟨_, rfl, Wm.refl⟩ | exact ⟨_, rfl, Wm.set ..⟩ | exact ⟨_, rfl, Wm.push ..⟩ | exact ⟨_, rfl, Wm.move ..⟩)

theorem optVal_wm {y : Option AVal} {v : AVal} (e : optVal h y = some (.val v h1)) : ∃ h2, optVal (lay h x) y = some (.val v h2) ∧ Wm h h1 x h2 := by
  obtain ⟨rfl, rfl⟩ := optVal_inv e
  exact ⟨_, rfl, Wm.refl⟩

theorem aop_wm {ev : Operand → AVal} {o : Op} {v : AVal} (hl : aop T ev h o = some (.val v h1)) : ∃ h2, aop T ev (lay h x) o = some (.val v h2) ∧ Wm h h1 x h2 := by
  have pair : ∀ {y y' : Option (AVal × AHeap)}, optPair y = some (.val v h1) → (y = some (v, h1) → ∃ h2, y' = some (v, h2) ∧ Wm h h1 x h2) → ∃ h2, optPair y' = some (.val v h2) ∧ Wm h h1 x h2 := by
    intro y y' e k
    obtain ⟨h2, rfl, w⟩ := k (optPair_inv e)
    exact ⟨h2, rfl, w⟩
  have heap : ∀ {y y' : Option AHeap}, optHeap y = some (.val v h1) → (y = some h1 → ∃ h2, y' = some h2 ∧ Wm h h1 x h2) → ∃ h2, optHeap y' = some (.val v h2) ∧ Wm h h1 x h2 := by
    intro y y' e k
    obtain ⟨e1, rfl⟩ := optHeap_inv e
    obtain ⟨h2, rfl, w⟩ := k e1
    exact ⟨h2, rfl, w⟩
  cases o <;> simp only [aop] at hl ⊢ <;> (try (cases hl; done)) <;> (try exact optVal_wm hl)
  case move => cases hl; exact ⟨_, rfl, Wm.refl⟩
  case assign => cases hl; exact ⟨_, rfl, Wm.refl⟩
  case pick => revert hl; unfold opPick; split <;> intro hl <;> cases hl; exact ⟨_, rfl, Wm.refl⟩
  case alloc => revert hl; unfold opAlloc; split <;> intro hl <;> cases hl; exact ⟨_, rfl, Wm.push ..⟩
  case box => revert hl; unfold opBox; split <;> intro hl <;> cases hl; exact ⟨_, rfl, Wm.push ..⟩
  case buildSlice =>
    refine pair hl ?_
    unfold abuildSlice
    repeat' split
    all_goals first | exact amakeRow_wm | (intro q; cases q; done)
  case store => exact heap hl astore_wm
  case nilCheck => revert hl; unfold opNilCheck; split <;> intro hl <;> cases hl <;> exact ⟨_, rfl, Wm.refl⟩
  case makeInterface => revert hl; unfold opMakeInterface; split <;> intro hl <;> cases hl; exact ⟨_, rfl, Wm.refl⟩
  case makeFunc => revert hl; unfold opMakeFunc; split <;> intro hl <;> cases hl; exact ⟨_, rfl, Wm.refl⟩
  case makeMap => revert hl; unfold opMakeMap; split <;> intro hl <;> cases hl; exact ⟨_, rfl, Wm.push ..⟩
  case makeSlice =>
    refine pair hl ?_
    unfold amakeSlice
    repeat' split
    all_goals first | exact amakeRow_wm | (intro q; cases q; done)
  case mapUpdate => exact heap hl amapUpdate_wm
  case insert => exact heap hl amapUpdate_wm
  case extract =>
    revert hl; unfold opExtract
    split
    · intro hl; exact optVal_wm hl
    · intro hl; cases hl
  case call c =>
    revert hl; unfold opCall
    split
    · unfold abuiltin
      split
      · split
        · intro hl; exact optVal_wm hl
        · intro hl; cases hl
      · intro hl; exact pair hl aappend_wm
      · intro hl; exact pair hl acopy_wm
      · intro hl; exact optVal_wm hl
      · intro hl; exact optVal_wm hl
      · intro hl; cases hl
    · intro hl; cases hl
    · intro hl; cases hl

/- a heap that nobody has touched: what was there is there -/
structure Quiet (h h' : AHeap) : Prop where
  next : h.next ≤ h'.next
  same : ∀ b, b < h.next → h'.get b = h.get b
  wm : min h.wm h.next ≤ h'.wm
  ok : h.wm ≤ h.next → h'.wm ≤ h'.next

theorem Quiet.refl (h : AHeap) : Quiet h h := ⟨Nat.le_refl _, fun _ _ => rfl, Nat.min_le_left _ _, id⟩
theorem Quiet.trans {a b c : AHeap} (q : Quiet a b) (r : Quiet b c) : Quiet a c :=
  ⟨Nat.le_trans q.next r.next, fun k hk => (r.same k (Nat.lt_of_lt_of_le hk q.next)).trans (q.same k hk), by have := q.next; have := q.wm; have := r.wm; omega, fun k => r.ok (q.ok k)⟩
theorem Quiet.push {h0 h : AHeap} (q : Quiet h0 h) (x : ABlk) : Quiet h0 (h.push x) := by
  refine ⟨by rw [AHeap.next_push]; have := q.next; omega, fun b hb => ?_, q.wm, fun k => ?_⟩
  · rw [AHeap.get_push, if_neg (by have := q.next; omega)]; exact q.same b hb
  · have := q.ok k
    show h.wm ≤ h.next + 1
    omega
theorem Quiet.set {h0 h : AHeap} (q : Quiet h0 h) (b : Nat) (x : ABlk) (hb : h0.next ≤ b) : Quiet h0 (h.set b x) := by
  refine ⟨q.next, fun k hk => ?_, ?_, fun k => ?_⟩
  · rw [AHeap.get_set, if_neg (by omega)]; exact q.same k hk
  · show min h0.wm h0.next ≤ min h.wm b
    have := q.wm; omega
  · have := q.ok k
    show min h.wm b ≤ h.next
    omega
theorem Quiet.get {h h' : AHeap} (q : Quiet h h') {b : Nat} {x : ABlk} (hg : h.get b = some x) (hb : b < h.next) : h'.get b = some x := by rw [q.same b hb]; exact hg
theorem Quiet.lt {h h' : AHeap} (q : Quiet h h') {b : Nat} (hb : b < h.next) : b < h'.next := Nat.lt_of_lt_of_le hb q.next

/- drawn regions: an operation that calls nobody -/
theorem draw_op {ops rest : List Oper} {o : Oper} {i : Nat} {done : List (Nat × Foot)} {fr : AFrame} {Q : AFrame → AHeap → Prop} {v : AVal} {f : Foot} (hw : awanted ops fr o.guard = some true) (ha : aop T fr.op h o.op = some (.val v h1)) (hwm : h.wm ≤ h.next)
    (hf : foot fr.op o = f) (hk : footsOk ops i f done = true) (r : Draw T ops rest (i + 1) ((i, f) :: done) (putDst fr o.dst v) h1 Q) : Draw T ops (o :: rest) i done fr h Q := by
  obtain ⟨h2, e1, y, e2, e3⟩ := aop_wm (x := h.next) ha
  refine draw_val hw e1 hf (by rw [← hf]; exact (foot_val ha).1) hk ?_
  have e4 : ({ h2 with wm := min h.wm h2.wm } : AHeap) = h1 := by
    subst e3
    show ({ h1 with wm := min h.wm (min h.next y) } : AHeap) = h1
    have : min h.wm (min h.next y) = h1.wm := by rw [e2]; omega
    rw [this]
  rw [e4]
  exact r

/- a call that touches nothing old -/
theorem draw_call {ops rest : List Oper} {o : Oper} {i : Nat} {done : List (Nat × Foot)} {fr : AFrame} {Q : AFrame → AHeap → Prop} {f : AVal} {vs : List AVal} (hw : awanted ops fr o.guard = some true) (ha : aop T fr.op h o.op = some (.call f vs)) (hwm : h.wm ≤ h.next)
    (hk : footsOk ops i ⟨[], true, [], false⟩ done = true)
    (r : CallV T f vs { h with wm := h.next } fun r h1 => ∃ v, r = .ret v ∧ Quiet { h with wm := h.next } h1 ∧ Draw T ops rest (i + 1) ((i, ⟨[], true, [], false⟩) :: done) (putDst fr o.dst v) { h1 with wm := min h.wm h1.wm } Q) : Draw T ops (o :: rest) i done fr h Q := by
  obtain ⟨n, r, h1, h2, v, rfl, q, m, fr', h3, h4, h5⟩ := r
  have ha' : aop T fr.op { h with wm := h.next } o.op = some (.call f vs) := by
    obtain ⟨c, fo, ho, hc, e1, e2⟩ := aop_call_inv ha
    rw [ho]
    simp only [aop, opCall, hc, e1, e2]
  have hq : Nat.ble h.next h1.wm = true := by
    have := q.wm
    simp at this
    exact Nat.ble_eq_true_of_le this
  have e : footOf (foot fr.op o) h h1 = ⟨[], true, [], false⟩ := by rw [foot_call ha]; unfold footOf; simp [hq]
  refine ⟨max n m, fr', h3, ?_, h5⟩
  have c1 := acall_le (T := T) (aexec_le (Nat.le_max_left n m)) _ _ _ _ h2
  have c2 := adraw_le (T := T) (acall_le (aexec_le (Nat.le_max_right n m))) _ _ _ _ _ _ h4
  simp only [adraw, hw, astep, ha', c1, e, hk, cond_true]
  exact c2

theorem Quiet.back {h h1 : AHeap} (hwm : h.wm ≤ h.next) (q : Quiet { h with wm := h.next } h1) : Quiet h { h1 with wm := min h.wm h1.wm } := by
  refine ⟨q.next, q.same, ?_, fun _ => ?_⟩
  · have := q.wm; simp at this ⊢; omega
  · have := q.ok (Nat.le_refl _); show min h.wm h1.wm ≤ h1.next; omega

end

end Go.Ai
