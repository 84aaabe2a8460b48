/- Symbolic runs of the abstract interpreter: operations one by one. -/
import Derived.Test.YtpiblfbidgcjaaaAiSx
import Derived.IntWalk
namespace Go.Ai.Sx

/- regions in the order of the text -/
def wX (T : Tab) (ops : List Oper) : List Oper → AFrame → AHeap → (AFrame → AHeap → Prop) → Prop
  | [], fr, h, Q => Q fr h
  | o :: rest, fr, h, Q =>
    match awanted ops fr o.guard with
    | some true => (match aop T fr.op h o.op with
      | some (.val v h') => wX T ops rest (putDst fr o.dst v) h' Q
      | some (.call f vs) => CallV T f vs h fun r h1 => ∃ v, r = .ret v ∧ wX T ops rest (putDst fr o.dst v) h1 Q
      | none => False)
    | some false => wX T ops rest (putDst fr o.dst unit) h Q
    | none => False

theorem wX_plain {T : Tab} {ops : List Oper} : ∀ {rest : List Oper} {fr : AFrame} {h : AHeap} {Q : AExit → AFrame → AHeap → Prop}, wX T ops rest fr h (Q .normal) → Ops T ops rest fr h Q
  | [], _, _, _, w => ops_nil w
  | o :: rest, fr, h, Q, w => by
    simp only [wX] at w
    split at w
    · rename_i hw
      split at w
      · rename_i ha; exact ops_val hw ha (wX_plain w)
      · rename_i ha; exact ops_call hw ha (w.mono fun r h' ⟨v, e, w⟩ => ⟨v, e, wX_plain w⟩)
      · exact w.elim
    · rename_i hw; exact ops_skip hw (wX_plain w)
    · exact w.elim

def quietTo (ops : List Oper) (i : Nat) : Bool := (ops.take (i + 1)).all fun o => noWrite o.op
def coversTo (b : List Nat) : Nat → Bool
  | 0 => true
  | n + 1 => b.contains n && coversTo b n
/- an operation that makes a block, and whose place nobody else fills -/
def isAlloc : Op → Bool
  | .alloc _ | .box _ _ => true
  | _ => false
def notCall : Op → Bool
  | .call _ => false
  | _ => true
def madeAt (ops : List Oper) (t : Nat) : Nat → Option Nat
  | 0 => none
  | j + 1 => match ops[j]? with
    | some o => bif (match o.dst with | some t' => Nat.beq t' t | none => false) then (bif isAlloc o.op && o.guard.isNone && ((ops.drop (j + 1)).all fun q => match q.dst with | some t' => !Nat.beq t' t | none => true) then some j else none) else madeAt ops t j
    | none => none
/- a store into a block that this very region has made: what ran before it was made cannot have touched it -/
def freshTo (ops : List Oper) (i : Nat) : Bool :=
  match ops[i]? with
  | some o => match o.op with
    | .store _ (.tmp t) _ => match madeAt ops t i with
      | some j => match allBefore ops i with
        | b => (List.range i).all fun p => b.contains p || (Nat.blt p j && (match ops[p]? with | some q => notCall q.op | none => false))
      | none => false
    | _ => false
  | none => false
/- an operation that touches no old block -/
def noFoot : Op → Bool
  | .load _ _ | .store _ _ _ | .lookup _ _ _ _ | .mapUpdate _ _ _ _ | .insert _ _ _ _ => false
  | .call c => (match c.callee with | .builtin .len | .builtin .append | .builtin .copy => false | .builtin _ => true | _ => false)
  | _ => true
/- is this operation said to read quiet blocks alone: the loads that are not are listed -/
def quietRd (ol : List Nat) (i : Nat) (o : Op) : Bool := noFoot o || (match o with | .load _ _ => !ol.contains i | _ => false)
def ownWr : Op → Bool
  | .store _ _ _ | .mapUpdate _ _ _ _ | .insert _ _ _ _ => true
  | .call c => (match c.callee with | .builtin .append => true | _ => false)
  | _ => false
def apartTo (ops : List Oper) (ol : List Nat) (i : Nat) : Bool :=
  match ops[i]? with
  | some o => noFoot o.op || (ownWr o.op && (match allBefore ops i with
      | b => (List.range i).all fun p => b.contains p || (match ops[p]? with | some q => quietRd ol p q.op | none => false)))
  | none => false
def drawOk (ops : List Oper) (ol : List Nat) : Nat → Bool
  | 0 => true
  | n + 1 => (quietTo ops n || coversTo (allBefore ops n) n || freshTo ops n || apartTo ops ol n) && drawOk ops ol n

theorem coversTo_mem {b : List Nat} : ∀ {n : Nat}, coversTo b n = true → ∀ j, j < n → b.contains j = true
  | 0, _, j, hj => by omega
  | n + 1, h, j, hj => by
    simp only [coversTo, Bool.and_eq_true] at h
    by_cases e : j = n
    · subst e; exact h.1
    · exact coversTo_mem h.2 j (by omega)

theorem drawOk_at {ops : List Oper} {ol : List Nat} : ∀ {n : Nat}, drawOk ops ol n = true → ∀ i, i < n → quietTo ops i = true ∨ coversTo (allBefore ops i) i = true ∨ freshTo ops i = true ∨ apartTo ops ol i = true
  | 0, _, i, hi => by omega
  | n + 1, h, i, hi => by
    simp only [drawOk, Bool.and_eq_true, Bool.or_eq_true] at h
    by_cases e : i = n
    · subst e
      rcases h.1 with ((q | q) | q) | q
      · exact .inl q
      · exact .inr (.inl q)
      · exact .inr (.inr (.inl q))
      · exact .inr (.inr (.inr q))
    · exact drawOk_at h.2 i (by omega)

theorem madeAt_inv {ops : List Oper} {t : Nat} : ∀ {i j : Nat}, madeAt ops t i = some j → j < i ∧ ∃ o, ops[j]? = some o ∧ o.dst = some t ∧ isAlloc o.op = true ∧ o.guard = none ∧ ∀ k q, j < k → ops[k]? = some q → q.dst ≠ some t
  | 0, _, h => by cases h
  | i + 1, j, h => by
    simp only [madeAt] at h
    split at h
    · rename_i o ho
      cases hb : (match o.dst with | some t' => Nat.beq t' t | none => false) with
      | true =>
        rw [hb] at h
        simp only [cond_true] at h
        have hd : o.dst = some t := by
          split at hb
          · rename_i t' e; rw [e, Nat.eq_of_beq_eq_true hb]
          · cases hb
        cases hc : (isAlloc o.op && o.guard.isNone && ((ops.drop (i + 1)).all fun q => match q.dst with | some t' => !Nat.beq t' t | none => true)) with
        | false => rw [hc] at h; cases h
        | true =>
          rw [hc] at h
          cases h
          simp only [Bool.and_eq_true] at hc
          refine ⟨Nat.lt_succ_self _, o, ho, hd, hc.1.1, by simpa using hc.1.2, fun k q hk hq e => ?_⟩
          have := List.all_eq_true.1 hc.2 q (List.mem_of_getElem? (i := k - (i + 1)) (by rw [List.getElem?_drop]; rw [show i + 1 + (k - (i + 1)) = k by omega]; exact hq))
          rw [e] at this
          simp at this
      | false =>
        rw [hb] at h
        obtain ⟨h1, h2⟩ := madeAt_inv (i := i) h
        exact ⟨Nat.lt_succ_of_lt h1, h2⟩
    · cases h

def DoneOk (ops : List Oper) (ol : List Nat) (z : Store) (i : Nat) (fr : AFrame) (h : AHeap) (done : List (Nat × Foot)) : Prop :=
  (∀ p ∈ done, p.1 < i ∧ p.2.wall = false ∧ (∀ o, ops[p.1]? = some o → noWrite o.op = true → p.2.wr = []) ∧ (∀ o, ops[p.1]? = some o → notCall o.op = true → p.2.rall = false) ∧ (∀ b, b ∈ p.2.rd ∨ b ∈ p.2.wr → b < h.next) ∧
    ∀ o, ops[p.1]? = some o → quietRd ol p.1 o.op = true → p.2.wr = [] ∧ p.2.rall = false ∧ ∀ b, b ∈ p.2.rd → z b ≠ none) ∧
  ∀ j o t, j < i → ops[j]? = some o → isAlloc o.op = true → o.guard = none → o.dst = some t → (∀ k q, j < k → ops[k]? = some q → q.dst ≠ some t) → ∃ b, fr.ev t = .ptr b 0 ∧ ∀ p ∈ done, p.1 < j → ∀ c, c ∈ p.2.rd ∨ c ∈ p.2.wr → c < b

/- what an operation's reads and writes are known to be -/
structure FootOk (z : Store) (h : AHeap) (f : Foot) : Prop where
  rd : ∀ b, b ∈ f.rd → b < h.next
  wr : ∀ b, b ∈ f.wr → b < h.next ∧ z b = none

theorem footsOk_draw {ops : List Oper} {i : Nat} {f : Foot} {done : List (Nat × Foot)} {o : Oper} {ol : List Nat} {z : Store} {fr : AFrame} {h : AHeap} (hi : ops[i]? = some o) (hd : DoneOk ops ol z i fr h done) (hok : quietTo ops i = true ∨ coversTo (allBefore ops i) i = true ∨ freshTo ops i = true ∨ apartTo ops ol i = true) (hf : f.wall = false) (hfo : FootOk z h f) (hnf : noFoot o.op = true → f = ⟨[], false, [], false⟩) (how : ownWr o.op = true → f.rall = false) (hf' : noWrite o.op = true → f.wr = [])
    (hst : ∀ t et y, o.op = .store et (.tmp t) y → f = ⟨[], false, blkOf (fr.ev t), false⟩) : footsOk ops i f done = true := by
  rcases hok with hq | hc | hs | hs
  · unfold quietTo at hq
    rw [List.all_eq_true] at hq
    have at' : ∀ j o', j ≤ i → ops[j]? = some o' → noWrite o'.op = true := by
      intro j o' hj ho
      refine hq o' (List.mem_of_getElem? (i := j) ?_)
      rw [List.getElem?_take, if_pos (by omega)]; exact ho
    refine footsOk_quiet (fun p hp => ?_) (hf' (at' i o (Nat.le_refl _) hi)) hf
    obtain ⟨h1, h2, h3, _⟩ := hd.1 p hp
    have hlt : p.1 < ops.length := Nat.lt_trans h1 (List.getElem?_eq_some_iff.1 hi).1
    exact ⟨h3 _ (List.getElem?_eq_getElem hlt) (at' p.1 _ (by omega) (List.getElem?_eq_getElem hlt)), h2⟩
  · unfold footsOk
    by_cases h : (done.all fun p => p.2.apart f) = true
    · rw [if_pos h]
    · rw [if_neg h]
      refine List.all_eq_true.2 fun p hp => ?_
      rw [Bool.or_eq_true]
      exact .inr (coversTo_mem hc _ (hd.1 p hp).1)
  · unfold footsOk
    by_cases h : (done.all fun p => p.2.apart f) = true
    · rw [if_pos h]
    · rw [if_neg h]
      refine List.all_eq_true.2 fun p hp => ?_
      rw [Bool.or_eq_true]
      unfold freshTo at hs
      rw [hi] at hs
      simp only at hs
      split at hs
      · rename_i et t y hop
        split at hs
        · rename_i j hj
          obtain ⟨hji, oj, hj1, hj2, hj3, hj4, hj5⟩ := madeAt_inv hj
          obtain ⟨g1, g2, g3, g4, g5, g6⟩ := hd.1 p hp
          have := List.all_eq_true.1 hs p.1 (List.mem_range.2 g1)
          rw [Bool.or_eq_true] at this
          rcases this with q | q
          · exact .inr q
          · left
            rw [Bool.and_eq_true] at q
            have hpj : p.1 < j := by
              have := q.1
              simp only [Nat.blt_eq] at this
              exact this
            have hlt : p.1 < ops.length := Nat.lt_trans g1 (List.getElem?_eq_some_iff.1 hi).1
            have hr := g4 _ (List.getElem?_eq_getElem hlt) (by have := q.2; rw [List.getElem?_eq_getElem hlt] at this; exact this)
            obtain ⟨b, hb1, hb2⟩ := hd.2 j oj t hji hj1 hj3 hj4 hj2 hj5
            have hfe := hst t et y hop
            rw [hb1] at hfe
            subst hfe
            have n1 : ∀ l : List Nat, (∀ c, c ∈ l → c < b) → disj l (blkOf (.ptr b 0)) = true := by
              intro l hl
              unfold disj
              refine List.all_eq_true.2 fun c hc => ?_
              have := hl c hc
              simp [blkOf]; omega
            have d0 : ∀ l : List Nat, disj l [] = true := fun l => by simp [disj]
            unfold Foot.apart
            rw [n1 _ (fun c hc => hb2 p hp hpj c (.inr hc)), n1 _ (fun c hc => hb2 p hp hpj c (.inl hc)), g2, hr]
            simp [d0]
        · cases hs
      · cases hs
  · unfold footsOk
    by_cases h : (done.all fun p => p.2.apart f) = true
    · rw [if_pos h]
    · rw [if_neg h]
      refine List.all_eq_true.2 fun p hp => ?_
      rw [Bool.or_eq_true]
      obtain ⟨g1, g2, g3, g4, g5, g6⟩ := hd.1 p hp
      have hlt : p.1 < ops.length := Nat.lt_trans g1 (List.getElem?_eq_some_iff.1 hi).1
      have d0 : ∀ l : List Nat, disj l [] = true := fun l => by simp [disj]
      have d1 : ∀ l : List Nat, disj [] l = true := fun l => rfl
      unfold apartTo at hs
      rw [hi] at hs
      simp only [Bool.or_eq_true, Bool.and_eq_true] at hs
      rcases hs with q | ⟨q1, q2⟩
      · left
        rw [hnf q]
        unfold Foot.apart
        simp [d0, g2]
      · have := List.all_eq_true.1 q2 p.1 (List.mem_range.2 g1)
        rw [Bool.or_eq_true] at this
        rcases this with q | q
        · exact .inr q
        · left
          rw [List.getElem?_eq_getElem hlt] at q
          obtain ⟨k1, k2, k3⟩ := g6 _ (List.getElem?_eq_getElem hlt) q
          have e : disj p.2.rd f.wr = true := by
            unfold disj
            refine List.all_eq_true.2 fun c hc => ?_
            have := k3 c hc
            simp only [Bool.not_eq_true', List.contains_eq_mem, decide_eq_false_iff_not]
            intro hm
            exact this (hfo.wr c hm).2
          unfold Foot.apart
          rw [k1, k2, g2, hf, how q1, e]
          simp [d1]

theorem foot_st (ev : Operand → AVal) {o : Oper} {et : TypeId} {t : Nat} {y : Operand} (ho : o.op = .store et (.tmp t) y) : foot ev o = ⟨[], false, blkOf (ev (.tmp t)), false⟩ := by unfold foot; rw [ho]
theorem foot_rall (ev : Operand → AVal) {o : Oper} (h : notCall o.op = true) : (foot ev o).rall = false := by
  unfold foot
  cases ho : o.op <;> rw [ho] at h <;> (try rfl)
  cases h

theorem alloc_val {T : Tab} {ev : Operand → AVal} {h h' : AHeap} {o : Op} {v : AVal} (ha : isAlloc o = true) (hv : aop T ev h o = some (.val v h')) : v = .ptr h.next 0 ∧ h'.next = h.next + 1 := by
  cases o <;> simp only [isAlloc] at ha <;> (try (cases ha; done))
  · simp only [aop, opAlloc] at hv
    split at hv
    · cases hv; exact ⟨rfl, rfl⟩
    · cases hv
  · simp only [aop, opBox] at hv
    split at hv
    · cases hv
    · cases hv; exact ⟨rfl, rfl⟩
theorem alloc_call {T : Tab} {ev : Operand → AVal} {h : AHeap} {o : Op} {f : AVal} {vs : List AVal} (ha : isAlloc o = true) (hv : aop T ev h o = some (.call f vs)) : False := by
  cases o <;> simp only [isAlloc] at ha <;> (try (cases ha; done))
  · simp only [aop, opAlloc] at hv
    split at hv <;> cases hv
  · simp only [aop, opBox] at hv
    split at hv <;> cases hv

theorem ev_put {fr : AFrame} {d : Option Nat} {v : AVal} {t : Nat} (h : d ≠ some t) : (putDst fr d v).ev t = fr.ev t := by
  cases d with
  | none => rfl
  | some d => rw [put_some, AFrame.ev_set, if_neg (fun e => h (by rw [e]))]

theorem DoneOk.next {ops : List Oper} {ol : List Nat} {z z' : Store} {i : Nat} {fr : AFrame} {h h' : AHeap} {done : List (Nat × Foot)} {o : Oper} {v : AVal} (hd : DoneOk ops ol z i fr h done) (hi : ops[i]? = some o) (hz : z.le z') (hn : h.next ≤ h'.next) (new : List (Nat × Foot))
    (hnew : ∀ p ∈ new, p.1 = i ∧ p.2.wall = false ∧ (noWrite o.op = true → p.2.wr = []) ∧ (notCall o.op = true → p.2.rall = false) ∧ (∀ b, b ∈ p.2.rd ∨ b ∈ p.2.wr → b < h'.next) ∧ (quietRd ol i o.op = true → p.2.wr = [] ∧ p.2.rall = false ∧ ∀ b, b ∈ p.2.rd → z b ≠ none))
    (hal : isAlloc o.op = true → o.guard = none → ∀ t, o.dst = some t → ∃ b, (putDst fr o.dst v).ev t = .ptr b 0 ∧ h.next ≤ b) : DoneOk ops ol z' (i + 1) (putDst fr o.dst v) h' (new ++ done) := by
  have up : ∀ b, z b ≠ none → z' b ≠ none := fun b hb => by
    cases e : z b with
    | none => exact absurd e hb
    | some x => rw [hz b x e]; exact fun q => by cases q
  refine ⟨fun p hp => ?_, fun j oj t hj hoj ha hg hdst hu => ?_⟩
  · rcases List.mem_append.1 hp with hp | hp
    · obtain ⟨e, h1, h2, h3, h4, h5⟩ := hnew p hp
      refine ⟨by omega, h1, fun o' ho' => ?_, fun o' ho' => ?_, h4, fun o' ho' hq => ?_⟩
      · rw [e, hi] at ho'; cases ho'; exact h2
      · rw [e, hi] at ho'; cases ho'; exact h3
      · rw [e] at hq ho'; rw [hi] at ho'; cases ho'
        obtain ⟨k1, k2, k3⟩ := h5 hq
        exact ⟨k1, k2, fun b hb => up b (k3 b hb)⟩
    · obtain ⟨h1, h2, h3, h4, h5, h6⟩ := hd.1 p hp
      refine ⟨by omega, h2, h3, h4, fun b hb => Nat.lt_of_lt_of_le (h5 b hb) hn, fun o' ho' hq => ?_⟩
      obtain ⟨k1, k2, k3⟩ := h6 o' ho' hq
      exact ⟨k1, k2, fun b hb => up b (k3 b hb)⟩
  · by_cases e : j = i
    · subst e
      rw [hi] at hoj; cases hoj
      obtain ⟨b, h1, h2⟩ := hal ha hg t hdst
      refine ⟨b, h1, fun p hp hpj c hc => ?_⟩
      rcases List.mem_append.1 hp with hp | hp
      · obtain ⟨e, _⟩ := hnew p hp; omega
      · exact Nat.lt_of_lt_of_le ((hd.1 p hp).2.2.2.2.1 c hc) h2
    · obtain ⟨b, h1, h2⟩ := hd.2 j oj t (by omega) hoj ha hg hdst hu
      refine ⟨b, by rw [ev_put (hu i o (by omega) hi)]; exact h1, fun p hp hpj c hc => ?_⟩
      rcases List.mem_append.1 hp with hp | hp
      · obtain ⟨e, _⟩ := hnew p hp; omega
      · exact h2 p hp hpj c hc

theorem foot_nf (ev : Operand → AVal) {o : Oper} (h : noFoot o.op = true) : foot ev o = ⟨[], false, [], false⟩ := by
  unfold foot
  cases ho : o.op <;> rw [ho] at h <;> simp only [noFoot] at h <;> (try (cases h; done)) <;> (try rfl)
  rename_i c
  cases hc : c.callee with
  | value f => rw [hc] at h; cases h
  | invoke r m => rw [hc] at h; cases h
  | builtin bb =>
    rw [hc] at h
    cases bb <;> simp at h <;> simp [hc]
theorem foot_own (ev : Operand → AVal) {o : Oper} (h : ownWr o.op = true) : (foot ev o).rall = false := by
  unfold foot
  cases ho : o.op <;> rw [ho] at h <;> simp only [ownWr] at h <;> (try (cases h; done)) <;> (try rfl)
  rename_i c
  cases hc : c.callee with
  | value f => rw [hc] at h; cases h
  | invoke r m => rw [hc] at h; cases h
  | builtin bb =>
    rw [hc] at h
    cases bb <;> simp at h <;> simp [hc]
theorem foot_wall (ev : Operand → AVal) (o : Oper) : (foot ev o).wall = false := by
  unfold foot
  split <;> (try rfl)
  split <;> rfl

/- the judgement: d says whether the region draws its order, and which of its loads read what is owned -/
def SOps (C : Ctx) (T : Tab) (d : Option (List Nat)) (ops rest : List Oper) (Γ : Env) (L : Own) (Q : AFrame → AHeap → Prop) : Prop :=
  match d with
  | none => ∀ fr h, St C Γ L fr h → wX T ops rest fr h Q
  | some ol => ∀ z fr h i done, StZ C Γ L z fr h → ops.drop i = rest → drawOk ops ol ops.length = true → DoneOk ops ol z i fr h done → Draw T ops rest i done fr h Q
def SRun (C : Ctx) (T : Tab) (c : Code) (Γ : Env) (L : Own) (P : AExit → AFrame → AHeap → Prop) : Prop := ∀ fr h, St C Γ L fr h → Run T c fr h P

section
variable {C : Ctx} {T : Tab} {d : Option (List Nat)} {ops rest : List Oper} {Γ : Env} {L : Own} {Q : AFrame → AHeap → Prop} {P : AExit → AFrame → AHeap → Prop} {o : Oper}

/- is an operation wanted -/
inductive Want (ops : List Oper) (Γ : Env) (w : Bool) : Option (Nat × Bool) → Prop where
  | n (h : w = true) : Want ops Γ w none
  | g {j t : Nat} {want b : Bool} (h1 : (ops[j]?).bind (fun (o : Oper) => o.dst) = some t) (h2 : look Γ t = some (.val rBool b)) (h3 : (b == want) = w) : Want ops Γ w (some (j, want))
  | u {j t : Nat} {want : Bool} (hw : w = false) (h1 : (ops[j]?).bind (fun (o : Oper) => o.dst) = some t) (h2 : look Γ t = some (.raw unit)) : Want ops Γ w (some (j, want))

theorem tv_bool {z : Store} {v : AVal} {b : Bool} (t : TV rBool z v b) : v = .bool b := by
  have h1 := t.agg
  have h2 := t.rel
  cases v <;> simp_all [AVal.isAgg, AVal.cells, rBool]
theorem tv_int {z : Store} {v : AVal} {k : IntKind} {n : Int} (t : TV (rInt k) z v n) : v = .int k n := by
  have h1 := t.agg
  have h2 := t.rel
  cases v <;> simp_all [AVal.isAgg, AVal.cells, rInt]
theorem tv_int_mk {z : Store} {k : IntKind} {n : Int} (h1 : k.min ≤ n) (h2 : n ≤ k.max) : TV (rInt k) z (.int k n) n := ⟨⟨rfl, h1, h2⟩, rfl⟩
theorem tv_int_range {z : Store} {v : AVal} {k : IntKind} {n : Int} (t : TV (rInt k) z v n) : k.min ≤ n ∧ n ≤ k.max := t.rel.2
theorem tv_bool_mk {z : Store} {b : Bool} : TV rBool z (.bool b) b := ⟨rfl, rfl⟩
theorem tv_slice {A : Type} {R : Rep A} {z : Store} {v : AVal} {xs : List A} (t : TV (rSlice R) z v xs) : RowAt R z v xs := by
  obtain ⟨h1, h2⟩ := t
  obtain ⟨w, h3, h4⟩ := h1
  cases v <;> simp_all [AVal.isAgg, AVal.cells, rSlice]
theorem tv_slice_mk {A : Type} {R : Rep A} {z : Store} {v : AVal} {xs : List A} (r : RowAt R z v xs) : TV (rSlice R) z v xs := by
  rcases r.2 with ⟨rfl, _⟩ | ⟨b, off, cap, rfl, _⟩ | ⟨b, off, cap, cells, ro, rfl, _⟩ <;> exact ⟨⟨_, rfl, r⟩, rfl⟩
theorem tv_ptr {A : Type} {R : Rep A} {z : Store} {v : AVal} {x : A} (t : TV (rPtr R) z v x) : PtrAt R z v x := by
  obtain ⟨h1, h2⟩ := t
  obtain ⟨w, h3, h4⟩ := h1
  cases v <;> simp_all [AVal.isAgg, AVal.cells, rPtr]
theorem tv_ptr_mk {A : Type} {R : Rep A} {z : Store} {v : AVal} {x : A} (r : PtrAt R z v x) : TV (rPtr R) z v x := by
  obtain ⟨b, off, cells, ro, rfl, h⟩ := r
  exact ⟨⟨_, rfl, b, off, cells, ro, rfl, h⟩, rfl⟩

theorem Want.ok {w : Bool} {g : Option (Nat × Bool)} (q : Want ops Γ w g) {z : Store} {fr : AFrame} (hf : FrOk z Γ fr) : awanted ops fr g = some w := by
  cases q with
  | n h => rw [h]; rfl
  | g h1 h2 h3 =>
    have := tv_bool (by simpa only [TE.ok] using hf _ _ h2)
    rw [wanted_of h1 this, h3]
  | u hw h1 h2 =>
    have := hf _ _ h2
    simp only [TE.ok] at this
    subst hw
    unfold awanted
    simp only [h1, this, unit]

theorem s_nil (q : ∀ fr h, St C Γ L fr h → Q fr h) : SOps C T d ops [] Γ L Q := by
  cases d with
  | none => exact fun fr h s => q fr h s
  | some ol => exact fun z fr h i done s _ _ _ => draw_nil (q fr h ⟨z, s⟩)

/- a step that changes what is known, and runs nothing -/
theorem s_st {Γ' : Env} {L' : Own} (q : ∀ z fr h, StZ C Γ L z fr h → ∃ z', z.le z' ∧ StZ C Γ' L' z' fr h) (r : SOps C T d ops rest Γ' L' Q) : SOps C T d ops rest Γ L Q := by
  cases d with
  | none =>
    intro fr h ⟨z, s⟩
    obtain ⟨z', _, s'⟩ := q z fr h s
    exact r fr h ⟨z', s'⟩
  | some ol =>
    intro z fr h i done s hr hok hd
    obtain ⟨z', hz, s'⟩ := q z fr h s
    refine r z' fr h i done s' hr hok ⟨fun p hp => ?_, hd.2⟩
    obtain ⟨h1, h2, h3, h4, h5, h6⟩ := hd.1 p hp
    refine ⟨h1, h2, h3, h4, h5, fun o ho hq => ?_⟩
    obtain ⟨k1, k2, k3⟩ := h6 o ho hq
    refine ⟨k1, k2, fun b hb => ?_⟩
    cases e : z b with
    | none => exact absurd e (k3 b hb)
    | some x => rw [hz b x e]; exact fun q => by cases q

theorem s_skip {t : Nat} (hw : Want ops Γ false o.guard) (hd : o.dst = some t) (r : SOps C T d ops rest ((t, .raw unit) :: Γ) L Q) : SOps C T d ops (o :: rest) Γ L Q := by
  cases d with
  | none =>
    intro fr h ⟨z, s⟩
    simp only [wX, hw.ok s.fr, hd, put_some]
    exact r _ _ ⟨z, s.set (by simp only [TE.ok])⟩
  | some ol =>
    intro z fr h i done s hr hok hdn
    have hi : ops[i]? = some o := by have := congrArg (fun l => l[0]?) hr; simpa using this
    have hr' : ops.drop (i + 1) = rest := by have := congrArg List.tail hr; simpa using this
    refine draw_skip (hw.ok s.fr) ?_
    have hn := hdn.next (z' := z) (h' := h) (v := unit) hi (.refl _) (Nat.le_refl _) [] (fun p hp => by cases hp) (fun hal hg t hdst => by
      have := hw.ok s.fr
      rw [hg] at this; cases this)
    rw [hd, put_some] at hn ⊢
    exact r z _ h (i + 1) done (s.set (by simp only [TE.ok])) hr' hok hn
theorem s_skip_ (hw : Want ops Γ false o.guard) (hd : o.dst = none) (r : SOps C T d ops rest Γ L Q) : SOps C T d ops (o :: rest) Γ L Q := by
  cases d with
  | none =>
    intro fr h ⟨z, s⟩
    simp only [wX, hw.ok s.fr, hd, put_none]
    exact r _ _ ⟨z, s⟩
  | some ol =>
    intro z fr h i done s hr hok hdn
    have hi : ops[i]? = some o := by have := congrArg (fun l => l[0]?) hr; simpa using this
    have hr' : ops.drop (i + 1) = rest := by have := congrArg List.tail hr; simpa using this
    refine draw_skip (hw.ok s.fr) ?_
    have hn := hdn.next (z' := z) (h' := h) (v := unit) hi (.refl _) (Nat.le_refl _) [] (fun p hp => by cases hp) (fun hal hg t hdst => by
      have := hw.ok s.fr
      rw [hg] at this; cases this)
    rw [hd, put_none] at hn ⊢
    exact r z _ h (i + 1) done s hr' hok hn

/- does this operation read quiet blocks alone, or is it listed as one that may not -/
def Listed (d : Option (List Nat)) (ops rest : List Oper) : Prop := ∀ ol, d = some ol → ol.contains (ops.length - (rest.length + 1)) = true
inductive Rd (C : Ctx) (d : Option (List Nat)) (ops rest : List Oper) (Γ : Env) (L : Own) (o : Oper) : Prop where
  | f (h : ∀ z fr h, StZ C Γ L z fr h → (foot fr.op o).wr = [] ∧ (foot fr.op o).rall = false ∧ ∀ b, b ∈ (foot fr.op o).rd → z b ≠ none)
  | l (h : Listed d ops rest) (hn : noFoot o.op = false)
  | w (hn : noFoot o.op = false) (hl : ∀ t a, o.op ≠ .load t a)

theorem Rd.ok {ol : List Nat} {z : Store} {fr : AFrame} {h : AHeap} {i : Nat} (q : Rd C (some ol) ops rest Γ L o) (s : StZ C Γ L z fr h) (hr : ops.drop i = o :: rest) (hq : quietRd ol i o.op = true) : (foot fr.op o).wr = [] ∧ (foot fr.op o).rall = false ∧ ∀ b, b ∈ (foot fr.op o).rd → z b ≠ none := by
  have hi : i = ops.length - (rest.length + 1) := by
    have := congrArg List.length hr
    simp at this
    omega
  cases q with
  | f h => exact h z fr _ s
  | l h hn =>
    have := h ol rfl
    rw [← hi] at this
    unfold quietRd at hq
    rw [hn, Bool.false_or] at hq
    split at hq
    · rw [this] at hq; cases hq
    · cases hq
  | w hn hl =>
    unfold quietRd at hq
    rw [hn, Bool.false_or] at hq
    split at hq
    · rename_i t a e; exact absurd e (hl t a)
    · cases hq

/- an operation that calls nobody -/
theorem step_val (hw : Want ops Γ true o.guard) (hrd : Rd C d ops rest Γ L o)
    (H : ∀ z fr h, StZ C Γ L z fr h → ∃ v h' z' Γ' L', aop T fr.op h o.op = some (.val v h') ∧ FootOk z h (foot fr.op o) ∧ z.le z' ∧ StZ C Γ' L' z' (putDst fr o.dst v) h' ∧ SOps C T d ops rest Γ' L' Q) : SOps C T d ops (o :: rest) Γ L Q := by
  cases d with
  | none =>
    intro fr h ⟨z, s⟩
    obtain ⟨v, h', z', Γ', L', ha, _, _, s', r⟩ := H z fr h s
    simp only [wX, hw.ok s.fr, ha]
    exact r _ _ ⟨z', s'⟩
  | some ol =>
    intro z fr h i done s hr hok hd
    obtain ⟨v, h', z', Γ', L', ha, hft, hz, s', r⟩ := H z fr h s
    have hi : ops[i]? = some o := by have := congrArg (fun l => l[0]?) hr; simpa using this
    have hlt : i < ops.length := (List.getElem?_eq_some_iff.1 hi).1
    have hr' : ops.drop (i + 1) = rest := by have := congrArg List.tail hr; simpa using this
    have hk := aop_keeps ha
    refine draw_op (hw.ok s.fr) ha s.chg.ok rfl (footsOk_draw hi hd (drawOk_at hok i hlt) (foot_wall _ _) hft (foot_nf _) (foot_own _) (fun q => (noWrite_foot q).1) (fun t et y q => foot_st _ q)) ?_
    refine r z' _ h' (i + 1) _ s' hr' hok (hd.next (v := v) hi hz hk.1 [(i, foot fr.op o)] ?_ ?_)
    · intro p hp
      rw [List.mem_singleton] at hp
      subst hp
      exact ⟨rfl, foot_wall _ _, fun q => (noWrite_foot q).1, fun q => foot_rall _ q, fun b hb => Nat.lt_of_lt_of_le (hb.elim (hft.rd b) (fun q => (hft.wr b q).1)) hk.1, fun q => hrd.ok s hr q⟩
    · intro hal hg t hdst
      obtain ⟨e1, e2⟩ := alloc_val hal ha
      refine ⟨h.next, ?_, Nat.le_refl _⟩
      rw [hdst, put_some, AFrame.ev_set, if_pos rfl, e1]

theorem nf (h : noFoot o.op = true) : Rd C d ops rest Γ L o := .f fun z fr hh _ => by
  rw [foot_nf _ h]
  exact ⟨rfl, rfl, fun b hb => (nomatch hb)⟩
theorem nfo {z : Store} {fr : AFrame} {hh : AHeap} (h : noFoot o.op = true) : FootOk z hh (foot fr.op o) := by
  rw [foot_nf _ h]
  exact ⟨fun b hb => (nomatch hb), fun b hb => (nomatch hb)⟩

/- an operation that leaves memory as it is -/
theorem s_pureF {t : Nat} {e : TE} (hrd : Rd C d ops rest Γ L o) (hft : ∀ z fr h, StZ C Γ L z fr h → FootOk z h (foot fr.op o)) (hw : Want ops Γ true o.guard) (hd : o.dst = some t) (H : ∀ z fr h, StZ C Γ L z fr h → ∃ v, aop T fr.op h o.op = some (.val v h) ∧ e.ok z v) (r : SOps C T d ops rest ((t, e) :: Γ) L Q) : SOps C T d ops (o :: rest) Γ L Q :=
  step_val hw hrd fun z fr h s => by
    obtain ⟨v, h1, h2⟩ := H z fr h s
    exact ⟨v, h, z, _, _, h1, hft z fr h s, .refl _, by rw [hd, put_some]; exact s.set h2, r⟩
theorem s_pure {t : Nat} {e : TE} (hn : noFoot o.op = true) (hw : Want ops Γ true o.guard) (hd : o.dst = some t) (H : ∀ z fr h, StZ C Γ L z fr h → ∃ v, aop T fr.op h o.op = some (.val v h) ∧ e.ok z v) (r : SOps C T d ops rest ((t, e) :: Γ) L Q) : SOps C T d ops (o :: rest) Γ L Q :=
  s_pureF (nf hn) (fun _ _ _ _ => nfo hn) hw hd H r

/- what an operand holds -/
inductive Opd (Γ : Env) : Operand → TE → Prop where
  | t {t : Nat} {e : TE} (h : look Γ t = some e) : Opd Γ (.tmp t) e
  | i {k : IntKind} {n : Int} (h1 : k.min ≤ n) (h2 : n ≤ k.max) : Opd Γ (.const (.int k n)) (.val (rInt k) n)
  | b {b : Bool} : Opd Γ (.const (.bool b)) (.val rBool b)
  | nil {A : Type} {R : Rep A} : Opd Γ (.const (.slice none 0 0)) (.val (rSlice R) [])
  | nilr : Opd Γ (.const (.slice none 0 0)) (.raw .nilslice)
  | f {g : FuncId} : Opd Γ (.func g) (.raw (.func (.func g) [] []))
  | fv {A : Type} {R : Rep A} {x : A} {g : FuncId} (h : ∀ z, TV R z (.func (.func g) [] []) x) : Opd Γ (.func g) (.val R x)

theorem row_nil {A : Type} {R : Rep A} {z : Store} : RowAt R z .nilslice [] := ⟨by simp [maxLen], .inl ⟨rfl, rfl⟩⟩

theorem Opd.ok {x : Operand} {e : TE} (q : Opd Γ x e) {z : Store} {fr : AFrame} (hf : FrOk z Γ fr) : e.ok z (fr.op x) := by
  cases q with
  | t h => exact hf _ _ h
  | i h1 h2 => simp only [TE.ok]; exact tv_int_mk h1 h2
  | b => simp only [TE.ok]; exact tv_bool_mk
  | nil => simp only [TE.ok]; exact tv_slice_mk row_nil
  | nilr => simp only [TE.ok]; rfl
  | f => simp only [TE.ok]; rfl
  | fv h => simp only [TE.ok]; exact h z

theorem Opd.int {x : Operand} {k : IntKind} {n : Int} (q : Opd Γ x (.val (rInt k) n)) {z : Store} {fr : AFrame} (hf : FrOk z Γ fr) : fr.op x = .int k n := tv_int (by simpa only [TE.ok] using q.ok hf)
theorem Opd.bool {x : Operand} {b : Bool} (q : Opd Γ x (.val rBool b)) {z : Store} {fr : AFrame} (hf : FrOk z Γ fr) : fr.op x = .bool b := tv_bool (by simpa only [TE.ok] using q.ok hf)
theorem Opd.val {A : Type} {R : Rep A} {x : Operand} {a : A} (q : Opd Γ x (.val R a)) {z : Store} {fr : AFrame} (hf : FrOk z Γ fr) : TV R z (fr.op x) a := by simpa only [TE.ok] using q.ok hf
theorem Opd.raw {x : Operand} {v : AVal} (q : Opd Γ x (.raw v)) {z : Store} {fr : AFrame} (hf : FrOk z Γ fr) : fr.op x = v := by simpa only [TE.ok] using q.ok hf

variable {t : Nat}

theorem s_move {x : Operand} {e : TE} (hw : Want ops Γ true o.guard) (ho : o.op = .move x) (hd : o.dst = some t) (hx : Opd Γ x e) (r : SOps C T d ops rest ((t, e) :: Γ) L Q) : SOps C T d ops (o :: rest) Γ L Q :=
  s_pure (by rw [ho]; rfl) hw hd (fun z fr h s => ⟨fr.op x, by rw [ho]; rfl, hx.ok s.fr⟩) r
theorem s_assign {x : Operand} {e : TE} (hw : Want ops Γ true o.guard) (ho : o.op = .assign x) (hd : o.dst = some t) (hx : Opd Γ x e) (r : SOps C T d ops rest ((t, e) :: Γ) L Q) : SOps C T d ops (o :: rest) Γ L Q :=
  s_pure (by rw [ho]; rfl) hw hd (fun z fr h s => ⟨fr.op x, by rw [ho]; rfl, hx.ok s.fr⟩) r

/- numbers -/
inductive Ar (k : IntKind) (a b : Int) : BinOp → Int → Prop where
  | add : Ar k a b .add (k.wrap (a + b))
  | sub : Ar k a b .sub (k.wrap (a - b))
  | mul : Ar k a b .mul (k.wrap (a * b))
  | quo (h : b ≠ 0) : Ar k a b .quo (k.wrap (a.tdiv b))
  | and : Ar k a b .and (k.wrap ((BitVec.ofInt k.bits a &&& BitVec.ofInt k.bits b).toNat))
  | or : Ar k a b .or (k.wrap ((BitVec.ofInt k.bits a ||| BitVec.ofInt k.bits b).toNat))
  | xor : Ar k a b .xor (k.wrap ((BitVec.ofInt k.bits a ^^^ BitVec.ofInt k.bits b).toNat))
  | andNot : Ar k a b .andNot (k.wrap ((BitVec.ofInt k.bits a &&& ~~~ (BitVec.ofInt k.bits b)).toNat))

inductive Cmp (a b : Int) : BinOp → Bool → Prop where
  | eql : Cmp a b .eql (a == b)
  | neq : Cmp a b .neq (a != b)
  | lss : Cmp a b .lss (decide (a < b))
  | leq : Cmp a b .leq (decide (a ≤ b))
  | gtr : Cmp a b .gtr (decide (a > b))
  | geq : Cmp a b .geq (decide (a ≥ b))

theorem wrap_range (k : IntKind) (n : Int) : k.min ≤ k.wrap n ∧ k.wrap n ≤ k.max := by
  cases k <;> simp only [IntKind.wrap, IntKind.min, IntKind.max, IntKind.bits, IntKind.signed] <;> simp <;> (try split) <;> omega

theorem s_ar {op : BinOp} {u u' : TypeId} {k : IntKind} {x y : Operand} {a b n : Int} (hw : Want ops Γ true o.guard) (ho : o.op = .binOp op u x y u') (hd : o.dst = some t) (hx : Opd Γ x (.val (rInt k) a)) (hy : Opd Γ y (.val (rInt k) b)) (hr : Ar k a b op n)
    (r : SOps C T d ops rest ((t, .val (rInt k) n) :: Γ) L Q) : SOps C T d ops (o :: rest) Γ L Q := by
  refine s_pure (by rw [ho]; rfl) hw hd (fun z fr h s => ⟨.int k n, ?_, ?_⟩) r
  · rw [ho]
    simp only [aop, abin, hx.int s.fr, hy.int s.fr]
    cases hr <;> simp_all [aint, optVal]
  · simp only [TE.ok]
    have : ∃ m, n = k.wrap m := by cases hr <;> exact ⟨_, rfl⟩
    obtain ⟨m, rfl⟩ := this
    exact tv_int_mk (wrap_range k m).1 (wrap_range k m).2
end

end Go.Ai.Sx
