/- Symbolic runs of the abstract interpreter: operations one by one. -/
import Derived.Test.YtpiblfbidgcjaaaAiSx
import Derived.IntWalk
namespace Go.Ai.Sx

/- regions, drawn or not -/
def wX (T : Tab) (d : Bool) (ops : List Oper) : List Oper → AFrame → AHeap → (AFrame → AHeap → Prop) → Prop
  | [], fr, h, Q => Q fr h
  | o :: rest, fr, h, Q =>
    match awanted ops fr o.guard with
    | some true => (match aop T fr.op h o.op with
      | some (.val v h') => (∀ b, b ∈ (foot fr.op o).rd ∨ b ∈ (foot fr.op o).wr → b < h.next) ∧ wX T d ops rest (putDst fr o.dst v) h' Q
      | some (.call f vs) => CallV T f vs (bif d then lay h h.next else h) fun r h1 => ∃ v, r = .ret v ∧ (d = true → Quiet (lay h h.next) h1) ∧ wX T d ops rest (putDst fr o.dst v) (bif d then lay h1 (min h.wm h1.wm) else h1) Q
      | none => False)
    | some false => wX T d ops rest (putDst fr o.dst unit) h Q
    | none => False

theorem wX_plain {T : Tab} {ops : List Oper} : ∀ {rest : List Oper} {fr : AFrame} {h : AHeap} {Q : AExit → AFrame → AHeap → Prop}, wX T false ops rest fr h (Q .normal) → Ops T ops rest fr h Q
  | [], _, _, _, w => ops_nil w
  | o :: rest, fr, h, Q, w => by
    simp only [wX] at w
    split at w
    · rename_i hw
      split at w
      · rename_i ha; exact ops_val hw ha (wX_plain w.2)
      · rename_i ha; exact ops_call hw ha (w.mono fun r h' ⟨v, e, _, w⟩ => ⟨v, e, wX_plain w⟩)
      · exact w.elim
    · rename_i hw; exact ops_skip hw (wX_plain w)
    · exact w.elim

def quietTo (ops : List Oper) (i : Nat) : Bool := (ops.take (i + 1)).all fun o => noWrite o.op
def coversTo (b : List Nat) : Nat → Bool
  | 0 => true
  | n + 1 => b.contains n && coversTo b n
/- an operation that makes a block, and whose place nobody else fills -/
def isAlloc : Op → Bool
  | .alloc _ | .box _ _ => true
  | _ => false
def notCall : Op → Bool
  | .call _ => false
  | _ => true
def madeAt (ops : List Oper) (t : Nat) : Nat → Option Nat
  | 0 => none
  | j + 1 => match ops[j]? with
    | some o => bif (match o.dst with | some t' => Nat.beq t' t | none => false) then (bif isAlloc o.op && o.guard.isNone && ((ops.drop (j + 1)).all fun q => match q.dst with | some t' => !Nat.beq t' t | none => true) then some j else none) else madeAt ops t j
    | none => none
/- a store into a block that this very region has made: what ran before it was made cannot have touched it -/
def freshTo (ops : List Oper) (i : Nat) : Bool :=
  match ops[i]? with
  | some o => match o.op with
    | .store _ (.tmp t) _ => match madeAt ops t i with
      | some j => match allBefore ops i with
        | b => (List.range i).all fun p => b.contains p || (Nat.blt p j && (match ops[p]? with | some q => notCall q.op | none => false))
      | none => false
    | _ => false
  | none => false
def drawOk (ops : List Oper) : Nat → Bool
  | 0 => true
  | n + 1 => (quietTo ops n || coversTo (allBefore ops n) n || freshTo ops n) && drawOk ops n

theorem coversTo_mem {b : List Nat} : ∀ {n : Nat}, coversTo b n = true → ∀ j, j < n → b.contains j = true
  | 0, _, j, hj => by omega
  | n + 1, h, j, hj => by
    simp only [coversTo, Bool.and_eq_true] at h
    by_cases e : j = n
    · subst e; exact h.1
    · exact coversTo_mem h.2 j (by omega)

theorem drawOk_at {ops : List Oper} : ∀ {n : Nat}, drawOk ops n = true → ∀ i, i < n → quietTo ops i = true ∨ coversTo (allBefore ops i) i = true ∨ freshTo ops i = true
  | 0, _, i, hi => by omega
  | n + 1, h, i, hi => by
    simp only [drawOk, Bool.and_eq_true, Bool.or_eq_true] at h
    by_cases e : i = n
    · subst e
      rcases h.1 with (q | q) | q
      · exact .inl q
      · exact .inr (.inl q)
      · exact .inr (.inr q)
    · exact drawOk_at h.2 i (by omega)

theorem madeAt_inv {ops : List Oper} {t : Nat} : ∀ {i j : Nat}, madeAt ops t i = some j → j < i ∧ ∃ o, ops[j]? = some o ∧ o.dst = some t ∧ isAlloc o.op = true ∧ o.guard = none ∧ ∀ k q, j < k → ops[k]? = some q → q.dst ≠ some t
  | 0, _, h => by cases h
  | i + 1, j, h => by
    simp only [madeAt] at h
    split at h
    · rename_i o ho
      cases hb : (match o.dst with | some t' => Nat.beq t' t | none => false) with
      | true =>
        rw [hb] at h
        simp only [cond_true] at h
        have hd : o.dst = some t := by
          split at hb
          · rename_i t' e; rw [e, Nat.eq_of_beq_eq_true hb]
          · cases hb
        cases hc : (isAlloc o.op && o.guard.isNone && ((ops.drop (i + 1)).all fun q => match q.dst with | some t' => !Nat.beq t' t | none => true)) with
        | false => rw [hc] at h; cases h
        | true =>
          rw [hc] at h
          cases h
          simp only [Bool.and_eq_true] at hc
          refine ⟨Nat.lt_succ_self _, o, ho, hd, hc.1.1, by simpa using hc.1.2, fun k q hk hq e => ?_⟩
          have := List.all_eq_true.1 hc.2 q (List.mem_of_getElem? (i := k - (i + 1)) (by rw [List.getElem?_drop]; rw [show i + 1 + (k - (i + 1)) = k by omega]; exact hq))
          rw [e] at this
          simp at this
      | false =>
        rw [hb] at h
        obtain ⟨h1, h2⟩ := madeAt_inv (i := i) h
        exact ⟨Nat.lt_succ_of_lt h1, h2⟩
    · cases h

def DoneOk (ops : List Oper) (i : Nat) (fr : AFrame) (h : AHeap) (done : List (Nat × Foot)) : Prop :=
  (∀ p ∈ done, p.1 < i ∧ p.2.wall = false ∧ (∀ o, ops[p.1]? = some o → noWrite o.op = true → p.2.wr = []) ∧ (∀ o, ops[p.1]? = some o → notCall o.op = true → p.2.rall = false) ∧ ∀ b, b ∈ p.2.rd ∨ b ∈ p.2.wr → b < h.next) ∧
  ∀ j o t, j < i → ops[j]? = some o → isAlloc o.op = true → o.guard = none → o.dst = some t → (∀ k q, j < k → ops[k]? = some q → q.dst ≠ some t) → ∃ b, fr.ev t = .ptr b 0 ∧ ∀ p ∈ done, p.1 < j → ∀ c, c ∈ p.2.rd ∨ c ∈ p.2.wr → c < b

theorem footsOk_draw {ops : List Oper} {i : Nat} {f : Foot} {done : List (Nat × Foot)} {o : Oper} {fr : AFrame} {h : AHeap} (hi : ops[i]? = some o) (hd : DoneOk ops i fr h done) (hok : quietTo ops i = true ∨ coversTo (allBefore ops i) i = true ∨ freshTo ops i = true) (hf : f.wall = false) (hf' : noWrite o.op = true → f.wr = [])
    (hst : ∀ t et y, o.op = .store et (.tmp t) y → f = ⟨[], false, blkOf (fr.ev t), false⟩) : footsOk ops i f done = true := by
  rcases hok with hq | hc | hs
  · unfold quietTo at hq
    rw [List.all_eq_true] at hq
    have at' : ∀ j o', j ≤ i → ops[j]? = some o' → noWrite o'.op = true := by
      intro j o' hj ho
      refine hq o' (List.mem_of_getElem? (i := j) ?_)
      rw [List.getElem?_take, if_pos (by omega)]; exact ho
    refine footsOk_quiet (fun p hp => ?_) (hf' (at' i o (Nat.le_refl _) hi)) hf
    obtain ⟨h1, h2, h3, _⟩ := hd.1 p hp
    have hlt : p.1 < ops.length := Nat.lt_trans h1 (List.getElem?_eq_some_iff.1 hi).1
    exact ⟨h3 _ (List.getElem?_eq_getElem hlt) (at' p.1 _ (by omega) (List.getElem?_eq_getElem hlt)), h2⟩
  · unfold footsOk
    by_cases h : (done.all fun p => p.2.apart f) = true
    · rw [if_pos h]
    · rw [if_neg h]
      refine List.all_eq_true.2 fun p hp => ?_
      rw [Bool.or_eq_true]
      exact .inr (coversTo_mem hc _ (hd.1 p hp).1)
  · unfold footsOk
    by_cases h : (done.all fun p => p.2.apart f) = true
    · rw [if_pos h]
    · rw [if_neg h]
      refine List.all_eq_true.2 fun p hp => ?_
      rw [Bool.or_eq_true]
      unfold freshTo at hs
      rw [hi] at hs
      simp only at hs
      split at hs
      · rename_i et t y hop
        split at hs
        · rename_i j hj
          obtain ⟨hji, oj, hj1, hj2, hj3, hj4, hj5⟩ := madeAt_inv hj
          obtain ⟨g1, g2, g3, g4, g5⟩ := hd.1 p hp
          have := List.all_eq_true.1 hs p.1 (List.mem_range.2 g1)
          rw [Bool.or_eq_true] at this
          rcases this with q | q
          · exact .inr q
          · left
            rw [Bool.and_eq_true] at q
            have hpj : p.1 < j := by
              have := q.1
              simp only [Nat.blt_eq] at this
              exact this
            have hlt : p.1 < ops.length := Nat.lt_trans g1 (List.getElem?_eq_some_iff.1 hi).1
            have hr := g4 _ (List.getElem?_eq_getElem hlt) (by have := q.2; rw [List.getElem?_eq_getElem hlt] at this; exact this)
            obtain ⟨b, hb1, hb2⟩ := hd.2 j oj t hji hj1 hj3 hj4 hj2 hj5
            have hfe := hst t et y hop
            rw [hb1] at hfe
            subst hfe
            have n1 : ∀ l : List Nat, (∀ c, c ∈ l → c < b) → disj l (blkOf (.ptr b 0)) = true := by
              intro l hl
              unfold disj
              refine List.all_eq_true.2 fun c hc => ?_
              have := hl c hc
              simp [blkOf]; omega
            have d0 : ∀ l : List Nat, disj l [] = true := fun l => by simp [disj]
            unfold Foot.apart
            rw [n1 _ (fun c hc => hb2 p hp hpj c (.inr hc)), n1 _ (fun c hc => hb2 p hp hpj c (.inl hc)), g2, hr]
            simp [d0]
        · cases hs
      · cases hs

theorem foot_st (ev : Operand → AVal) {o : Oper} {et : TypeId} {t : Nat} {y : Operand} (ho : o.op = .store et (.tmp t) y) : foot ev o = ⟨[], false, blkOf (ev (.tmp t)), false⟩ := by unfold foot; rw [ho]
theorem foot_rall (ev : Operand → AVal) {o : Oper} (h : notCall o.op = true) : (foot ev o).rall = false := by
  unfold foot
  cases ho : o.op <;> rw [ho] at h <;> (try rfl)
  cases h

theorem alloc_val {T : Tab} {ev : Operand → AVal} {h h' : AHeap} {o : Op} {v : AVal} (ha : isAlloc o = true) (hv : aop T ev h o = some (.val v h')) : v = .ptr h.next 0 ∧ h'.next = h.next + 1 := by
  cases o <;> simp only [isAlloc] at ha <;> (try (cases ha; done))
  · simp only [aop, opAlloc] at hv
    split at hv
    · cases hv; exact ⟨rfl, rfl⟩
    · cases hv
  · simp only [aop, opBox] at hv
    split at hv
    · cases hv
    · cases hv; exact ⟨rfl, rfl⟩
theorem alloc_call {T : Tab} {ev : Operand → AVal} {h : AHeap} {o : Op} {f : AVal} {vs : List AVal} (ha : isAlloc o = true) (hv : aop T ev h o = some (.call f vs)) : False := by
  cases o <;> simp only [isAlloc] at ha <;> (try (cases ha; done))
  · simp only [aop, opAlloc] at hv
    split at hv <;> cases hv
  · simp only [aop, opBox] at hv
    split at hv <;> cases hv

theorem ev_put {fr : AFrame} {d : Option Nat} {v : AVal} {t : Nat} (h : d ≠ some t) : (putDst fr d v).ev t = fr.ev t := by
  cases d with
  | none => rfl
  | some d => rw [put_some, AFrame.ev_set, if_neg (fun e => h (by rw [e]))]

theorem DoneOk.next {ops : List Oper} {i : Nat} {fr : AFrame} {h h' : AHeap} {done : List (Nat × Foot)} {o : Oper} {v : AVal} (hd : DoneOk ops i fr h done) (hi : ops[i]? = some o) (hn : h.next ≤ h'.next) (new : List (Nat × Foot)) (hnew : ∀ p ∈ new, p.1 = i ∧ p.2.wall = false ∧ (noWrite o.op = true → p.2.wr = []) ∧ (notCall o.op = true → p.2.rall = false) ∧ ∀ b, b ∈ p.2.rd ∨ b ∈ p.2.wr → b < h'.next)
    (hal : isAlloc o.op = true → o.guard = none → ∀ t, o.dst = some t → ∃ b, (putDst fr o.dst v).ev t = .ptr b 0 ∧ h.next ≤ b) : DoneOk ops (i + 1) (putDst fr o.dst v) h' (new ++ done) := by
  refine ⟨fun p hp => ?_, fun j oj t hj hoj ha hg hdst hu => ?_⟩
  · rcases List.mem_append.1 hp with hp | hp
    · obtain ⟨e, h1, h2, h3, h4⟩ := hnew p hp
      refine ⟨by omega, h1, fun o' ho' => ?_, fun o' ho' => ?_, h4⟩
      · rw [e, hi] at ho'; cases ho'; exact h2
      · rw [e, hi] at ho'; cases ho'; exact h3
    · obtain ⟨h1, h2, h3, h4, h5⟩ := hd.1 p hp
      exact ⟨by omega, h2, h3, h4, fun b hb => Nat.lt_of_lt_of_le (h5 b hb) hn⟩
  · by_cases e : j = i
    · subst e
      rw [hi] at hoj; cases hoj
      obtain ⟨b, h1, h2⟩ := hal ha hg t hdst
      refine ⟨b, h1, fun p hp hpj c hc => ?_⟩
      rcases List.mem_append.1 hp with hp | hp
      · obtain ⟨e, _⟩ := hnew p hp; omega
      · exact Nat.lt_of_lt_of_le ((hd.1 p hp).2.2.2.2 c hc) h2
    · obtain ⟨b, h1, h2⟩ := hd.2 j oj t (by omega) hoj ha hg hdst hu
      refine ⟨b, by rw [ev_put (hu i o (by omega) hi)]; exact h1, fun p hp hpj c hc => ?_⟩
      rcases List.mem_append.1 hp with hp | hp
      · obtain ⟨e, _⟩ := hnew p hp; omega
      · exact h2 p hp hpj c hc

theorem wX_draw {T : Tab} {ops : List Oper} (hok : drawOk ops ops.length = true) : ∀ {rest : List Oper} {i : Nat} {done : List (Nat × Foot)} {fr : AFrame} {h : AHeap} {Q : AFrame → AHeap → Prop}, ops.drop i = rest → DoneOk ops i fr h done → h.wm ≤ h.next →
    wX T true ops rest fr h Q → Draw T ops rest i done fr h Q
  | [], _, _, _, _, _, _, _, _, w => draw_nil w
  | o :: rest, i, done, fr, h, Q, hr, hd, hwm, w => by
    have hi : ops[i]? = some o := by
      have := congrArg (fun l => l[0]?) hr
      simpa using this
    have hlt : i < ops.length := (List.getElem?_eq_some_iff.1 hi).1
    have hr' : ops.drop (i + 1) = rest := by
      have := congrArg List.tail hr
      simpa using this
    simp only [wX] at w
    split at w
    · rename_i hw
      split at w
      · rename_i v h' ha
        obtain ⟨hlt', w⟩ := w
        have hfo : (foot fr.op o).wall = false := by
          unfold foot
          split <;> (try rfl)
          split <;> rfl
        have hk := aop_keeps ha
        refine draw_op hw ha hwm rfl (footsOk_draw hi hd (drawOk_at hok i hlt) hfo (fun q => (noWrite_foot q).1) (fun t et y q => foot_st _ q)) (wX_draw hok hr' (hd.next (v := v) hi hk.1 [(i, foot fr.op o)] ?_ ?_) ?_ w)
        · intro p hp
          rw [List.mem_singleton] at hp
          subst hp
          exact ⟨rfl, hfo, fun q => (noWrite_foot q).1, fun q => foot_rall _ q, fun b hb => Nat.lt_of_lt_of_le (hlt' b hb) hk.1⟩
        · intro hal hg t hdst
          obtain ⟨e1, e2⟩ := alloc_val hal ha
          refine ⟨h.next, ?_, Nat.le_refl _⟩
          rw [hdst, put_some, AFrame.ev_set, if_pos rfl, e1]
        · exact Nat.le_trans hk.2.1 (Nat.le_trans hwm hk.1)
      · rename_i ha
        refine draw_call hw ha hwm (footsOk_draw hi hd (drawOk_at hok i hlt) rfl (fun _ => rfl) (fun t et y q => by rw [q] at ha; simp only [aop, optHeap] at ha; cases e : astore T et h (fr.op (.tmp t)) (fr.op y) <;> rw [e] at ha <;> cases ha)) (w.mono fun r h1 ⟨v, e, q, w⟩ => ⟨v, e, q trivial, wX_draw hok hr' (hd.next (v := v) hi ?_ [(i, ⟨[], true, [], false⟩)] ?_ ?_) ?_ w⟩)
        · exact (q trivial).next
        · intro p hp
          rw [List.mem_singleton] at hp
          subst hp
          refine ⟨rfl, rfl, fun _ => rfl, fun q => ?_, fun b hb => by simp at hb⟩
          obtain ⟨c, fo, ho, _⟩ := aop_call_inv ha
          rw [ho] at q; cases q
        · intro hal; exact (alloc_call hal ha).elim
        · exact (Quiet.back hwm (q trivial)).ok hwm
      · exact w.elim
    · rename_i hw
      refine draw_skip hw (wX_draw hok hr' (by
        have := hd.next (h' := h) (v := unit) hi (Nat.le_refl _) [] (fun p hp => by cases hp) (fun hal hg t hdst => by
          rw [hg] at hw; cases hw)
        simpa using this) hwm w)
    · exact w.elim

/- the judgement -/
def SOps (C : Ctx) (T : Tab) (d : Bool) (ops rest : List Oper) (Γ : Env) (L : Own) (Q : AFrame → AHeap → Prop) : Prop := ∀ fr h, St C Γ L fr h → wX T d ops rest fr h Q
def SRun (C : Ctx) (T : Tab) (c : Code) (Γ : Env) (L : Own) (P : AExit → AFrame → AHeap → Prop) : Prop := ∀ fr h, St C Γ L fr h → Run T c fr h P

section
variable {C : Ctx} {T : Tab} {d : Bool} {ops rest : List Oper} {Γ : Env} {L : Own} {Q : AFrame → AHeap → Prop} {P : AExit → AFrame → AHeap → Prop} {o : Oper}

/- is an operation wanted -/
inductive Want (ops : List Oper) (Γ : Env) (w : Bool) : Option (Nat × Bool) → Prop where
  | n (h : w = true) : Want ops Γ w none
  | g {j t : Nat} {want b : Bool} (h1 : (ops[j]?).bind (fun (o : Oper) => o.dst) = some t) (h2 : look Γ t = some (.val rBool b)) (h3 : (b == want) = w) : Want ops Γ w (some (j, want))
  | u {j t : Nat} {want : Bool} (hw : w = false) (h1 : (ops[j]?).bind (fun (o : Oper) => o.dst) = some t) (h2 : look Γ t = some (.raw unit)) : Want ops Γ w (some (j, want))

theorem tv_bool {z : Store} {v : AVal} {b : Bool} (t : TV rBool z v b) : v = .bool b := by
  have h1 := t.agg
  have h2 := t.rel
  cases v <;> simp_all [AVal.isAgg, AVal.cells, rBool]
theorem tv_int {z : Store} {v : AVal} {k : IntKind} {n : Int} (t : TV (rInt k) z v n) : v = .int k n := by
  have h1 := t.agg
  have h2 := t.rel
  cases v <;> simp_all [AVal.isAgg, AVal.cells, rInt]
theorem tv_int_mk {z : Store} {k : IntKind} {n : Int} (h1 : k.min ≤ n) (h2 : n ≤ k.max) : TV (rInt k) z (.int k n) n := ⟨⟨rfl, h1, h2⟩, rfl⟩
theorem tv_int_range {z : Store} {v : AVal} {k : IntKind} {n : Int} (t : TV (rInt k) z v n) : k.min ≤ n ∧ n ≤ k.max := t.rel.2
theorem tv_bool_mk {z : Store} {b : Bool} : TV rBool z (.bool b) b := ⟨rfl, rfl⟩
theorem tv_slice {A : Type} {R : Rep A} {z : Store} {v : AVal} {xs : List A} (t : TV (rSlice R) z v xs) : RowAt R z v xs := by
  obtain ⟨h1, h2⟩ := t
  obtain ⟨w, h3, h4⟩ := h1
  cases v <;> simp_all [AVal.isAgg, AVal.cells, rSlice]
theorem tv_slice_mk {A : Type} {R : Rep A} {z : Store} {v : AVal} {xs : List A} (r : RowAt R z v xs) : TV (rSlice R) z v xs := by
  rcases r.2 with ⟨rfl, _⟩ | ⟨b, off, cap, rfl, _⟩ | ⟨b, off, cap, cells, ro, rfl, _⟩ <;> exact ⟨⟨_, rfl, r⟩, rfl⟩
theorem tv_ptr {A : Type} {R : Rep A} {z : Store} {v : AVal} {x : A} (t : TV (rPtr R) z v x) : PtrAt R z v x := by
  obtain ⟨h1, h2⟩ := t
  obtain ⟨w, h3, h4⟩ := h1
  cases v <;> simp_all [AVal.isAgg, AVal.cells, rPtr]
theorem tv_ptr_mk {A : Type} {R : Rep A} {z : Store} {v : AVal} {x : A} (r : PtrAt R z v x) : TV (rPtr R) z v x := by
  obtain ⟨b, off, cells, ro, rfl, h⟩ := r
  exact ⟨⟨_, rfl, b, off, cells, ro, rfl, h⟩, rfl⟩

theorem Want.ok {w : Bool} {g : Option (Nat × Bool)} (q : Want ops Γ w g) {z : Store} {fr : AFrame} (hf : FrOk z Γ fr) : awanted ops fr g = some w := by
  cases q with
  | n h => rw [h]; rfl
  | g h1 h2 h3 =>
    have := tv_bool (by simpa only [TE.ok] using hf _ _ h2)
    rw [wanted_of h1 this, h3]
  | u hw h1 h2 =>
    have := hf _ _ h2
    simp only [TE.ok] at this
    subst hw
    unfold awanted
    simp only [h1, this, unit]

theorem s_nil (q : ∀ fr h, St C Γ L fr h → Q fr h) : SOps C T d ops [] Γ L Q := fun fr h s => q fr h s

theorem s_weak {Γ' : Env} (q : AllIn Γ Γ') (r : SOps C T d ops rest Γ' L Q) : SOps C T d ops rest Γ L Q := fun fr h s => r fr h (s.weak q)
theorem s_pick {Γ' : Env} {L' : Own} (is : List Nat) (q : AllIn Γ Γ') (hL : picks L is = L') (hn : is.Nodup) (r : SOps C T d ops rest Γ' L' Q) : SOps C T d ops rest Γ L Q := fun fr h s => r fr h (s.pick is q hL hn)

theorem s_skip {t : Nat} (hw : Want ops Γ false o.guard) (hd : o.dst = some t) (r : SOps C T d ops rest ((t, .raw unit) :: Γ) L Q) : SOps C T d ops (o :: rest) Γ L Q := by
  intro fr h ⟨z, s⟩
  simp only [wX, hw.ok s.fr, hd, put_some]
  exact r _ _ ⟨z, s.set (by simp only [TE.ok])⟩
theorem s_skip_ (hw : Want ops Γ false o.guard) (hd : o.dst = none) (r : SOps C T d ops rest Γ L Q) : SOps C T d ops (o :: rest) Γ L Q := by
  intro fr h ⟨z, s⟩
  simp only [wX, hw.ok s.fr, hd, put_none]
  exact r _ _ ⟨z, s⟩

/- what an operation reads and writes has been made before -/
def FootLt (C : Ctx) (Γ : Env) (L : Own) (o : Oper) : Prop := ∀ z fr h, StZ C Γ L z fr h → ∀ b, b ∈ (foot fr.op o).rd ∨ b ∈ (foot fr.op o).wr → b < h.next
def noFoot : Op → Bool
  | .load _ _ | .store _ _ _ | .lookup _ _ _ _ | .mapUpdate _ _ _ _ | .insert _ _ _ _ => false
  | .call c => (match c.callee with | .builtin .len | .builtin .append | .builtin .copy => false | _ => true)
  | _ => true
theorem nf (h : noFoot o.op = true) : FootLt C Γ L o := by
  intro z fr hh _ b hb
  unfold foot at hb
  cases ho : o.op <;> rw [ho] at h hb <;> simp only [noFoot] at h <;> (try (cases h; done)) <;> (try (simp at hb; done))
  rename_i c
  cases hc : c.callee with
  | value f => simp [hc] at hb
  | invoke r m => simp [hc] at hb
  | builtin bb =>
    rw [hc] at h
    cases bb <;> simp at h <;> simp [hc] at hb

/- an operation that leaves memory as it is -/
theorem s_pure {t : Nat} {e : TE} (hft : FootLt C Γ L o) (hw : Want ops Γ true o.guard) (hd : o.dst = some t) (H : ∀ z fr h, StZ C Γ L z fr h → ∃ v, aop T fr.op h o.op = some (.val v h) ∧ e.ok z v) (r : SOps C T d ops rest ((t, e) :: Γ) L Q) : SOps C T d ops (o :: rest) Γ L Q := by
  intro fr h ⟨z, s⟩
  obtain ⟨v, h1, h2⟩ := H z fr h s
  simp only [wX, hw.ok s.fr, h1, hd, put_some]
  exact ⟨hft z fr h s, r _ _ ⟨z, s.set h2⟩⟩

/- what an operand holds -/
inductive Opd (Γ : Env) : Operand → TE → Prop where
  | t {t : Nat} {e : TE} (h : look Γ t = some e) : Opd Γ (.tmp t) e
  | i {k : IntKind} {n : Int} (h1 : k.min ≤ n) (h2 : n ≤ k.max) : Opd Γ (.const (.int k n)) (.val (rInt k) n)
  | b {b : Bool} : Opd Γ (.const (.bool b)) (.val rBool b)
  | nil {A : Type} {R : Rep A} : Opd Γ (.const (.slice none 0 0)) (.val (rSlice R) [])
  | nilr : Opd Γ (.const (.slice none 0 0)) (.raw .nilslice)
  | f {g : FuncId} : Opd Γ (.func g) (.raw (.func (.func g) [] []))
  | fv {A : Type} {R : Rep A} {x : A} {g : FuncId} (h : ∀ z, TV R z (.func (.func g) [] []) x) : Opd Γ (.func g) (.val R x)

theorem row_nil {A : Type} {R : Rep A} {z : Store} : RowAt R z .nilslice [] := ⟨by simp [maxLen], .inl ⟨rfl, rfl⟩⟩

theorem Opd.ok {x : Operand} {e : TE} (q : Opd Γ x e) {z : Store} {fr : AFrame} (hf : FrOk z Γ fr) : e.ok z (fr.op x) := by
  cases q with
  | t h => exact hf _ _ h
  | i h1 h2 => simp only [TE.ok]; exact tv_int_mk h1 h2
  | b => simp only [TE.ok]; exact tv_bool_mk
  | nil => simp only [TE.ok]; exact tv_slice_mk row_nil
  | nilr => simp only [TE.ok]; rfl
  | f => simp only [TE.ok]; rfl
  | fv h => simp only [TE.ok]; exact h z

theorem Opd.int {x : Operand} {k : IntKind} {n : Int} (q : Opd Γ x (.val (rInt k) n)) {z : Store} {fr : AFrame} (hf : FrOk z Γ fr) : fr.op x = .int k n := tv_int (by simpa only [TE.ok] using q.ok hf)
theorem Opd.bool {x : Operand} {b : Bool} (q : Opd Γ x (.val rBool b)) {z : Store} {fr : AFrame} (hf : FrOk z Γ fr) : fr.op x = .bool b := tv_bool (by simpa only [TE.ok] using q.ok hf)
theorem Opd.val {A : Type} {R : Rep A} {x : Operand} {a : A} (q : Opd Γ x (.val R a)) {z : Store} {fr : AFrame} (hf : FrOk z Γ fr) : TV R z (fr.op x) a := by simpa only [TE.ok] using q.ok hf
theorem Opd.raw {x : Operand} {v : AVal} (q : Opd Γ x (.raw v)) {z : Store} {fr : AFrame} (hf : FrOk z Γ fr) : fr.op x = v := by simpa only [TE.ok] using q.ok hf

variable {t : Nat}

theorem s_move {x : Operand} {e : TE} (hw : Want ops Γ true o.guard) (ho : o.op = .move x) (hd : o.dst = some t) (hx : Opd Γ x e) (r : SOps C T d ops rest ((t, e) :: Γ) L Q) : SOps C T d ops (o :: rest) Γ L Q :=
  s_pure (nf (by rw [ho]; rfl)) hw hd (fun z fr h s => ⟨fr.op x, by rw [ho]; rfl, hx.ok s.fr⟩) r
theorem s_assign {x : Operand} {e : TE} (hw : Want ops Γ true o.guard) (ho : o.op = .assign x) (hd : o.dst = some t) (hx : Opd Γ x e) (r : SOps C T d ops rest ((t, e) :: Γ) L Q) : SOps C T d ops (o :: rest) Γ L Q :=
  s_pure (nf (by rw [ho]; rfl)) hw hd (fun z fr h s => ⟨fr.op x, by rw [ho]; rfl, hx.ok s.fr⟩) r

/- numbers -/
inductive Ar (k : IntKind) (a b : Int) : BinOp → Int → Prop where
  | add : Ar k a b .add (k.wrap (a + b))
  | sub : Ar k a b .sub (k.wrap (a - b))
  | mul : Ar k a b .mul (k.wrap (a * b))
  | quo (h : b ≠ 0) : Ar k a b .quo (k.wrap (a.tdiv b))
  | and : Ar k a b .and (k.wrap ((BitVec.ofInt k.bits a &&& BitVec.ofInt k.bits b).toNat))
  | or : Ar k a b .or (k.wrap ((BitVec.ofInt k.bits a ||| BitVec.ofInt k.bits b).toNat))
  | xor : Ar k a b .xor (k.wrap ((BitVec.ofInt k.bits a ^^^ BitVec.ofInt k.bits b).toNat))
  | andNot : Ar k a b .andNot (k.wrap ((BitVec.ofInt k.bits a &&& ~~~ (BitVec.ofInt k.bits b)).toNat))

inductive Cmp (a b : Int) : BinOp → Bool → Prop where
  | eql : Cmp a b .eql (a == b)
  | neq : Cmp a b .neq (a != b)
  | lss : Cmp a b .lss (decide (a < b))
  | leq : Cmp a b .leq (decide (a ≤ b))
  | gtr : Cmp a b .gtr (decide (a > b))
  | geq : Cmp a b .geq (decide (a ≥ b))

theorem wrap_range (k : IntKind) (n : Int) : k.min ≤ k.wrap n ∧ k.wrap n ≤ k.max := by
  cases k <;> simp only [IntKind.wrap, IntKind.min, IntKind.max, IntKind.bits, IntKind.signed] <;> simp <;> (try split) <;> omega

theorem s_ar {op : BinOp} {u u' : TypeId} {k : IntKind} {x y : Operand} {a b n : Int} (hw : Want ops Γ true o.guard) (ho : o.op = .binOp op u x y u') (hd : o.dst = some t) (hx : Opd Γ x (.val (rInt k) a)) (hy : Opd Γ y (.val (rInt k) b)) (hr : Ar k a b op n)
    (r : SOps C T d ops rest ((t, .val (rInt k) n) :: Γ) L Q) : SOps C T d ops (o :: rest) Γ L Q := by
  refine s_pure (nf (by rw [ho]; rfl)) hw hd (fun z fr h s => ⟨.int k n, ?_, ?_⟩) r
  · rw [ho]
    simp only [aop, abin, hx.int s.fr, hy.int s.fr]
    cases hr <;> simp_all [aint, optVal]
  · simp only [TE.ok]
    have : ∃ m, n = k.wrap m := by cases hr <;> exact ⟨_, rfl⟩
    obtain ⟨m, rfl⟩ := this
    exact tv_int_mk (wrap_range k m).1 (wrap_range k m).2
end

end Go.Ai.Sx
