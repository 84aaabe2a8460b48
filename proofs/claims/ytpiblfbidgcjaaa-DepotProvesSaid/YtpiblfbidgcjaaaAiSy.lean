/- Symbolic runs of the abstract interpreter: operations one by one. -/
import Derived.Test.YtpiblfbidgcjaaaAiSx
import Derived.IntWalk
namespace Go.Ai.Sx

/- regions, drawn or not -/
def wX (T : Tab) (d : Bool) (ops : List Oper) : List Oper → AFrame → AHeap → (AFrame → AHeap → Prop) → Prop
  | [], fr, h, Q => Q fr h
  | o :: rest, fr, h, Q =>
    match awanted ops fr o.guard with
    | some true => (match aop T fr.op h o.op with
      | some (.val v h') => wX T d ops rest (putDst fr o.dst v) h' Q
      | some (.call f vs) => CallV T f vs (bif d then lay h h.next else h) fun r h1 => ∃ v, r = .ret v ∧ (d = true → Quiet (lay h h.next) h1) ∧ wX T d ops rest (putDst fr o.dst v) (bif d then lay h1 (min h.wm h1.wm) else h1) Q
      | none => False)
    | some false => wX T d ops rest (putDst fr o.dst unit) h Q
    | none => False

theorem wX_plain {T : Tab} {ops : List Oper} : ∀ {rest : List Oper} {fr : AFrame} {h : AHeap} {Q : AExit → AFrame → AHeap → Prop}, wX T false ops rest fr h (Q .normal) → Ops T ops rest fr h Q
  | [], _, _, _, w => ops_nil w
  | o :: rest, fr, h, Q, w => by
    simp only [wX] at w
    split at w
    · rename_i hw
      split at w
      · rename_i ha; exact ops_val hw ha (wX_plain w)
      · rename_i ha; exact ops_call hw ha (w.mono fun r h' ⟨v, e, _, w⟩ => ⟨v, e, wX_plain w⟩)
      · exact w.elim
    · rename_i hw; exact ops_skip hw (wX_plain w)
    · exact w.elim

def quietTo (ops : List Oper) (i : Nat) : Bool := (ops.take (i + 1)).all fun o => noWrite o.op
def coversTo (b : List Nat) : Nat → Bool
  | 0 => true
  | n + 1 => b.contains n && coversTo b n
def drawOk (ops : List Oper) : Nat → Bool
  | 0 => true
  | n + 1 => (quietTo ops n || coversTo (allBefore ops n) n) && drawOk ops n

theorem coversTo_mem {b : List Nat} : ∀ {n : Nat}, coversTo b n = true → ∀ j, j < n → b.contains j = true
  | 0, _, j, hj => by omega
  | n + 1, h, j, hj => by
    simp only [coversTo, Bool.and_eq_true] at h
    by_cases e : j = n
    · subst e; exact h.1
    · exact coversTo_mem h.2 j (by omega)

theorem drawOk_at {ops : List Oper} : ∀ {n : Nat}, drawOk ops n = true → ∀ i, i < n → quietTo ops i = true ∨ coversTo (allBefore ops i) i = true
  | 0, _, i, hi => by omega
  | n + 1, h, i, hi => by
    simp only [drawOk, Bool.and_eq_true, Bool.or_eq_true] at h
    by_cases e : i = n
    · subst e; exact h.1
    · exact drawOk_at h.2 i (by omega)

def DoneOk (ops : List Oper) (i : Nat) (done : List (Nat × Foot)) : Prop :=
  ∀ p ∈ done, p.1 < i ∧ p.2.wall = false ∧ ∀ o, ops[p.1]? = some o → noWrite o.op = true → p.2.wr = []

theorem footsOk_draw {ops : List Oper} {i : Nat} {f : Foot} {done : List (Nat × Foot)} {o : Oper} (hi : ops[i]? = some o) (hd : DoneOk ops i done) (hok : quietTo ops i = true ∨ coversTo (allBefore ops i) i = true) (hf : f.wall = false) (hf' : noWrite o.op = true → f.wr = []) :
    footsOk ops i f done = true := by
  rcases hok with hq | hc
  · unfold quietTo at hq
    rw [List.all_eq_true] at hq
    have at' : ∀ j o', j ≤ i → ops[j]? = some o' → noWrite o'.op = true := by
      intro j o' hj ho
      refine hq o' (List.mem_of_getElem? (i := j) ?_)
      rw [List.getElem?_take, if_pos (by omega)]; exact ho
    refine footsOk_quiet (fun p hp => ?_) (hf' (at' i o (Nat.le_refl _) hi)) hf
    obtain ⟨h1, h2, h3⟩ := hd p hp
    have hlt : p.1 < ops.length := Nat.lt_trans h1 (List.getElem?_eq_some_iff.1 hi).1
    exact ⟨h3 _ (List.getElem?_eq_getElem hlt) (at' p.1 _ (by omega) (List.getElem?_eq_getElem hlt)), h2⟩
  · unfold footsOk
    by_cases h : (done.all fun p => p.2.apart f) = true
    · rw [if_pos h]
    · rw [if_neg h]
      refine List.all_eq_true.2 fun p hp => ?_
      rw [Bool.or_eq_true]
      exact .inr (coversTo_mem hc _ (hd p hp).1)

theorem wX_draw {T : Tab} {ops : List Oper} (hok : drawOk ops ops.length = true) : ∀ {rest : List Oper} {i : Nat} {done : List (Nat × Foot)} {fr : AFrame} {h : AHeap} {Q : AFrame → AHeap → Prop}, ops.drop i = rest → DoneOk ops i done → h.wm ≤ h.next →
    wX T true ops rest fr h Q → Draw T ops rest i done fr h Q
  | [], _, _, _, _, _, _, _, _, w => draw_nil w
  | o :: rest, i, done, fr, h, Q, hr, hd, hwm, w => by
    have hi : ops[i]? = some o := by
      have := congrArg (fun l => l[0]?) hr
      simpa using this
    have hlt : i < ops.length := (List.getElem?_eq_some_iff.1 hi).1
    have hr' : ops.drop (i + 1) = rest := by
      have := congrArg List.tail hr
      simpa using this
    have hd' : ∀ f : Foot, f.wall = false → (noWrite o.op = true → f.wr = []) → DoneOk ops (i + 1) ((i, f) :: done) := by
      intro f h1 h2 p hp
      rcases List.mem_cons.1 hp with rfl | hp
      · exact ⟨Nat.lt_succ_self _, h1, fun o' ho' => by rw [hi] at ho'; cases ho'; exact h2⟩
      · exact ⟨Nat.lt_succ_of_lt (hd p hp).1, (hd p hp).2⟩
    simp only [wX] at w
    split at w
    · rename_i hw
      split at w
      · rename_i v h' ha
        have hfo : (foot fr.op o).wall = false := by
          unfold foot
          split <;> (try rfl)
          split <;> rfl
        refine draw_op hw ha hwm rfl (footsOk_draw hi hd (drawOk_at hok i hlt) hfo (fun q => (noWrite_foot q).1)) (wX_draw hok hr' (hd' _ hfo (fun q => (noWrite_foot q).1)) ?_ w)
        have := aop_keeps ha
        exact Nat.le_trans this.2.1 (Nat.le_trans hwm this.1)
      · rename_i ha
        refine draw_call hw ha hwm (footsOk_draw hi hd (drawOk_at hok i hlt) rfl (fun _ => rfl)) (w.mono fun r h1 ⟨v, e, q, w⟩ => ⟨v, e, q trivial, wX_draw hok hr' (hd' _ rfl (fun _ => rfl)) ?_ w⟩)
        exact (Quiet.back hwm (q trivial)).ok hwm
      · exact w.elim
    · rename_i hw
      exact draw_skip hw (wX_draw hok hr' (fun p hp => ⟨Nat.lt_succ_of_lt (hd p hp).1, (hd p hp).2⟩) hwm w)
    · exact w.elim

/- the judgement -/
def SOps (C : Ctx) (T : Tab) (d : Bool) (ops rest : List Oper) (Γ : Env) (L : Own) (Q : AFrame → AHeap → Prop) : Prop := ∀ fr h, St C Γ L fr h → wX T d ops rest fr h Q
def SRun (C : Ctx) (T : Tab) (c : Code) (Γ : Env) (L : Own) (P : AExit → AFrame → AHeap → Prop) : Prop := ∀ fr h, St C Γ L fr h → Run T c fr h P

section
variable {C : Ctx} {T : Tab} {d : Bool} {ops rest : List Oper} {Γ : Env} {L : Own} {Q : AFrame → AHeap → Prop} {P : AExit → AFrame → AHeap → Prop} {o : Oper}

/- is an operation wanted -/
inductive Want (ops : List Oper) (Γ : Env) (w : Bool) : Option (Nat × Bool) → Prop where
  | n (h : w = true) : Want ops Γ w none
  | g {j t : Nat} {want b : Bool} (h1 : (ops[j]?).bind (fun (o : Oper) => o.dst) = some t) (h2 : look Γ t = some (.val rBool b)) (h3 : (b == want) = w) : Want ops Γ w (some (j, want))
  | u {j t : Nat} {want : Bool} (hw : w = false) (h1 : (ops[j]?).bind (fun (o : Oper) => o.dst) = some t) (h2 : look Γ t = some (.raw unit)) : Want ops Γ w (some (j, want))

theorem tv_bool {z : Store} {v : AVal} {b : Bool} (t : TV rBool z v b) : v = .bool b := by
  have h1 := t.agg
  have h2 := t.rel
  cases v <;> simp_all [AVal.isAgg, AVal.cells, rBool]
theorem tv_int {z : Store} {v : AVal} {k : IntKind} {n : Int} (t : TV (rInt k) z v n) : v = .int k n := by
  have h1 := t.agg
  have h2 := t.rel
  cases v <;> simp_all [AVal.isAgg, AVal.cells, rInt]
theorem tv_int_mk {z : Store} {k : IntKind} {n : Int} (h1 : k.min ≤ n) (h2 : n ≤ k.max) : TV (rInt k) z (.int k n) n := ⟨⟨rfl, h1, h2⟩, rfl⟩
theorem tv_int_range {z : Store} {v : AVal} {k : IntKind} {n : Int} (t : TV (rInt k) z v n) : k.min ≤ n ∧ n ≤ k.max := t.rel.2
theorem tv_bool_mk {z : Store} {b : Bool} : TV rBool z (.bool b) b := ⟨rfl, rfl⟩
theorem tv_slice {A : Type} {R : Rep A} {z : Store} {v : AVal} {xs : List A} (t : TV (rSlice R) z v xs) : RowAt R z v xs := by
  obtain ⟨h1, h2⟩ := t
  obtain ⟨w, h3, h4⟩ := h1
  cases v <;> simp_all [AVal.isAgg, AVal.cells, rSlice]
theorem tv_slice_mk {A : Type} {R : Rep A} {z : Store} {v : AVal} {xs : List A} (r : RowAt R z v xs) : TV (rSlice R) z v xs := by
  rcases r.2 with ⟨rfl, _⟩ | ⟨b, off, cap, rfl, _⟩ | ⟨b, off, cap, cells, ro, rfl, _⟩ <;> exact ⟨⟨_, rfl, r⟩, rfl⟩
theorem tv_ptr {A : Type} {R : Rep A} {z : Store} {v : AVal} {x : A} (t : TV (rPtr R) z v x) : PtrAt R z v x := by
  obtain ⟨h1, h2⟩ := t
  obtain ⟨w, h3, h4⟩ := h1
  cases v <;> simp_all [AVal.isAgg, AVal.cells, rPtr]
theorem tv_ptr_mk {A : Type} {R : Rep A} {z : Store} {v : AVal} {x : A} (r : PtrAt R z v x) : TV (rPtr R) z v x := by
  obtain ⟨b, off, cells, ro, rfl, h⟩ := r
  exact ⟨⟨_, rfl, b, off, cells, ro, rfl, h⟩, rfl⟩

theorem Want.ok {w : Bool} {g : Option (Nat × Bool)} (q : Want ops Γ w g) {z : Store} {fr : AFrame} (hf : FrOk z Γ fr) : awanted ops fr g = some w := by
  cases q with
  | n h => rw [h]; rfl
  | g h1 h2 h3 =>
    have := tv_bool (by simpa only [TE.ok] using hf _ _ h2)
    rw [wanted_of h1 this, h3]
  | u hw h1 h2 =>
    have := hf _ _ h2
    simp only [TE.ok] at this
    subst hw
    unfold awanted
    simp only [h1, this, unit]

theorem s_nil (q : ∀ fr h, St C Γ L fr h → Q fr h) : SOps C T d ops [] Γ L Q := fun fr h s => q fr h s

theorem s_weak {Γ' : Env} (q : AllIn Γ Γ') (r : SOps C T d ops rest Γ' L Q) : SOps C T d ops rest Γ L Q := fun fr h s => r fr h (s.weak q)
theorem s_pick {Γ' : Env} {L' : Own} (is : List Nat) (q : AllIn Γ Γ') (hL : picks L is = L') (hn : is.Nodup) (r : SOps C T d ops rest Γ' L' Q) : SOps C T d ops rest Γ L Q := fun fr h s => r fr h (s.pick is q hL hn)

theorem s_skip {t : Nat} (hw : Want ops Γ false o.guard) (hd : o.dst = some t) (r : SOps C T d ops rest ((t, .raw unit) :: Γ) L Q) : SOps C T d ops (o :: rest) Γ L Q := by
  intro fr h ⟨z, s⟩
  simp only [wX, hw.ok s.fr, hd, put_some]
  exact r _ _ ⟨z, s.set (by simp only [TE.ok])⟩
theorem s_skip_ (hw : Want ops Γ false o.guard) (hd : o.dst = none) (r : SOps C T d ops rest Γ L Q) : SOps C T d ops (o :: rest) Γ L Q := by
  intro fr h ⟨z, s⟩
  simp only [wX, hw.ok s.fr, hd, put_none]
  exact r _ _ ⟨z, s⟩

/- an operation that leaves memory as it is -/
theorem s_pure {t : Nat} {e : TE} (hw : Want ops Γ true o.guard) (hd : o.dst = some t) (H : ∀ z fr h, StZ C Γ L z fr h → ∃ v, aop T fr.op h o.op = some (.val v h) ∧ e.ok z v) (r : SOps C T d ops rest ((t, e) :: Γ) L Q) : SOps C T d ops (o :: rest) Γ L Q := by
  intro fr h ⟨z, s⟩
  obtain ⟨v, h1, h2⟩ := H z fr h s
  simp only [wX, hw.ok s.fr, h1, hd, put_some]
  exact r _ _ ⟨z, s.set h2⟩

/- what an operand holds -/
inductive Opd (Γ : Env) : Operand → TE → Prop where
  | t {t : Nat} {e : TE} (h : look Γ t = some e) : Opd Γ (.tmp t) e
  | i {k : IntKind} {n : Int} (h1 : k.min ≤ n) (h2 : n ≤ k.max) : Opd Γ (.const (.int k n)) (.val (rInt k) n)
  | b {b : Bool} : Opd Γ (.const (.bool b)) (.val rBool b)
  | nil {A : Type} {R : Rep A} : Opd Γ (.const (.slice none 0 0)) (.val (rSlice R) [])
  | nilr : Opd Γ (.const (.slice none 0 0)) (.raw .nilslice)
  | f {g : FuncId} : Opd Γ (.func g) (.raw (.func (.func g) [] []))
  | fv {A : Type} {R : Rep A} {x : A} {g : FuncId} (h : ∀ z, TV R z (.func (.func g) [] []) x) : Opd Γ (.func g) (.val R x)

theorem row_nil {A : Type} {R : Rep A} {z : Store} : RowAt R z .nilslice [] := ⟨by simp [maxLen], .inl ⟨rfl, rfl⟩⟩

theorem Opd.ok {x : Operand} {e : TE} (q : Opd Γ x e) {z : Store} {fr : AFrame} (hf : FrOk z Γ fr) : e.ok z (fr.op x) := by
  cases q with
  | t h => exact hf _ _ h
  | i h1 h2 => simp only [TE.ok]; exact tv_int_mk h1 h2
  | b => simp only [TE.ok]; exact tv_bool_mk
  | nil => simp only [TE.ok]; exact tv_slice_mk row_nil
  | nilr => simp only [TE.ok]; rfl
  | f => simp only [TE.ok]; rfl
  | fv h => simp only [TE.ok]; exact h z

theorem Opd.int {x : Operand} {k : IntKind} {n : Int} (q : Opd Γ x (.val (rInt k) n)) {z : Store} {fr : AFrame} (hf : FrOk z Γ fr) : fr.op x = .int k n := tv_int (by simpa only [TE.ok] using q.ok hf)
theorem Opd.bool {x : Operand} {b : Bool} (q : Opd Γ x (.val rBool b)) {z : Store} {fr : AFrame} (hf : FrOk z Γ fr) : fr.op x = .bool b := tv_bool (by simpa only [TE.ok] using q.ok hf)
theorem Opd.val {A : Type} {R : Rep A} {x : Operand} {a : A} (q : Opd Γ x (.val R a)) {z : Store} {fr : AFrame} (hf : FrOk z Γ fr) : TV R z (fr.op x) a := by simpa only [TE.ok] using q.ok hf
theorem Opd.raw {x : Operand} {v : AVal} (q : Opd Γ x (.raw v)) {z : Store} {fr : AFrame} (hf : FrOk z Γ fr) : fr.op x = v := by simpa only [TE.ok] using q.ok hf

variable {t : Nat}

theorem s_move {x : Operand} {e : TE} (hw : Want ops Γ true o.guard) (ho : o.op = .move x) (hd : o.dst = some t) (hx : Opd Γ x e) (r : SOps C T d ops rest ((t, e) :: Γ) L Q) : SOps C T d ops (o :: rest) Γ L Q :=
  s_pure hw hd (fun z fr h s => ⟨fr.op x, by rw [ho]; rfl, hx.ok s.fr⟩) r
theorem s_assign {x : Operand} {e : TE} (hw : Want ops Γ true o.guard) (ho : o.op = .assign x) (hd : o.dst = some t) (hx : Opd Γ x e) (r : SOps C T d ops rest ((t, e) :: Γ) L Q) : SOps C T d ops (o :: rest) Γ L Q :=
  s_pure hw hd (fun z fr h s => ⟨fr.op x, by rw [ho]; rfl, hx.ok s.fr⟩) r

/- numbers -/
inductive Ar (k : IntKind) (a b : Int) : BinOp → Int → Prop where
  | add : Ar k a b .add (k.wrap (a + b))
  | sub : Ar k a b .sub (k.wrap (a - b))
  | mul : Ar k a b .mul (k.wrap (a * b))
  | quo (h : b ≠ 0) : Ar k a b .quo (k.wrap (a.tdiv b))
  | and : Ar k a b .and (k.wrap ((BitVec.ofInt k.bits a &&& BitVec.ofInt k.bits b).toNat))
  | or : Ar k a b .or (k.wrap ((BitVec.ofInt k.bits a ||| BitVec.ofInt k.bits b).toNat))
  | xor : Ar k a b .xor (k.wrap ((BitVec.ofInt k.bits a ^^^ BitVec.ofInt k.bits b).toNat))
  | andNot : Ar k a b .andNot (k.wrap ((BitVec.ofInt k.bits a &&& ~~~ (BitVec.ofInt k.bits b)).toNat))

inductive Cmp (a b : Int) : BinOp → Bool → Prop where
  | eql : Cmp a b .eql (a == b)
  | neq : Cmp a b .neq (a != b)
  | lss : Cmp a b .lss (decide (a < b))
  | leq : Cmp a b .leq (decide (a ≤ b))
  | gtr : Cmp a b .gtr (decide (a > b))
  | geq : Cmp a b .geq (decide (a ≥ b))

theorem wrap_range (k : IntKind) (n : Int) : k.min ≤ k.wrap n ∧ k.wrap n ≤ k.max := by
  cases k <;> simp only [IntKind.wrap, IntKind.min, IntKind.max, IntKind.bits, IntKind.signed] <;> simp <;> (try split) <;> omega

theorem s_ar {op : BinOp} {u u' : TypeId} {k : IntKind} {x y : Operand} {a b n : Int} (hw : Want ops Γ true o.guard) (ho : o.op = .binOp op u x y u') (hd : o.dst = some t) (hx : Opd Γ x (.val (rInt k) a)) (hy : Opd Γ y (.val (rInt k) b)) (hr : Ar k a b op n)
    (r : SOps C T d ops rest ((t, .val (rInt k) n) :: Γ) L Q) : SOps C T d ops (o :: rest) Γ L Q := by
  refine s_pure hw hd (fun z fr h s => ⟨.int k n, ?_, ?_⟩) r
  · rw [ho]
    simp only [aop, abin, hx.int s.fr, hy.int s.fr]
    cases hr <;> simp_all [aint, optVal]
  · simp only [TE.ok]
    have : ∃ m, n = k.wrap m := by cases hr <;> exact ⟨_, rfl⟩
    obtain ⟨m, rfl⟩ := this
    exact tv_int_mk (wrap_range k m).1 (wrap_range k m).2
end

end Go.Ai.Sx
