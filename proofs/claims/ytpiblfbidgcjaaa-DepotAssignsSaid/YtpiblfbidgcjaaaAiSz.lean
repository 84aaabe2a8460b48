/- Symbolic runs of the abstract interpreter: numbers, rows, pointers, structs. -/
import Derived.Test.YtpiblfbidgcjaaaAiSy
namespace Go.Ai.Sx

/- fields -/
structure FOk {A B : Type} (R : Rep A) (off : Nat) (S : Rep B) (g : A → B) (w : A → B → A) : Prop where
  fit : off + S.sz ≤ R.sz
  get : ∀ z cs x, R.rel z cs x → S.rel z ((cs.drop off).take S.sz) (g x)
  set : ∀ z cs x ds y, R.rel z cs x → S.rel z ds y → R.rel z (cs.take off ++ ds ++ cs.drop (off + S.sz)) (w x y)

theorem FOk.self {A : Type} {R : Rep A} : FOk R 0 R (fun x => x) (fun _ y => y) :=
  ⟨by omega, fun z cs x h => by rw [List.drop_zero, ← R.len _ _ _ h, List.take_length]; exact h, fun z cs x ds y h h' => by rw [List.take_zero, Nat.zero_add, ← R.len _ _ _ h, List.drop_length]; simpa using h'⟩
theorem FOk.here {A B : Type} {R : Rep A} {S : Rep B} : FOk (rPair R S) 0 R (fun x => x.1) (fun x y => (y, x.2)) :=
  ⟨by simp [rPair], fun z cs x h => by
    obtain ⟨c1, c2, rfl, h1, h2⟩ := h
    rw [List.drop_zero, ← R.len _ _ _ h1, List.take_left']
    · exact h1
    · rfl, fun z cs x ds y h h' => by
    obtain ⟨c1, c2, rfl, h1, h2⟩ := h
    refine ⟨ds, c2, ?_, h', h2⟩
    rw [List.take_zero, Nat.zero_add, ← R.len _ _ _ h1, List.drop_left']
    · simp
    · rfl⟩
theorem FOk.there {A B D : Type} {R : Rep A} {S : Rep B} {U : Rep D} {off : Nat} {g : B → D} {w : B → D → B} (f : FOk S off U g w) : FOk (rPair R S) (R.sz + off) U (fun x => g x.2) (fun x y => (x.1, w x.2 y)) :=
  ⟨by have := f.fit; simp only [rPair]; omega, fun z cs x h => by
    obtain ⟨c1, c2, rfl, h1, h2⟩ := h
    rw [List.drop_append, List.drop_eq_nil_of_le (by rw [R.len _ _ _ h1]; omega), R.len _ _ _ h1, Nat.add_sub_cancel_left, List.nil_append]
    exact f.get _ _ _ h2, fun z cs x ds y h h' => by
    obtain ⟨c1, c2, rfl, h1, h2⟩ := h
    refine ⟨c1, _, ?_, h1, f.set _ _ _ _ _ h2 h'⟩
    rw [List.take_append, List.take_of_length_le (by rw [R.len _ _ _ h1]; omega), List.drop_append, List.drop_eq_nil_of_le (by rw [R.len _ _ _ h1]; omega), R.len _ _ _ h1, Nat.add_sub_cancel_left, Nat.add_assoc, Nat.add_sub_cancel_left]
    simp⟩
theorem FOk.comp {A B D : Type} {R : Rep A} {S : Rep B} {U : Rep D} {o1 o2 : Nat} {g : A → B} {w : A → B → A} {g' : B → D} {w' : B → D → B} (f : FOk R o1 S g w) (f' : FOk S o2 U g' w') : FOk R (o1 + o2) U (fun x => g' (g x)) (fun x y => w x (w' (g x) y)) := by
  have l1 := f.fit
  have l2 := f'.fit
  refine ⟨by omega, fun z cs x h => ?_, fun z cs x ds y h h' => ?_⟩
  · have := f'.get _ _ _ (f.get _ _ _ h)
    rw [List.drop_take, List.take_take, List.drop_drop, Nat.min_eq_left (by omega)] at this
    exact this
  · have := f.set _ _ _ _ _ h (f'.set _ _ _ _ _ (f.get _ _ _ h) h')
    have hl := R.len _ _ _ h
    have e : cs.take o1 ++ (((cs.drop o1).take S.sz).take o2 ++ ds ++ ((cs.drop o1).take S.sz).drop (o2 + U.sz)) ++ cs.drop (o1 + S.sz) = cs.take (o1 + o2) ++ ds ++ cs.drop (o1 + o2 + U.sz) := by
      have hd := U.len _ _ _ h'
      apply List.ext_getElem?
      intro i
      simp only [List.getElem?_append, List.getElem?_take, List.getElem?_drop, List.length_append, List.length_take, List.length_drop, hd, hl]
      repeat' split
      all_goals (try omega)
      all_goals (first | rfl | (congr 1; omega) | (rw [List.getElem?_eq_none (by omega)]) | (rw [List.getElem?_eq_none (by omega), List.getElem?_eq_none (by omega)]))
    rw [← e]; exact this
theorem FOk.off {A B : Type} {R : Rep A} {o o' : Nat} {S : Rep B} {g : A → B} {w : A → B → A} (f : FOk R o S g w) (e : o = o') : FOk R o' S g w := e ▸ f

/- facts about the tables -/
structure Und (T : Tab) (t : TypeId) {A : Type} (R : Rep A) : Prop where
  sz : szT T t = some R.sz
  agg : isAggT T t = some R.agg
structure Sl (T : Tab) (st : TypeId) (et : TypeId) {A : Type} (R : Rep A) : Prop where
  und : T.und st = some (.slice et)
  sz : szT T et = some R.sz
  agg : isAggT T et = some R.agg
  pos : 0 < R.sz
structure Fld (T : Tab) (s : TypeId) (i : Nat) (ft : TypeId) (off n : Nat) : Prop where
  fld : ∃ fs f, T.und s = some (.struct fs) ∧ fs[i]? = some f ∧ f.offset = off ∧ f.type = ft
  sz : szT T ft = some n

section
variable {C : Ctx} {T : Tab} {d : Option (List Nat)} {ops rest : List Oper} {Γ : Env} {L : Own} {Q : AFrame → AHeap → Prop} {P : AExit → AFrame → AHeap → Prop} {o : Oper} {t : Nat}

theorem apart_ok {A : Type} {R : Rep A} {et : TypeId} {cells : List AVal} {off : Nat} {z : Store} {x : A} (hs : szT T et = some R.sz) (ha : isAggT T et = some R.agg) (hl : off + R.sz ≤ cells.length) (hr : R.rel z ((cells.drop off).take R.sz) x) :
    ∃ v, apart T et cells off = some v ∧ TV R z v x := by
  unfold apart
  rw [ha]
  cases hb : R.agg with
  | true =>
    simp only [hs]
    rw [if_pos hl]
    exact ⟨_, rfl, hr, hb.symm⟩
  | false =>
    have h1 := R.one hb
    have hlt : off < cells.length := by omega
    simp only [List.getElem?_eq_getElem hlt]
    refine ⟨_, rfl, ?_, ?_⟩
    all_goals rw [h1] at hr
    all_goals have e : (cells.drop off).take 1 = [cells[off]] := by
                rw [List.drop_eq_getElem_cons hlt]; rfl
    all_goals rw [e] at hr
    all_goals have ho := R.ones _ _ _ hr
    all_goals simp only [List.all_cons, List.all_nil, Bool.and_true] at ho
    · have : cells[off].cells = [cells[off]] := by
        cases hc : cells[off] <;> rw [hc] at ho <;> simp_all [AVal.cells, AVal.one]
      rw [this]; exact hr
    · rw [hb]
      cases hc : cells[off] <;> rw [hc] at ho <;> simp_all [AVal.isAgg, AVal.one]

/- numbers -/
theorem s_cmp {op : BinOp} {u u' : TypeId} {k : IntKind} {x y : Operand} {a b : Int} {q : Bool} (hw : Want ops Γ true o.guard) (ho : o.op = .binOp op u x y u') (hd : o.dst = some t) (hx : Opd Γ x (.val (rInt k) a)) (hy : Opd Γ y (.val (rInt k) b)) (hr : Cmp a b op q)
    (r : SOps C T d ops rest ((t, .val rBool q) :: Γ) L Q) : SOps C T d ops (o :: rest) Γ L Q := by
  refine s_pure (by rw [ho]; rfl) hw hd (fun z fr h s => ⟨.bool q, ?_, by simp only [TE.ok]; exact tv_bool_mk⟩) r
  rw [ho]
  simp only [aop, abin, hx.int s.fr, hy.int s.fr]
  cases hr <;> simp [aint, optVal]

theorem tmod_le {a : Int} (b : Int) (h : 0 ≤ a) : a.tmod b ≤ a := by
  obtain ⟨n, rfl⟩ := Int.eq_ofNat_of_zero_le h
  rcases Int.lt_or_le b 0 with hb | hb
  · obtain ⟨m, hm⟩ := Int.eq_ofNat_of_zero_le (show 0 ≤ -b by omega)
    have : b = -(m : Int) := by omega
    subst this
    rw [Int.tmod_neg]
    exact Int.ofNat_le.2 (Nat.mod_le n m)
  · obtain ⟨m, rfl⟩ := Int.eq_ofNat_of_zero_le hb
    exact Int.ofNat_le.2 (Nat.mod_le n m)

theorem s_rem {u u' : TypeId} {k : IntKind} {x y : Operand} {a b : Int} (hw : Want ops Γ true o.guard) (ho : o.op = .binOp .rem u x y u') (hd : o.dst = some t) (hx : Opd Γ x (.val (rInt k) a)) (hy : Opd Γ y (.val (rInt k) b)) (hb : b ≠ 0)
    (r : SOps C T d ops rest ((t, .val (rInt k) (a.tmod b)) :: Γ) L Q) : SOps C T d ops (o :: rest) Γ L Q := by
  refine s_pure (by rw [ho]; rfl) hw hd (fun z fr h s => ⟨.int k (a.tmod b), ?_, ?_⟩) r
  · rw [ho]
    simp only [aop, abin, hx.int s.fr, hy.int s.fr, aint]
    simp [hb, optVal]
  · simp only [TE.ok]
    have h1 := tv_int_range (hx.val s.fr)
    have h2 : a.tmod b ≤ a ∨ a.tmod b ≤ 0 := by
      rcases Int.lt_or_le a 0 with h | h
      · right
        have := Int.neg_tmod (-a) b
        have := Int.tmod_nonneg b (show 0 ≤ -a by omega)
        have e : a.tmod b = -((-a).tmod b) := by rw [Int.neg_tmod]; omega
        omega
      · left; exact tmod_le b h
    have h3 : a ≤ a.tmod b ∨ 0 ≤ a.tmod b := by
      rcases Int.lt_or_le a 0 with h | h
      · left
        have := tmod_le b (show 0 ≤ -a by omega)
        have e : a.tmod b = -((-a).tmod b) := by rw [Int.neg_tmod]; omega
        omega
      · right; exact Int.tmod_nonneg b h
    have hm : k.min ≤ 0 ∧ 0 ≤ k.max := by cases k <;> simp [IntKind.min, IntKind.max, IntKind.bits, IntKind.signed]
    exact tv_int_mk (by omega) (by omega)

theorem s_shl {u u' : TypeId} {k k' : IntKind} {x y : Operand} {a b : Int} (hw : Want ops Γ true o.guard) (ho : o.op = .binOp .shl u x y u') (hd : o.dst = some t) (hx : Opd Γ x (.val (rInt k) a)) (hy : Opd Γ y (.val (rInt k') b)) (hb : 0 ≤ b)
    (r : SOps C T d ops rest ((t, .val (rInt k) (k.wrap (a * 2 ^ (min b.toNat k.bits)))) :: Γ) L Q) : SOps C T d ops (o :: rest) Γ L Q := by
  refine s_pure (by rw [ho]; rfl) hw hd (fun z fr h s => ⟨.int k (k.wrap (a * 2 ^ (min b.toNat k.bits))), ?_, ?_⟩) r
  · rw [ho]
    simp only [aop, abin, hx.int s.fr, hy.int s.fr, aint]
    rw [if_neg (by omega)]; rfl
  · simp only [TE.ok]; exact tv_int_mk (wrap_range _ _).1 (wrap_range _ _).2

theorem s_shr {u u' : TypeId} {k k' : IntKind} {x y : Operand} {a b : Int} (hw : Want ops Γ true o.guard) (ho : o.op = .binOp .shr u x y u') (hd : o.dst = some t) (hx : Opd Γ x (.val (rInt k) a)) (hy : Opd Γ y (.val (rInt k') b)) (hb : 0 ≤ b)
    (r : SOps C T d ops rest ((t, .val (rInt k) (a.fdiv (2 ^ (min b.toNat k.bits)))) :: Γ) L Q) : SOps C T d ops (o :: rest) Γ L Q := by
  refine s_pure (by rw [ho]; rfl) hw hd (fun z fr h s => ⟨.int k (a.fdiv (2 ^ (min b.toNat k.bits))), ?_, ?_⟩) r
  · rw [ho]
    simp only [aop, abin, hx.int s.fr, hy.int s.fr, aint]
    rw [if_neg (by omega)]; rfl
  · simp only [TE.ok]
    have h1 := tv_int_range (hx.val s.fr)
    have hm : k.min ≤ 0 ∧ 0 ≤ k.max ∧ k.min ≤ -1 ∨ k.min = 0 := by cases k <;> simp [IntKind.min, IntKind.max, IntKind.bits, IntKind.signed]
    have hp : (0 : Int) < 2 ^ (min b.toNat k.bits) := Int.pow_pos (by decide)
    rw [Int.fdiv_eq_ediv_of_nonneg _ (Int.le_of_lt hp)]
    have e := Int.emod_add_mul_ediv a (2 ^ (min b.toNat k.bits))
    have e1 := Int.emod_nonneg a (Int.ne_of_gt hp)
    generalize (2 : Int) ^ (min b.toNat k.bits) = p at *
    refine tv_int_mk ?_ ?_
    · rcases Int.lt_or_le a 0 with h | h
      · have : a ≤ a / p := by
          rw [Int.le_ediv_iff_mul_le hp]
          have := Int.mul_le_mul_of_nonpos_left (show a ≤ 0 by omega) (show (1:Int) ≤ p by omega)
          omega
        omega
      · have := Int.ediv_nonneg h (Int.le_of_lt hp); omega
    · rcases Int.lt_or_le a 0 with h | h
      · have := Int.ediv_neg_of_neg_of_pos h hp
        have hm2 : 0 ≤ k.max := by cases k <;> simp [IntKind.max, IntKind.bits, IntKind.signed]
        omega
      · have := Int.ediv_le_self p h; omega

theorem s_beq {u u' : TypeId} {x y : Operand} {a b : Bool} (hu : T.und u = some .bool) (hw : Want ops Γ true o.guard) (ho : o.op = .binOp .eql u x y u') (hd : o.dst = some t) (hx : Opd Γ x (.val rBool a)) (hy : Opd Γ y (.val rBool b))
    (r : SOps C T d ops rest ((t, .val rBool (a == b)) :: Γ) L Q) : SOps C T d ops (o :: rest) Γ L Q := by
  refine s_pure (by rw [ho]; rfl) hw hd (fun z fr h s => ⟨.bool (a == b), ?_, by simp only [TE.ok]; exact tv_bool_mk⟩) r
  rw [ho]
  simp [aop, abin, hx.bool s.fr, hy.bool s.fr, aguard, aeq, hu, optVal]
theorem s_bne {u u' : TypeId} {x y : Operand} {a b : Bool} (hu : T.und u = some .bool) (hw : Want ops Γ true o.guard) (ho : o.op = .binOp .neq u x y u') (hd : o.dst = some t) (hx : Opd Γ x (.val rBool a)) (hy : Opd Γ y (.val rBool b))
    (r : SOps C T d ops rest ((t, .val rBool (a != b)) :: Γ) L Q) : SOps C T d ops (o :: rest) Γ L Q := by
  refine s_pure (by rw [ho]; rfl) hw hd (fun z fr h s => ⟨.bool (a != b), ?_, by simp only [TE.ok]; exact tv_bool_mk⟩) r
  rw [ho]
  simp [aop, abin, hx.bool s.fr, hy.bool s.fr, aguard, aeq, hu, optVal]
  cases a <;> cases b <;> rfl

theorem s_not {u : TypeId} {x : Operand} {a : Bool} (hw : Want ops Γ true o.guard) (ho : o.op = .unOp .not u x) (hd : o.dst = some t) (hx : Opd Γ x (.val rBool a))
    (r : SOps C T d ops rest ((t, .val rBool (!a)) :: Γ) L Q) : SOps C T d ops (o :: rest) Γ L Q := by
  refine s_pure (by rw [ho]; rfl) hw hd (fun z fr h s => ⟨.bool (!a), ?_, by simp only [TE.ok]; exact tv_bool_mk⟩) r
  rw [ho]
  simp [aop, aun, hx.bool s.fr, optVal]

theorem s_neg {u : TypeId} {k : IntKind} {x : Operand} {a : Int} (hw : Want ops Γ true o.guard) (ho : o.op = .unOp .neg u x) (hd : o.dst = some t) (hx : Opd Γ x (.val (rInt k) a))
    (r : SOps C T d ops rest ((t, .val (rInt k) (k.wrap (0 - a))) :: Γ) L Q) : SOps C T d ops (o :: rest) Γ L Q := by
  refine s_pure (by rw [ho]; rfl) hw hd (fun z fr h s => ⟨.int k (k.wrap (0 - a)), ?_, by simp only [TE.ok]; exact tv_int_mk (wrap_range _ _).1 (wrap_range _ _).2⟩) r
  rw [ho]
  simp [aop, aun, hx.int s.fr, optVal, aint]

theorem s_conv {u u' : TypeId} {k k' : IntKind} {x : Operand} {a : Int} (h1 : (T.und u).isSome = true) (h2 : T.und u' = some (.int k')) (hw : Want ops Γ true o.guard) (ho : o.op = .convert u u' x) (hd : o.dst = some t) (hx : Opd Γ x (.val (rInt k) a))
    (r : SOps C T d ops rest ((t, .val (rInt k') (k'.wrap a)) :: Γ) L Q) : SOps C T d ops (o :: rest) Γ L Q := by
  refine s_pure (by rw [ho]; rfl) hw hd (fun z fr h s => ⟨.int k' (k'.wrap a), ?_, by simp only [TE.ok]; exact tv_int_mk (wrap_range _ _).1 (wrap_range _ _).2⟩) r
  rw [ho]
  cases e : T.und u with
  | none => rw [e] at h1; cases h1
  | some q => simp [aop, aconvert, hx.int s.fr, h2, e, optVal]

theorem s_pick1 {c x y : Operand} {e : TE} (hw : Want ops Γ true o.guard) (ho : o.op = .pick c x y) (hd : o.dst = some t) (hc : Opd Γ c (.val rBool true)) (hx : Opd Γ x e)
    (r : SOps C T d ops rest ((t, e) :: Γ) L Q) : SOps C T d ops (o :: rest) Γ L Q := by
  refine s_pure (by rw [ho]; rfl) hw hd (fun z fr h s => ⟨fr.op x, ?_, hx.ok s.fr⟩) r
  rw [ho]
  simp [aop, opPick, hc.bool s.fr]
theorem s_pick0 {c x y : Operand} {e : TE} (hw : Want ops Γ true o.guard) (ho : o.op = .pick c x y) (hd : o.dst = some t) (hc : Opd Γ c (.val rBool false)) (hy : Opd Γ y e)
    (r : SOps C T d ops rest ((t, e) :: Γ) L Q) : SOps C T d ops (o :: rest) Γ L Q := by
  refine s_pure (by rw [ho]; rfl) hw hd (fun z fr h s => ⟨fr.op y, ?_, hy.ok s.fr⟩) r
  rw [ho]
  simp [aop, opPick, hc.bool s.fr]

/- a row's length -/
def lenI {A : Type} (xs : List A) : Int := xs.length

theorem len_range {A : Type} {xs : List A} (h : xs.length ≤ maxLen) : IntKind.i64.min ≤ lenI xs ∧ lenI xs ≤ IntKind.i64.max := by
  unfold lenI
  simp [IntKind.min, IntKind.max, IntKind.bits, IntKind.signed, maxLen] at *
  omega

theorem row_foot {A : Type} {R : Rep A} {z : Store} {h : AHeap} {v : AVal} {xs : List A} (hs : z.Sub h) (r : RowAt R z v xs) : ∀ b, b ∈ blkOf v → b < h.next := by
  intro b hb
  rcases r.2 with ⟨q, _⟩ | ⟨b', off, cap, q, _, hg⟩ | ⟨b', off, cap, cells, ro, q, hg, _⟩ <;> subst q <;> simp [blkOf] at hb
  · subst hb; exact (hs _ _ hg).2
  · subst hb; exact (hs _ _ hg).2
theorem row_nomap {A : Type} {R : Rep A} {z : Store} {v : AVal} {xs : List A} (r : RowAt R z v xs) : mapOf v = [] := by
  rcases r.2 with ⟨q, _⟩ | ⟨b', off, cap, q, _, hg⟩ | ⟨b', off, cap, cells, ro, q, hg, _⟩ <;> subst q <;> rfl
theorem own_foot {z : Store} {fr : AFrame} {h : AHeap} (s : StZ C Γ L z fr h) {k : Nat} {v : AVal} {ob : Obj} (hk : L[k]? = some (v, ob)) (hnc : plainO ob = true) : ∀ b, b ∈ blkOf v → b < h.next := by
  intro b hb
  have := (s.own.out _ (List.mem_of_getElem? hk) b (by rw [blkE_plain hnc]; cases v <;> simp_all [blkOf, blkO])).2.1
  exact this
theorem ptr_foot {A : Type} {R : Rep A} {z : Store} {h : AHeap} {v : AVal} {x : A} (hs : z.Sub h) (r : PtrAt R z v x) : ∀ b, b ∈ blkOf v → b < h.next := by
  intro b hb
  obtain ⟨b', off, cells, ro, q, hg, _⟩ := r
  subst q
  simp [blkOf] at hb
  subst hb; exact (hs _ _ hg).2

theorem ptr_quiet {A : Type} {R : Rep A} {z : Store} {v : AVal} {x : A} (r : PtrAt R z v x) : ∀ b, b ∈ blkOf v → z b ≠ none := by
  intro b hb
  obtain ⟨b', off, cells, ro, q, hg, _⟩ := r
  subst q
  simp [blkOf] at hb
  subst hb; rw [hg]; exact fun q => by cases q
theorem own_none {z : Store} {fr : AFrame} {h : AHeap} (s : StZ C Γ L z fr h) {k : Nat} {v : AVal} {ob : Obj} (hk : L[k]? = some (v, ob)) (hnc : plainO ob = true) : ∀ b, b ∈ blkOf v → b < h.next ∧ z b = none := by
  intro b hb
  have := s.own.out _ (List.mem_of_getElem? hk) b (by rw [blkE_plain hnc]; cases v <;> simp_all [blkOf, blkO])
  exact ⟨this.2.1, this.1⟩

theorem s_len {A : Type} {R : Rep A} {c : Call} {x : Operand} {xs : List A} {st et : TypeId} (hsl : Sl T st et R) (hw : Want ops Γ true o.guard) (ho : o.op = .call c) (hd : o.dst = some t) (hc : c.callee = .builtin .len) (ha : c.args.toList = [x]) (ht : c.argTypes[0]? = some st)
    (hx : Opd Γ x (.val (rSlice R) xs)) (r : SOps C T d ops rest ((t, .val (rInt .i64) (lenI xs)) :: Γ) L Q) : SOps C T d ops (o :: rest) Γ L Q := by
  have hf : ∀ z fr h, StZ C Γ L z fr h → foot fr.op o = ⟨[], false, [], false⟩ := fun z fr h s => by
    unfold foot; rw [ho]; simp only [hc]
    simp [ha, row_nomap (tv_slice (hx.val s.fr))]
  refine s_pureF (.f fun z fr h s => by rw [hf z fr h s]; exact ⟨rfl, rfl, fun b hb => (nomatch hb)⟩) (fun z fr h s => by rw [hf z fr h s]; exact ⟨fun b hb => (nomatch hb), fun b hb => (nomatch hb)⟩) hw hd (fun z fr h s => ?_) r
  have hr := tv_slice (hx.val s.fr)
  refine ⟨.int .i64 (lenI xs), ?_, by simp only [TE.ok]; exact tv_int_mk (len_range hr.1).1 (len_range hr.1).2⟩
  rw [ho]
  simp only [aop, opCall, hc, abuiltin, ha, List.map, ht, alen, hsl.und]
  rcases hr.2 with ⟨q, rfl⟩ | ⟨b, off, cap, q, rfl, _⟩ | ⟨b, off, cap, cells, ro, q, _⟩ <;> rw [q] <;> simp [optVal, lenI]

theorem s_leno {A : Type} {R : Rep A} {c : Call} {x : Operand} {xs : List A} {st et : TypeId} {v : AVal} (k : Nat) (hsl : Sl T st et R) (hw : Want ops Γ true o.guard) (ho : o.op = .call c) (hd : o.dst = some t) (hc : c.callee = .builtin .len) (ha : c.args.toList = [x]) (ht : c.argTypes[0]? = some st)
    (hx : Opd Γ x (.raw v)) (hk : L[k]? = some (v, .row R xs)) (r : SOps C T d ops rest ((t, .val (rInt .i64) (lenI xs)) :: Γ) L Q) : SOps C T d ops (o :: rest) Γ L Q := by
  have hf : ∀ z fr h, StZ C Γ L z fr h → foot fr.op o = ⟨[], false, [], false⟩ := fun z fr h s => by
    have hr := s.own.ok _ (List.mem_of_getElem? hk)
    simp only [Obj.ok] at hr
    have e : mapOf v = [] := by rcases hr.2 with ⟨q, _⟩ | ⟨_, _, _, _, q, _⟩ <;> rw [q] <;> rfl
    unfold foot; rw [ho]; simp only [hc]
    simp [ha, hx.raw s.fr, e]
  refine s_pureF (.f fun z fr h s => by rw [hf z fr h s]; exact ⟨rfl, rfl, fun b hb => (nomatch hb)⟩) (fun z fr h s => by rw [hf z fr h s]; exact ⟨fun b hb => (nomatch hb), fun b hb => (nomatch hb)⟩) hw hd (fun z fr h s => ?_) r
  have hr := s.own.ok _ (List.mem_of_getElem? hk)
  simp only [Obj.ok] at hr
  refine ⟨.int .i64 (lenI xs), ?_, by simp only [TE.ok]; exact tv_int_mk (len_range hr.1).1 (len_range hr.1).2⟩
  rw [ho]
  simp only [aop, opCall, hc, abuiltin, ha, List.map, ht, alen, hsl.und, hx.raw s.fr]
  rcases hr.2 with ⟨q, rfl⟩ | ⟨b, off, cap, cells, q, _⟩ <;> rw [q] <;> simp [optVal, lenI]

theorem s_max {c : Call} {x y : Operand} {k : IntKind} {a b : Int} (hw : Want ops Γ true o.guard) (ho : o.op = .call c) (hd : o.dst = some t) (hc : c.callee = .builtin .max) (ha : c.args.toList = [x, y])
    (hx : Opd Γ x (.val (rInt k) a)) (hy : Opd Γ y (.val (rInt k) b)) (r : SOps C T d ops rest ((t, .val (rInt k) (max a b)) :: Γ) L Q) : SOps C T d ops (o :: rest) Γ L Q := by
  refine s_pure (by rw [ho]; simp only [noFoot, hc]) hw hd (fun z fr h s => ⟨.int k (max a b), ?_, ?_⟩) r
  · rw [ho]
    simp only [aop, opCall, hc, abuiltin, ha, List.map, hx.int s.fr, hy.int s.fr, amax]
    simp only [List.foldlM, optVal, Option.bind_eq_bind, Option.bind, Option.map, pure]
    congr 3
    simp only [Int.max_def]; split <;> split <;> omega
  · simp only [TE.ok]
    have h1 := tv_int_range (hx.val s.fr)
    have h2 := tv_int_range (hy.val s.fr)
    exact tv_int_mk (by omega) (by omega)
theorem s_min {c : Call} {x y : Operand} {k : IntKind} {a b : Int} (hw : Want ops Γ true o.guard) (ho : o.op = .call c) (hd : o.dst = some t) (hc : c.callee = .builtin .min) (ha : c.args.toList = [x, y])
    (hx : Opd Γ x (.val (rInt k) a)) (hy : Opd Γ y (.val (rInt k) b)) (r : SOps C T d ops rest ((t, .val (rInt k) (min a b)) :: Γ) L Q) : SOps C T d ops (o :: rest) Γ L Q := by
  refine s_pure (by rw [ho]; simp only [noFoot, hc]) hw hd (fun z fr h s => ⟨.int k (min a b), ?_, ?_⟩) r
  · rw [ho]
    simp only [aop, opCall, hc, abuiltin, ha, List.map, hx.int s.fr, hy.int s.fr, amin]
    simp only [List.foldlM, optVal, Option.bind_eq_bind, Option.bind, Option.map, pure]
    congr 3
    simp only [Int.min_def]; split <;> split <;> omega
  · simp only [TE.ok]
    have h1 := tv_int_range (hx.val s.fr)
    have h2 := tv_int_range (hy.val s.fr)
    exact tv_int_mk (by omega) (by omega)

/- elements -/
def idx {A : Type} (xs : List A) (i : Int) : Option A := if 0 ≤ i then xs[i.toNat]? else none
theorem idx_inv {A : Type} {xs : List A} {i : Int} {x : A} (h : idx xs i = some x) : 0 ≤ i ∧ i < xs.length ∧ i.toNat < xs.length ∧ xs[i.toNat]? = some x := by
  unfold idx at h
  split at h
  · have := (List.getElem?_eq_some_iff.1 h).1
    exact ⟨by assumption, by omega, this, h⟩
  · cases h

theorem row_ptr {A : Type} {R : Rep A} {z : Store} {v : AVal} {xs : List A} {i : Int} {x : A} {st et : TypeId} {k : IntKind} (hsl : Sl T st et R) (r : RowAt R z v xs) (hi : idx xs i = some x) : ∃ a, aindexAddr T st v (.int k i) = some a ∧ PtrAt R z a x := by
  obtain ⟨h0, h1, h2, h3⟩ := idx_inv hi
  rcases r.2 with ⟨rfl, rfl⟩ | ⟨b, off, cap, rfl, rfl, _⟩ | ⟨b, off, cap, cells, ro, rfl, hg, hl, _, hx⟩
  · simp at h2
  · simp at h2
  · refine ⟨.ptr b (off + i.toNat * R.sz), ?_, b, _, cells, ro, rfl, hg, ?_, hx _ _ h3⟩
    · simp only [aindexAddr, hsl.und, hsl.sz]
      rw [if_pos (by exact ⟨h0, by omega, by trivial⟩)]
    · have : (i.toNat + 1) * R.sz ≤ xs.length * R.sz := Nat.mul_le_mul_right _ h2
      rw [Nat.add_mul] at this
      omega

theorem s_idx {A : Type} {R : Rep A} {x y : Operand} {xs : List A} {st et : TypeId} {k : IntKind} {i : Int} {a : A} (hsl : Sl T st et R) (hi : idx xs i = some a) (hw : Want ops Γ true o.guard) (ho : o.op = .indexAddr st x y) (hd : o.dst = some t)
    (hx : Opd Γ x (.val (rSlice R) xs)) (hy : Opd Γ y (.val (rInt k) i)) (r : SOps C T d ops rest ((t, .val (rPtr R) a) :: Γ) L Q) : SOps C T d ops (o :: rest) Γ L Q := by
  refine s_pure (by rw [ho]; rfl) hw hd (fun z fr h s => ?_) r
  obtain ⟨p, h1, h2⟩ := row_ptr (k := k) hsl (tv_slice (hx.val s.fr)) hi
  refine ⟨p, ?_, by simp only [TE.ok]; exact tv_ptr_mk h2⟩
  rw [ho]
  simp only [aop, hy.int s.fr, h1, optVal, Option.map]

theorem s_idxo {A : Type} {R : Rep A} {x y : Operand} {xs : List A} {st et : TypeId} {kk : IntKind} {i : Int} {a : A} {v : AVal} (k : Nat) (hsl : Sl T st et R) (hi : idx xs i = some a) (hw : Want ops Γ true o.guard) (ho : o.op = .indexAddr st x y) (hd : o.dst = some t)
    (hx : Opd Γ x (.raw v)) (hk : L[k]? = some (v, .row R xs)) (hy : Opd Γ y (.val (rInt kk) i)) (r : SOps C T d ops rest ((t, .elt v i.toNat 0) :: Γ) L Q) : SOps C T d ops (o :: rest) Γ L Q := by
  refine s_pure (by rw [ho]; rfl) hw hd (fun z fr h s => ?_) r
  obtain ⟨h0, h1, h2, h3⟩ := idx_inv hi
  have hr := s.own.ok _ (List.mem_of_getElem? hk)
  simp only [Obj.ok] at hr
  rcases hr.2 with ⟨rfl, rfl⟩ | ⟨b, off, cap, cells, rfl, _⟩
  · simp at h2
  · refine ⟨.ptr b (off + i.toNat * R.sz), ?_, by simp only [TE.ok]; exact ⟨b, off, _, _, _, rfl, by simp⟩⟩
    rw [ho]
    simp only [aop, hy.int s.fr, hx.raw s.fr, aindexAddr, hsl.und, hsl.sz]
    rw [if_pos (by exact ⟨h0, by omega, by trivial⟩)]
    rfl

theorem s_load {A : Type} {R : Rep A} {x : Operand} {et : TypeId} {a : A} (hu : Und T et R) (hw : Want ops Γ true o.guard) (ho : o.op = .load et x) (hd : o.dst = some t)
    (hx : Opd Γ x (.val (rPtr R) a)) (r : SOps C T d ops rest ((t, .val R a) :: Γ) L Q) : SOps C T d ops (o :: rest) Γ L Q := by
  have hf : ∀ z fr h, StZ C Γ L z fr h → foot fr.op o = ⟨blkOf (fr.op x), false, [], false⟩ := fun z fr h s => by unfold foot; rw [ho]
  refine s_pureF (.f fun z fr h s => by rw [hf z fr h s]; exact ⟨rfl, rfl, ptr_quiet (tv_ptr (hx.val s.fr))⟩) (fun z fr h s => by rw [hf z fr h s]; exact ⟨ptr_foot s.sub (tv_ptr (hx.val s.fr)), fun b hb => (nomatch hb)⟩) hw hd (fun z fr h s => ?_) r
  obtain ⟨b, off, cells, ro, h1, h2, h3, h4⟩ := tv_ptr (hx.val s.fr)
  obtain ⟨v, h5, h6⟩ := apart_ok hu.sz hu.agg h3 h4
  refine ⟨v, ?_, by simp only [TE.ok]; exact h6⟩
  rw [ho]
  simp only [aop, h1, aload, (s.sub _ _ h2).1, h5, optVal, Option.map]

theorem row_cells {A : Type} {R : Rep A} {xs : List A} {off i : Nat} {x : A} {cells : List AVal} (hl : off + xs.length * R.sz ≤ cells.length) (hx : xs[i]? = some x) : off + i * R.sz + R.sz ≤ cells.length := by
  have h2 := (List.getElem?_eq_some_iff.1 hx).1
  have : (i + 1) * R.sz ≤ xs.length * R.sz := Nat.mul_le_mul_right _ h2
  rw [Nat.add_mul] at this
  omega

theorem s_loado {A B : Type} {R : Rep A} {S : Rep B} {g : A → B} {w : A → B → A} {x : Operand} {et : TypeId} {a : A} {xs : List A} {v : AVal} {i off : Nat} (k : Nat) (hls : Listed d ops rest) (hu : Und T et S) (hf : FOk R off S g w) (hi : xs[i]? = some a) (hw : Want ops Γ true o.guard) (ho : o.op = .load et x) (hd : o.dst = some t)
    (hx : Opd Γ x (.elt v i off)) (hk : L[k]? = some (v, .row R xs)) (r : SOps C T d ops rest ((t, .val S (g a)) :: Γ) L Q) : SOps C T d ops (o :: rest) Γ L Q := by
  have hft : ∀ z fr h, StZ C Γ L z fr h → foot fr.op o = ⟨blkOf (fr.op x), false, [], false⟩ := fun z fr h s => by unfold foot; rw [ho]
  refine s_pureF (.l hls (by rw [ho]; rfl)) (fun z fr h s => by
    rw [hft z fr h s]
    refine ⟨fun b hb => ?_, fun b hb => (nomatch hb)⟩
    have hp := hx.ok s.fr
    simp only [TE.ok] at hp
    obtain ⟨bb, oo, len, es, cap, q, hp⟩ := hp
    rw [hp] at hb
    refine own_foot s hk rfl b ?_
    subst q
    simpa [blkOf] using hb) hw hd (fun z fr h s => ?_) r
  have hr := s.own.ok _ (List.mem_of_getElem? hk)
  simp only [Obj.ok] at hr
  have hp := hx.ok s.fr
  simp only [TE.ok] at hp
  obtain ⟨b, oo, len, es, cap, rfl, hp⟩ := hp
  rcases hr.2 with ⟨q, _⟩ | ⟨b', off', cap', cells, q, h2, h3, _, h5⟩
  · cases q
  · cases q
    have h6 := row_cells h3 hi
    have h7 := hf.get _ _ _ (h5 _ _ hi)
    have hfit := hf.fit
    rw [List.drop_take, List.take_take, List.drop_drop, Nat.min_eq_left (by omega)] at h7
    obtain ⟨u, h8, h9⟩ := apart_ok hu.sz hu.agg (by omega) h7
    refine ⟨u, ?_, by simp only [TE.ok]; exact h9⟩
    rw [ho]
    simp only [aop, hp, aload, h2, h8, optVal, Option.map]

theorem fldAddr {s : TypeId} {i : Nat} {ft : TypeId} {off n : Nat} (h : Fld T s i ft off n) (hn : 0 < n) (b q : Nat) : afieldAddr T s (.ptr b q) i = some (.ptr b (q + off)) := by
  obtain ⟨⟨fs, f, h1, h2, h3, h4⟩, h5⟩ := h
  subst h3 h4
  simp only [afieldAddr, h1, h2, h5]
  rw [if_neg (by omega)]

theorem s_fa {A B : Type} {R : Rep A} {S : Rep B} {g : A → B} {w : A → B → A} {x : Operand} {s ft : TypeId} {i off : Nat} {a : A} (hf : Fld T s i ft off S.sz) (hg : FOk R off S g w) (hp : 0 < S.sz) (hw : Want ops Γ true o.guard) (ho : o.op = .fieldAddr s x i) (hd : o.dst = some t)
    (hx : Opd Γ x (.val (rPtr R) a)) (r : SOps C T d ops rest ((t, .val (rPtr S) (g a)) :: Γ) L Q) : SOps C T d ops (o :: rest) Γ L Q := by
  refine s_pure (by rw [ho]; rfl) hw hd (fun z fr h s => ?_) r
  obtain ⟨b, q, cells, ro, h1, h2, h3, h4⟩ := tv_ptr (hx.val s.fr)
  have h7 := hg.get _ _ _ h4
  have hfit := hg.fit
  rw [List.drop_take, List.take_take, List.drop_drop, Nat.min_eq_left (by omega)] at h7
  refine ⟨.ptr b (q + off), ?_, by simp only [TE.ok]; exact tv_ptr_mk ⟨b, _, cells, ro, rfl, h2, by omega, h7⟩⟩
  rw [ho]
  simp only [aop, h1, fldAddr hf hp, optVal, Option.map]

theorem s_faelt {x : Operand} {s ft : TypeId} {i off off0 n j : Nat} {v : AVal} (hf : Fld T s i ft off n) (hp : 0 < n) (hw : Want ops Γ true o.guard) (ho : o.op = .fieldAddr s x i) (hd : o.dst = some t)
    (hx : Opd Γ x (.elt v j off0)) (r : SOps C T d ops rest ((t, .elt v j (off0 + off)) :: Γ) L Q) : SOps C T d ops (o :: rest) Γ L Q := by
  refine s_pure (by rw [ho]; rfl) hw hd (fun z fr h s => ?_) r
  have hq := hx.ok s.fr
  simp only [TE.ok] at hq
  obtain ⟨b, oo, len, es, cap, rfl, hq⟩ := hq
  refine ⟨.ptr b (oo + j * es + off0 + off), ?_, by simp only [TE.ok]; exact ⟨b, oo, len, es, cap, rfl, by simp [Nat.add_assoc]⟩⟩
  rw [ho]
  simp only [aop, hq, fldAddr hf hp, optVal, Option.map]

theorem s_faraw {x : Operand} {s ft : TypeId} {i off q n b : Nat} (hf : Fld T s i ft off n) (hp : 0 < n) (hw : Want ops Γ true o.guard) (ho : o.op = .fieldAddr s x i) (hd : o.dst = some t)
    (hx : Opd Γ x (.raw (.ptr b q))) (r : SOps C T d ops rest ((t, .raw (.ptr b (q + off))) :: Γ) L Q) : SOps C T d ops (o :: rest) Γ L Q := by
  refine s_pure (by rw [ho]; rfl) hw hd (fun z fr h s => ⟨.ptr b (q + off), ?_, by simp only [TE.ok]⟩) r
  rw [ho]
  simp only [aop, hx.raw s.fr, fldAddr hf hp, optVal, Option.map]

theorem s_nilck {A : Type} {R : Rep A} {x : Operand} {a : A} (hw : Want ops Γ true o.guard) (ho : o.op = .nilCheck x) (hd : o.dst = some t)
    (hx : Opd Γ x (.val (rPtr R) a)) (r : SOps C T d ops rest ((t, .val (rPtr R) a) :: Γ) L Q) : SOps C T d ops (o :: rest) Γ L Q := by
  refine s_pure (by rw [ho]; rfl) hw hd (fun z fr h s => ?_) r
  obtain ⟨b, q, cells, ro, h1, h2⟩ := tv_ptr (hx.val s.fr)
  refine ⟨.ptr b q, ?_, by simp only [TE.ok]; exact tv_ptr_mk ⟨b, q, cells, ro, rfl, h2⟩⟩
  rw [ho]
  simp only [aop, h1, opNilCheck]
theorem s_nilckr {x : Operand} {b q : Nat} (hw : Want ops Γ true o.guard) (ho : o.op = .nilCheck x) (hd : o.dst = some t)
    (hx : Opd Γ x (.raw (.ptr b q))) (r : SOps C T d ops rest ((t, .raw (.ptr b q)) :: Γ) L Q) : SOps C T d ops (o :: rest) Γ L Q :=
  s_pure (by rw [ho]; rfl) hw hd (fun z fr h s => ⟨.ptr b q, by rw [ho]; simp only [aop, hx.raw s.fr, opNilCheck], by simp only [TE.ok]⟩) r

theorem s_field {A B : Type} {R : Rep A} {S : Rep B} {g : A → B} {w : A → B → A} {x : Operand} {s ft : TypeId} {i off n : Nat} {a : A} (hf : Fld T s i ft off n) (hu : Und T ft S) (hR : R.agg = true) (hg : FOk R off S g w) (hw : Want ops Γ true o.guard) (ho : o.op = .field s x i) (hd : o.dst = some t)
    (hx : Opd Γ x (.val R a)) (r : SOps C T d ops rest ((t, .val S (g a)) :: Γ) L Q) : SOps C T d ops (o :: rest) Γ L Q := by
  refine s_pure (by rw [ho]; rfl) hw hd (fun z fr h s => ?_) r
  have hv := hx.val s.fr
  obtain ⟨⟨fs, f, h1, h2, h3, h4⟩, h5⟩ := hf
  subst h3 h4
  have hc := hv.agg
  rw [hR] at hc
  cases hq : fr.op x with
  | agg cs =>
    rw [hq] at hv
    have hrel := hv.rel
    simp only [AVal.cells] at hrel
    obtain ⟨u, h8, h9⟩ := apart_ok (cells := cs) hu.sz hu.agg (by rw [R.len _ _ _ hrel]; exact hg.fit) (hg.get _ _ _ hrel)
    refine ⟨u, ?_, by simp only [TE.ok]; exact h9⟩
    rw [ho]
    simp only [aop, hq, afield, h1, h2, h8, optVal, Option.map]
  | _ => rw [hq] at hc; cases hc

theorem s_ext {x : Operand} {es : List TE} {e : TE} {i : Nat} (hi : es[i]? = some e) (hw : Want ops Γ true o.guard) (ho : o.op = .extract x i) (hd : o.dst = some t)
    (hx : Opd Γ x (.tup es)) (r : SOps C T d ops rest ((t, e) :: Γ) L Q) : SOps C T d ops (o :: rest) Γ L Q := by
  refine s_pure (by rw [ho]; rfl) hw hd (fun z fr h s => ?_) r
  have hq := hx.ok s.fr
  simp only [TE.ok] at hq
  obtain ⟨vs, h1, h2⟩ := hq
  have key : ∀ (es : List TE) (vs : List AVal) (i : Nat), okAll z es vs → es[i]? = some e → ∃ v, vs[i]? = some v ∧ e.ok z v := by
    intro es
    induction es with
    | nil => intro vs i _ h; simp at h
    | cons a es ih =>
      intro vs i h hi
      simp only [okAll] at h
      obtain ⟨v, vs', rfl, h1, h2⟩ := h
      cases i with
      | zero => simp at hi; subst hi; exact ⟨v, rfl, h1⟩
      | succ i => simpa using ih vs' i h2 (by simpa using hi)
  obtain ⟨v, h3, h4⟩ := key es vs i h2 hi
  refine ⟨v, ?_, h4⟩
  rw [ho]
  simp only [aop, h1, opExtract, h3, optVal, Option.map]

theorem s_slice {A : Type} {R : Rep A} {x : Operand} {lo hi : Option Operand} {xs : List A} {st et : TypeId} {i j : Int} {kl kh : IntKind} (hsl : Sl T st et R) (hij : 0 ≤ i ∧ i ≤ j ∧ j ≤ lenI xs) (hw : Want ops Γ true o.guard) (ho : o.op = .slice st x lo hi none) (hd : o.dst = some t)
    (hx : Opd Γ x (.val (rSlice R) xs)) (hlo : (lo = none ∧ i = 0) ∨ ∃ y, lo = some y ∧ Opd Γ y (.val (rInt kl) i)) (hhi : (hi = none ∧ j = lenI xs) ∨ ∃ y, hi = some y ∧ Opd Γ y (.val (rInt kh) j))
    (r : SOps C T d ops rest ((t, .val (rSlice R) ((xs.take j.toNat).drop i.toNat)) :: Γ) L Q) : SOps C T d ops (o :: rest) Γ L Q := by
  refine s_pure (by rw [ho]; rfl) hw hd (fun z fr h s => ?_) r
  obtain ⟨hi0, hij, hj⟩ := hij
  unfold lenI at hj hhi
  have hr := tv_slice (hx.val s.fr)
  have blo : ∀ top : Nat, j.toNat ≤ top → abound (lo.map fr.op) 0 j.toNat = some i.toNat := by
    intro top _
    rcases hlo with ⟨rfl, rfl⟩ | ⟨y, rfl, hy⟩
    · rfl
    · simp only [Option.map, abound, hy.int s.fr]
      rw [if_pos ⟨hi0, by omega⟩]
  have bhi : ∀ n : Nat, n = xs.length → abound (hi.map fr.op) n n = some j.toNat := by
    intro n hn
    rcases hhi with ⟨rfl, rfl⟩ | ⟨y, rfl, hy⟩
    · subst hn; simp [abound]
    · simp only [Option.map, abound, hy.int s.fr]
      rw [if_pos ⟨by omega, by omega⟩]
  have hlen : ((xs.take j.toNat).drop i.toNat).length = j.toNat - i.toNat := by simp; omega
  rcases hr.2 with ⟨q, rfl⟩ | ⟨b, off, cap, q, rfl, hg⟩ | ⟨b, off, cap, cells, ro, q, hg, hl, hcap, hel⟩
  · have : j = 0 := by simp at hj; omega
    subst this
    have b1 := bhi 0 rfl
    have b2 := blo 0 (Nat.le_refl _)
    rw [Int.toNat_zero] at b1 b2
    refine ⟨.nilslice, ?_, by simp only [TE.ok]; simpa using tv_slice_mk row_nil⟩
    rw [ho]
    simp only [aop, aslice, hsl.und, hsl.sz, q, Option.map_none, b1, b2, optVal, Option.map_some]
  · have : j = 0 := by simp at hj; omega
    subst this
    have : i = 0 := by omega
    subst this
    have b1 := bhi 0 rfl
    have b2 := blo 0 (Nat.le_refl _)
    rw [Int.toNat_zero] at b1 b2
    have fin : ∀ cap', TV (rSlice R) z (.slice b (off + 0 * R.sz) (0 - 0) R.sz cap') ((([] : List A).take (0 : Int).toNat).drop (0 : Int).toNat) := fun cap' => by
      simpa using tv_slice_mk (R := R) (xs := []) ⟨by simp [maxLen], .inr (.inl ⟨b, _, _, rfl, rfl, hg⟩)⟩
    rw [ho]
    cases cap with
    | none =>
      refine ⟨_, ?_, by simp only [TE.ok]; exact fin none⟩
      simp only [aop, aslice, hsl.und, hsl.sz, q, Option.map_none, b1, b2, optVal, Option.map_some]
      rw [if_pos ⟨trivial, hsl.pos⟩]
      rfl
    | some c =>
      have b3 : abound none c c = some c := rfl
      have b4 : abound (hi.map fr.op) 0 c = some 0 := by
        rcases hhi with ⟨rfl, _⟩ | ⟨y, rfl, hy⟩
        · rfl
        · simp only [Option.map, abound, hy.int s.fr]; rw [if_pos ⟨by omega, by omega⟩]; rfl
      refine ⟨_, ?_, by simp only [TE.ok]; exact fin (some (c - 0))⟩
      simp only [aop, aslice, hsl.und, hsl.sz, q, Option.map_none, b3, b4, b2, optVal, Option.isSome_none, Bool.false_and]
      rw [if_pos ⟨trivial, hsl.pos⟩]
      simp [b2]
  · have b1 := bhi xs.length rfl
    have b2 := blo xs.length (by omega)
    have hmul : i.toNat * R.sz + (j.toNat - i.toNat) * R.sz ≤ xs.length * R.sz := by rw [← Nat.add_mul]; exact Nat.mul_le_mul_right _ (by omega)
    have row : ∀ cap' : Option Nat, (∀ c, cap' = some c → j.toNat - i.toNat ≤ c) → RowAt R z (.slice b (off + i.toNat * R.sz) (j.toNat - i.toNat) R.sz cap') ((xs.take j.toNat).drop i.toNat) := by
      intro cap' hc'
      refine ⟨by rw [hlen]; have := hr.1; omega, .inr (.inr ⟨b, _, _, cells, ro, by rw [hlen], hg, by rw [hlen]; omega, by rw [hlen]; exact hc', fun n y hy => ?_⟩)⟩
      rw [List.getElem?_drop] at hy
      have hy' : xs[i.toNat + n]? = some y := by
        rw [List.getElem?_take] at hy
        split at hy
        · exact hy
        · cases hy
      have := hel _ _ hy'
      rw [Nat.add_mul] at this
      rw [Nat.add_assoc]; exact this
    rw [ho]
    cases cap with
    | none =>
      refine ⟨_, ?_, by simp only [TE.ok]; exact tv_slice_mk (row none (fun c q => by cases q))⟩
      simp only [aop, aslice, hsl.und, hsl.sz, q, Option.map_none, b1, b2, optVal, Option.map_some]
      rw [if_pos ⟨trivial, hsl.pos⟩]
      rfl
    | some c =>
      have hc := hcap c rfl
      have b3 : abound none c c = some c := rfl
      have b4 : abound (hi.map fr.op) xs.length c = some j.toNat := by
        rcases hhi with ⟨rfl, e⟩ | ⟨y, rfl, hy⟩
        · subst e; simp [abound]
        · simp only [Option.map, abound, hy.int s.fr]; rw [if_pos ⟨by omega, by omega⟩]
      refine ⟨_, ?_, by simp only [TE.ok]; exact tv_slice_mk (row (some (c - i.toNat)) (fun c' q => by cases q; omega))⟩
      simp only [aop, aslice, hsl.und, hsl.sz, q, Option.map_none, b3, b4, b2, optVal, Option.isSome_none, Bool.false_and]
      rw [if_pos ⟨trivial, hsl.pos⟩]
      simp [b2]
end

/- an array as a value -/
def rArr {A : Type} (n : Nat) (R : Rep A) : Rep (List A) :=
  ⟨n * R.sz, true, fun z cs xs => xs.length = n ∧ cs.length = n * R.sz ∧ cs.all AVal.one = true ∧ ∀ i x, xs[i]? = some x → R.rel z ((cs.drop (i * R.sz)).take R.sz) x,
    fun _ _ _ h => h.2.1, fun _ _ _ _ e h => ⟨h.1, h.2.1, h.2.2.1, fun i x hx => R.mono _ _ _ _ e (h.2.2.2 i x hx)⟩, fun h => (by cases h), fun _ _ _ h => h.2.2.1⟩

theorem ones_of {A : Type} {R : Rep A} {z : Store} {xs : List A} {l : List AVal} (hp : 0 < R.sz) (hl : l.length = xs.length * R.sz) (h : ∀ i x, xs[i]? = some x → R.rel z ((l.drop (i * R.sz)).take R.sz) x) : l.all AVal.one = true := by
  refine List.all_eq_true.2 fun c hc => ?_
  obtain ⟨j, hj, rfl⟩ := List.getElem_of_mem hc
  have hi : j / R.sz < xs.length := by rw [Nat.div_lt_iff_lt_mul hp]; omega
  have h1 := R.ones _ _ _ (h _ _ (List.getElem?_eq_getElem hi))
  rw [List.all_eq_true] at h1
  refine h1 _ (List.mem_of_getElem? (i := j % R.sz) ?_)
  have hm := Nat.mod_lt j hp
  have e := Nat.div_add_mod j R.sz
  rw [Nat.mul_comm] at e
  rw [List.getElem?_take, if_pos hm, List.getElem?_drop, e]
  simp

structure Ar1 (T : Tab) (at_ : TypeId) (et : TypeId) (n : Nat) {A : Type} (R : Rep A) : Prop where
  und : T.und at_ = some (.array n et)
  sz : szT T et = some R.sz
  agg : isAggT T et = some R.agg
  whole : szT T at_ = some (n * R.sz)
  isagg : isAggT T at_ = some true
  pos : 0 < R.sz


end Go.Ai.Sx
