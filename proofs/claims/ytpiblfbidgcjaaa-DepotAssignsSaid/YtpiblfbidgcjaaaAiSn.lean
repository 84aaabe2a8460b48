/- Symbolic runs of the abstract interpreter: operations that write. -/
import Derived.Test.YtpiblfbidgcjaaaAiSm
namespace Go.Ai.Sx

structure Ty (T : Tab) (et : TypeId) {A : Type} (R : Rep A) (bytes : Nat) : Prop where
  info : ∃ i, T.types.get et = some i ∧ i.bytes = bytes ∧ i.size = R.sz
  zero : ∃ zv, zeroT T et = some zv ∧ zv.cells.length = R.sz
  pos : 0 < R.sz

structure Zr (T : Tab) (et : TypeId) {A : Type} (R : Rep A) (x : A) : Prop where
  zero : ∃ zv, zeroT T et = some zv ∧ ∀ z, TV R z zv x

section
variable {C : Ctx} {T : Tab} {d : Option (List Nat)} {ops rest : List Oper} {Γ : Env} {L : Own} {Q : AFrame → AHeap → Prop} {P : AExit → AFrame → AHeap → Prop} {o : Oper} {t : Nat} {z : Store} {fr : AFrame} {h : AHeap}

theorem r_st {c : Code} {Γ' : Env} {L' : Own} (q : ∀ z fr h, StZ C Γ L z fr h → ∃ z', z.le z' ∧ StZ C Γ' L' z' fr h) (r : SRun C T c Γ' L' P) : SRun C T c Γ L P := fun fr h ⟨z, s⟩ => by
  obtain ⟨z', _, s'⟩ := q z fr h s
  exact r fr h ⟨z', s'⟩

theorem st_nilrow {A : Type} (R : Rep A) : ∀ z fr h, StZ C Γ L z fr h → ∃ z', z.le z' ∧ StZ C Γ ((.nilslice, .row R []) :: L) z' fr h := fun z _ _ s => ⟨z, .refl _, s.nilrow R⟩
theorem st_drop (k : Nat) {L' : Own} (hL : dropAt L k = some L') : ∀ z fr h, StZ C Γ L z fr h → ∃ z', z.le z' ∧ StZ C Γ L' z' fr h := fun z _ _ s => ⟨z, .refl _, s.drop hL⟩
theorem st_freeze {A : Type} {R : Rep A} {xs : List A} {v : AVal} (k : Nat) (ts : List Nat) {L' : Own} (hk : L[k]? = some (v, .row R xs)) (hL : dropAt L k = some L') (hts : AllRaw Γ v ts) : ∀ z fr h, StZ C Γ L z fr h → ∃ z', z.le z' ∧ StZ C (holdAll ts (.val (rSlice R) xs) Γ) L' z' fr h := by
  intro z fr h s
  obtain ⟨z', hz, s', hr⟩ := s.freeze hk hL
  exact ⟨z', hz, { s' with fr := holdAll_ok (by simp only [TE.ok]; exact tv_slice_mk hr) hts s'.fr }⟩
theorem st_weak {Γ' : Env} (q : AllIn Γ Γ') : ∀ z fr h, StZ C Γ L z fr h → ∃ z', z.le z' ∧ StZ C Γ' L z' fr h := fun z _ _ s => ⟨z, .refl _, { s with fr := fun t e hl => s.fr t e (q.sub t e hl) }⟩

/- an operation that writes, or makes -/
theorem s_mem {t : Nat} {e : TE} {L' : Own} (hrd : Rd C d ops rest Γ L o) (hft : ∀ z fr h, StZ C Γ L z fr h → FootOk z h (foot fr.op o)) (hw : Want ops Γ true o.guard) (hd : o.dst = some t) (H : ∀ z fr h, StZ C Γ L z fr h → ∃ v h' z', aop T fr.op h o.op = some (.val v h') ∧ z.le z' ∧ StZ C Γ L' z' fr h' ∧ e.ok z' v) (r : SOps C T d ops rest ((t, e) :: Γ) L' Q) : SOps C T d ops (o :: rest) Γ L Q :=
  step_val hw hrd fun z fr h s => by
    obtain ⟨v, h', z', h1, hz, h2, h3⟩ := H z fr h s
    exact ⟨v, h', z', _, _, h1, hft z fr h s, hz, by rw [hd, put_some]; exact h2.set h3, r⟩
theorem s_memv {t : Nat} {e : AVal → TE} {L' : AVal → Own} (hrd : Rd C d ops rest Γ L o) (hft : ∀ z fr h, StZ C Γ L z fr h → FootOk z h (foot fr.op o)) (hw : Want ops Γ true o.guard) (hd : o.dst = some t) (H : ∀ z fr h, StZ C Γ L z fr h → ∃ v h' u, aop T fr.op h o.op = some (.val v h') ∧ StZ C Γ (L' u) z fr h' ∧ (e u).ok z v) (r : ∀ u, SOps C T d ops rest ((t, e u) :: Γ) (L' u) Q) : SOps C T d ops (o :: rest) Γ L Q :=
  step_val hw hrd fun z fr h s => by
    obtain ⟨v, h', u, h1, h2, h3⟩ := H z fr h s
    exact ⟨v, h', z, _, _, h1, hft z fr h s, .refl _, by rw [hd, put_some]; exact h2.set h3, r u⟩
theorem s_memn {L' : Own} (hrd : Rd C d ops rest Γ L o) (hft : ∀ z fr h, StZ C Γ L z fr h → FootOk z h (foot fr.op o)) (hw : Want ops Γ true o.guard) (hd : o.dst = none) (H : ∀ z fr h, StZ C Γ L z fr h → ∃ v h', aop T fr.op h o.op = some (.val v h') ∧ StZ C Γ L' z fr h') (r : SOps C T d ops rest Γ L' Q) : SOps C T d ops (o :: rest) Γ L Q :=
  step_val hw hrd fun z fr h s => by
    obtain ⟨v, h', h1, h2⟩ := H z fr h s
    exact ⟨v, h', z, _, _, h1, hft z fr h s, .refl _, by rw [hd, put_none]; exact h2, r⟩

theorem splice_len {cells vs : List AVal} {off : Nat} (h : off + vs.length ≤ cells.length) : (splice cells off vs).length = cells.length := by
  unfold splice; simp; omega
theorem splice_piece {cells vs : List AVal} {off p n : Nat} (h : off + vs.length ≤ cells.length) (hd : p + n ≤ off ∨ off + vs.length ≤ p) : ((splice cells off vs).drop p).take n = (cells.drop p).take n := by
  apply List.ext_getElem?
  intro i
  unfold splice
  simp only [List.getElem?_take, List.getElem?_drop, List.getElem?_append, List.length_append, List.length_take]
  repeat' split
  all_goals (try omega)
  all_goals (first | rfl | (congr 1; omega))
theorem splice_in {cells vs : List AVal} {off p n k : Nat} (h : off + n ≤ cells.length) (hp : p = off + k) (hk : k + vs.length ≤ n) : ((splice cells p vs).drop off).take n = ((cells.drop off).take n).take k ++ vs ++ ((cells.drop off).take n).drop (k + vs.length) := by
  subst hp
  apply List.ext_getElem?
  intro i
  unfold splice
  simp only [List.getElem?_take, List.getElem?_drop, List.getElem?_append, List.length_append, List.length_take, List.length_drop]
  repeat' split
  all_goals (try omega)
  all_goals (first | rfl | (congr 1; omega) | (rw [List.getElem?_eq_none (by omega)]) | (symm; rw [List.getElem?_eq_none (by omega)]))

theorem mul_apart {i j m : Nat} (h : i ≠ j) : i * m + m ≤ j * m ∨ j * m + m ≤ i * m := by
  rcases Nat.lt_or_gt_of_ne h with q | q
  · left; have := Nat.mul_le_mul_right m (show i + 1 ≤ j from q); rw [Nat.add_mul] at this; omega
  · right; have := Nat.mul_le_mul_right m (show j + 1 ≤ i from q); rw [Nat.add_mul] at this; omega

/- a store into an element, or a field of it -/
theorem s_storeo {A B : Type} {R : Rep A} {S : Rep B} {g : A → B} {w : A → B → A} {x y : Operand} {et : TypeId} {a : A} {b : B} {xs : List A} {v : AVal} {i off : Nat} (k : Nat) (hu : Und T et S) (hf : FOk R off S g w) (hi : xs[i]? = some a) (hw : Want ops Γ true o.guard) (ho : o.op = .store et x y) (hd : o.dst = none)
    (hx : Opd Γ x (.elt v i off)) (hy : Opd Γ y (.val S b)) (hk : L[k]? = some (v, .row R xs)) {L' : Own} (hL : setAt L k (v, .row R (xs.set i (w a b))) = some L') (r : SOps C T d ops rest Γ L' Q) : SOps C T d ops (o :: rest) Γ L Q := by
  have hfo : ∀ z fr h, StZ C Γ L z fr h → foot fr.op o = ⟨[], false, blkOf (fr.op x), false⟩ := fun z fr h s => by unfold foot; rw [ho]
  refine s_memn (.w (by rw [ho]; rfl) (fun t a q => by rw [ho] at q; cases q)) (fun z fr h s => by
    rw [hfo z fr h s]
    refine ⟨fun b hb => (nomatch hb), fun b hb => ?_⟩
    have hp := hx.ok s.fr
    simp only [TE.ok] at hp
    obtain ⟨bb, oo, len, es, cap, q, hp⟩ := hp
    rw [hp] at hb
    refine own_none s hk rfl b ?_
    subst q
    simpa [blkOf] using hb) hw hd (fun z fr h s => ?_) r
  have hr := s.own.ok _ (List.mem_of_getElem? hk)
  simp only [Obj.ok] at hr
  have hp := hx.ok s.fr
  simp only [TE.ok] at hp
  obtain ⟨bb, oo, len, es, cap, rfl, hp⟩ := hp
  have hval := hy.val s.fr
  rcases hr.2 with ⟨q, _⟩ | ⟨b', off', cap', cells, q, h2, h3, h4, h5⟩
  · cases q
  · cases q
    have h6 := row_cells h3 hi
    have hfit := hf.fit
    have hlen := S.len _ _ _ hval.rel
    have hin : oo + i * R.sz + off + (fr.op y).cells.length ≤ cells.length := by omega
    refine ⟨.tuple [], h.set bb (.arr (splice cells (oo + i * R.sz + off) (fr.op y).cells) false), ?_, s.upd hk rfl rfl _ ?_ hL⟩
    · rw [ho]
      simp only [aop, hp, astore, h2, hu.sz]
      rw [if_pos (by exact ⟨hlen, by omega, S.ones _ _ _ hval.rel⟩)]
      rfl
    · simp only [Obj.ok]
      refine ⟨by rw [List.length_set]; exact hr.1, .inr ⟨bb, oo, cap, splice cells (oo + i * R.sz + off) (fr.op y).cells, by rw [List.length_set], by rw [AHeap.get_set, if_pos rfl], by rw [splice_len hin, List.length_set]; exact h3, by rw [splice_len hin, List.length_set]; exact h4, fun j u hj => ?_⟩⟩
      rw [List.getElem?_set] at hj
      by_cases q : i = j
      · subst q
        rw [if_pos rfl, if_pos (List.getElem?_eq_some_iff.1 hi).1] at hj
        cases hj
        rw [splice_in (k := off) h6 rfl (by omega), hlen]
        exact hf.set _ _ _ _ _ (h5 _ _ hi) hval.rel
      · rw [if_neg q] at hj
        rw [splice_piece hin]
        · exact h5 _ _ hj
        · have := mul_apart (m := R.sz) q; omega

/- new rows -/
theorem copies_len (n : Nat) (zc : List AVal) : (copies n zc).length = n * zc.length := by
  induction n with
  | zero => simp [copies]
  | succ n ih => simp only [copies, List.length_append, ih, Nat.add_mul]; omega
theorem copies_piece {n i : Nat} (zc : List AVal) (h : i < n) : ((copies n zc).drop (i * zc.length)).take zc.length = zc := by
  induction n generalizing i with
  | zero => omega
  | succ n ih =>
    simp only [copies]
    cases i with
    | zero => simp
    | succ i =>
      rw [List.drop_append, List.drop_eq_nil_of_le (by rw [Nat.add_mul]; omega), List.nil_append, Nat.add_mul, Nat.one_mul, Nat.add_sub_cancel]
      exact ih (by omega)

inductive Elts (Γ : Env) {A : Type} (R : Rep A) : Nat → List (Nat × Operand) → List A → Prop where
  | n {i : Nat} : Elts Γ R i [] []
  | c {i : Nat} {x : Operand} {a : A} {ps : List (Nat × Operand)} {as : List A} (h : Opd Γ x (.val R a)) (r : Elts Γ R (i + 1) ps as) : Elts Γ R i ((i, x) :: ps) (a :: as)

theorem elts_fill {A : Type} {R : Rep A} {ps : List (Nat × Operand)} {as : List A} {i : Nat} (e : Elts Γ R i ps as) (hf : FrOk z Γ fr) (hp : 0 < R.sz) : ∀ (cells : List AVal), cells.length = (i + as.length) * R.sz →
    ∃ cells', afill (fun i => some (i * R.sz, R.sz)) cells (evParts fr.op ps) = some cells' ∧ cells'.length = cells.length ∧ (∀ j, j < i → (cells'.drop (j * R.sz)).take R.sz = (cells.drop (j * R.sz)).take R.sz) ∧
      ∀ j a, as[j]? = some a → R.rel z ((cells'.drop ((i + j) * R.sz)).take R.sz) a := by
  induction e with
  | n => intro cells _; exact ⟨cells, rfl, rfl, fun _ _ => rfl, by simp⟩
  | @c i x a ps as hx _ ih =>
    intro cells hl
    have hv := hx.val hf
    have hlen := R.len _ _ _ hv.rel
    simp only [List.length_cons] at hl
    have hin : i * R.sz + (fr.op x).cells.length ≤ cells.length := by
      rw [hl, hlen]
      have := Nat.mul_le_mul_right R.sz (show i + 1 ≤ i + (as.length + 1) by omega)
      rw [Nat.add_mul] at this; omega
    have hdef : (fr.op x).defd = true := by
      have := R.ones _ _ _ hv.rel
      cases hq : fr.op x <;> rw [hq] at this <;> simp_all [AVal.defd, AVal.cells, AVal.one]
    obtain ⟨c', h1, h2, h3, h4⟩ := ih (splice cells (i * R.sz) (fr.op x).cells) (by rw [splice_len hin, hl]; congr 1; omega)
    refine ⟨c', ?_, by rw [h2, splice_len hin], fun j hj => ?_, fun j a' hj => ?_⟩
    · simp only [evParts, List.map, afill]
      rw [if_pos ⟨hdef, hlen, hin⟩]
      exact h1
    · rw [h3 j (by omega), splice_piece hin]
      have := mul_apart (m := R.sz) (show i ≠ j by omega)
      have := Nat.mul_le_mul_right R.sz (show j + 1 ≤ i from hj)
      rw [Nat.add_mul] at this
      omega
    · cases j with
      | zero =>
        simp at hj; subst hj
        rw [Nat.add_zero, h3 i (by omega), splice_in (n := R.sz) (k := 0) (by omega) (Nat.add_zero _).symm (by omega)]
        have : ((cells.drop (i * R.sz)).take R.sz).drop (0 + (fr.op x).cells.length) = [] := List.drop_eq_nil_of_le (by rw [List.length_take]; omega)
        rw [this]
        simpa using hv.rel
      | succ j =>
        have := h4 j a' (by simpa using hj)
        rw [show i + (j + 1) = i + 1 + j by omega]; exact this

theorem bs_of {A : Type} {R : Rep A} {bytes : Nat} {st et : TypeId} {n : Nat} {parts : Array (Nat × Operand)} {as : List A} (hsl : Sl T st et R) (hty : Ty T et R bytes) (he : Elts Γ R 0 parts.toList as) (hn : as.length = n) (hb : n * R.sz ≤ 2 ^ 24) (hf : FrOk z Γ fr) :
    ∃ cells, aop T fr.op h (.buildSlice st n parts) = some (.val (.slice h.next 0 n R.sz (some n)) (h.push (.arr cells false))) ∧ cells.length = n * R.sz ∧ ∀ i x, as[i]? = some x → R.rel z ((cells.drop (i * R.sz)).take R.sz) x := by
  obtain ⟨zv, h1, h2⟩ := hty.zero
  obtain ⟨cells, h3, h4, _, h5⟩ := elts_fill he hf hty.pos (copies n zv.cells) (by rw [copies_len, h2, ← hn]; simp)
  refine ⟨cells, ?_, by rw [h4, copies_len, h2], fun i x hx => by simpa using h5 i x hx⟩
  simp only [aop, abuildSlice, hsl.und, hsl.sz, Option.getD_some, amakeRow, h1]
  rw [if_neg (by omega), if_neg (by have := hty.pos; omega), if_pos h2, h3]
  rfl

/- a literal row that nobody writes -/
theorem s_bs {A : Type} {R : Rep A} {bytes : Nat} {st et : TypeId} {n : Nat} {parts : Array (Nat × Operand)} {as : List A} (hsl : Sl T st et R) (hty : Ty T et R bytes) (hw : Want ops Γ true o.guard) (ho : o.op = .buildSlice st n parts) (hd : o.dst = some t) (he : Elts Γ R 0 parts.toList as) (hn : as.length = n) (hb : n * R.sz ≤ 2 ^ 24)
    (r : SOps C T d ops rest ((t, .val (rSlice R) as) :: Γ) L Q) : SOps C T d ops (o :: rest) Γ L Q := by
  refine s_mem (nf (by rw [ho]; rfl)) (fun _ _ _ _ => nfo (by rw [ho]; rfl)) hw hd (fun z fr h s => ?_) r
  obtain ⟨cells, h1, h2, h3⟩ := bs_of (h := h) hsl hty he hn hb s.fr
  refine ⟨_, _, z.add h.next (.arr cells false), by rw [ho]; exact h1, add_le s.next_none, s.push _, ?_⟩
  simp only [TE.ok]
  refine tv_slice_mk ⟨?_, .inr (.inr ⟨h.next, 0, _, cells, false, by rw [hn], add_at, by rw [hn]; omega, fun c hc => by cases hc; omega, fun i x hx => ?_⟩)⟩
  · have := Nat.mul_le_mul_left as.length hty.pos
    rw [hn] at this ⊢
    simp only [maxLen]; omega
  · rw [Nat.zero_add]; exact R.mono _ _ _ _ (add_le s.next_none) (h3 i x hx)

/- a literal row that is owned -/
theorem s_bso {A : Type} {R : Rep A} {bytes : Nat} {st et : TypeId} {n : Nat} {parts : Array (Nat × Operand)} {as : List A} (hsl : Sl T st et R) (hty : Ty T et R bytes) (hw : Want ops Γ true o.guard) (ho : o.op = .buildSlice st n parts) (hd : o.dst = some t) (he : Elts Γ R 0 parts.toList as) (hn : as.length = n) (hb : n * R.sz ≤ 2 ^ 24)
    (r : ∀ v, SOps C T d ops rest ((t, .raw v) :: Γ) ((v, .row R as) :: L) Q) : SOps C T d ops (o :: rest) Γ L Q := by
  refine s_memv (e := fun v => .raw v) (L' := fun v => (v, .row R as) :: L) (nf (by rw [ho]; rfl)) (fun _ _ _ _ => nfo (by rw [ho]; rfl)) hw hd (fun z fr h s => ?_) r
  obtain ⟨cells, h1, h2, h3⟩ := bs_of (h := h) hsl hty he hn hb s.fr
  refine ⟨_, _, .slice h.next 0 n R.sz (some n), by rw [ho]; exact h1, s.pushOwn _ rfl ?_, by simp only [TE.ok]⟩
  simp only [Obj.ok]
  refine ⟨?_, .inr ⟨h.next, 0, _, cells, by rw [hn], by rw [AHeap.get_push, if_pos rfl], by rw [hn]; omega, fun c hc => by cases hc; omega, fun i x hx => ?_⟩⟩
  · have := Nat.mul_le_mul_left as.length hty.pos
    rw [hn] at this ⊢
    simp only [maxLen]; omega
  · rw [Nat.zero_add]; exact h3 i x hx

/- make -/
def mkO {A : Type} (bytes : Nat) (n : Int) (x : A) : Option (List A) := if 0 ≤ n ∧ (bytes : Int) * n ≤ 2 ^ 47 ∧ n ≤ 2 ^ 62 then some (List.replicate n.toNat x) else none

theorem s_mk {A : Type} {R : Rep A} {bytes : Nat} {st et : TypeId} {x : A} {l c : Operand} {n : Int} {xs : List A} (hsl : Sl T st et R) (hty : Ty T et R bytes) (hz : Zr T et R x) (hm : mkO bytes n x = some xs) (hw : Want ops Γ true o.guard) (ho : o.op = .makeSlice st l c) (hd : o.dst = some t) (hl : Opd Γ l (.val (rInt .i64) n)) (hc : Opd Γ c (.val (rInt .i64) n))
    (r : ∀ v, SOps C T d ops rest ((t, .raw v) :: Γ) ((v, .row R xs) :: L) Q) : SOps C T d ops (o :: rest) Γ L Q := by
  unfold mkO at hm
  split at hm
  case isFalse => cases hm
  cases hm
  rename_i hcond
  refine s_memv (e := fun v => .raw v) (L' := fun v => (v, .row R _) :: L) (nf (by rw [ho]; rfl)) (fun _ _ _ _ => nfo (by rw [ho]; rfl)) hw hd (fun z fr h s => ?_) r
  obtain ⟨i, h1, h2, h3⟩ := hty.info
  obtain ⟨zv, h4, h5⟩ := hz.zero
  have h5 := h5 z
  have hlen := R.len _ _ _ h5.rel
  refine ⟨.slice h.next 0 n.toNat R.sz (some n.toNat), h.push (.arr (copies n.toNat zv.cells) false), .slice h.next 0 n.toNat R.sz (some n.toNat), ?_, s.pushOwn _ rfl ?_, by simp only [TE.ok]⟩
  · rw [ho]
    simp only [aop, hl.int s.fr, hc.int s.fr, amakeSlice, hsl.und, h1, h2]
    rw [if_pos ⟨hcond.1, Int.le_refl _, by simpa using hcond.2⟩]
    simp only [amakeRow, hsl.sz, h4]
    rw [if_neg (by have := hty.pos; omega), if_pos hlen]
    rfl
  · simp only [Obj.ok]
    have hcl : (copies n.toNat zv.cells).length = n.toNat * R.sz := by rw [copies_len, hlen]
    refine ⟨by rw [List.length_replicate]; simp only [maxLen]; omega, .inr ⟨h.next, 0, _, copies n.toNat zv.cells, by rw [List.length_replicate], by rw [AHeap.get_push, if_pos rfl], by rw [List.length_replicate]; omega, fun c hc => by cases hc; rw [List.length_replicate]; omega, fun i x' hx => ?_⟩⟩
    have hi := (List.getElem?_eq_some_iff.1 hx).1
    rw [List.length_replicate] at hi
    rw [List.getElem?_replicate, if_pos hi] at hx
    cases hx
    rw [Nat.zero_add, ← hlen, copies_piece _ hi]
    exact h5.rel

/- append -/
def appO {A : Type} (bytes : Nat) (xs ys : List A) : Option (List A) := if (xs.length + ys.length) * bytes ≤ 2 ^ 46 ∧ xs.length + ys.length ≤ 2 ^ 62 then some (xs ++ ys) else none

/- a row's cells, whoever holds it -/
theorem row_news {A : Type} {R : Rep A} {v : AVal} {ys : List A} (hr : RowAt R z v ys) (hsub : z.Sub h) : lenOf v = ys.length ∧ ∃ news, arow R.sz ys.length v h = some news ∧ news.length = ys.length * R.sz ∧ news.all AVal.one = true ∧ ∀ i y, ys[i]? = some y → R.rel z ((news.drop (i * R.sz)).take R.sz) y := by
  rcases hr.2 with ⟨rfl, rfl⟩ | ⟨b, off, cap, rfl, rfl, hg⟩ | ⟨b, off, cap, cells, ro, rfl, hg, hl, hcap, hx⟩
  · exact ⟨rfl, [], rfl, by simp, rfl, by simp⟩
  · exact ⟨rfl, [], by simp only [arow]; rfl, by simp, rfl, by simp⟩
  · refine ⟨rfl, (cells.drop off).take (ys.length * R.sz), ?_, by simp; omega, ?_, fun i y hy => ?_⟩
    · simp only [arow, (hsub _ _ hg).1]
      by_cases h0 : ys.length = 0
      · rw [if_pos h0, if_pos trivial, h0]; simp
      · rw [if_neg h0, if_pos (by exact ⟨by trivial, Nat.le_refl _⟩), if_pos hl]
    · refine List.all_eq_true.2 fun c hc => ?_
      obtain ⟨j, hj, rfl⟩ := List.getElem_of_mem hc
      simp only [List.length_take, List.length_drop] at hj
      have hsz : 0 < R.sz := by
        rcases Nat.eq_zero_or_pos R.sz with q | q
        · rw [q] at hj; omega
        · exact q
      have hi : j / R.sz < ys.length := by rw [Nat.div_lt_iff_lt_mul hsz]; omega
      have h1 := R.ones _ _ _ (hx _ _ (List.getElem?_eq_getElem hi))
      rw [List.all_eq_true] at h1
      refine h1 _ (List.mem_of_getElem? (i := j % R.sz) ?_)
      have hm := Nat.mod_lt j hsz
      have e := Nat.div_add_mod j R.sz
      rw [Nat.mul_comm] at e
      rw [List.getElem?_take, if_pos hm, List.getElem?_drop, Nat.add_assoc, e]
      simp
    · have h1 := hx i y hy
      have h2 := row_cells (off := 0) (i := i) (R := R) (cells := (cells.drop off).take (ys.length * R.sz)) (by simp; omega) hy
      rw [List.drop_take, List.take_take, List.drop_drop, Nat.min_eq_left]
      · exact h1
      · simp at h2; omega

theorem piece_app {l m : List AVal} {p n : Nat} (h : p + n ≤ l.length) : ((l ++ m).drop p).take n = (l.drop p).take n := by
  apply List.ext_getElem?
  intro i
  simp only [List.getElem?_take, List.getElem?_drop, List.getElem?_append]
  repeat' split
  all_goals (first | rfl | omega)
theorem piece_app' {l m : List AVal} {p n : Nat} (h : l.length ≤ p) : ((l ++ m).drop p).take n = (m.drop (p - l.length)).take n := by
  apply List.ext_getElem?
  intro i
  simp only [List.getElem?_take, List.getElem?_drop, List.getElem?_append]
  repeat' split
  all_goals (first | rfl | omega | (congr 1; omega))

theorem grown_ok {A : Type} {R : Rep A} {xs ys : List A} {old news : List AVal} (ho : old.length = xs.length * R.sz) (hn : news.length = ys.length * R.sz) (h1 : ∀ (i : Nat) (x : A), xs[i]? = some x → R.rel z ((old.drop (i * R.sz)).take R.sz) x) (h2 : ∀ (i : Nat) (y : A), ys[i]? = some y → R.rel z ((news.drop (i * R.sz)).take R.sz) y) :
    ∀ (i : Nat) (x : A), (xs ++ ys)[i]? = some x → R.rel z (((old ++ news).drop (i * R.sz)).take R.sz) x := by
  intro i x hi
  rw [List.getElem?_append] at hi
  split at hi
  · rename_i q
    rw [piece_app]
    · exact h1 i x hi
    · rw [ho]; have := Nat.mul_le_mul_right R.sz (show i + 1 ≤ xs.length from q); rw [Nat.add_mul] at this; omega
  · rename_i q
    have hq : xs.length * R.sz ≤ i * R.sz := Nat.mul_le_mul_right _ (by omega)
    rw [piece_app' (by omega), ho, ← Nat.sub_mul]
    exact h2 _ x hi

theorem s_app {A : Type} {R : Rep A} {bytes : Nat} {x y : Operand} {c : Call} {st et : TypeId} {v : AVal} {xs ys zs : List A} (k : Nat) (hsl : Sl T st et R) (hty : Ty T et R bytes) (hap : appO bytes xs ys = some zs) (hw : Want ops Γ true o.guard) (ho : o.op = .call c) (hd : o.dst = some t) (hc : c.callee = .builtin .append) (ha : c.args.toList = [x, y]) (hat : c.argTypes.toList = [st, st])
    (hx : Opd Γ x (.raw v)) (hk : L[k]? = some (v, .row R xs)) (hy : Opd Γ y (.val (rSlice R) ys)) {L' : Own} (hL : dropAt L k = some L') (r : ∀ v', SOps C T d ops rest ((t, .raw v') :: Γ) ((v', .row R zs) :: L') Q) : SOps C T d ops (o :: rest) Γ L Q := by
  unfold appO at hap
  split at hap
  case isFalse => cases hap
  cases hap
  rename_i hcond
  obtain ⟨hcb, hcl⟩ := hcond
  refine s_memv (e := fun v' => .raw v') (L' := fun v' => (v', .row R (xs ++ ys)) :: L') (.w (by rw [ho]; simp only [noFoot, hc]) (fun t a q => by rw [ho] at q; cases q)) (fun z fr h s => by
    rw [show foot fr.op o = ⟨((c.args.toList.map fr.op).drop 1).flatMap blkOf, false, ((c.args.toList.map fr.op).take 1).flatMap blkOf, false⟩ by unfold foot; rw [ho]; simp only [hc]]
    simp only [ha, List.map, List.drop_succ_cons, List.drop_zero, List.take_succ_cons, List.take_zero, List.flatMap_cons, List.flatMap_nil, List.append_nil, hx.raw s.fr]
    exact ⟨row_foot s.sub (tv_slice (hy.val s.fr)), own_none s hk rfl⟩) hw hd (fun z fr h s => ?_) r
  have hr := s.own.ok _ (List.mem_of_getElem? hk)
  simp only [Obj.ok] at hr
  obtain ⟨hl0, news, hrow, hnl, hone, hnews⟩ := row_news (tv_slice (hy.val s.fr)) s.sub
  obtain ⟨i, h1, h2, h3⟩ := hty.info
  obtain ⟨zv, h4, h5⟩ := hty.zero
  have hpos := hty.pos
  have hml : (xs ++ ys).length ≤ maxLen := by rw [List.length_append]; simp only [maxLen]; omega
  have sd := s.drop hL
  have frame : ∀ w h', aappend T c.argTypes v (fr.op y) h = some (w, h') → aop T fr.op h o.op = some (.val w h') := by
    intro w h' e
    rw [ho]
    simp only [aop, opCall, hc, abuiltin, ha, List.map, hx.raw s.fr, e, optPair, Option.map]
  -- a new block
  have fresh : ∀ (h1 : AHeap) (s1 : StZ C Γ L' z fr h1) (old : List AVal), h1.next = h.next → old.length = xs.length * R.sz → (∀ (i : Nat) (x : A), xs[i]? = some x → R.rel z ((old.drop (i * R.sz)).take R.sz) x) →
      StZ C Γ ((.slice h.next 0 (xs.length + ys.length) R.sz none, .row R (xs ++ ys)) :: L') z fr (h1.push (.arr (old ++ news) false)) := by
    intro h1 s1 old e hol hold
    rw [← e]
    refine s1.pushOwn _ rfl ?_
    simp only [Obj.ok]
    refine ⟨hml, .inr ⟨h1.next, 0, none, old ++ news, by rw [List.length_append], by rw [AHeap.get_push, if_pos rfl], by rw [List.length_append, List.length_append, hol, hnl, Nat.add_mul]; omega, fun c q => (nomatch q), fun i x hi => ?_⟩⟩
    rw [Nat.zero_add]
    exact grown_ok hol hnl hold hnews i x hi
  rcases hr.2 with ⟨rfl, rfl⟩ | ⟨b, off, cap, cells, rfl, g1, g2, g3, g4⟩
  · by_cases hn0 : ys.length = 0
    · have : ys = [] := List.length_eq_zero_iff.1 hn0
      subst this
      refine ⟨.nilslice, h, .nilslice, frame _ _ ?_, sd.nilrow R, by simp only [TE.ok]⟩
      simp only [aappend, hat, hsl.und, h1, h4, h5, h3, hl0, hrow]
      simp [Nat.ne_of_gt hpos]
    · refine ⟨.slice h.next 0 (([] : List A).length + ys.length) R.sz none, _, .slice h.next 0 (([] : List A).length + ys.length) R.sz none, frame _ _ ?_, fresh h sd [] rfl (by simp) (by simp), by simp only [TE.ok]⟩
      simp only [aappend, hat, hsl.und, h1, h4, h5, h3, hl0, hrow, h2]
      have hne : ¬ (R.sz = 0 ∨ R.sz ≠ R.sz) := by omega
      simp only [List.length_nil, Nat.zero_add] at hcb hcl
      rw [if_neg (fun q => q rfl), if_neg hne, if_neg hn0, if_pos ⟨hcb, hcl⟩]
      simp
  · have hne : ¬ (R.sz = 0 ∨ R.sz ≠ R.sz) := by omega
    have hold : ∀ (i : Nat) (x : A), xs[i]? = some x → R.rel z ((((cells.drop off).take (xs.length * R.sz)).drop (i * R.sz)).take R.sz) x := by
      intro i x hi
      have h6 := row_cells (off := 0) (i := i) (R := R) (cells := (cells.drop off).take (xs.length * R.sz)) (by simp; omega) hi
      rw [List.drop_take, List.take_take, List.drop_drop, Nat.min_eq_left]
      · exact g4 i x hi
      · simp at h6; omega
    have hol : ((cells.drop off).take (xs.length * R.sz)).length = xs.length * R.sz := by simp; omega
    have base : ∀ w h', (match cap with
                 | some c =>
                   if xs.length + ys.length ≤ c then
                     (if (false = false) ∧ off + (xs.length + ys.length) * R.sz ≤ cells.length ∧ news.all AVal.one = true
                      then some (AVal.slice b off (xs.length + ys.length) R.sz cap, h.set b (.arr (splice cells (off + xs.length * R.sz) news) false)) else none)
                   else if off + xs.length * R.sz ≤ cells.length then
                     some (AVal.slice h.next 0 (xs.length + ys.length) R.sz none, h.push (.arr ((cells.drop off).take (xs.length * R.sz) ++ news) false)) else none
                 | none => if (false = false) ∧ off + xs.length * R.sz ≤ cells.length ∧ news.all AVal.one = true then
                     some (AVal.slice h.next 0 (xs.length + ys.length) R.sz none, (h.set b .dead).push (.arr ((cells.drop off).take (xs.length * R.sz) ++ news) false)) else none) = some (w, h') →
        aappend T c.argTypes (.slice b off xs.length R.sz cap) (fr.op y) h = some (w, h') := by
      intro w h' e
      simp only [aappend, hat, hsl.und, h1, h4, h5, h3, hl0, hrow, h2, g1]
      rw [if_neg (fun q => q rfl), if_neg hne, if_pos ⟨trivial, hcb, hcl⟩]
      cases cap <;> simpa using e
    cases cap with
    | none =>
      refine ⟨.slice h.next 0 (xs.length + ys.length) R.sz none, _, .slice h.next 0 (xs.length + ys.length) R.sz none, frame _ _ (base _ _ (if_pos ⟨rfl, g2, hone⟩)), fresh (h.set b .dead) ?_ _ rfl hol hold, by simp only [TE.ok]⟩
      obtain ⟨o1, o2, o3⟩ := s.own.out _ (List.mem_of_getElem? hk) b (by simp [blkE, blkO])
      refine sd.wild o1 o2 o3 ?_ .dead
      have hp := (List.Perm.flatMap_right blkE (dropAt_perm hk hL)).nodup_iff.2 s.own.nodup
      have hp : (blks ((AVal.slice b off xs.length R.sz none, Obj.row R xs) :: L')).Nodup := hp
      rw [blks_cons] at hp
      exact fun q => (List.nodup_append.1 hp).2.2 b (by simp [blkE, blkO]) b q rfl
    | some cc =>
      by_cases hroom : xs.length + ys.length ≤ cc
      · have hfit : off + (xs.length + ys.length) * R.sz ≤ cells.length := by
          have := (g3 cc rfl).2
          have := Nat.mul_le_mul_right R.sz hroom
          omega
        have hin : off + xs.length * R.sz + news.length ≤ cells.length := by rw [hnl, Nat.add_assoc, ← Nat.add_mul]; exact hfit
        refine ⟨.slice b off (xs.length + ys.length) R.sz (some cc), _, .slice b off (xs.length + ys.length) R.sz (some cc), frame _ _ (base _ _ ((if_pos hroom).trans (if_pos ⟨rfl, hfit, hone⟩))), (s.front hk hL).upd (k := 0) rfl rfl rfl _ ?_ rfl, by simp only [TE.ok]⟩
        simp only [Obj.ok]
        refine ⟨hml, .inr ⟨b, off, some cc, splice cells (off + xs.length * R.sz) news, by rw [List.length_append], by rw [AHeap.get_set, if_pos rfl], by rw [splice_len hin, List.length_append]; exact hfit, fun c q => by cases q; rw [splice_len hin, List.length_append]; exact ⟨hroom, (g3 _ rfl).2⟩, fun i x hi => ?_⟩⟩
        rw [List.getElem?_append] at hi
        split at hi
        · rename_i q
          rw [splice_piece hin]
          · exact g4 i x hi
          · left; have := Nat.mul_le_mul_right R.sz (show i + 1 ≤ xs.length from q); rw [Nat.add_mul] at this; omega
        · rename_i q
          have hy' := (List.getElem?_eq_some_iff.1 hi).1
          have e : i * R.sz = xs.length * R.sz + (i - xs.length) * R.sz := by rw [← Nat.add_mul]; congr 1; omega
          have h7 := hnews _ _ hi
          have h8 := row_cells (off := 0) (i := i - xs.length) (R := R) (cells := news) (by omega) hi
          have : ((splice cells (off + xs.length * R.sz) news).drop (off + i * R.sz)).take R.sz = (news.drop ((i - xs.length) * R.sz)).take R.sz := by
            apply List.ext_getElem?
            intro j
            unfold splice
            simp only [List.getElem?_take, List.getElem?_drop, List.getElem?_append, List.length_append, List.length_take]
            repeat' split
            all_goals (try omega)
            all_goals (first | rfl | (congr 1; omega))
          rw [this]; exact h7
      · refine ⟨.slice h.next 0 (xs.length + ys.length) R.sz none, _, .slice h.next 0 (xs.length + ys.length) R.sz none, frame _ _ (base _ _ ((if_neg hroom).trans (if_pos g2))), fresh h sd _ rfl hol hold, by simp only [TE.ok]⟩

end
end Go.Ai.Sx
