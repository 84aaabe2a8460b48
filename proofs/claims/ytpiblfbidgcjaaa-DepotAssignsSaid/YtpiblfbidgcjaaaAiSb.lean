/- Symbolic runs of the abstract interpreter: boxes and structs. -/
import Derived.Test.YtpiblfbidgcjaaaAiSn
namespace Go.Ai.Sx

structure Stt (T : Tab) (t : TypeId) (zc : List AVal) (places : List (Nat × Nat)) : Prop where
  zero : zeroT T t = some (.agg zc)
  pl : ∃ fs, T.und t = some (.struct fs) ∧ aplaces T fs.toList = some places

theorem zint {z : Store} : (rInt .i64).rel z [.int .i64 0] 0 := ⟨rfl, by decide, by decide⟩
theorem zbool {z : Store} : rBool.rel z [.bool false] false := rfl
theorem znil {A : Type} {R : Rep A} {z : Store} : (rSlice R).rel z [.nilslice] [] := ⟨_, rfl, row_nil⟩
theorem zunit {z : Store} : rUnit.rel z [] () := rfl
theorem zpair {A B : Type} {R : Rep A} {S : Rep B} {z : Store} {c1 c2 cs : List AVal} {a : A} {b : B} (h1 : R.rel z c1 a) (h2 : S.rel z c2 b) (e : c1 ++ c2 = cs) : (rPair R S).rel z cs (a, b) := ⟨c1, c2, e.symm, h1, h2⟩

section
variable {C : Ctx} {T : Tab} {d : Option (List Nat)} {ops rest : List Oper} {Γ : Env} {L : Own} {Q : AFrame → AHeap → Prop} {P : AExit → AFrame → AHeap → Prop} {o : Oper} {t : Nat} {z : Store} {fr : AFrame} {h : AHeap}

inductive Bld (Γ : Env) (zc : List AVal) (places : List (Nat × Nat)) : {A : Type} → Rep A → Nat → Nat → List (Nat × Operand) → A → Prop where
  | n {i off : Nat} (e : zc.length = off) : Bld Γ zc places rUnit i off [] ()
  | p {A B : Type} {R : Rep A} {S : Rep B} {i off : Nat} {x : Operand} {ps : List (Nat × Operand)} {a : A} {b : B} (hx : Opd Γ x (.val R a)) (hp : places[i]? = some (off, R.sz)) (r : Bld Γ zc places S (i + 1) (off + R.sz) ps b) : Bld Γ zc places (rPair R S) i off ((i, x) :: ps) (a, b)
  | z {A B : Type} {R : Rep A} {S : Rep B} {i off : Nat} {ps : List (Nat × Operand)} {a : A} {b : B} (hz : ∀ z, R.rel z ((zc.drop off).take R.sz) a) (r : Bld Γ zc places S (i + 1) (off + R.sz) ps b) : Bld Γ zc places (rPair R S) i off ps (a, b)

theorem bld_fill {zc : List AVal} {places : List (Nat × Nat)} {A : Type} {R : Rep A} {i off : Nat} {ps : List (Nat × Operand)} {a : A} (b : Bld Γ zc places R i off ps a) (hf : FrOk z Γ fr) : off + R.sz = zc.length ∧ ∀ (cells : List AVal), cells.length = zc.length → cells.drop off = zc.drop off →
    ∃ cells', afill (fun i => places[i]?) cells (evParts fr.op ps) = some cells' ∧ cells'.length = zc.length ∧ cells'.take off = cells.take off ∧ R.rel z (cells'.drop off) a := by
  induction b with
  | n e => exact ⟨e.symm, fun cells hl _ => ⟨cells, rfl, hl, rfl, List.drop_eq_nil_of_le (by omega)⟩⟩
  | @p A B R S i off x ps a b hx hp _ ih =>
    obtain ⟨ih0, ih⟩ := ih
    simp only [rPair] at *
    refine ⟨by omega, fun cells hl hd => ?_⟩
    have hv := hx.val hf
    have hlen := R.len _ _ _ hv.rel
    have hin : off + (fr.op x).cells.length ≤ cells.length := by omega
    have hdef : (fr.op x).defd = true := by
      cases hq : fr.op x with
      | undef =>
        have h1 := hv.agg
        have h2 := R.ones _ _ _ hv.rel
        rw [hq] at h2; simp [AVal.cells, AVal.one] at h2
      | _ => rfl
    have hsl := splice_len hin
    obtain ⟨c', h1, h2, h3, h4⟩ := ih (splice cells off (fr.op x).cells) (by omega) (by
      have e : (splice cells off (fr.op x).cells).drop (off + R.sz) = cells.drop (off + R.sz) := by
        apply List.ext_getElem?
        intro j
        unfold splice
        simp only [List.getElem?_drop, List.getElem?_append, List.length_append, List.length_take]
        repeat' split
        all_goals (try omega)
        all_goals (first | rfl | (congr 1; omega))
      rw [e]
      have := congrArg (List.drop R.sz) hd
      rwa [List.drop_drop, List.drop_drop] at this)
    refine ⟨c', ?_, h2, ?_, (fr.op x).cells, c'.drop (off + R.sz), ?_, hv.rel, h4⟩
    · simp only [evParts, List.map, afill, hp]
      rw [if_pos ⟨hdef, hlen, hin⟩]
      exact h1
    · have := congrArg (List.take off) h3
      rw [List.take_take, List.take_take, Nat.min_eq_left (by omega)] at this
      rw [this]
      unfold splice
      rw [List.append_assoc, List.take_append_of_le_length (by simp; omega), List.take_take, Nat.min_self]
    · have e : c'.drop off = (c'.drop off).take R.sz ++ c'.drop (off + R.sz) := by
        rw [← List.drop_drop]; exact (List.take_append_drop _ _).symm
      rw [e]
      congr 1
      have := congrArg (List.drop off) h3
      rw [List.drop_take, List.drop_take, Nat.add_sub_cancel_left] at this
      rw [this, splice_in (n := R.sz) (k := 0) (by omega) (Nat.add_zero _).symm (by omega)]
      have : ((cells.drop off).take R.sz).drop (0 + (fr.op x).cells.length) = [] := List.drop_eq_nil_of_le (by rw [List.length_take]; omega)
      rw [this]; simp
  | @z A B R S i off ps a b hz _ ih =>
    obtain ⟨ih0, ih⟩ := ih
    simp only [rPair] at *
    refine ⟨by omega, fun cells hl hd => ?_⟩
    obtain ⟨c', h1, h2, h3, h4⟩ := ih cells hl (by
      have := congrArg (List.drop R.sz) hd
      rwa [List.drop_drop, List.drop_drop] at this)
    refine ⟨c', h1, h2, ?_, (zc.drop off).take R.sz, c'.drop (off + R.sz), ?_, hz _, h4⟩
    · have := congrArg (List.take off) h3
      rwa [List.take_take, List.take_take, Nat.min_eq_left (by omega)] at this
    · have e : c'.drop off = (c'.drop off).take R.sz ++ c'.drop (off + R.sz) := by
        rw [← List.drop_drop]; exact (List.take_append_drop _ _).symm
      rw [e]
      congr 1
      have := congrArg (List.drop off) h3
      rw [List.drop_take, List.drop_take, Nat.add_sub_cancel_left, hd] at this
      exact this

theorem s_build {A : Type} {R : Rep A} {zc : List AVal} {places : List (Nat × Nat)} {tt : TypeId} {parts : Array (Nat × Operand)} {a : A} (hst : Stt T tt zc places) (hw : Want ops Γ true o.guard) (ho : o.op = .build tt parts) (hd : o.dst = some t) (hagg : R.agg = true) (hb : Bld Γ zc places R 0 0 parts.toList a)
    (r : SOps C T d ops rest ((t, .val R a) :: Γ) L Q) : SOps C T d ops (o :: rest) Γ L Q := by
  refine s_pure (by rw [ho]; rfl) hw hd (fun z fr h s => ?_) r
  obtain ⟨fs, h1, h2⟩ := hst.pl
  obtain ⟨h0, hb⟩ := bld_fill hb s.fr
  obtain ⟨c', h3, h4, _, h5⟩ := hb zc rfl rfl
  refine ⟨.agg c', ?_, by simp only [TE.ok]; exact ⟨by rw [List.drop_zero] at h5; exact h5, by rw [hagg]; rfl⟩⟩
  rw [ho]
  simp only [aop, abuild, hst.zero, h1, h2, AVal.cells, h3, optVal, Option.map]

/- boxes -/
theorem okAll_len : ∀ {es : List TE} {vs : List AVal}, okAll z es vs → vs.length = es.length
  | [], _, h => by simp only [okAll] at h; rw [h]; rfl
  | e :: es, _, h => by
    simp only [okAll] at h
    obtain ⟨v, vs', rfl, _, h2⟩ := h
    simp [okAll_len h2]
theorem okAll_at : ∀ {es : List TE} {vs : List AVal} {i : Nat} {e : TE}, okAll z es vs → es[i]? = some e → ∃ v, vs[i]? = some v ∧ e.ok z v
  | [], _, _, _, _, hi => by simp at hi
  | a :: es, _, i, e, h, hi => by
    simp only [okAll] at h
    obtain ⟨v, vs', rfl, h1, h2⟩ := h
    cases i with
    | zero => simp at hi; subst hi; exact ⟨v, rfl, h1⟩
    | succ i => simpa using okAll_at h2 (by simpa using hi)
theorem okAll_set : ∀ {es : List TE} {vs : List AVal} {i : Nat} {e : TE} {v : AVal}, okAll z es vs → e.ok z v → okAll z (es.set i e) (vs.set i v)
  | [], _, _, _, _, h, _ => by simp only [okAll] at h; subst h; simp [okAll]
  | a :: es, _, i, e, v, h, hv => by
    simp only [okAll] at h
    obtain ⟨u, vs', rfl, h1, h2⟩ := h
    cases i with
    | zero => simp only [List.set_cons_zero, okAll]; exact ⟨v, vs', rfl, hv, h2⟩
    | succ i => simp only [List.set_cons_succ, okAll]; exact ⟨u, _, rfl, h1, okAll_set h2 hv⟩

/- a datum laid cell by cell -/
def Cells {A : Type} (R : Rep A) (a : A) (es : List TE) : Prop := ∀ z cs, R.rel z cs a ↔ okAll z es cs

theorem cells_one {A : Type} {R : Rep A} {a : A} (h : R.agg = false) : Cells R a [.val R a] := by
  intro z cs
  simp only [okAll, TE.ok]
  have h1 := R.one h
  constructor
  · intro hr
    have hl := R.len _ _ _ hr
    have ho := R.ones _ _ _ hr
    match cs, hl with
    | [c], _ =>
      simp at ho
      refine ⟨c, [], rfl, ⟨?_, ?_⟩, rfl⟩
      · have : c.cells = [c] := by cases c <;> simp_all [AVal.cells, AVal.one]
        rw [this]; exact hr
      · rw [h]; cases c <;> simp_all [AVal.isAgg, AVal.one]
    | [], hl => rw [h1] at hl; simp at hl
    | _ :: _ :: _, hl => rw [h1] at hl; simp at hl
  · rintro ⟨v, vs, rfl, hv, rfl⟩
    have : v.cells = [v] := by
      have := hv.agg
      rw [h] at this
      cases v <;> simp_all [AVal.cells, AVal.isAgg]
    rw [← this]; exact hv.rel
theorem cells_unit : Cells rUnit () [] := by intro z cs; simp [rUnit, okAll]
theorem okAll_app : ∀ {es fs : List TE} {cs : List AVal}, okAll z (es ++ fs) cs ↔ ∃ c1 c2, cs = c1 ++ c2 ∧ okAll z es c1 ∧ okAll z fs c2
  | [], fs, cs => by
    simp only [List.nil_append, okAll]
    constructor
    · intro h; exact ⟨[], cs, rfl, rfl, h⟩
    · rintro ⟨c1, c2, rfl, rfl, h⟩; exact h
  | e :: es, fs, cs => by
    simp only [List.cons_append, okAll]
    constructor
    · rintro ⟨v, vs, rfl, h1, h2⟩
      obtain ⟨c1, c2, rfl, h3, h4⟩ := okAll_app.1 h2
      exact ⟨v :: c1, c2, rfl, ⟨v, c1, rfl, h1, h3⟩, h4⟩
    · rintro ⟨c1, c2, rfl, ⟨v, vs, rfl, h1, h2⟩, h3⟩
      exact ⟨v, vs ++ c2, rfl, h1, okAll_app.2 ⟨vs, c2, rfl, h2, h3⟩⟩
theorem cells_pair {A B : Type} {R : Rep A} {S : Rep B} {a : A} {b : B} {es fs gs : List TE} (h1 : Cells R a es) (h2 : Cells S b fs) (e : es ++ fs = gs) : Cells (rPair R S) (a, b) gs := by
  subst e
  intro z cs
  rw [okAll_app]
  constructor
  · rintro ⟨c1, c2, rfl, h3, h4⟩; exact ⟨c1, c2, rfl, (h1 _ _).1 h3, (h2 _ _).1 h4⟩
  · rintro ⟨c1, c2, rfl, h3, h4⟩; exact ⟨c1, c2, rfl, (h1 _ _).2 h3, (h2 _ _).2 h4⟩

theorem s_alloc {et : TypeId} {zv : AVal} {es : List TE} (hz : zeroT T et = some zv) (hes : ∀ z, okAll z es zv.cells) (h1 : zv.cells.all AVal.one = true) (hw : Want ops Γ true o.guard) (ho : o.op = .alloc et) (hd : o.dst = some t)
    (r : ∀ b, SOps C T d ops rest ((t, .raw (.ptr b 0)) :: Γ) ((.ptr b 0, .box es) :: L) Q) : SOps C T d ops (o :: rest) Γ L Q := by
  refine step_val hw (nf (by rw [ho]; rfl)) fun z fr h s => ?_
  have ha : aop T fr.op h o.op = some (.val (.ptr h.next 0) (h.push (.arr zv.cells false))) := by rw [ho]; simp only [aop, opAlloc, hz]
  refine ⟨_, _, z, _, _, ha, nfo (by rw [ho]; rfl), .refl _, ?_, r h.next⟩
  rw [hd, put_some]
  refine (s.pushOwn (v := .ptr h.next 0) (ob := .box es) _ rfl ?_).set (by simp only [TE.ok])
  exact ⟨h.next, zv.cells, rfl, by rw [AHeap.get_push, if_pos rfl], hes z, h1⟩

theorem s_boxo {A : Type} {R : Rep A} {et : TypeId} {x : Operand} {a : A} {es : List TE} (hc : Cells R a es) (hw : Want ops Γ true o.guard) (ho : o.op = .box et x) (hd : o.dst = some t) (hx : Opd Γ x (.val R a))
    (r : ∀ b, SOps C T d ops rest ((t, .raw (.ptr b 0)) :: Γ) ((.ptr b 0, .box es) :: L) Q) : SOps C T d ops (o :: rest) Γ L Q := by
  refine step_val hw (nf (by rw [ho]; rfl)) fun z fr h s => ?_
  have hv := hx.val s.fr
  have h1 := R.ones _ _ _ hv.rel
  have ha : aop T fr.op h o.op = some (.val (.ptr h.next 0) (h.push (.arr (fr.op x).cells false))) := by
    rw [ho]
    simp only [aop, opBox]
    split
    · rename_i q; rw [q] at h1; simp [AVal.cells, AVal.one] at h1
    · rfl
  refine ⟨_, _, z, _, _, ha, nfo (by rw [ho]; rfl), .refl _, ?_, r h.next⟩
  rw [hd, put_some]
  refine (s.pushOwn (v := .ptr h.next 0) (ob := .box es) _ rfl ?_).set (by simp only [TE.ok])
  exact ⟨h.next, _, rfl, by rw [AHeap.get_push, if_pos rfl], (hc _ _).1 hv.rel, h1⟩

theorem s_box {A : Type} {R : Rep A} {et : TypeId} {x : Operand} {a : A} (hw : Want ops Γ true o.guard) (ho : o.op = .box et x) (hd : o.dst = some t) (hx : Opd Γ x (.val R a))
    (r : SOps C T d ops rest ((t, .val (rPtr R) a) :: Γ) L Q) : SOps C T d ops (o :: rest) Γ L Q := by
  refine s_mem (nf (by rw [ho]; rfl)) (fun _ _ _ _ => nfo (by rw [ho]; rfl)) hw hd (fun z fr h s => ?_) r
  have hv := hx.val s.fr
  have h1 := R.ones _ _ _ hv.rel
  refine ⟨.ptr h.next 0, h.push (.arr (fr.op x).cells false), z.add h.next (.arr (fr.op x).cells false), ?_, add_le s.next_none, s.push _, ?_⟩
  · rw [ho]
    simp only [aop, opBox]
    split
    · rename_i q; rw [q] at h1; simp [AVal.cells, AVal.one] at h1
    · rfl
  · simp only [TE.ok]
    have hl := R.len _ _ _ hv.rel
    refine tv_ptr_mk ⟨h.next, 0, _, false, rfl, add_at, by omega, ?_⟩
    rw [List.drop_zero, ← hl, List.take_length]
    exact R.mono _ _ _ _ (add_le s.next_none) hv.rel

/- a box that nobody writes any more -/
theorem st_freezeb {A : Type} {R : Rep A} {a : A} {es : List TE} {b : Nat} (k : Nat) (ts : List Nat) (hc : Cells R a es) {L' : Own} (hk : L[k]? = some (.ptr b 0, .box es)) (hL : dropAt L k = some L') (hts : AllRaw Γ (.ptr b 0) ts) : ∀ z fr h, StZ C Γ L z fr h → ∃ z', z.le z' ∧ StZ C (holdAll ts (.val (rPtr R) a) Γ) L' z' fr h := by
  intro z fr h s
  have ho := s.own.ok _ (List.mem_of_getElem? hk)
  simp only [Obj.ok] at ho
  obtain ⟨b', cells, q, h2, h3, h4⟩ := ho
  cases q
  obtain ⟨o1, o2, o3⟩ := s.own.out _ (List.mem_of_getElem? hk) b (by simp [blkE, blkO])
  have hle : z.le (z.add b (.arr cells false)) := add_le o1
  have s' := s.drop hL
  have hne : ∀ p ∈ L', ∀ c, c ∈ blkE p → c ≠ b := by
    intro p hp c hc e
    subst e
    have hp' := (List.Perm.flatMap_right blkE (dropAt_perm hk hL)).nodup_iff.2 s.own.nodup
    have hp' : (blks ((AVal.ptr c 0, Obj.box es) :: L')).Nodup := hp'
    rw [blks_cons] at hp'
    exact (List.nodup_append.1 hp').2.2 c (by simp [blkE, blkO]) c (mem_blks.2 ⟨p, hp, hc⟩) rfl
  have hr := (hc z cells).2 h3
  refine ⟨z.add b (.arr cells false), hle, { zle := s.zle.trans hle, sub := ?_, old := ?_, fr := holdAll_ok ?_ hts (s.fr.mono hle), own := ⟨fun p hp => Obj.ok_mono hle (fun _ _ => rfl) (s'.own.ok p hp), fun p hp c hc => ?_, s'.own.nodup⟩, chg := s.chg }⟩
  · intro c y hc
    by_cases e : c = b
    · subst e; rw [add_at] at hc; cases hc; exact ⟨h2, o2⟩
    · rw [add_ne e] at hc; exact s.sub c y hc
  · intro c hc hB
    rw [add_ne]
    · exact s.old c hc hB
    · intro e; subst e
      rcases o3 with q | q
      · omega
      · exact hB q
  · simp only [TE.ok]
    have hl := R.len _ _ _ hr
    refine tv_ptr_mk ⟨b, 0, cells, false, rfl, add_at, by omega, ?_⟩
    rw [List.drop_zero, ← hl, List.take_length]
    exact R.mono _ _ _ _ hle hr
  · obtain ⟨q1, q2, q3⟩ := s'.own.out p hp c hc
    exact ⟨by rw [add_ne (hne p hp c hc)]; exact q1, q2, q3⟩

/- one cell of a box -/
theorem s_loadb {et : TypeId} {x : Operand} {b q : Nat} {es : List TE} {e : TE} (k : Nat) (hls : Listed d ops rest) (hag : isAggT T et = some false) (he : es[q]? = some e) (hw : Want ops Γ true o.guard) (ho : o.op = .load et x) (hd : o.dst = some t) (hx : Opd Γ x (.raw (.ptr b q))) (hk : L[k]? = some (.ptr b 0, .box es))
    (r : SOps C T d ops rest ((t, e) :: Γ) L Q) : SOps C T d ops (o :: rest) Γ L Q := by
  refine s_pureF (.l hls (by rw [ho]; rfl)) (fun z fr h s => by
    rw [show foot fr.op o = ⟨blkOf (fr.op x), false, [], false⟩ by unfold foot; rw [ho]]
    exact ⟨fun b' hb => own_foot s hk rfl b' (by simpa [blkOf, hx.raw s.fr] using hb), fun b hb => (nomatch hb)⟩) hw hd (fun z fr h s => ?_) r
  have hob := s.own.ok _ (List.mem_of_getElem? hk)
  simp only [Obj.ok] at hob
  obtain ⟨b', cells, q', h2, h3, h4⟩ := hob
  cases q'
  obtain ⟨v, h5, h6⟩ := okAll_at h3 he
  refine ⟨v, ?_, h6⟩
  rw [ho]
  simp only [aop, hx.raw s.fr, aload, h2, Go.Ai.apart, hag, h5, optVal, Option.map]

/- a whole box -/
theorem s_loadbs {A : Type} {R : Rep A} {a : A} {et : TypeId} {x : Operand} {b : Nat} {es : List TE} (k : Nat) (hls : Listed d ops rest) (hu : Und T et R) (hc : Cells R a es) (hw : Want ops Γ true o.guard) (ho : o.op = .load et x) (hd : o.dst = some t) (hx : Opd Γ x (.raw (.ptr b 0))) (hk : L[k]? = some (.ptr b 0, .box es))
    (r : SOps C T d ops rest ((t, .val R a) :: Γ) L Q) : SOps C T d ops (o :: rest) Γ L Q := by
  refine s_pureF (.l hls (by rw [ho]; rfl)) (fun z fr h s => by
    rw [show foot fr.op o = ⟨blkOf (fr.op x), false, [], false⟩ by unfold foot; rw [ho]]
    exact ⟨fun b' hb => own_foot s hk rfl b' (by simpa [blkOf, hx.raw s.fr] using hb), fun b hb => (nomatch hb)⟩) hw hd (fun z fr h s => ?_) r
  have hob := s.own.ok _ (List.mem_of_getElem? hk)
  simp only [Obj.ok] at hob
  obtain ⟨b', cells, q', h2, h3, h4⟩ := hob
  cases q'
  have hr := (hc z cells).2 h3
  have hl := R.len _ _ _ hr
  obtain ⟨v, h5, h6⟩ := apart_ok (off := 0) (cells := cells) hu.sz hu.agg (by omega) (by rw [List.drop_zero, ← hl, List.take_length]; exact hr)
  refine ⟨v, ?_, by simp only [TE.ok]; exact h6⟩
  rw [ho]
  simp only [aop, hx.raw s.fr, aload, h2, h5, optVal, Option.map]

theorem splice_one {cells : List AVal} {q : Nat} {v : AVal} (h : q < cells.length) : splice cells q [v] = cells.set q v := by
  apply List.ext_getElem?
  intro i
  unfold splice
  rw [List.append_assoc, List.getElem?_append, List.getElem?_set, List.length_take, Nat.min_eq_left (by omega)]
  by_cases h1 : i < q
  · rw [if_pos h1, if_neg (by omega), List.getElem?_take, if_pos h1]
  · rw [if_neg h1]
    by_cases h2 : q = i
    · subst h2; rw [if_pos rfl, if_pos h]; simp
    · rw [if_neg h2, List.getElem?_append_right (by simp; omega), List.getElem?_drop]
      congr 1; simp; omega

theorem s_storeb {A : Type} {R : Rep A} {a : A} {et : TypeId} {x y : Operand} {b q : Nat} {es : List TE} (k : Nat) (hsz : szT T et = some 1) (hk : L[k]? = some (.ptr b 0, .box es)) (hq : q < es.length) (hw : Want ops Γ true o.guard) (ho : o.op = .store et x y) (hd : o.dst = none) (hx : Opd Γ x (.raw (.ptr b q))) (hy : Opd Γ y (.val R a)) (hR : R.agg = false)
    {L' : Own} (hL : setAt L k (.ptr b 0, .box (es.set q (.val R a))) = some L') (r : SOps C T d ops rest Γ L' Q) : SOps C T d ops (o :: rest) Γ L Q := by
  refine s_memn (.w (by rw [ho]; rfl) (fun t a q => by rw [ho] at q; cases q)) (fun z fr h s => by
    rw [show foot fr.op o = ⟨[], false, blkOf (fr.op x), false⟩ by unfold foot; rw [ho]]
    exact ⟨fun b hb => (nomatch hb), fun b' hb => own_none s hk rfl b' (by simpa [blkOf, hx.raw s.fr] using hb)⟩) hw hd (fun z fr h s => ?_) r
  have hob := s.own.ok _ (List.mem_of_getElem? hk)
  simp only [Obj.ok] at hob
  obtain ⟨b', cells, q', h2, h3, h4⟩ := hob
  cases q'
  have hv := hy.val s.fr
  have h1 := R.one hR
  have hcs : (fr.op y).cells = [fr.op y] := by
    have := hv.agg
    rw [hR] at this
    cases e : fr.op y <;> rw [e] at this <;> simp_all [AVal.cells, AVal.isAgg]
  have hon := R.ones _ _ _ hv.rel
  rw [hcs] at hon
  have hlt : q < cells.length := by rw [okAll_len h3]; exact hq
  refine ⟨.tuple [], h.set b (.arr (cells.set q (fr.op y)) false), ?_, s.upd hk rfl rfl _ ?_ hL⟩
  · rw [ho]
    simp only [aop, hx.raw s.fr, astore, h2, hsz, hcs, List.length_singleton]
    rw [if_pos (by exact ⟨by trivial, by omega, hon⟩), splice_one hlt]
    rfl
  · refine ⟨b, _, rfl, by rw [AHeap.get_set, if_pos rfl], okAll_set h3 (by simp only [TE.ok]; exact hv), ?_⟩
    rw [List.all_eq_true] at h4 ⊢
    intro c hc
    rcases List.mem_or_eq_of_mem_set hc with q | rfl
    · exact h4 c q
    · simpa using hon

theorem s_storebr {et : TypeId} {x y : Operand} {b q : Nat} {v : AVal} {es : List TE} (k : Nat) (hsz : szT T et = some 1) (hq : q < es.length) (hw : Want ops Γ true o.guard) (ho : o.op = .store et x y) (hd : o.dst = none) (hx : Opd Γ x (.raw (.ptr b q))) (hy : Opd Γ y (.raw v)) (hv1 : v.one = true)
    (hk : L[k]? = some (.ptr b 0, .box es)) {L' : Own} (hL : setAt L k (.ptr b 0, .box (es.set q (.raw v))) = some L') (r : SOps C T d ops rest Γ L' Q) : SOps C T d ops (o :: rest) Γ L Q := by
  refine s_memn (.w (by rw [ho]; rfl) (fun t a q => by rw [ho] at q; cases q)) (fun z fr h s => by
    rw [show foot fr.op o = ⟨[], false, blkOf (fr.op x), false⟩ by unfold foot; rw [ho]]
    exact ⟨fun b hb => (nomatch hb), fun b' hb => own_none s hk rfl b' (by simpa [blkOf, hx.raw s.fr] using hb)⟩) hw hd (fun z fr h s => ?_) r
  have hob := s.own.ok _ (List.mem_of_getElem? hk)
  simp only [Obj.ok] at hob
  obtain ⟨b', cells, q', h2, h3, h4⟩ := hob
  cases q'
  have hv := hy.raw s.fr
  have hcs : v.cells = [v] := by cases v <;> simp_all [AVal.cells, AVal.one]
  have hlt : q < cells.length := by rw [okAll_len h3]; exact hq
  refine ⟨.tuple [], h.set b (.arr (cells.set q v) false), ?_, s.upd hk rfl rfl _ ?_ hL⟩
  · rw [ho]
    simp only [aop, hx.raw s.fr, hv, astore, h2, hsz, hcs, List.length_singleton]
    rw [if_pos (by exact ⟨by trivial, by omega, by simp [hv1]⟩), splice_one hlt]
    rfl
  · refine ⟨b, _, rfl, by rw [AHeap.get_set, if_pos rfl], okAll_set h3 (by simp only [TE.ok]), ?_⟩
    rw [List.all_eq_true] at h4 ⊢
    intro c hc
    rcases List.mem_or_eq_of_mem_set hc with q | rfl
    · exact h4 c q
    · exact hv1

theorem s_storebs {A : Type} {R : Rep A} {a : A} {et : TypeId} {x y : Operand} {b : Nat} {es es' : List TE} (k : Nat) (hu : Und T et R) (hk : L[k]? = some (.ptr b 0, .box es)) (hc : Cells R a es') (hl : es'.length = es.length) (hw : Want ops Γ true o.guard) (ho : o.op = .store et x y) (hd : o.dst = none) (hx : Opd Γ x (.raw (.ptr b 0))) (hy : Opd Γ y (.val R a))
    {L' : Own} (hL : setAt L k (.ptr b 0, .box es') = some L') (r : SOps C T d ops rest Γ L' Q) : SOps C T d ops (o :: rest) Γ L Q := by
  refine s_memn (.w (by rw [ho]; rfl) (fun t a q => by rw [ho] at q; cases q)) (fun z fr h s => by
    rw [show foot fr.op o = ⟨[], false, blkOf (fr.op x), false⟩ by unfold foot; rw [ho]]
    exact ⟨fun b hb => (nomatch hb), fun b' hb => own_none s hk rfl b' (by simpa [blkOf, hx.raw s.fr] using hb)⟩) hw hd (fun z fr h s => ?_) r
  have hob := s.own.ok _ (List.mem_of_getElem? hk)
  simp only [Obj.ok] at hob
  obtain ⟨b', cells, q', h2, h3, h4⟩ := hob
  cases q'
  have hv := hy.val s.fr
  have hlen := R.len _ _ _ hv.rel
  have hok := (hc _ _).1 hv.rel
  have hle := okAll_len hok
  have hlc := okAll_len h3
  have e : splice cells 0 (fr.op y).cells = (fr.op y).cells := by
    unfold splice
    rw [List.take_zero, Nat.zero_add, List.drop_eq_nil_of_le (by omega)]; simp
  refine ⟨.tuple [], h.set b (.arr (fr.op y).cells false), ?_, s.upd hk rfl rfl _ ?_ hL⟩
  · rw [ho]
    simp only [aop, hx.raw s.fr, astore, h2, hu.sz]
    rw [if_pos ⟨hlen, by omega, R.ones _ _ _ hv.rel⟩, e]
    rfl
  · exact ⟨b, _, rfl, by rw [AHeap.get_set, if_pos rfl], hok, R.ones _ _ _ hv.rel⟩
end
end Go.Ai.Sx
