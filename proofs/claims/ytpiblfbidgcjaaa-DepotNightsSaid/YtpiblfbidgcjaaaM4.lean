/- Symbolic runs of the abstract interpreter: boxes and structs. -/
import Derived.Test.YtpiblfbidgcjaaaM3
import Derived.Test.YtpiblfbidgcjaaaM2
import Derived.HandedShaped
import Derived.Carry
import Derived.OpenShut
import Derived.JoinedOf
import Derived.ChangeCalls
namespace Go.Ai.Sx
structure Stt (T : Tab) (t : TypeId) (zc : List AVal) (places : List (Nat × Nat)) : Prop where
 zero : zeroT T t = some (.agg zc)
 pl : ∃ fs, T.und t = some (.struct fs) ∧ aplaces T fs.toList = some places
theorem zint {z : Store} : (rInt .i64).rel z [.int .i64 0] 0 := ⟨rfl, by decide, by decide⟩
theorem zbool {z : Store} : rBool.rel z [.bool false] false := rfl
theorem znil {A : Type} {R : Rep A} {z : Store} : (rSlice R).rel z [.nilslice] [] := ⟨_, rfl, row_nil⟩
theorem zunit {z : Store} : rUnit.rel z [] () := rfl
theorem zpair {A B : Type} {R : Rep A} {S : Rep B} {z : Store} {c1 c2 cs : List AVal} {a : A} {b : B} (h1 : R.rel z c1 a) (h2 : S.rel z c2 b) (e : c1 ++ c2 = cs) : (rPair R S).rel z cs (a, b) := ⟨c1, c2, e.symm, h1, h2⟩
section
variable {C : Ctx} {T : Tab} {d : Option (List Nat)} {ops rest : List Oper} {Γ : Env} {L : Own} {Q : AFrame → AHeap → Prop} {P : AExit → AFrame → AHeap → Prop} {o : Oper} {t : Nat} {z : Store} {fr : AFrame} {h : AHeap}
inductive Bld (Γ : Env) (zc : List AVal) (places : List (Nat × Nat)) : {A : Type} → Rep A → Nat → Nat → List (Nat × Operand) → A → Prop where
 | n {i off : Nat} (e : zc.length = off) : Bld Γ zc places rUnit i off [] ()
 | p {A B : Type} {R : Rep A} {S : Rep B} {i off : Nat} {x : Operand} {ps : List (Nat × Operand)} {a : A} {b : B} (hx : Opd Γ x (.val R a)) (hp : places[i]? = some (off, R.sz)) (r : Bld Γ zc places S (i + 1) (off + R.sz) ps b) : Bld Γ zc places (rPair R S) i off ((i, x) :: ps) (a, b)
 | z {A B : Type} {R : Rep A} {S : Rep B} {i off : Nat} {ps : List (Nat × Operand)} {a : A} {b : B} (hz : ∀ z, R.rel z ((zc.drop off).take R.sz) a) (r : Bld Γ zc places S (i + 1) (off + R.sz) ps b) : Bld Γ zc places (rPair R S) i off ps (a, b)
theorem bld_fill {zc : List AVal} {places : List (Nat × Nat)} {A : Type} {R : Rep A} {i off : Nat} {ps : List (Nat × Operand)} {a : A} (b : Bld Γ zc places R i off ps a) (hf : FrOk z Γ fr) : off + R.sz = zc.length ∧ ∀ (cells : List AVal), cells.length = zc.length → cells.drop off = zc.drop off →
    ∃ cells', afill (fun i => places[i]?) cells (evParts fr.op ps) = some cells' ∧ cells'.length = zc.length ∧ cells'.take off = cells.take off ∧ R.rel z (cells'.drop off) a := by
  induction b with
  | n e => exact ⟨e.symm, fun cells hl _ => ⟨cells, rfl, hl, rfl, List.drop_eq_nil_of_le (by omega)⟩⟩
  | @p A B R S i off x ps a b hx hp _ ih =>
    obtain ⟨ih0, ih⟩ := ih
    simp only [rPair] at *
    refine ⟨by omega, fun cells hl hd => ?_⟩
    have hv := hx.val hf
    have hlen := R.len _ _ _ hv.rel
    have hin : off + (fr.op x).cells.length ≤ cells.length := by omega
    have hdef : (fr.op x).defd = true := by
      cases hq : fr.op x with
      | undef =>
        have h1 := hv.agg
        have h2 := R.ones _ _ _ hv.rel
        rw [hq] at h2; simp [AVal.cells, AVal.one] at h2
      | _ => rfl
    have hsl := splice_len hin
    obtain ⟨c', h1, h2, h3, h4⟩ := ih (splice cells off (fr.op x).cells) (by omega) (by
      have e : (splice cells off (fr.op x).cells).drop (off + R.sz) = cells.drop (off + R.sz) := by
        apply List.ext_getElem?
        intro j
        unfold splice
        simp only [List.getElem?_drop, List.getElem?_append, List.length_append, List.length_take]
        repeat' split
        all_goals (try omega)
        all_goals (first | rfl | (congr 1; omega))
      rw [e]
      have := congrArg (List.drop R.sz) hd
      rwa [List.drop_drop, List.drop_drop] at this)
    refine ⟨c', ?_, h2, ?_, (fr.op x).cells, c'.drop (off + R.sz), ?_, hv.rel, h4⟩
    · simp only [evParts, List.map, afill, hp]
      rw [if_pos ⟨hdef, hlen, hin⟩]
      exact h1
    · have := congrArg (List.take off) h3
      rw [List.take_take, List.take_take, Nat.min_eq_left (by omega)] at this
      rw [this]
      unfold splice
      rw [List.append_assoc, List.take_append_of_le_length (by simp; omega), List.take_take, Nat.min_self]
    · have e : c'.drop off = (c'.drop off).take R.sz ++ c'.drop (off + R.sz) := by
        rw [← List.drop_drop]; exact (List.take_append_drop _ _).symm
      rw [e]
      congr 1
      have := congrArg (List.drop off) h3
      rw [List.drop_take, List.drop_take, Nat.add_sub_cancel_left] at this
      rw [this, splice_in (n := R.sz) (k := 0) (by omega) (Nat.add_zero _).symm (by omega)]
      have : ((cells.drop off).take R.sz).drop (0 + (fr.op x).cells.length) = [] := List.drop_eq_nil_of_le (by rw [List.length_take]; omega)
      rw [this]; simp
  | @z A B R S i off ps a b hz _ ih =>
    obtain ⟨ih0, ih⟩ := ih
    simp only [rPair] at *
    refine ⟨by omega, fun cells hl hd => ?_⟩
    obtain ⟨c', h1, h2, h3, h4⟩ := ih cells hl (by
      have := congrArg (List.drop R.sz) hd
      rwa [List.drop_drop, List.drop_drop] at this)
    refine ⟨c', h1, h2, ?_, (zc.drop off).take R.sz, c'.drop (off + R.sz), ?_, hz _, h4⟩
    · have := congrArg (List.take off) h3
      rwa [List.take_take, List.take_take, Nat.min_eq_left (by omega)] at this
    · have e : c'.drop off = (c'.drop off).take R.sz ++ c'.drop (off + R.sz) := by
        rw [← List.drop_drop]; exact (List.take_append_drop _ _).symm
      rw [e]
      congr 1
      have := congrArg (List.drop off) h3
      rw [List.drop_take, List.drop_take, Nat.add_sub_cancel_left, hd] at this
      exact this
theorem s_build {A : Type} {R : Rep A} {zc : List AVal} {places : List (Nat × Nat)} {tt : TypeId} {parts : Array (Nat × Operand)} {a : A} (hst : Stt T tt zc places) (hw : Want ops Γ true o.guard) (ho : o.op = .build tt parts) (hd : o.dst = some t) (hagg : R.agg = true) (hb : Bld Γ zc places R 0 0 parts.toList a)
    (r : SOps C T d ops rest ((t, .val R a) :: Γ) L Q) : SOps C T d ops (o :: rest) Γ L Q := by
  refine s_pure (by rw [ho]; rfl) hw hd (fun z fr h s => ?_) r
  obtain ⟨fs, h1, h2⟩ := hst.pl
  obtain ⟨h0, hb⟩ := bld_fill hb s.fr
  obtain ⟨c', h3, h4, _, h5⟩ := hb zc rfl rfl
  refine ⟨.agg c', ?_, by simp only [TE.ok]; exact ⟨by rw [List.drop_zero] at h5; exact h5, by rw [hagg]; rfl⟩⟩
  rw [ho]
  simp only [aop, abuild, hst.zero, h1, h2, AVal.cells, h3, optVal, Option.map]
theorem okAll_len : ∀ {es : List TE} {vs : List AVal}, okAll z es vs → vs.length = es.length
 | [], _, h => by simp only [okAll] at h; rw [h]; rfl
 | e :: es, _, h => by
  simp only [okAll] at h
  obtain ⟨v, vs', rfl, _, h2⟩ := h
  simp [okAll_len h2]
theorem okAll_at : ∀ {es : List TE} {vs : List AVal} {i : Nat} {e : TE}, okAll z es vs → es[i]? = some e → ∃ v, vs[i]? = some v ∧ e.ok z v
 | [], _, _, _, _, hi => by simp at hi
 | a :: es, _, i, e, h, hi => by
  simp only [okAll] at h
  obtain ⟨v, vs', rfl, h1, h2⟩ := h
  cases i with
  | zero => simp at hi; subst hi; exact ⟨v, rfl, h1⟩
  | succ i => simpa using okAll_at h2 (by simpa using hi)
theorem okAll_set : ∀ {es : List TE} {vs : List AVal} {i : Nat} {e : TE} {v : AVal}, okAll z es vs → e.ok z v → okAll z (es.set i e) (vs.set i v)
 | [], _, _, _, _, h, _ => by simp only [okAll] at h; subst h; simp [okAll]
 | a :: es, _, i, e, v, h, hv => by
  simp only [okAll] at h
  obtain ⟨u, vs', rfl, h1, h2⟩ := h
  cases i with
  | zero => simp only [List.set_cons_zero, okAll]; exact ⟨v, vs', rfl, hv, h2⟩
  | succ i => simp only [List.set_cons_succ, okAll]; exact ⟨u, _, rfl, h1, okAll_set h2 hv⟩
def Cells {A : Type} (R : Rep A) (a : A) (es : List TE) : Prop := ∀ z cs, R.rel z cs a ↔ okAll z es cs
theorem cells_one {A : Type} {R : Rep A} {a : A} (h : R.agg = false) : Cells R a [.val R a] := by
 intro z cs
 simp only [okAll, TE.ok]
 have h1 := R.one h
 constructor
 ·intro hr
  have hl := R.len _ _ _ hr
  have ho := R.ones _ _ _ hr
  match cs, hl with
  | [c], _ =>
   simp at ho
   refine ⟨c, [], rfl, ⟨?_, ?_⟩, rfl⟩
   ·have : c.cells = [c] := by cases c <;> simp_all [AVal.cells, AVal.one]
    rw [this]; exact hr
   ·rw [h]; cases c <;> simp_all [AVal.isAgg, AVal.one]
  | [], hl => rw [h1] at hl; simp at hl
  | _ :: _ :: _, hl => rw [h1] at hl; simp at hl
 ·rintro ⟨v, vs, rfl, hv, rfl⟩
  have : v.cells = [v] := by
   have := hv.agg
   rw [h] at this
   cases v <;> simp_all [AVal.cells, AVal.isAgg]
  rw [← this]; exact hv.rel
theorem cells_unit : Cells rUnit () [] := by intro z cs; simp [rUnit, okAll]
theorem okAll_app : ∀ {es fs : List TE} {cs : List AVal}, okAll z (es ++ fs) cs ↔ ∃ c1 c2, cs = c1 ++ c2 ∧ okAll z es c1 ∧ okAll z fs c2
 | [], fs, cs => by
  simp only [List.nil_append, okAll]
  constructor
  ·intro h; exact ⟨[], cs, rfl, rfl, h⟩
  ·rintro ⟨c1, c2, rfl, rfl, h⟩; exact h
 | e :: es, fs, cs => by
  simp only [List.cons_append, okAll]
  constructor
  ·rintro ⟨v, vs, rfl, h1, h2⟩
   obtain ⟨c1, c2, rfl, h3, h4⟩ := okAll_app.1 h2
   exact ⟨v :: c1, c2, rfl, ⟨v, c1, rfl, h1, h3⟩, h4⟩
  ·rintro ⟨c1, c2, rfl, ⟨v, vs, rfl, h1, h2⟩, h3⟩
   exact ⟨v, vs ++ c2, rfl, h1, okAll_app.2 ⟨vs, c2, rfl, h2, h3⟩⟩
theorem cells_pair {A B : Type} {R : Rep A} {S : Rep B} {a : A} {b : B} {es fs gs : List TE} (h1 : Cells R a es) (h2 : Cells S b fs) (e : es ++ fs = gs) : Cells (rPair R S) (a, b) gs := by
 subst e
 intro z cs
 rw [okAll_app]
 constructor
 ·rintro ⟨c1, c2, rfl, h3, h4⟩; exact ⟨c1, c2, rfl, (h1 _ _).1 h3, (h2 _ _).1 h4⟩
 ·rintro ⟨c1, c2, rfl, h3, h4⟩; exact ⟨c1, c2, rfl, (h1 _ _).2 h3, (h2 _ _).2 h4⟩
theorem s_alloc {et : TypeId} {zv : AVal} {es : List TE} (hz : zeroT T et = some zv) (hes : ∀ z, okAll z es zv.cells) (h1 : zv.cells.all AVal.one = true) (hw : Want ops Γ true o.guard) (ho : o.op = .alloc et) (hd : o.dst = some t)
    (r : ∀ b, SOps C T d ops rest ((t, .raw (.ptr b 0)) :: Γ) ((.ptr b 0, .box es) :: L) Q) : SOps C T d ops (o :: rest) Γ L Q := by
  refine step_val hw (nf (by rw [ho]; rfl)) fun z fr h s => ?_
  have ha : aop T fr.op h o.op = some (.val (.ptr h.next 0) (h.push (.arr zv.cells false))) := by rw [ho]; simp only [aop, opAlloc, hz]
  refine ⟨_, _, z, _, _, ha, nfo (by rw [ho]; rfl), .refl _, ?_, r h.next⟩
  rw [hd, put_some]
  refine (s.pushOwn (v := .ptr h.next 0) (ob := .box es) _ rfl ?_).set (by simp only [TE.ok])
  exact ⟨h.next, zv.cells, rfl, by rw [AHeap.get_push, if_pos rfl], hes z, h1⟩
theorem s_boxo {A : Type} {R : Rep A} {et : TypeId} {x : Operand} {a : A} {es : List TE} (hc : Cells R a es) (hw : Want ops Γ true o.guard) (ho : o.op = .box et x) (hd : o.dst = some t) (hx : Opd Γ x (.val R a))
    (r : ∀ b, SOps C T d ops rest ((t, .raw (.ptr b 0)) :: Γ) ((.ptr b 0, .box es) :: L) Q) : SOps C T d ops (o :: rest) Γ L Q := by
  refine step_val hw (nf (by rw [ho]; rfl)) fun z fr h s => ?_
  have hv := hx.val s.fr
  have h1 := R.ones _ _ _ hv.rel
  have ha : aop T fr.op h o.op = some (.val (.ptr h.next 0) (h.push (.arr (fr.op x).cells false))) := by
    rw [ho]
    simp only [aop, opBox]
    split
    · rename_i q; rw [q] at h1; simp [AVal.cells, AVal.one] at h1
    · rfl
  refine ⟨_, _, z, _, _, ha, nfo (by rw [ho]; rfl), .refl _, ?_, r h.next⟩
  rw [hd, put_some]
  refine (s.pushOwn (v := .ptr h.next 0) (ob := .box es) _ rfl ?_).set (by simp only [TE.ok])
  exact ⟨h.next, _, rfl, by rw [AHeap.get_push, if_pos rfl], (hc _ _).1 hv.rel, h1⟩
theorem s_box {A : Type} {R : Rep A} {et : TypeId} {x : Operand} {a : A} (hw : Want ops Γ true o.guard) (ho : o.op = .box et x) (hd : o.dst = some t) (hx : Opd Γ x (.val R a))
    (r : SOps C T d ops rest ((t, .val (rPtr R) a) :: Γ) L Q) : SOps C T d ops (o :: rest) Γ L Q := by
  refine s_mem (nf (by rw [ho]; rfl)) (fun _ _ _ _ => nfo (by rw [ho]; rfl)) hw hd (fun z fr h s => ?_) r
  have hv := hx.val s.fr
  have h1 := R.ones _ _ _ hv.rel
  refine ⟨.ptr h.next 0, h.push (.arr (fr.op x).cells false), z.add h.next (.arr (fr.op x).cells false), ?_, add_le s.next_none, s.push _, ?_⟩
  · rw [ho]
    simp only [aop, opBox]
    split
    · rename_i q; rw [q] at h1; simp [AVal.cells, AVal.one] at h1
    · rfl
  · simp only [TE.ok]
    have hl := R.len _ _ _ hv.rel
    refine tv_ptr_mk ⟨h.next, 0, _, false, rfl, add_at, by omega, ?_⟩
    rw [List.drop_zero, ← hl, List.take_length]
    exact R.mono _ _ _ _ (add_le s.next_none) hv.rel
theorem st_freezeb {A : Type} {R : Rep A} {a : A} {es : List TE} {b : Nat} (k : Nat) (ts : List Nat) (hc : Cells R a es) {L' : Own} (hk : L[k]? = some (.ptr b 0, .box es)) (hL : dropAt L k = some L') (hts : AllRaw Γ (.ptr b 0) ts) : ∀ z fr h, StZ C Γ L z fr h → ∃ z', z.le z' ∧ StZ C (holdAll ts (.val (rPtr R) a) Γ) L' z' fr h := by
 intro z fr h s
 have ho := s.own.ok _ (List.mem_of_getElem? hk)
 simp only [Obj.ok] at ho
 obtain ⟨b', cells, q, h2, h3, h4⟩ := ho
 cases q
 obtain ⟨o1, o2, o3⟩ := s.own.out _ (List.mem_of_getElem? hk) b (by simp [blkE, blkO])
 have hle : z.le (z.add b (.arr cells false)) := add_le o1
 have s' := s.drop hL
 have hne : ∀ p ∈ L', ∀ c, c ∈ blkE p → c ≠ b := by
  intro p hp c hc e
  subst e
  have hp' := (List.Perm.flatMap_right blkE (dropAt_perm hk hL)).nodup_iff.2 s.own.nodup
  have hp' : (blks ((AVal.ptr c 0, Obj.box es) :: L')).Nodup := hp'
  rw [blks_cons] at hp'
  exact (List.nodup_append.1 hp').2.2 c (by simp [blkE, blkO]) c (mem_blks.2 ⟨p, hp, hc⟩) rfl
 have hr := (hc z cells).2 h3
 refine ⟨z.add b (.arr cells false), hle, { zle := s.zle.trans hle, sub := ?_, old := ?_, fr := holdAll_ok ?_ hts (s.fr.mono hle), own := ⟨fun p hp => Obj.ok_mono hle (fun _ _ => rfl) (s'.own.ok p hp), fun p hp c hc => ?_, s'.own.nodup⟩, chg := s.chg }⟩
 ·intro c y hc
  by_cases e : c = b
  ·subst e; rw [add_at] at hc; cases hc; exact ⟨h2, o2⟩
  ·rw [add_ne e] at hc; exact s.sub c y hc
 ·intro c hc hB
  rw [add_ne]
  ·exact s.old c hc hB
  ·intro e; subst e
   rcases o3 with q | q
   ·omega
   ·exact hB q
 ·simp only [TE.ok]
  have hl := R.len _ _ _ hr
  refine tv_ptr_mk ⟨b, 0, cells, false, rfl, add_at, by omega, ?_⟩
  rw [List.drop_zero, ← hl, List.take_length]
  exact R.mono _ _ _ _ hle hr
 ·obtain ⟨q1, q2, q3⟩ := s'.own.out p hp c hc
  exact ⟨by rw [add_ne (hne p hp c hc)]; exact q1, q2, q3⟩
theorem s_loadb {et : TypeId} {x : Operand} {b q : Nat} {es : List TE} {e : TE} (k : Nat) (hls : Listed d ops rest) (hag : isAggT T et = some false) (he : es[q]? = some e) (hw : Want ops Γ true o.guard) (ho : o.op = .load et x) (hd : o.dst = some t) (hx : Opd Γ x (.raw (.ptr b q))) (hk : L[k]? = some (.ptr b 0, .box es))
    (r : SOps C T d ops rest ((t, e) :: Γ) L Q) : SOps C T d ops (o :: rest) Γ L Q := by
  refine s_pureF (.l hls (by rw [ho]; rfl) (by rw [ho]; rfl)) (fun z fr h s => by
    rw [show foot fr.op o = ⟨blkOf (fr.op x), false, [], false⟩ by unfold foot; rw [ho]]
    exact ⟨fun b' hb => own_foot s hk rfl b' (by simpa [blkOf, hx.raw s.fr] using hb), fun b hb => (nomatch hb)⟩) hw hd (fun z fr h s => ?_) r
  have hob := s.own.ok _ (List.mem_of_getElem? hk)
  simp only [Obj.ok] at hob
  obtain ⟨b', cells, q', h2, h3, h4⟩ := hob
  cases q'
  obtain ⟨v, h5, h6⟩ := okAll_at h3 he
  refine ⟨v, ?_, h6⟩
  rw [ho]
  simp only [aop, hx.raw s.fr, aload, h2, Go.Ai.apart, hag, h5, optVal, Option.map]
theorem s_loadbs {A : Type} {R : Rep A} {a : A} {et : TypeId} {x : Operand} {b : Nat} {es : List TE} (k : Nat) (hls : Listed d ops rest) (hu : Und T et R) (hc : Cells R a es) (hw : Want ops Γ true o.guard) (ho : o.op = .load et x) (hd : o.dst = some t) (hx : Opd Γ x (.raw (.ptr b 0))) (hk : L[k]? = some (.ptr b 0, .box es))
    (r : SOps C T d ops rest ((t, .val R a) :: Γ) L Q) : SOps C T d ops (o :: rest) Γ L Q := by
  refine s_pureF (.l hls (by rw [ho]; rfl) (by rw [ho]; rfl)) (fun z fr h s => by
    rw [show foot fr.op o = ⟨blkOf (fr.op x), false, [], false⟩ by unfold foot; rw [ho]]
    exact ⟨fun b' hb => own_foot s hk rfl b' (by simpa [blkOf, hx.raw s.fr] using hb), fun b hb => (nomatch hb)⟩) hw hd (fun z fr h s => ?_) r
  have hob := s.own.ok _ (List.mem_of_getElem? hk)
  simp only [Obj.ok] at hob
  obtain ⟨b', cells, q', h2, h3, h4⟩ := hob
  cases q'
  have hr := (hc z cells).2 h3
  have hl := R.len _ _ _ hr
  obtain ⟨v, h5, h6⟩ := apart_ok (off := 0) (cells := cells) hu.sz hu.agg (by omega) (by rw [List.drop_zero, ← hl, List.take_length]; exact hr)
  refine ⟨v, ?_, by simp only [TE.ok]; exact h6⟩
  rw [ho]
  simp only [aop, hx.raw s.fr, aload, h2, h5, optVal, Option.map]
theorem splice_one {cells : List AVal} {q : Nat} {v : AVal} (h : q < cells.length) : splice cells q [v] = cells.set q v := by
 apply List.ext_getElem?
 intro i
 unfold splice
 rw [List.append_assoc, List.getElem?_append, List.getElem?_set, List.length_take, Nat.min_eq_left (by omega)]
 by_cases h1 : i < q
 ·rw [if_pos h1, if_neg (by omega), List.getElem?_take, if_pos h1]
 ·rw [if_neg h1]
  by_cases h2 : q = i
  ·subst h2; rw [if_pos rfl, if_pos h]; simp
  ·rw [if_neg h2, List.getElem?_append_right (by simp; omega), List.getElem?_drop]
   congr 1; simp; omega
theorem s_storeb {A : Type} {R : Rep A} {a : A} {et : TypeId} {x y : Operand} {b q : Nat} {es : List TE} (k : Nat) (hsz : szT T et = some 1) (hk : L[k]? = some (.ptr b 0, .box es)) (hq : q < es.length) (hw : Want ops Γ true o.guard) (ho : o.op = .store et x y) (hd : o.dst = none) (hx : Opd Γ x (.raw (.ptr b q))) (hy : Opd Γ y (.val R a)) (hR : R.agg = false)
    {L' : Own} (hL : setAt L k (.ptr b 0, .box (es.set q (.val R a))) = some L') (r : SOps C T d ops rest Γ L' Q) : SOps C T d ops (o :: rest) Γ L Q := by
  refine s_memn (.w (by rw [ho]; rfl) (fun t a q => by rw [ho] at q; cases q) (by rw [ho]; rfl) (fun q => by rw [ho] at q; cases q)) (fun z fr h s => by
    rw [show foot fr.op o = ⟨[], false, blkOf (fr.op x), false⟩ by unfold foot; rw [ho]]
    exact ⟨fun b hb => (nomatch hb), fun b' hb => own_none s hk rfl b' (by simpa [blkOf, hx.raw s.fr] using hb)⟩) hw hd (fun z fr h s => ?_) r
  have hob := s.own.ok _ (List.mem_of_getElem? hk)
  simp only [Obj.ok] at hob
  obtain ⟨b', cells, q', h2, h3, h4⟩ := hob
  cases q'
  have hv := hy.val s.fr
  have h1 := R.one hR
  have hcs : (fr.op y).cells = [fr.op y] := by
    have := hv.agg
    rw [hR] at this
    cases e : fr.op y <;> rw [e] at this <;> simp_all [AVal.cells, AVal.isAgg]
  have hon := R.ones _ _ _ hv.rel
  rw [hcs] at hon
  have hlt : q < cells.length := by rw [okAll_len h3]; exact hq
  refine ⟨.tuple [], h.set b (.arr (cells.set q (fr.op y)) false), ?_, s.upd hk rfl rfl _ ?_ hL⟩
  · rw [ho]
    simp only [aop, hx.raw s.fr, astore, h2, hsz, hcs, List.length_singleton]
    rw [if_pos (by exact ⟨by trivial, by omega, hon⟩), splice_one hlt]
    rfl
  · refine ⟨b, _, rfl, by rw [AHeap.get_set, if_pos rfl], okAll_set h3 (by simp only [TE.ok]; exact hv), ?_⟩
    rw [List.all_eq_true] at h4 ⊢
    intro c hc
    rcases List.mem_or_eq_of_mem_set hc with q | rfl
    · exact h4 c q
    · simpa using hon
theorem s_storebs {A : Type} {R : Rep A} {a : A} {et : TypeId} {x y : Operand} {b : Nat} {es es' : List TE} (k : Nat) (hu : Und T et R) (hk : L[k]? = some (.ptr b 0, .box es)) (hc : Cells R a es') (hl : es'.length = es.length) (hw : Want ops Γ true o.guard) (ho : o.op = .store et x y) (hd : o.dst = none) (hx : Opd Γ x (.raw (.ptr b 0))) (hy : Opd Γ y (.val R a))
    {L' : Own} (hL : setAt L k (.ptr b 0, .box es') = some L') (r : SOps C T d ops rest Γ L' Q) : SOps C T d ops (o :: rest) Γ L Q := by
  refine s_memn (.w (by rw [ho]; rfl) (fun t a q => by rw [ho] at q; cases q) (by rw [ho]; rfl) (fun q => by rw [ho] at q; cases q)) (fun z fr h s => by
    rw [show foot fr.op o = ⟨[], false, blkOf (fr.op x), false⟩ by unfold foot; rw [ho]]
    exact ⟨fun b hb => (nomatch hb), fun b' hb => own_none s hk rfl b' (by simpa [blkOf, hx.raw s.fr] using hb)⟩) hw hd (fun z fr h s => ?_) r
  have hob := s.own.ok _ (List.mem_of_getElem? hk)
  simp only [Obj.ok] at hob
  obtain ⟨b', cells, q', h2, h3, h4⟩ := hob
  cases q'
  have hv := hy.val s.fr
  have hlen := R.len _ _ _ hv.rel
  have hok := (hc _ _).1 hv.rel
  have hle := okAll_len hok
  have hlc := okAll_len h3
  have e : splice cells 0 (fr.op y).cells = (fr.op y).cells := by
    unfold splice
    rw [List.take_zero, Nat.zero_add, List.drop_eq_nil_of_le (by omega)]; simp
  refine ⟨.tuple [], h.set b (.arr (fr.op y).cells false), ?_, s.upd hk rfl rfl _ ?_ hL⟩
  · rw [ho]
    simp only [aop, hx.raw s.fr, astore, h2, hu.sz]
    rw [if_pos ⟨hlen, by omega, R.ones _ _ _ hv.rel⟩, e]
    rfl
  · exact ⟨b, _, rfl, by rw [AHeap.get_set, if_pos rfl], hok, R.ones _ _ _ hv.rel⟩
end
end Go.Ai.Sx

/- Symbolic runs of the abstract interpreter: calls and code. -/
namespace Go.Ai.Sx
inductive RE : Type 1 where
 | val {A : Type} (R : Rep A) (y : A)
 | row {A : Type} (R : Rep A) (ys : List A)
def tes : List RE → List AVal → List TE
 | .val R y :: rs, _ :: us => .val R y :: tes rs us
 | .row _ _ :: rs, u :: us => .raw u :: tes rs us
 | _, _ => []
def owns : List RE → List AVal → Own
 | .val _ _ :: rs, _ :: us => owns rs us
 | .row R ys :: rs, u :: us => (u, .row R ys) :: owns rs us
 | _, _ => []
def Fun (T : Tab) (g : FuncId) (as : List TE) (rs : List RE) : Prop :=
 ∀ z h vs, z.Sub h → h.wm ≤ h.next → okAll z as vs → CallF T g vs h fun r h' => ∃ us z', r = .ret (packed us) ∧ us.length = rs.length ∧ Quiet h h' ∧ z.le z' ∧ z'.Sub h' ∧ (∀ b, b < h.next → z' b = z b) ∧ okAll z' (tes rs us) us ∧ OwnOk ⟨z, h, []⟩ z' h' (owns rs us)
def teOf : List TE → TE
 | [e] => e
 | es => .tup es
def RQ : List RE → Own → (List TE → Own → Prop) → Prop
 | [], L, k => k [] L
 | .val R y :: rs, L, k => RQ rs L fun es L' => k (.val R y :: es) L'
 | .row R ys :: rs, L, k => ∀ v, RQ rs L fun es L' => k (.raw v :: es) ((v, .row R ys) :: L')
theorem RQ.at : ∀ {rs : List RE} {us : List AVal} {L : Own} {k : List TE → Own → Prop}, us.length = rs.length → RQ rs L k → k (tes rs us) (owns rs us ++ L)
 | [], [], L, k, _, h => h
 | .val R y :: rs, u :: us, L, k, hl, h => RQ.at (rs := rs) (us := us) (k := fun es L' => k (.val R y :: es) L') (by simpa using hl) h
 | .row R ys :: rs, u :: us, L, k, hl, h => RQ.at (rs := rs) (us := us) (k := fun es L' => k (.raw u :: es) ((u, .row R ys) :: L')) (by simpa using hl) (h u)
 | [], _ :: _, _, _, hl, _ => by simp at hl
 | _ :: _, [], _, _, hl, _ => by simp at hl
theorem teOf_ok {z : Store} {rs : List RE} {us : List AVal} (hl : us.length = rs.length) (h : okAll z (tes rs us) us) : (teOf (tes rs us)).ok z (packed us) := by
 have hlen : (tes rs us).length = us.length := (okAll_len h).symm
 match us, hl with
 | [], _ =>
  have : tes rs [] = [] := List.length_eq_zero_iff.1 (by simpa using hlen)
  rw [this] at h ⊢
  simp only [teOf, TE.ok]
  exact ⟨[], rfl, h⟩
 | [u], _ =>
  obtain ⟨e, he⟩ := List.length_eq_one_iff.1 hlen
  rw [he] at h ⊢
  simp only [okAll] at h
  obtain ⟨v, vs, q, h1, rfl⟩ := h
  cases q
  exact h1
 | u :: u' :: us, _ =>
  have : ∃ e e' es, tes rs (u :: u' :: us) = e :: e' :: es := by
   match htes : tes rs (u :: u' :: us), hlen with
   | e :: e' :: es, _ => exact ⟨e, e', es, rfl⟩
   | [_], hlen => simp at hlen
   | [], hlen => simp at hlen
  obtain ⟨e, e', es, he⟩ := this
  rw [he] at h ⊢
  simp only [teOf, TE.ok]
  exact ⟨_, rfl, h⟩
section
variable {C : Ctx} {T : Tab} {d : Option (List Nat)} {ops rest : List Oper} {Γ : Env} {L : Own} {Q : AFrame → AHeap → Prop} {P : AExit → AFrame → AHeap → Prop} {o : Oper} {t : Nat} {z : Store} {fr : AFrame} {h : AHeap}
inductive Opds (Γ : Env) : List Operand → List TE → Prop where
 | n : Opds Γ [] []
 | c {x : Operand} {e : TE} {xs : List Operand} {es : List TE} (h : Opd Γ x e) (r : Opds Γ xs es) : Opds Γ (x :: xs) (e :: es)
theorem Opds.ok {xs : List Operand} {es : List TE} (q : Opds Γ xs es) (hf : FrOk z Γ fr) : okAll z es (xs.map fr.op) := by
 induction q with
 | n => simp [okAll]
 | c h _ ih => simp only [okAll, List.map]; exact ⟨_, _, rfl, h.ok hf, ih⟩
theorem StZ.after (s : StZ C Γ L z fr h) {h' : AHeap} {z' : Store} {O : Own} (q : Quiet h h') (hz : z.le z') (hs : z'.Sub h') (hold : ∀ b, b < h.next → z' b = z b) (ho : OwnOk ⟨z, h, []⟩ z' h' O) : StZ C Γ (O ++ L) z' fr h' := by
 refine { zle := s.zle.trans hz, sub := hs, old := fun b hb hB => ?_, fr := s.fr.mono hz, own := ⟨?_, ?_, ?_⟩, chg := ⟨Nat.le_trans s.chg.next q.next, fun b hb hB => ?_, fun m m1 m2 m3 => ?_, q.ok s.chg.ok⟩ }
 ·rw [hold b (Nat.lt_of_lt_of_le hb s.chg.next)]; exact s.old b hb hB
 ·intro p hp
  rcases List.mem_append.1 hp with hp | hp
  ·exact ho.ok p hp
  ·exact Obj.ok_mono hz (fun b hb => q.same b (s.own.out p hp b hb).2.1) (s.own.ok p hp)
 ·intro p hp b hb
  rcases List.mem_append.1 hp with hp | hp
  ·obtain ⟨o1, o2, o3⟩ := ho.out p hp b hb
   refine ⟨o1, o2, .inl ?_⟩
   rcases o3 with q1 | q1
   ·exact Nat.le_trans s.chg.next q1
   ·cases q1
  ·obtain ⟨o1, o2, o3⟩ := s.own.out p hp b hb
   exact ⟨by rw [hold b o2]; exact o1, Nat.lt_of_lt_of_le o2 q.next, o3⟩
 ·rw [show blks (O ++ L) = blks O ++ blks L by simp [blks]]
  refine List.nodup_append.2 ⟨ho.nodup, s.own.nodup, fun a ha b hb e => ?_⟩
  subst e
  obtain ⟨p, hp, h1⟩ := mem_blks.1 ha
  obtain ⟨p', hp', h2⟩ := mem_blks.1 hb
  have := (s.own.out p' hp' a h2).2.1
  rcases (ho.out p hp a h1).2.2 with q1 | q1
  ·have q1 : h.next ≤ a := q1
   omega
  ·cases q1
 ·rw [q.same b (Nat.lt_of_lt_of_le hb s.chg.next)]; exact s.chg.same b hb hB
 ·have h1 := s.chg.wm m m1 m2 m3
  have h2 := q.wm
  have h3 := s.chg.next
  omega
theorem call_step (hw : Want ops Γ true o.guard) (hd : o.dst = some t) {rs : List RE} (hq : RQ rs L fun es L' => SOps C T d ops rest ((t, teOf es) :: Γ) L' Q)
    (H : ∀ z fr h, StZ C Γ L z fr h → ∃ f vs, aop T fr.op h o.op = some (.call f vs) ∧ ∀ h1, h1.next = h.next → (∀ b, h1.get b = h.get b) → h1.wm ≤ h1.next → CallV T f vs h1 fun r h' => ∃ us z', r = .ret (packed us) ∧ us.length = rs.length ∧ Quiet h1 h' ∧ z.le z' ∧ z'.Sub h' ∧ (∀ b, b < h.next → z' b = z b) ∧ okAll z' (tes rs us) us ∧ OwnOk ⟨z, h1, []⟩ z' h' (owns rs us)) :
    SOps C T d ops (o :: rest) Γ L Q := by
  cases d with
  | none =>
    intro fr h ⟨z, s⟩
    obtain ⟨f, vs, ha, hcall⟩ := H z fr h s
    simp only [wX, hw.ok s.fr, ha, hd, put_some]
    refine (hcall h rfl (fun _ => rfl) s.chg.ok).mono fun r h' ⟨us, z', e1, hl, q, hz, hs, hold, hok, hown⟩ => ⟨packed us, e1, ?_⟩
    have s' := s.after q hz hs hold hown
    exact hq.at hl _ _ ⟨z', s'.set (teOf_ok hl hok)⟩
  | some ol =>
    intro z fr h i done s hr hok hdn
    obtain ⟨f, vs, ha, hcall⟩ := H z fr h s
    have hi : ops[i]? = some o := by have := congrArg (fun l => l[0]?) hr; simpa using this
    have hlt : i < ops.length := (List.getElem?_eq_some_iff.1 hi).1
    have hr' : ops.drop (i + 1) = rest := by have := congrArg List.tail hr; simpa using this
    obtain ⟨c, fo, hoc, hcc, _⟩ := aop_call_inv ha
    have n1 : noFoot o.op = false := by rw [hoc]; simp only [noFoot, hcc]
    have n2 : ownWr o.op = false := by rw [hoc]; simp only [ownWr, hcc]
    have sl : StZ C Γ L z fr (lay h h.next) := s.low (Nat.le_refl _) (fun m _ m2 _ => Nat.le_trans m2 s.chg.next)
    refine draw_call (hw.ok s.fr) ha s.chg.ok (footsOk_draw hi hdn (drawOk_at hok i hlt) rfl ⟨fun b hb => (nomatch hb), fun b hb => (nomatch hb)⟩ (fun q => by rw [n1] at q; cases q) (fun q => by rw [n2] at q; cases q) (fun _ => rfl) (fun t et y q => by rw [hoc] at q; cases q) (fun t a q => by rw [hoc] at q; cases q) (fun q => by rw [hoc] at q; simp [isApp, hcc] at q)) ?_
    refine (hcall (lay h h.next) rfl (fun _ => rfl) (Nat.le_refl _)).mono fun r h' ⟨us, z', e1, hl, q, hz, hs, hold, hok', hown⟩ => ⟨packed us, e1, q, ?_⟩
    have s' := sl.after q hz hs hold hown
    have s'' : StZ C Γ (owns rs us ++ L) z' fr (lay h' (min h.wm h'.wm)) := s'.low (by have := s'.chg.ok; omega) (fun m m1 m2 m3 => by have h1 := s.chg.wm m m1 m2 m3; have h2 := s'.chg.wm m m1 m2 m3; omega)
    have hn := hdn.next (z' := z') (h' := lay h' (min h.wm h'.wm)) (v := packed us) hi hz q.next [(i, ⟨[], true, [], false⟩)] (fun p hp => by
      rw [List.mem_singleton] at hp
      subst hp
      refine ⟨rfl, rfl, fun _ => rfl, fun q => (by rw [hoc] at q; cases q), fun b hb => (by simp at hb), fun q => ?_⟩
      unfold quietRd at q
      rw [n1, hoc] at q
      simp [isLen, isLoad, hcc] at q) (fun hal => (alloc_call hal ha).elim) (fun s r f q => by rw [hoc] at q; cases q) (fun p _ t a q => by rw [hoc] at q; cases q) (fun p _ q => by rw [hoc] at q; simp [isApp, hcc] at q)
    rw [hd, put_some] at hn ⊢
    exact hq.at hl z' _ _ (i + 1) _ (s''.set (teOf_ok hl hok')) hr' hok hn
theorem s_call {c : Call} {x : Operand} {g : FuncId} {pre post : List AVal} {as : List TE} {rs : List RE} {vs : List TE} (hf : Fun T g as rs) (hcst : T.consts.get g = none) (hw : Want ops Γ true o.guard) (ho : o.op = .call c) (hd : o.dst = some t) (hc : c.callee = .value x) (hx : Opd Γ x (.raw (.func (.func g) [] []))) (hvs : Opds Γ c.args.toList as)
    (hq : RQ rs L fun es L' => SOps C T d ops rest ((t, teOf es) :: Γ) L' Q) : SOps C T d ops (o :: rest) Γ L Q := by
  refine call_step hw hd hq fun z fr h s => ⟨.func (.func g) [] [], c.args.toList.map fr.op, by rw [ho]; simp only [aop, opCall, hc, hx.raw s.fr], fun h1 hn hg hwm => ?_⟩
  have hsub : z.Sub h1 := fun b y hb => by rw [hg, hn]; exact s.sub b y hb
  refine callV_func hcst ?_
  rw [List.nil_append, List.append_nil]
  refine (hf z h1 _ hsub hwm (hvs.ok s.fr)).mono fun r h' ⟨us, z', e1, hl, q, hz, hs, hold, hok, hown⟩ => ⟨us, z', e1, hl, q, hz, hs, ?_, hok, hown⟩
  rw [← hn]; exact hold
def Rep.flat {A : Type} (R : Rep A) : Prop := ∀ z z' cs x, R.rel z cs x → R.rel z' cs x
theorem flat_int {k : IntKind} : Rep.flat (rInt k) := fun _ _ _ _ h => h
theorem flat_bool : Rep.flat rBool := fun _ _ _ _ h => h
theorem flat_unit : Rep.flat rUnit := fun _ _ _ _ h => h
theorem flat_pair {A B : Type} {R : Rep A} {S : Rep B} (h1 : Rep.flat R) (h2 : Rep.flat S) : Rep.flat (rPair R S) := fun _ _ _ _ ⟨c1, c2, e, a, b⟩ => ⟨c1, c2, e, h1 _ _ _ _ a, h2 _ _ _ _ b⟩
inductive Flats : List RE → Prop where
 | n : Flats []
 | v {A : Type} {R : Rep A} {y : A} {rs : List RE} (h : Rep.flat R) (r : Flats rs) : Flats (.val R y :: rs)
 | r {A : Type} {R : Rep A} {ys : List A} {rs : List RE} (h : Rep.flat R) (r : Flats rs) : Flats (.row R ys :: rs)
theorem Flats.ok : ∀ {rs : List RE} {us : List AVal} {z z' : Store}, Flats rs → okAll z' (tes rs us) us → okAll z (tes rs us) us
 | [], us, _, _, _, h => by simpa [tes, okAll] using h
 | .val R y :: rs, [], _, _, _, h => by simp [tes, okAll]
 | .row R y :: rs, [], _, _, _, h => by simp [tes, okAll]
 | .val R y :: rs, u :: us, z, z', .v h1 h2, h => by
  simp only [tes, okAll, TE.ok] at h ⊢
  obtain ⟨v, vs, e, h3, h4⟩ := h
  cases e
  exact ⟨u, us, rfl, ⟨h1 _ _ _ _ h3.rel, h3.agg⟩, h2.ok h4⟩
 | .row R y :: rs, u :: us, z, z', .r h1 h2, h => by
  simp only [tes, okAll, TE.ok] at h ⊢
  obtain ⟨v, vs, e, h3, h4⟩ := h
  cases e
  exact ⟨u, us, rfl, rfl, h2.ok h4⟩
theorem Flats.own : ∀ {rs : List RE} {us : List AVal} {z z' : Store} {h : AHeap} {p : AVal × Obj}, Flats rs → p ∈ owns rs us → p.2.ok z' h p.1 → p.2.ok z h p.1
 | [], us, _, _, _, p, _, hp, _ => by simp [owns] at hp
 | .val R y :: rs, [], _, _, _, p, _, hp, _ => by simp [owns] at hp
 | .row R y :: rs, [], _, _, _, p, _, hp, _ => by simp [owns] at hp
 | .val R y :: rs, u :: us, z, z', h, p, .v h1 h2, hp, ho => by simp only [owns] at hp; exact h2.own hp ho
 | .row R y :: rs, u :: us, z, z', h, p, .r h1 h2, hp, ho => by
  simp only [owns] at hp
  rcases List.mem_cons.1 hp with rfl | hp
  ·simp only [Obj.ok] at ho ⊢
   refine ⟨ho.1, ?_⟩
   rcases ho.2 with q | ⟨b, off, cap, cells, q1, q2, q3, q4, q5⟩
   ·exact .inl q
   ·exact .inr ⟨b, off, cap, cells, q1, q2, q3, q4, fun i x hx => h1 _ _ _ _ (q5 i x hx)⟩
  ·exact h2.own hp ho
inductive Lend (Γ : Env) (L : Own) : Operand → TE → Prop where
 | o {x : Operand} {e : TE} (h : Opd Γ x e) : Lend Γ L x e
 | r {A : Type} {R : Rep A} {xs : List A} {v : AVal} {x : Operand} (k : Nat) (h : Opd Γ x (.raw v)) (hk : L[k]? = some (v, .row R xs)) : Lend Γ L x (.val (rSlice R) xs)
 | b {A : Type} {R : Rep A} {a : A} {es : List TE} {b : Nat} {x : Operand} (k : Nat) (h : Opd Γ x (.raw (.ptr b 0))) (hk : L[k]? = some (.ptr b 0, .box es)) (hc : Cells R a es) : Lend Γ L x (.val (rPtr R) a)
theorem full_sub (h : AHeap) : (h.st).Sub h := fun b x hb => ⟨(AHeap.st_lt hb).2, (AHeap.st_lt hb).1⟩
theorem le_full (hs : z.Sub h) : z.le h.st := fun b x hb => AHeap.st_of (hs b x hb).2 (hs b x hb).1
theorem Lend.ok {x : Operand} {e : TE} (q : Lend Γ L x e) (s : StZ C Γ L z fr h) : e.ok h.st (fr.op x) := by
 have hle := le_full s.sub
 cases q with
 | o h => exact TE.ok_mono hle (h.ok s.fr)
 | @r A R xs v _ k h hk =>
  simp only [TE.ok]
  rw [h.raw s.fr]
  have ho := s.own.ok _ (List.mem_of_getElem? hk)
  simp only [Obj.ok] at ho
  refine tv_slice_mk ⟨ho.1, ?_⟩
  rcases ho.2 with ⟨q, e⟩ | ⟨b, off, cap, cells, q, h2, h3, h4, h5⟩
  ·exact .inl ⟨q, e⟩
  ·subst q
   have hb := (s.own.out _ (List.mem_of_getElem? hk) b (by simp [blkE, blkO])).2.1
   exact .inr (.inr ⟨b, off, cap, cells, false, rfl, AHeap.st_of hb h2, h3, fun c hc => (h4 c hc).1, fun i x hx => R.mono _ _ _ _ hle (h5 i x hx)⟩)
 | @b A R a es b _ k h hk hc =>
  simp only [TE.ok]
  rw [h.raw s.fr]
  have ho := s.own.ok _ (List.mem_of_getElem? hk)
  simp only [Obj.ok] at ho
  obtain ⟨b', cells, q, h2, h3, h4⟩ := ho
  cases q
  have hb := (s.own.out _ (List.mem_of_getElem? hk) b (by simp [blkE, blkO])).2.1
  have hr := (hc z cells).2 h3
  have hl := R.len _ _ _ hr
  refine tv_ptr_mk ⟨b, 0, cells, false, rfl, AHeap.st_of hb h2, by omega, ?_⟩
  rw [List.drop_zero, ← hl, List.take_length]
  exact R.mono _ _ _ _ hle hr
inductive Lends (Γ : Env) (L : Own) : List Operand → List TE → Prop where
 | n : Lends Γ L [] []
 | c {x : Operand} {e : TE} {xs : List Operand} {es : List TE} (h : Lend Γ L x e) (r : Lends Γ L xs es) : Lends Γ L (x :: xs) (e :: es)
theorem Lends.ok {xs : List Operand} {es : List TE} (q : Lends Γ L xs es) (s : StZ C Γ L z fr h) : okAll h.st es (xs.map fr.op) := by
 induction q with
 | n => simp [okAll]
 | c h _ ih => simp only [okAll, List.map]; exact ⟨_, _, rfl, h.ok s, ih⟩
theorem lend_call {g : FuncId} {as : List TE} {rs : List RE} (hfl : Flats rs) {vs : List AVal} {h1 : AHeap} (s : StZ C Γ L z fr h1) (hf : Fun T g as rs) (hok : okAll h1.st as vs) (hwm : h1.wm ≤ h1.next) :
    CallF T g vs h1 fun r h' => ∃ us z', r = .ret (packed us) ∧ us.length = rs.length ∧ Quiet h1 h' ∧ z.le z' ∧ z'.Sub h' ∧ (∀ b, b < h1.next → z' b = z b) ∧ okAll z' (tes rs us) us ∧ OwnOk ⟨z, h1, []⟩ z' h' (owns rs us) := by
  refine (hf h1.st h1 _ (full_sub h1) hwm hok).mono fun r h' ⟨us, z', e1, hl, q, hz, hs, hold, hok, hown⟩ => ⟨us, z, e1, hl, q, .refl _, ?_, fun _ _ => rfl, hfl.ok hok, ?_⟩
  · intro b y hb
    obtain ⟨h2, h3⟩ := s.sub b y hb
    exact ⟨by rw [q.same b h3]; exact h2, Nat.lt_of_lt_of_le h3 q.next⟩
  · refine ⟨fun p hp => hfl.own hp (hown.ok p hp), fun p hp b hb => ?_, hown.nodup⟩
    obtain ⟨o1, o2, o3⟩ := hown.out p hp b hb
    refine ⟨?_, o2, o3⟩
    rcases o3 with q1 | q1
    · cases e : z b with
      | none => rfl
      | some y =>
        have := (s.sub b y e).2
        have q1 : h1.next ≤ b := q1
        omega
    · cases q1
theorem s_calll {c : Call} {x : Operand} {g : FuncId} {as : List TE} {rs : List RE} (hf : Fun T g as rs) (hfl : Flats rs) (hcst : T.consts.get g = none) (hw : Want ops Γ true o.guard) (ho : o.op = .call c) (hd : o.dst = some t) (hc : c.callee = .value x) (hx : Opd Γ x (.raw (.func (.func g) [] []))) (hvs : Lends Γ L c.args.toList as)
    (hq : RQ rs L fun es L' => SOps C T d ops rest ((t, teOf es) :: Γ) L' Q) : SOps C T d ops (o :: rest) Γ L Q := by
  refine call_step hw hd hq fun z fr h s => ⟨.func (.func g) [] [], c.args.toList.map fr.op, by rw [ho]; simp only [aop, opCall, hc, hx.raw s.fr], fun h1 hn hg hwm => ?_⟩
  refine callV_func hcst ?_
  rw [List.nil_append, List.append_nil]
  have est : h1.st = h.st := by funext b; unfold AHeap.st; rw [hn, hg]
  have s1 : StZ ⟨z, h1, []⟩ Γ [] z fr h1 :=
    { zle := .refl _, sub := fun b y hb => by rw [hn, hg]; exact s.sub b y hb, old := fun _ _ _ => rfl, fr := s.fr, own := ⟨fun p hp => (nomatch hp), fun p hp => (nomatch hp), List.nodup_nil⟩, chg := ⟨Nat.le_refl _, fun _ _ _ => rfl, fun _ m1 _ _ => m1, hwm⟩ }
  have := lend_call (T := T) hfl s1 hf (by rw [est]; exact hvs.ok s) hwm
  rw [hn] at this
  exact this
theorem s_const {c : Call} {x : Operand} {g : FuncId} {v : AVal} {e : TE} (hcst : T.consts.get g = some v) (he : ∀ z, e.ok z v) (hw : Want ops Γ true o.guard) (ho : o.op = .call c) (hd : o.dst = some t) (hc : c.callee = .value x) (hx : Opd Γ x (.raw (.func (.func g) [] []))) (hvs : c.args.toList = [])
    (r : SOps C T d ops rest ((t, e) :: Γ) L Q) : SOps C T d ops (o :: rest) Γ L Q := by
  cases d with
  | none =>
    intro fr h ⟨z, s⟩
    have ha : aop T fr.op h o.op = some (.call (.func (.func g) [] []) []) := by
      rw [ho]; simp only [aop, opCall, hc, hx.raw s.fr, hvs, List.map]
    simp only [wX, hw.ok s.fr, ha, hd, put_some]
    exact callV_const hcst ⟨v, rfl, r _ _ ⟨z, s.set (he z)⟩⟩
  | some ol =>
    intro z fr h i done s hr hok hdn
    have ha : aop T fr.op h o.op = some (.call (.func (.func g) [] []) []) := by
      rw [ho]; simp only [aop, opCall, hc, hx.raw s.fr, hvs, List.map]
    have hi : ops[i]? = some o := by have := congrArg (fun l => l[0]?) hr; simpa using this
    have hlt : i < ops.length := (List.getElem?_eq_some_iff.1 hi).1
    have hr' : ops.drop (i + 1) = rest := by have := congrArg List.tail hr; simpa using this
    have n1 : noFoot o.op = false := by rw [ho]; simp only [noFoot, hc]
    have n2 : ownWr o.op = false := by rw [ho]; simp only [ownWr, hc]
    refine draw_call (hw.ok s.fr) ha s.chg.ok (footsOk_draw hi hdn (drawOk_at hok i hlt) rfl ⟨fun b hb => (nomatch hb), fun b hb => (nomatch hb)⟩ (fun q => by rw [n1] at q; cases q) (fun q => by rw [n2] at q; cases q) (fun _ => rfl) (fun t et y q => by rw [ho] at q; cases q) (fun t a q => by rw [ho] at q; cases q) (fun q => by rw [ho] at q; simp [isApp, hc] at q)) ?_
    refine callV_const hcst ⟨v, rfl, Quiet.refl _, ?_⟩
    have e : ({ lay h h.next with wm := min h.wm (lay h h.next).wm } : AHeap) = h := lay_back s.chg.ok
    have hn := hdn.next (z' := z) (h' := h) (v := v) hi (.refl _) (Nat.le_refl _) [(i, ⟨[], true, [], false⟩)] (fun p hp => by
      rw [List.mem_singleton] at hp
      subst hp
      refine ⟨rfl, rfl, fun _ => rfl, fun q => (by rw [ho] at q; cases q), fun b hb => (by simp at hb), fun q => ?_⟩
      unfold quietRd at q
      rw [n1, ho] at q
      simp [isLen, isLoad, hc] at q) (fun hal => (alloc_call hal ha).elim) (fun s r f q => by rw [ho] at q; cases q) (fun p _ t a q => by rw [ho] at q; cases q) (fun p _ q => by rw [ho] at q; simp [isApp, hc] at q)
    rw [hd, put_some] at hn ⊢
    have := r z _ h (i + 1) _ (s.set (he z)) hr' hok hn
    exact e.symm ▸ this
def BlkP (id : Nat) (P : AExit → AFrame → AHeap → Prop) : AExit → AFrame → AHeap → Prop
 | .exit i => bif Nat.beq i id then P .normal else P (.exit i)
 | e => P e
def SeqP (C : Ctx) (T : Tab) (b : Code) (P : AExit → AFrame → AHeap → Prop) : AExit → AFrame → AHeap → Prop
 | .normal => fun fr h => Run T b fr h P
 | e => P e
theorem r_seq {a b : Code} (r : SRun C T a Γ L (SeqP C T b P)) : SRun C T (.seq a b) Γ L P := fun fr h s =>
 run_seq ((r fr h s).mono fun e _ _ q => by cases e <;> exact q)
theorem r_block {id : Nat} {c : Code} (r : SRun C T c Γ L (BlkP id P)) : SRun C T (.block id c) Γ L P := fun fr h s =>
 run_block ((r fr h s).mono fun e _ _ q => by
  cases e with
  | exit i =>
   simp only [BlkP] at q
   simp only [BlockK]
   by_cases e : i = id
   ·subst e; rw [if_pos rfl]; simpa using q
   ·have : Nat.beq i id = false := by rw [Bool.eq_false_iff]; intro q; exact e (Nat.eq_of_beq_eq_true q)
    rw [this] at q; rw [if_neg e]; exact q
  | _ => exact q)
theorem r_region {id : Nat} {ops : Array Oper} (r : SOps C T none ops.toList ops.toList Γ L (P .normal)) : SRun C T (.region id ops false) Γ L P := fun fr h s => run_region (wX_plain (r fr h s))
theorem r_draw {id : Nat} {ops : Array Oper} (ol : List Nat) (hok : drawOk ops.toList ol ops.toList.length = true) (r : SOps C T (some ol) ops.toList ops.toList Γ L (P .normal)) : SRun C T (.region id ops true) Γ L P := fun fr h ⟨z, s⟩ =>
 run_draw (r z fr h 0 [] s rfl hok ⟨fun _ hp => (nomatch hp), fun j _ _ hj => (nomatch hj), fun _ _ _ _ _ _ hj => (nomatch hj), fun _ _ _ _ hp => (nomatch hp), fun _ hp => (nomatch hp)⟩)
theorem r_skip (q : ∀ fr h, St C Γ L fr h → P .normal fr h) : SRun C T .skip Γ L P := fun fr h s => run_skip (q fr h s)
theorem r_exit {id : Nat} (q : ∀ fr h, St C Γ L fr h → P (.exit id) fr h) : SRun C T (.exit id) Γ L P := fun fr h s => run_exit (q fr h s)
theorem r_ret (q : ∀ fr h, St C Γ L fr h → P .ret fr h) : SRun C T .ret Γ L P := fun fr h s => run_ret (q fr h s)
theorem r_cond {c : Operand} {a b : Code} {q : Bool} (hc : Opd Γ c (.val rBool q)) (r1 : q = true → SRun C T a Γ L P) (r0 : q = false → SRun C T b Γ L P) : SRun C T (.cond c a b) Γ L P := by
 intro fr h s
 have s0 := s
 obtain ⟨z, s⟩ := s
 refine run_cond (hc.bool s.fr) ?_
 cases q with
 | true => exact r1 rfl fr h s0
 | false => exact r0 rfl fr h s0
theorem r_scope {c : Code} (hg : ∀ l fr h, ¬ P (.goto l) fr h) (r : SRun C T c Γ L P) : SRun C T (.scope c) Γ L P := fun fr h s => run_scope (r fr h s) hg
def iter {σ τ : Type} (f : σ → Option (σ ⊕ τ)) : Nat → σ → Option τ
 | 0, _ => none
 | n + 1, s => match f s with
  | some (.inl s') => iter f n s'
  | some (.inr t) => some t
  | none => none
abbrev Sts := Env × Own
def LoopP (C : Ctx) {σ τ G : Type} (I : σ → G → Sts) (X : τ → AExit × (G → Sts)) (r : σ ⊕ τ) (e : AExit) (fr : AFrame) (h : AHeap) : Prop :=
 match r with
 | .inl s => e = .normal ∧ ∃ g, St C (I s g).1 (I s g).2 fr h
 | .inr t => e = (X t).1 ∧ ∃ g, St C ((X t).2 g).1 ((X t).2 g).2 fr h
theorem r_loop {σ τ G : Type} {c : Code} (I : σ → G → Sts) (X : τ → AExit × (G → Sts)) (f : σ → Option (σ ⊕ τ)) {n : Nat} {s0 : σ} {t : τ} (g0 : G) (hit : iter f n s0 = some t) (hin : ∀ fr h, St C Γ L fr h → St C (I s0 g0).1 (I s0 g0).2 fr h) (hne : ∀ t, (X t).1 ≠ .normal)
    (body : ∀ s g r, f s = some r → SRun C T c (I s g).1 (I s g).2 (LoopP C I X r)) (out : ∀ g, ∀ fr h, St C ((X t).2 g).1 ((X t).2 g).2 fr h → P (X t).1 fr h) : SRun C T (.loop c) Γ L P := by
  suffices H : ∀ n s0 g0, iter f n s0 = some t → ∀ fr h, St C (I s0 g0).1 (I s0 g0).2 fr h → Run T (.loop c) fr h P from fun fr h s => H n s0 g0 hit fr h (hin fr h s)
  clear hit hin n s0 g0
  intro n
  induction n with
  | zero => intro s0 g0 hit; cases hit
  | succ n ih =>
    intro s0 g0 hit fr h s
    simp only [iter] at hit
    split at hit
    · rename_i s' hf
      obtain ⟨m, e, fr', h', h1, rfl, g, h2⟩ := body s0 g0 _ hf fr h s
      obtain ⟨k, e2, fr2, hh2, h3, h4⟩ := ih s' g hit fr' h' h2
      refine ⟨max m k + 1, e2, fr2, hh2, ?_, h4⟩
      rw [aexec, aexec_le (Nat.le_max_left m k) _ _ _ _ h1]
      exact aexec_le (Nat.le_max_right m k) _ _ _ _ h3
    · rename_i t' hf
      cases hit
      obtain ⟨m, e, fr', h', h1, he, g, h2⟩ := body s0 g0 _ hf fr h s
      refine ⟨m + 1, e, fr', h', ?_, by rw [he]; exact out g fr' h' h2⟩
      have := hne t
      rw [aexec, h1]
      rw [he]
      cases hx : (X t).1 with
      | normal => exact absurd hx this
      | _ => rfl
    · cases hit
def CutP (C : Ctx) {τ G : Type} (X : τ → AExit × (G → Sts)) (t : τ) (e : AExit) (fr : AFrame) (h : AHeap) : Prop := e = (X t).1 ∧ ∃ g, St C ((X t).2 g).1 ((X t).2 g).2 fr h
theorem r_cut {τ G : Type} {c : Code} (X : τ → AExit × (G → Sts)) {t : τ} (r : SRun C T c Γ L (CutP C X t)) (out : ∀ g, ∀ fr h, St C ((X t).2 g).1 ((X t).2 g).2 fr h → P (X t).1 fr h) : SRun C T c Γ L P := fun fr h s =>
 (r fr h s).mono fun e fr' h' ⟨he, g, q⟩ => by rw [he]; exact out g fr' h' q
def entry : Nat → List TE → Env
 | _, [] => []
 | i, e :: es => (i, e) :: entry (i + 1) es
theorem argFrame_ev : ∀ {vs : List AVal} {i : Nat} {fr : AFrame} {t : Nat}, t < i → (argFrame i vs fr).ev t = fr.ev t
 | [], _, _, _, _ => rfl
 | v :: vs, i, fr, t, h => by
  simp only [argFrame]
  rw [argFrame_ev (by omega), AFrame.ev_set, if_neg (by omega)]
theorem entry_ok : ∀ {es : List TE} {vs : List AVal} {i : Nat} {fr : AFrame}, okAll z es vs → FrOk z (entry i es) (argFrame i vs fr)
 | [], _, _, _, _, t, e, h => by cases h
 | a :: es, _, i, fr, hok, t, e, h => by
  simp only [okAll] at hok
  obtain ⟨v, vs, rfl, h1, h2⟩ := hok
  simp only [entry, look] at h
  simp only [argFrame]
  cases hb : Nat.beq i t with
  | true =>
   have := Nat.eq_of_beq_eq_true hb
   subst this
   rw [hb] at h
   cases h
   rw [argFrame_ev (by omega), AFrame.ev_set, if_pos rfl]
   exact h1
  | false => rw [hb] at h; exact entry_ok h2 t e h
def RetP (C : Ctx) (T : Tab) (res : List ResultVar) (rs : List RE) (e : AExit) (fr : AFrame) (h : AHeap) : Prop :=
 (e = .normal ∨ e = .ret) ∧ ∃ us z, aresults T res fr h = some us ∧ us.length = rs.length ∧ C.z0.le z ∧ z.Sub h ∧ (∀ b, b < C.h0.next → b ∉ C.B0 → z b = C.z0 b) ∧ okAll z (tes rs us) us ∧ OwnOk C z h (owns rs us) ∧ Chg C h
theorem ret_goto {res : List ResultVar} {rs : List RE} : ∀ l fr h, ¬ RetP C T res rs (.goto l) fr h := fun l fr h q => by rcases q.1 with e | e <;> cases e
inductive Rets (T : Tab) (Γ : Env) (L : Own) : List ResultVar → List RE → List Nat → Prop where
 | n : Rets T Γ L [] [] []
 | v {A : Type} {R : Rep A} {y : A} {t : Nat} {res : List ResultVar} {rs : List RE} {ks : List Nat} (h : look Γ t = some (.val R y)) (r : Rets T Γ L res rs ks) : Rets T Γ L (.tmp t :: res) (.val R y :: rs) ks
 | r {A : Type} {R : Rep A} {ys : List A} {v : AVal} {t : Nat} {res : List ResultVar} {rs : List RE} (k : Nat) {ks : List Nat} (h : look Γ t = some (.raw v)) (hk : L[k]? = some (v, .row R ys)) (r : Rets T Γ L res rs ks) : Rets T Γ L (.tmp t :: res) (.row R ys :: rs) (k :: ks)
 | c {A : Type} {R : Rep A} {y : A} {t : Nat} {ty : TypeId} {res : List ResultVar} {rs : List RE} {ks : List Nat} (hu : Und T ty R) (h : look Γ t = some (.val (rPtr R) y)) (r : Rets T Γ L res rs ks) : Rets T Γ L (.cell t ty :: res) (.val R y :: rs) ks
 | b {A : Type} {R : Rep A} {y : A} {t b : Nat} {ty : TypeId} {es : List TE} {res : List ResultVar} {rs : List RE} (k : Nat) {ks : List Nat} (hu : Und T ty R) (hc : Cells R y es) (h : look Γ t = some (.raw (.ptr b 0))) (hk : L[k]? = some (.ptr b 0, .box es)) (r : Rets T Γ L res rs ks) : Rets T Γ L (.cell t ty :: res) (.val R y :: rs) ks
 | a {A : Type} {R : Rep A} {ys : List A} {n : Nat} {t b : Nat} {ty et : TypeId} {res : List ResultVar} {rs : List RE} (k : Nat) {ks : List Nat} (har : Ar1 T ty et n R) (h : look Γ t = some (.raw (.ptr b 0))) (hk : L[k]? = some (.slice b 0 n R.sz (some n), .row R ys)) (r : Rets T Γ L res rs ks) : Rets T Γ L (.cell t ty :: res) (.val (rArr n R) ys :: rs) ks
theorem Rets.ok {res : List ResultVar} {rs : List RE} {ks : List Nat} (q : Rets T Γ L res rs ks) (s : StZ C Γ L z fr h) : ∃ us, aresults T res fr h = some us ∧ us.length = rs.length ∧ okAll z (tes rs us) us ∧ owns rs us = picks L ks := by
 induction q with
 | n => exact ⟨[], rfl, rfl, by simp [tes, okAll], rfl⟩
 | @v A R y t res rs ks hl _ ih =>
  obtain ⟨us, h1, h2, h3, h4⟩ := ih
  have := s.fr _ _ hl
  refine ⟨fr.ev t :: us, by simp only [aresults, aresult, h1], by simp [h2], ?_, by simpa only [owns] using h4⟩
  simp only [tes, okAll]
  exact ⟨_, _, rfl, this, h3⟩
 | @r A R ys v t res rs k ks hl hk _ ih =>
  obtain ⟨us, h1, h2, h3, h4⟩ := ih
  have := s.fr _ _ hl
  simp only [TE.ok] at this
  refine ⟨fr.ev t :: us, by simp only [aresults, aresult, h1], by simp [h2], ?_, ?_⟩
  ·simp only [tes, okAll, TE.ok]
   exact ⟨_, _, rfl, rfl, h3⟩
  ·simp only [owns, picks, hk, h4, this]
 | @c A R y t ty res rs ks hu hl _ ih =>
  obtain ⟨us, h1, h2, h3, h4⟩ := ih
  have hp := s.fr _ _ hl
  simp only [TE.ok] at hp
  obtain ⟨b, off, cells, ro, e1, e2, e3, e4⟩ := tv_ptr hp
  obtain ⟨v, h5, h6⟩ := apart_ok hu.sz hu.agg e3 e4
  refine ⟨v :: us, by simp only [aresults, aresult, aload, e1, (s.sub _ _ e2).1, h5, h1], by simp [h2], ?_, by simpa only [owns] using h4⟩
  simp only [tes, okAll, TE.ok]
  exact ⟨_, _, rfl, h6, h3⟩
 | @b A R y t b ty es res rs k ks hu hc hl hk _ ih =>
  obtain ⟨us, h1, h2, h3, h4⟩ := ih
  have hp := s.fr _ _ hl
  simp only [TE.ok] at hp
  have hob := s.own.ok _ (List.mem_of_getElem? hk)
  simp only [Obj.ok] at hob
  obtain ⟨b', cells, q', g2, g3, g4⟩ := hob
  cases q'
  have hr := (hc z cells).2 g3
  have hlen := R.len _ _ _ hr
  obtain ⟨v, h5, h6⟩ := apart_ok (off := 0) (cells := cells) hu.sz hu.agg (by omega) (by rw [List.drop_zero, ← hlen, List.take_length]; exact hr)
  refine ⟨v :: us, by simp only [aresults, aresult, aload, hp, g2, h5, h1], by simp [h2], ?_, by simpa only [owns] using h4⟩
  simp only [tes, okAll, TE.ok]
  exact ⟨_, _, rfl, h6, h3⟩
 | @a A R ys n t b ty et res rs k ks har hl hk _ ih =>
  obtain ⟨us, h1, h2, h3, h4⟩ := ih
  have hp := s.fr _ _ hl
  simp only [TE.ok] at hp
  have hr := s.own.ok _ (List.mem_of_getElem? hk)
  simp only [Obj.ok] at hr
  rcases hr.2 with ⟨q, _⟩ | ⟨b', off, cap, cells, q, g1, g2, g3, g4⟩
  ·cases q
  ·cases q
   have hcl : 0 + ys.length * R.sz ≤ cells.length := g2
   have hl' : ((cells.drop 0).take (ys.length * R.sz)).length = ys.length * R.sz := by simp; omega
   have hpp : ∀ i x, ys[i]? = some x → R.rel z ((((cells.drop 0).take (ys.length * R.sz)).drop (i * R.sz)).take R.sz) x := by
    intro i x hi
    have h6 := row_cells (off := 0) (i := i) (R := R) (cells := cells.take (ys.length * R.sz)) (by simp; omega) hi
    rw [List.drop_zero, List.drop_take, List.take_take, Nat.min_eq_left]
    ·have := g4 i x hi; rwa [Nat.zero_add] at this
    ·simp at h6; omega
   refine ⟨.agg ((cells.drop 0).take (ys.length * R.sz)) :: us, ?_, by simp [h2], ?_, by simpa only [owns] using h4⟩
   ·simp only [aresults, aresult, aload, hp, g1, Go.Ai.apart, har.isagg, har.whole, h1]
    rw [if_pos (by omega)]
   ·simp only [tes, okAll, TE.ok]
    exact ⟨_, _, rfl, ⟨⟨rfl, hl', ones_of har.pos hl' hpp, hpp⟩, rfl⟩, h3⟩
theorem ret_of {e : AExit} {res : List ResultVar} {rs : List RE} {ks : List Nat} (he : e = .normal ∨ e = .ret) (q : Rets T Γ L res rs ks) (hn : ks.Nodup) : ∀ fr h, St C Γ L fr h → RetP C T res rs e fr h := by
 intro fr h ⟨z, s⟩
 obtain ⟨us, h1, h2, h3, h4⟩ := q.ok s
 obtain ⟨z', s'⟩ := (show St C Γ L fr h from ⟨z, s⟩)
 refine ⟨he, us, z, h1, h2, s.zle, s.sub, s.old, h3, ?_, s.chg⟩
 rw [h4]
 refine ⟨fun p hp => ?_, fun p hp => ?_, picks_nodup s.own.nodup hn⟩
 ·obtain ⟨i, _, h2⟩ := picks_mem hp
  exact s.own.ok p (List.mem_of_getElem? h2)
 ·obtain ⟨i, _, h2⟩ := picks_mem hp
  exact s.own.out p (List.mem_of_getElem? h2)
theorem fun_of {g : FuncId} {F : Func} {c : Code} {as : List TE} {rs : List RE} (hF : T.funcs.get g = some F) (hb : F.body = some c) (hn : Nat.blt F.ntmps as.length = false) (run : ∀ C, C.B0 = [] → SRun C T c (entry 0 as) [] (RetP C T F.results.toList rs)) : Fun T g as rs := by
 intro z h vs hsub hwm hok
 refine callF_of hF hb (by rw [okAll_len hok]; exact hn) ?_
 have s0 : StZ ⟨z, h, []⟩ (entry 0 as) [] z (argFrame 0 vs .leaf) h :=
  { zle := .refl _, sub := hsub, old := fun _ _ _ => rfl, fr := entry_ok hok, own := ⟨fun p hp => (nomatch hp), fun p hp => (nomatch hp), List.nodup_nil⟩, chg := ⟨Nat.le_refl _, fun _ _ _ => rfl, fun _ m1 _ _ => m1, hwm⟩ }
 refine (run ⟨z, h, []⟩ rfl _ _ ⟨z, s0⟩).mono fun e fr h' ⟨he, us, z', h1, h2, h3, h4, h5, h6, h7, h8⟩ => ⟨he, us, h1, us, z', rfl, h2, ?_, h3, h4, fun b hb => h5 b hb (fun q => nomatch q), h6, h7⟩
 exact ⟨h8.next, fun b hb => h8.same b hb (fun q => nomatch q), h8.wm _ (Nat.min_le_left _ _) (Nat.min_le_right _ _) (fun _ q => nomatch q), fun _ => h8.ok⟩
end
end Go.Ai.Sx

/- Symbolic runs of the abstract interpreter: small steps for printed proofs; function values. -/
namespace Go.Ai.Sx
abbrev big : Nat := 18446744073709551616
theorem bnd {α β : Type} {m : Option α} {k : α → Option β} {y : β} (h : m.bind k = some y) : ∃ x, m = some x ∧ k x = some y := Option.bind_eq_some_iff.1 h
theorem cnd1 {β : Type} {c : Bool} {a b : Option β} {y : β} (h : cond c a b = some y) (q : c = true) : a = some y := by rw [q] at h; exact h
theorem cnd0 {β : Type} {c : Bool} {a b : Option β} {y : β} (h : cond c a b = some y) (q : c = false) : b = some y := by rw [q] at h; exact h
def alt {α β γ : Type} (f : α → γ) (g : β → γ) : α ⊕ β → γ
 | .inl a => f a
 | .inr b => g b
abbrev XT (τ : Type) : Type 1 := τ → AExit × (List AVal → Sts)
def altX {α β : Type} (f : XT α) (g : XT β) : XT (α ⊕ β)
 | .inl a => f a
 | .inr b => g b
theorem alt_l {α β γ : Type} {f : α → Option γ} {g : β → Option γ} {a : α} {y : γ} (h : alt f g (.inl a) = some y) : f a = some y := h
theorem alt_r {α β γ : Type} {f : α → Option γ} {g : β → Option γ} {b : β} {y : γ} (h : alt f g (.inr b) = some y) : g b = some y := h
theorem gt1 {b : Bool} (h : b = true) : (b == true) = true := by rw [h]; rfl
theorem gt0 {b : Bool} (h : b = false) : (b == true) = false := by rw [h]; rfl
theorem gf1 {b : Bool} (h : b = true) : (b == false) = false := by rw [h]; rfl
theorem gf0 {b : Bool} (h : b = false) : (b == false) = true := by rw [h]; rfl
def divO (k : IntKind) (a b : Int) : Option Int := if b = 0 then none else some (k.wrap (a.tdiv b))
theorem divO_inv {k : IntKind} {a b n : Int} (h : divO k a b = some n) : Ar k a b .quo n := by
 unfold divO at h
 split at h
 ·cases h
 ·cases h; exact .quo (by assumption)
def remO (a b : Int) : Option Int := if b = 0 then none else some (a.tmod b)
theorem remO_inv {a b n : Int} (h : remO a b = some n) : b ≠ 0 ∧ n = a.tmod b := by
 unfold remO at h
 split at h
 ·cases h
 ·cases h; exact ⟨by assumption, rfl⟩
def shlO (k : IntKind) (a b : Int) : Option Int := if 0 ≤ b then some (k.wrap (a * 2 ^ (min b.toNat k.bits))) else none
theorem shlO_inv {k : IntKind} {a b n : Int} (h : shlO k a b = some n) : 0 ≤ b ∧ n = k.wrap (a * 2 ^ (min b.toNat k.bits)) := by
 unfold shlO at h
 split at h
 ·cases h; exact ⟨by assumption, rfl⟩
 ·cases h
def shrO (k : IntKind) (a b : Int) : Option Int := if 0 ≤ b then some (a.fdiv (2 ^ (min b.toNat k.bits))) else none
theorem shrO_inv {k : IntKind} {a b n : Int} (h : shrO k a b = some n) : 0 ≤ b ∧ n = a.fdiv (2 ^ (min b.toNat k.bits)) := by
 unfold shrO at h
 split at h
 ·cases h; exact ⟨by assumption, rfl⟩
 ·cases h
def slO {A : Type} (xs : List A) (i j : Int) : Option (List A) := if 0 ≤ i ∧ i ≤ j ∧ j ≤ lenI xs then some ((xs.take j.toNat).drop i.toNat) else none
theorem slO_inv {A : Type} {xs ys : List A} {i j : Int} (h : slO xs i j = some ys) : (0 ≤ i ∧ i ≤ j ∧ j ≤ lenI xs) ∧ ys = (xs.take j.toNat).drop i.toNat := by
 unfold slO at h
 split at h
 ·cases h; exact ⟨by assumption, rfl⟩
 ·cases h
section
variable {C : Ctx} {T : Tab} {d : Option (List Nat)} {ops rest : List Oper} {Γ : Env} {L : Own} {Q : AFrame → AHeap → Prop} {P : AExit → AFrame → AHeap → Prop} {o : Oper} {t : Nat} {z : Store} {fr : AFrame} {h : AHeap}
theorem s_pk1 {c x y : Operand} {e : TE} {b : Bool} (hb : b = true) (hw : Want ops Γ true o.guard) (ho : o.op = .pick c x y) (hd : o.dst = some t) (hc : Opd Γ c (.val rBool b)) (hx : Opd Γ x e)
    (r : SOps C T d ops rest ((t, e) :: Γ) L Q) : SOps C T d ops (o :: rest) Γ L Q := by subst hb; exact s_pick1 hw ho hd hc hx r
theorem s_pk0 {c x y : Operand} {e : TE} {b : Bool} (hb : b = false) (hw : Want ops Γ true o.guard) (ho : o.op = .pick c x y) (hd : o.dst = some t) (hc : Opd Γ c (.val rBool b)) (hy : Opd Γ y e)
    (r : SOps C T d ops rest ((t, e) :: Γ) L Q) : SOps C T d ops (o :: rest) Γ L Q := by subst hb; exact s_pick0 hw ho hd hc hy r
theorem s_remO {u u' : TypeId} {k : IntKind} {x y : Operand} {a b n : Int} (hn : remO a b = some n) (hw : Want ops Γ true o.guard) (ho : o.op = .binOp .rem u x y u') (hd : o.dst = some t) (hx : Opd Γ x (.val (rInt k) a)) (hy : Opd Γ y (.val (rInt k) b))
    (r : SOps C T d ops rest ((t, .val (rInt k) n) :: Γ) L Q) : SOps C T d ops (o :: rest) Γ L Q := by
  obtain ⟨h1, rfl⟩ := remO_inv hn; exact s_rem hw ho hd hx hy h1 r
theorem s_shlO {u u' : TypeId} {k k' : IntKind} {x y : Operand} {a b n : Int} (hn : shlO k a b = some n) (hw : Want ops Γ true o.guard) (ho : o.op = .binOp .shl u x y u') (hd : o.dst = some t) (hx : Opd Γ x (.val (rInt k) a)) (hy : Opd Γ y (.val (rInt k') b))
    (r : SOps C T d ops rest ((t, .val (rInt k) n) :: Γ) L Q) : SOps C T d ops (o :: rest) Γ L Q := by
  obtain ⟨h1, rfl⟩ := shlO_inv hn; exact s_shl hw ho hd hx hy h1 r
theorem s_shrO {u u' : TypeId} {k k' : IntKind} {x y : Operand} {a b n : Int} (hn : shrO k a b = some n) (hw : Want ops Γ true o.guard) (ho : o.op = .binOp .shr u x y u') (hd : o.dst = some t) (hx : Opd Γ x (.val (rInt k) a)) (hy : Opd Γ y (.val (rInt k') b))
    (r : SOps C T d ops rest ((t, .val (rInt k) n) :: Γ) L Q) : SOps C T d ops (o :: rest) Γ L Q := by
  obtain ⟨h1, rfl⟩ := shrO_inv hn; exact s_shr hw ho hd hx hy h1 r
inductive Bnd (Γ : Env) : Option Operand → Int → Int → Prop where
 | n {i : Int} : Bnd Γ none i i
 | s {y : Operand} {k : IntKind} {i j : Int} (h : Opd Γ y (.val (rInt k) i)) : Bnd Γ (some y) j i
theorem s_slO {A : Type} {R : Rep A} {x : Operand} {lo hi : Option Operand} {xs ys : List A} {st et : TypeId} {i j : Int} (hsl : Sl T st et R) (hn : slO xs i j = some ys) (hw : Want ops Γ true o.guard) (ho : o.op = .slice st x lo hi none) (hd : o.dst = some t)
    (hx : Opd Γ x (.val (rSlice R) xs)) (hlo : Bnd Γ lo 0 i) (hhi : Bnd Γ hi (lenI xs) j) (r : SOps C T d ops rest ((t, .val (rSlice R) ys) :: Γ) L Q) : SOps C T d ops (o :: rest) Γ L Q := by
  obtain ⟨h1, rfl⟩ := slO_inv hn
  cases hlo with
  | n =>
    cases hhi with
    | n => exact s_slice (kl := .i64) (kh := .i64) hsl h1 hw ho hd hx (.inl ⟨rfl, rfl⟩) (.inl ⟨rfl, rfl⟩) r
    | s h => exact s_slice (kl := .i64) hsl h1 hw ho hd hx (.inl ⟨rfl, rfl⟩) (.inr ⟨_, rfl, h⟩) r
  | s h' =>
    cases hhi with
    | n => exact s_slice (kh := .i64) hsl h1 hw ho hd hx (.inr ⟨_, rfl, h'⟩) (.inl ⟨rfl, rfl⟩) r
    | s h => exact s_slice hsl h1 hw ho hd hx (.inr ⟨_, rfl, h'⟩) (.inr ⟨_, rfl, h⟩) r
theorem r_exitq {id : Nat} {b : Code} {P2 : AExit → AFrame → AHeap → Prop} (e : P (.exit id) = fun fr h => Run T b fr h P2) (r : SRun C T b Γ L P2) : SRun C T (.exit id) Γ L P := fun fr h s => run_exit (by rw [e]; exact r fr h s)
theorem s_nilq {b : Code} {P2 : AExit → AFrame → AHeap → Prop} (e : Q = fun fr h => Run T b fr h P2) (r : SRun C T b Γ L P2) : SOps C T d ops [] Γ L Q := s_nil fun fr h s => by rw [e]; exact r fr h s
theorem r_skipq {b : Code} {P2 : AExit → AFrame → AHeap → Prop} (e : P .normal = fun fr h => Run T b fr h P2) (r : SRun C T b Γ L P2) : SRun C T .skip Γ L P := fun fr h s => run_skip (by rw [e]; exact r fr h s)
theorem r_labelq {b : Code} {l : Nat} {P2 : AExit → AFrame → AHeap → Prop} (e : P .normal = fun fr h => Run T b fr h P2) (r : SRun C T b Γ L P2) : SRun C T (.label l) Γ L P := fun fr h s => run_label (by rw [e]; exact r fr h s)
abbrev gh (g : List AVal) (i : Nat) : AVal := g.getD i .undef
theorem known_te : ∀ z, TE.ok z (.val rBool true) (.bool true) := fun _ => by simp only [TE.ok]; exact tv_bool_mk
def FnAt (T : Tab) (z : Store) (c : AVal) (as : List TE) (rs : List RE) : Prop :=
 ∃ g pre post, c = .func (.func g) pre post ∧ T.consts.get g = none ∧ ∀ z1 h vs, z.le z1 → z1.Sub h → h.wm ≤ h.next → okAll z1 as vs →
  CallF T g (pre ++ vs ++ post) h fun r h' => ∃ us z', r = .ret (packed us) ∧ us.length = rs.length ∧ Quiet h h' ∧ z1.le z' ∧ z'.Sub h' ∧ (∀ b, b < h.next → z' b = z1 b) ∧ okAll z' (tes rs us) us ∧ OwnOk ⟨z1, h, []⟩ z' h' (owns rs us)
theorem FnAt.mono {z z' : Store} {c : AVal} {as : List TE} {rs : List RE} (hz : z.le z') (f : FnAt T z c as rs) : FnAt T z' c as rs :=
 let ⟨g, pre, post, h1, h2, h3⟩ := f; ⟨g, pre, post, h1, h2, fun z1 h vs hl => h3 z1 h vs (hz.trans hl)⟩
def rFn (T : Tab) (X Y : Type) (ins : X → List TE) (outs : Y → List RE) : Rep (X → Option Y) :=
 ⟨1, false, fun z cs f => ∃ c, cs = [c] ∧ (∃ g pre post, c = .func (.func g) pre post) ∧ ∀ x y, f x = some y → FnAt T z c (ins x) (outs y), fun _ _ _ h => by obtain ⟨v, h, _⟩ := h; rw [h]; rfl,
  fun _ _ _ _ e h => let ⟨c, h1, h2, h3⟩ := h; ⟨c, h1, h2, fun x y q => (h3 x y q).mono e⟩, fun _ => rfl, fun _ _ _ h => by obtain ⟨v, h, ⟨g, p, q, e⟩, _⟩ := h; rw [h, e]; rfl⟩
theorem tv_fn {X Y : Type} {ins : X → List TE} {outs : Y → List RE} {v : AVal} {f : X → Option Y} (q : TV (rFn T X Y ins outs) z v f) : ∀ x y, f x = some y → FnAt T z v (ins x) (outs y) := by
 obtain ⟨h1, h2⟩ := q
 obtain ⟨w, h3, h4, h5⟩ := h1
 cases v <;> simp_all [AVal.isAgg, AVal.cells, rFn]
theorem s_callv {X Y : Type} {ins : X → List TE} {outs : Y → List RE} {c : Call} {p : Operand} {f : X → Option Y} {x : X} {y : Y} (hf : f x = some y) (hw : Want ops Γ true o.guard) (ho : o.op = .call c) (hd : o.dst = some t) (hc : c.callee = .value p) (hx : Opd Γ p (.val (rFn T X Y ins outs) f)) (hvs : Opds Γ c.args.toList (ins x))
    (hq : RQ (outs y) L fun es L' => SOps C T d ops rest ((t, teOf es) :: Γ) L' Q) : SOps C T d ops (o :: rest) Γ L Q := by
  refine call_step hw hd hq fun z fr h s => ?_
  obtain ⟨g, pre, post, e1, e2, e3⟩ := tv_fn (hx.val s.fr) x y hf
  refine ⟨.func (.func g) pre post, c.args.toList.map fr.op, by rw [ho]; simp only [aop, opCall, hc, e1], fun h1 hn hg hwm => ?_⟩
  have hsub : z.Sub h1 := fun b y hb => by rw [hg, hn]; exact s.sub b y hb
  refine callV_func e2 ?_
  refine (e3 z h1 _ (.refl _) hsub hwm (hvs.ok s.fr)).mono fun r h' ⟨us, z', e1, hl, q, hz, hs, hold, hok, hown⟩ => ⟨us, z', e1, hl, q, hz, hs, ?_, hok, hown⟩
  rw [← hn]; exact hold
theorem okAll_append {es fs : List TE} {us vs : List AVal} (h1 : okAll z es us) (h2 : okAll z fs vs) : okAll z (es ++ fs) (us ++ vs) := okAll_app.2 ⟨us, vs, rfl, h1, h2⟩
theorem s_mkfn {X Y : Type} (ins : X → List TE) (outs : Y → List RE) {f : X → Option Y} {g : FuncId} {first captured : Array Operand} {ps cs : List TE} (hF : ∀ x y, f x = some y → Fun T g (ps ++ ins x ++ cs) (outs y)) (hcst : T.consts.get g = none) (hw : Want ops Γ true o.guard) (ho : o.op = .makeFunc (.func g) first captured) (hd : o.dst = some t) (h1 : Opds Γ first.toList ps) (h2 : Opds Γ captured.toList cs)
    (r : SOps C T d ops rest ((t, .val (rFn T X Y ins outs) f) :: Γ) L Q) : SOps C T d ops (o :: rest) Γ L Q := by
  refine s_pure (by rw [ho]; rfl) hw hd (fun z fr h s => ?_) r
  refine ⟨.func (.func g) (first.toList.map fr.op) (captured.toList.map fr.op), by rw [ho]; rfl, ?_⟩
  simp only [TE.ok]
  refine ⟨⟨_, rfl, ⟨_, _, _, rfl⟩, fun x y q => ⟨g, _, _, rfl, hcst, fun z1 h' vs hl hs hwm hok => ?_⟩⟩, rfl⟩
  exact hF x y q z1 h' _ hs hwm (okAll_append (okAll_append (okAll_mono hl (h1.ok s.fr)) hok) (okAll_mono hl (h2.ok s.fr)))
theorem opd_fn {X Y : Type} {ins : X → List TE} {outs : Y → List RE} {f : X → Option Y} {g : FuncId} (hF : ∀ x y, f x = some y → Fun T g (ins x) (outs y)) (hcst : T.consts.get g = none) : ∀ z, TV (rFn T X Y ins outs) z (.func (.func g) [] []) f := fun z =>
 ⟨⟨_, rfl, ⟨_, _, _, rfl⟩, fun x y q => ⟨g, [], [], rfl, hcst, fun z1 h' vs hl hs hwm hok => by rw [List.nil_append, List.append_nil]; exact hF x y q z1 h' _ hs hwm hok⟩⟩, rfl⟩
end
end Go.Ai.Sx

/- Symbolic runs of the abstract interpreter: arrays, rows held against nil. -/
namespace Go.Ai.Sx
section
variable {C : Ctx} {T : Tab} {d : Option (List Nat)} {ops rest : List Oper} {Γ : Env} {L : Own} {Q : AFrame → AHeap → Prop} {P : AExit → AFrame → AHeap → Prop} {o : Oper} {t : Nat} {z : Store} {fr : AFrame} {h : AHeap}
theorem s_index {A : Type} {R : Rep A} {x y : Operand} {xs : List A} {at_ et : TypeId} {n : Nat} {k : IntKind} {i : Int} {a : A} (har : Ar1 T at_ et n R) (hi : idx xs i = some a) (hw : Want ops Γ true o.guard) (ho : o.op = .index at_ x y) (hd : o.dst = some t)
    (hx : Opd Γ x (.val (rArr n R) xs)) (hy : Opd Γ y (.val (rInt k) i)) (r : SOps C T d ops rest ((t, .val R a) :: Γ) L Q) : SOps C T d ops (o :: rest) Γ L Q := by
  refine s_pure (by rw [ho]; rfl) hw hd (fun z fr h s => ?_) r
  obtain ⟨h0, h1, h2, h3⟩ := idx_inv hi
  have hv := hx.val s.fr
  have hc := hv.agg
  cases hq : fr.op x with
  | agg cs =>
    rw [hq] at hv
    obtain ⟨e1, e2, e3, e4⟩ := hv.rel
    simp only [AVal.cells] at e2 e3 e4
    have hb := row_cells (off := 0) (i := i.toNat) (R := R) (cells := cs) (by rw [e1]; omega) h3
    obtain ⟨u, h8, h9⟩ := apart_ok (cells := cs) (off := i.toNat * R.sz) har.sz har.agg (by omega) (e4 _ _ h3)
    refine ⟨u, ?_, by simp only [TE.ok]; exact h9⟩
    rw [ho]
    simp only [aop, hq, hy.int s.fr, aindex, har.und, har.sz]
    rw [if_pos ⟨h0, by omega⟩, h8]
    rfl
  | _ => rw [hq] at hc; cases hc
theorem s_idxa {A : Type} {R : Rep A} {x y : Operand} {xs : List A} {at_ et : TypeId} {n : Nat} {kk : IntKind} {i : Int} {a : A} {b : Nat} (k : Nat) (har : Ar1 T at_ et n R) (hk : L[k]? = some (.slice b 0 n R.sz (some n), .row R xs)) (hi : idx xs i = some a) (hw : Want ops Γ true o.guard) (ho : o.op = .indexAddr at_ x y) (hd : o.dst = some t)
    (hx : Opd Γ x (.raw (.ptr b 0))) (hy : Opd Γ y (.val (rInt kk) i)) (r : SOps C T d ops rest ((t, .elt (.slice b 0 n R.sz (some n)) i.toNat 0) :: Γ) L Q) : SOps C T d ops (o :: rest) Γ L Q := by
  refine s_pure (by rw [ho]; rfl) hw hd (fun z fr h s => ?_) r
  obtain ⟨h0, h1, h2, h3⟩ := idx_inv hi
  have hr := s.own.ok _ (List.mem_of_getElem? hk)
  simp only [Obj.ok] at hr
  have hlen : xs.length = n := by
    rcases hr.2 with ⟨q, _⟩ | ⟨b', off, cap, cells, q, _⟩
    · cases q
    · cases q; rfl
  refine ⟨.ptr b (0 + i.toNat * R.sz), ?_, by simp only [TE.ok]; exact ⟨b, 0, n, R.sz, some n, rfl, by simp⟩⟩
  rw [ho]
  simp only [aop, hy.int s.fr, hx.raw s.fr, aindexAddr, har.und, har.sz]
  rw [if_pos (by exact ⟨h0, by omega⟩)]
  rfl
theorem s_isnil {A : Type} {R : Rep A} {u u' : TypeId} {et : TypeId} {x : Operand} {xs : List A} (hsl : Sl T u et R) (hw : Want ops Γ true o.guard) (ho : o.op = .binOp .eql u x (.const (.slice none 0 0)) u') (hd : o.dst = some t) (hx : Opd Γ x (.val (rSlice R) xs))
    (r1 : xs = [] → SOps C T d ops rest ((t, .val rBool true) :: Γ) L Q) (r0 : SOps C T d ops rest ((t, .val rBool false) :: Γ) L Q) : SOps C T d ops (o :: rest) Γ L Q := by
  have e0 : ∀ fr : AFrame, fr.op (.const (.slice none 0 0)) = .nilslice := fun _ => rfl
  refine step_val hw (nf (by rw [ho]; rfl)) fun z fr h s => ?_
  have hr := tv_slice (hx.val s.fr)
  rcases hr.2 with ⟨q, e⟩ | ⟨b, off, cap, q, e, _⟩ | ⟨b, off, cap, cells, ro, q, _⟩
  · exact ⟨.bool true, h, z, _, _, by rw [ho]; simp [aop, abin, q, e0, aguard, aeq, hsl.und, optVal], nfo (by rw [ho]; rfl), .refl _, by rw [hd, put_some]; exact s.set (e := .val rBool true) (by simp only [TE.ok]; exact tv_bool_mk), r1 e⟩
  · exact ⟨.bool false, h, z, _, _, by rw [ho]; simp [aop, abin, q, e0, aguard, aeq, hsl.und, optVal], nfo (by rw [ho]; rfl), .refl _, by rw [hd, put_some]; exact s.set (e := .val rBool false) (by simp only [TE.ok]; exact tv_bool_mk), r0⟩
  · exact ⟨.bool false, h, z, _, _, by rw [ho]; simp [aop, abin, q, e0, aguard, aeq, hsl.und, optVal], nfo (by rw [ho]; rfl), .refl _, by rw [hd, put_some]; exact s.set (e := .val rBool false) (by simp only [TE.ok]; exact tv_bool_mk), r0⟩
inductive EqFs (T : Tab) : {A : Type} → Rep A → (A → A → Bool) → List Field → Nat → Prop where
 | n {off : Nat} : EqFs T rUnit (fun _ _ => true) [] off
 | i {B : Type} {S : Rep B} {k : IntKind} {q : B → B → Bool} {f : Field} {fs : List Field} {off : Nat} (hn : f.name ≠ "_") (hu : T.und f.type = some (.int k)) (hf : f.offset = off) (r : EqFs T S q fs (off + 1)) : EqFs T (rPair (rInt k) S) (fun x y => x.1 == y.1 && q x.2 y.2) (f :: fs) off
 | b {B : Type} {S : Rep B} {q : B → B → Bool} {f : Field} {fs : List Field} {off : Nat} (hn : f.name ≠ "_") (hu : T.und f.type = some .bool) (hf : f.offset = off) (r : EqFs T S q fs (off + 1)) : EqFs T (rPair rBool S) (fun x y => x.1 == y.1 && q x.2 y.2) (f :: fs) off
theorem isAgg_int {t : TypeId} {k : IntKind} (h : T.und t = some (.int k)) : isAggT T t = some false := by simp only [isAggT, h]
theorem isAgg_bool {t : TypeId} (h : T.und t = some .bool) : isAggT T t = some false := by simp only [isAggT, h]
theorem eqFs_ok {dp : Nat} {A : Type} {R : Rep A} {q : A → A → Bool} {fs : List Field} {off : Nat} (e : EqFs T R q fs off) : ∀ (cx cy : List AVal) (x y : A), R.rel z (cx.drop off) x → R.rel z (cy.drop off) y →
    aeqFields (fun f => match Go.Ai.apart T f.type cx f.offset, Go.Ai.apart T f.type cy f.offset with
        | some u, some v => aeq T (dp + 1) f.type u v
        | _, _ => none) fs = some (q x y) := by
  induction e with
  | n => intros; rfl
  | @i B S k q f fs off hn hu hf _ ih =>
    intro cx cy x y hx hy
    subst hf
    obtain ⟨c1, c2, e1, h1, h2⟩ := hx
    obtain ⟨d1, d2, e2, g1, g2⟩ := hy
    rw [h1.1] at e1
    rw [g1.1] at e2
    have hcx : cx[f.offset]? = some (.int k x.1) := by have := congrArg (fun l => l[0]?) e1; simpa using this
    have hcy : cy[f.offset]? = some (.int k y.1) := by have := congrArg (fun l => l[0]?) e2; simpa using this
    have ax : cx.drop (f.offset + 1) = c2 := by have := congrArg List.tail e1; simpa using this
    have ay : cy.drop (f.offset + 1) = d2 := by have := congrArg List.tail e2; simpa using this
    have := ih cx cy x.2 y.2 (by rw [ax]; exact h2) (by rw [ay]; exact g2)
    have hag := isAgg_int hu
    simp only [aeqFields, if_pos hn, Go.Ai.apart, hag, hcx, hcy, aeq, hu, if_pos rfl] at this ⊢
    cases hb : (x.1 == y.1) with
    | true => simp only [Bool.true_and]; exact this
    | false => rfl
  | @b B S q f fs off hn hu hf _ ih =>
    intro cx cy x y hx hy
    subst hf
    obtain ⟨c1, c2, e1, h1, h2⟩ := hx
    obtain ⟨d1, d2, e2, g1, g2⟩ := hy
    have h1 : c1 = [.bool x.1] := h1
    have g1 : d1 = [.bool y.1] := g1
    rw [h1] at e1
    rw [g1] at e2
    have hcx : cx[f.offset]? = some (.bool x.1) := by have := congrArg (fun l => l[0]?) e1; simpa using this
    have hcy : cy[f.offset]? = some (.bool y.1) := by have := congrArg (fun l => l[0]?) e2; simpa using this
    have ax : cx.drop (f.offset + 1) = c2 := by have := congrArg List.tail e1; simpa using this
    have ay : cy.drop (f.offset + 1) = d2 := by have := congrArg List.tail e2; simpa using this
    have := ih cx cy x.2 y.2 (by rw [ax]; exact h2) (by rw [ay]; exact g2)
    have hag := isAgg_bool hu
    simp only [aeqFields, if_pos hn, Go.Ai.apart, hag, hcx, hcy, aeq, hu] at this ⊢
    cases hb : (x.1 == y.1) with
    | true => simp only [Bool.true_and]; exact this
    | false => rfl
structure SEq (T : Tab) (t : TypeId) {A : Type} (R : Rep A) (q : A → A → Bool) : Prop where
 ok : ∃ fs, T.und t = some (.struct fs) ∧ EqFs T R q fs.toList 0
 stood : ((T.types.get t).map (·.stood)).getD true = false
 eqg : ((T.types.get t).map (·.eqg)).getD true = false
theorem seq_val {A : Type} {R : Rep A} {q : A → A → Bool} {u : TypeId} {v w : AVal} {a b : A} (h : SEq T u R q) (hR : R.agg = true) (hv : TV R z v a) (hw : TV R z w b) : abin T .eql u v w = some (.bool (q a b)) ∧ abin T .neq u v w = some (.bool (!q a b)) := by
 obtain ⟨fs, h1, h2⟩ := h.ok
 have e1 := hv.agg
 have e2 := hw.agg
 rw [hR] at e1 e2
 cases v with
 | agg cx =>
  cases w with
  | agg cy =>
   have hr1 := hv.rel
   have hr2 := hw.rel
   simp only [AVal.cells] at hr1 hr2
   have key := eqFs_ok (dp := 6) h2 cx cy a b (by simpa using hr1) (by simpa using hr2)
   have ae : aeq T 8 u (.agg cx) (.agg cy) = some (q a b) := by
    simp only [aeq, h1, h.stood]
    exact key
   constructor
   ·simp only [abin, aguard, h.eqg, ae]; rfl
   ·simp only [abin, aguard, h.eqg, ae]; rfl
  | _ => cases e2
 | _ => cases e1
theorem s_seq {A : Type} {R : Rep A} {q : A → A → Bool} {u u' : TypeId} {x y : Operand} {a b : A} (hs : SEq T u R q) (hR : R.agg = true) (hw : Want ops Γ true o.guard) (ho : o.op = .binOp .eql u x y u') (hd : o.dst = some t) (hx : Opd Γ x (.val R a)) (hy : Opd Γ y (.val R b))
    (r : SOps C T d ops rest ((t, .val rBool (q a b)) :: Γ) L Q) : SOps C T d ops (o :: rest) Γ L Q := by
  refine s_pure (by rw [ho]; rfl) hw hd (fun z fr h s => ⟨.bool (q a b), ?_, by simp only [TE.ok]; exact tv_bool_mk⟩) r
  rw [ho]
  simp only [aop, (seq_val hs hR (hx.val s.fr) (hy.val s.fr)).1, optVal, Option.map]
theorem s_sne {A : Type} {R : Rep A} {q : A → A → Bool} {u u' : TypeId} {x y : Operand} {a b : A} (hs : SEq T u R q) (hR : R.agg = true) (hw : Want ops Γ true o.guard) (ho : o.op = .binOp .neq u x y u') (hd : o.dst = some t) (hx : Opd Γ x (.val R a)) (hy : Opd Γ y (.val R b))
    (r : SOps C T d ops rest ((t, .val rBool (!q a b)) :: Γ) L Q) : SOps C T d ops (o :: rest) Γ L Q := by
  refine s_pure (by rw [ho]; rfl) hw hd (fun z fr h s => ⟨.bool (!q a b), ?_, by simp only [TE.ok]; exact tv_bool_mk⟩) r
  rw [ho]
  simp only [aop, (seq_val hs hR (hx.val s.fr) (hy.val s.fr)).2, optVal, Option.map]
theorem s_storebo {A : Type} {R : Rep A} {xs : List A} {et : TypeId} {x y : Operand} {b q : Nat} {v : AVal} {es : List TE} (k m : Nat) (hsz : szT T et = some 1) (hk : L[k]? = some (.ptr b 0, .box es)) (hm : L[m]? = some (v, .row R xs)) (hq : q < es.length) (hw : Want ops Γ true o.guard) (ho : o.op = .store et x y) (hd : o.dst = none) (hx : Opd Γ x (.raw (.ptr b q))) (hy : Opd Γ y (.raw v))
    {L' : Own} (hL : setAt L k (.ptr b 0, .box (es.set q (.raw v))) = some L') (r : SOps C T d ops rest Γ L' Q) : SOps C T d ops (o :: rest) Γ L Q := by
  refine s_memn (.w (by rw [ho]; rfl) (fun t a q => by rw [ho] at q; cases q) (by rw [ho]; rfl) (fun q => by rw [ho] at q; cases q)) (fun z fr h s => by
    rw [show foot fr.op o = ⟨[], false, blkOf (fr.op x), false⟩ by unfold foot; rw [ho]]
    exact ⟨fun b hb => (nomatch hb), fun b' hb => own_none s hk rfl b' (by simpa [blkOf, hx.raw s.fr] using hb)⟩) hw hd (fun z fr h s => ?_) r
  have hv1 : v.one = true := by
    have hr := s.own.ok _ (List.mem_of_getElem? hm)
    simp only [Obj.ok] at hr
    rcases hr.2 with ⟨q, _⟩ | ⟨_, _, _, _, q, _⟩ <;> rw [q] <;> rfl
  have hob := s.own.ok _ (List.mem_of_getElem? hk)
  simp only [Obj.ok] at hob
  obtain ⟨b', cells, q', h2, h3, h4⟩ := hob
  cases q'
  have hv := hy.raw s.fr
  have hcs : v.cells = [v] := by cases v <;> simp_all [AVal.cells, AVal.one]
  have hlt : q < cells.length := by rw [okAll_len h3]; exact hq
  refine ⟨.tuple [], h.set b (.arr (cells.set q v) false), ?_, s.upd hk rfl rfl _ ?_ hL⟩
  · rw [ho]
    simp only [aop, hx.raw s.fr, hv, astore, h2, hsz, hcs, List.length_singleton]
    rw [if_pos (by exact ⟨by trivial, by omega, by simp [hv1]⟩), splice_one hlt]
    rfl
  · refine ⟨b, _, rfl, by rw [AHeap.get_set, if_pos rfl], okAll_set h3 (by simp only [TE.ok]), ?_⟩
    rw [List.all_eq_true] at h4 ⊢
    intro c hc
    rcases List.mem_or_eq_of_mem_set hc with q | rfl
    · exact h4 c q
    · exact hv1
theorem st_freezec {A : Type} {R : Rep A} {xs : List A} {v : AVal} {b q : Nat} {es : List TE} (k m : Nat) (ts : List Nat) {L' L'' : Own} (hk : L[k]? = some (v, .row R xs)) (hL : dropAt L k = some L') (hm : L'[m]? = some (.ptr b 0, .box es)) (hq : es[q]? = some (.raw v)) (hL' : setAt L' m (.ptr b 0, .box (es.set q (.val (rSlice R) xs))) = some L'') (hts : AllRaw Γ v ts) :
    ∀ z fr h, StZ C Γ L z fr h → ∃ z', z.le z' ∧ StZ C (holdAll ts (.val (rSlice R) xs) Γ) L'' z' fr h := by
  intro z fr h s
  obtain ⟨z', hz, s', hr⟩ := s.freeze hk hL
  have hval : TE.ok z' (.val (rSlice R) xs) v := by simp only [TE.ok]; exact tv_slice_mk hr
  have hob := s'.own.ok _ (List.mem_of_getElem? hm)
  simp only [Obj.ok] at hob
  obtain ⟨b', cells, q', g1, g2, g3⟩ := hob
  cases q'
  obtain ⟨c, hc1, hc2⟩ := okAll_at g2 hq
  simp only [TE.ok] at hc2
  subst hc2
  have hset : cells.set q c = cells := by
    apply List.ext_getElem?
    intro i
    rw [List.getElem?_set]
    split
    · rename_i e; subst e
      rw [if_pos (List.getElem?_eq_some_iff.1 hc1).1, hc1]
    · rfl
  have hobj : (Obj.box (es.set q (.val (rSlice R) xs))).ok z' h (.ptr b 0) := by
    refine ⟨b, cells, rfl, g1, ?_, g3⟩
    rw [← hset]; exact okAll_set g2 hval
  obtain ⟨rfl, hlt⟩ := setAt_eq hL'
  have hmem : ∀ p ∈ L'.set m (.ptr b 0, .box (es.set q (.val (rSlice R) xs))), p = (.ptr b 0, .box (es.set q (.val (rSlice R) xs))) ∨ p ∈ L' := by
    intro p hp
    rcases List.mem_or_eq_of_mem_set hp with e | e
    · exact .inr e
    · exact .inl e
  have hb0 : blks (L'.set m (.ptr b 0, .box (es.set q (.val (rSlice R) xs)))) = blks L' := by
    have key : ∀ (L : Own) (m : Nat), L[m]? = some (.ptr b 0, .box es) → blks (L.set m (.ptr b 0, .box (es.set q (.val (rSlice R) xs)))) = blks L := by
      intro L
      induction L with
      | nil => intro m h; simp at h
      | cons p L ih =>
        intro m h
        cases m with
        | zero => simp at h; subst h; rw [List.set_cons_zero, blks_cons, blks_cons]; rfl
        | succ m => rw [List.set_cons_succ, blks_cons, blks_cons, ih m (by simpa using h)]
    exact key L' m hm
  refine ⟨z', hz, { s' with fr := holdAll_ok hval hts s'.fr, own := ⟨fun p hp => ?_, fun p hp => ?_, by rw [hb0]; exact s'.own.nodup⟩ }⟩
  · rcases hmem p hp with rfl | hp
    · exact hobj
    · exact s'.own.ok p hp
  · rcases hmem p hp with rfl | hp
    · intro c' hc'
      exact s'.own.out _ (List.mem_of_getElem? hm) c' (by simpa [blkE, blkO] using hc')
    · exact s'.own.out p hp
end
end Go.Ai.Sx

/- Calls that hand owned things over and get them back changed. -/
namespace Go.Ai.Sx
def FunM (T : Tab) (g : FuncId) (as : List TE) (L0 : Own) (rs : List RE) (L1 : List AVal → Own) : Prop :=
 ∀ z h vs, z.Sub h → h.wm ≤ h.next → okAll z as vs → OwnOk ⟨z, h, blks L0⟩ z h L0 → CallF T g vs h fun r h' => ∃ us z' γ, r = .ret (packed us) ∧ us.length = rs.length ∧ Chg ⟨z, h, blks L0⟩ h' ∧ z.le z' ∧ z'.Sub h' ∧ (∀ b, b < h.next → b ∉ blks L0 → z' b = z b) ∧ okAll z' (tes rs us) us ∧ OwnOk ⟨z, h, blks L0⟩ z' h' (owns rs us ++ L1 γ)
section
variable {C : Ctx} {T : Tab} {d : Option (List Nat)} {ops rest : List Oper} {Γ : Env} {L : Own} {Q : AFrame → AHeap → Prop} {P : AExit → AFrame → AHeap → Prop} {o : Oper} {t : Nat} {z : Store} {fr : AFrame} {h : AHeap}
theorem picks_out {ks js : List Nat} (hn : (ks ++ js).Nodup) (hb : (blks L).Nodup) {p : AVal × Obj} {b : Nat} (hp : p ∈ picks L js) (h1 : b ∈ blkE p) : b ∉ blks (picks L ks) := by
 intro q
 obtain ⟨p', hp', h2⟩ := mem_blks.1 q
 obtain ⟨i, i1, i2⟩ := picks_mem hp
 obtain ⟨j, j1, j2⟩ := picks_mem hp'
 have := blks_apart hb i2 j2 h1 h2
 subst this
 exact (List.nodup_append.1 hn).2.2 i j1 i i1 rfl
theorem picks_sub {ks : List Nat} {p : AVal × Obj} (hp : p ∈ picks L ks) : p ∈ L := by
 obtain ⟨i, _, h2⟩ := picks_mem hp
 exact List.mem_of_getElem? h2
theorem StZ.afterM (s : StZ C Γ L z fr h) {ks js : List Nat} (hn : (ks ++ js).Nodup) {h' : AHeap} {z' : Store} {O : Own} (q : Chg ⟨z, h, blks (picks L ks)⟩ h') (hz : z.le z') (hs : z'.Sub h') (hold : ∀ b, b < h.next → b ∉ blks (picks L ks) → z' b = z b) (ho : OwnOk ⟨z, h, blks (picks L ks)⟩ z' h' O) : StZ C Γ (O ++ picks L js) z' fr h' := by
 have inn : ∀ b, b ∈ blks (picks L ks) → b < h.next ∧ (C.h0.next ≤ b ∨ b ∈ C.B0) := fun b hb => by
  obtain ⟨p, hp, h1⟩ := mem_blks.1 hb
  obtain ⟨_, o2, o3⟩ := s.own.out p (picks_sub hp) b h1
  exact ⟨o2, o3⟩
 have notin : ∀ b, b < C.h0.next → b ∉ C.B0 → b ∉ blks (picks L ks) := fun b hb hB hq => by
  rcases (inn b hq).2 with q1 | q1
  ·omega
  ·exact hB q1
 have qn : h.next ≤ h'.next := q.next
 have sn := s.chg.next
 refine { zle := s.zle.trans hz, sub := hs, old := fun b hb hB => ?_, fr := s.fr.mono hz, own := ⟨?_, ?_, ?_⟩, chg := ⟨Nat.le_trans sn qn, fun b hb hB => ?_, fun m m1 m2 m3 => ?_, q.ok⟩ }
 ·rw [hold b (by omega) (notin b hb hB)]; exact s.old b hb hB
 ·intro p hp
  rcases List.mem_append.1 hp with hp | hp
  ·exact ho.ok p hp
  ·exact Obj.ok_mono hz (fun b hb => q.same b (s.own.out p (picks_sub hp) b hb).2.1 (picks_out hn s.own.nodup hp hb)) (s.own.ok p (picks_sub hp))
 ·intro p hp b hb
  rcases List.mem_append.1 hp with hp | hp
  ·obtain ⟨o1, o2, o3⟩ := ho.out p hp b hb
   refine ⟨o1, o2, ?_⟩
   rcases o3 with q1 | q1
   ·exact .inl (Nat.le_trans sn q1)
   ·exact (inn b q1).2
  ·obtain ⟨o1, o2, o3⟩ := s.own.out p (picks_sub hp) b hb
   exact ⟨by rw [hold b o2 (picks_out hn s.own.nodup hp hb)]; exact o1, Nat.lt_of_lt_of_le o2 qn, o3⟩
 ·rw [show blks (O ++ picks L js) = blks O ++ blks (picks L js) by simp [blks]]
  refine List.nodup_append.2 ⟨ho.nodup, picks_nodup s.own.nodup (List.nodup_append.1 hn).2.1, fun a ha b hb e => ?_⟩
  subst e
  obtain ⟨p, hp, h1⟩ := mem_blks.1 ha
  obtain ⟨p', hp', h2⟩ := mem_blks.1 hb
  rcases (ho.out p hp a h1).2.2 with q1 | q1
  ·have q1 : h.next ≤ a := q1
   have := (s.own.out p' (picks_sub hp') a h2).2.1
   omega
  ·exact picks_out hn s.own.nodup hp' h2 q1
 ·have : h'.get b = h.get b := q.same b (Nat.lt_of_lt_of_le hb sn) (notin b hb hB)
  rw [this]; exact s.chg.same b hb hB
 ·refine q.wm m (s.chg.wm m m1 m2 m3) (Nat.le_trans m2 sn) fun b hb => ?_
  rcases (inn b hb).2 with q1 | q1
  ·omega
  ·exact m3 b q1
theorem StZ.lent (s : StZ C Γ L z fr h) {ks : List Nat} (hn : ks.Nodup) : OwnOk ⟨z, h, blks (picks L ks)⟩ z h (picks L ks) :=
 ⟨fun p hp => s.own.ok p (picks_sub hp), fun p hp b hb => ⟨(s.own.out p (picks_sub hp) b hb).1, (s.own.out p (picks_sub hp) b hb).2.1, .inr (mem_blks.2 ⟨p, hp, hb⟩)⟩, picks_nodup s.own.nodup hn⟩
def RetM (C : Ctx) (T : Tab) (res : List ResultVar) (rs : List RE) (L1 : List AVal → Own) (e : AExit) (fr : AFrame) (h : AHeap) : Prop :=
 (e = .normal ∨ e = .ret) ∧ ∃ us z γ, aresults T res fr h = some us ∧ us.length = rs.length ∧ C.z0.le z ∧ z.Sub h ∧ (∀ b, b < C.h0.next → b ∉ C.B0 → z b = C.z0 b) ∧ okAll z (tes rs us) us ∧ OwnOk C z h (owns rs us ++ L1 γ) ∧ Chg C h
theorem picks_app {L : Own} : ∀ {is js : List Nat}, picks L (is ++ js) = picks L is ++ picks L js
 | [], _ => rfl
 | i :: is, js => by
  simp only [List.cons_append, picks]
  cases L[i]? with
  | none => exact picks_app
  | some p => simp only [List.cons_append, picks_app]
theorem retm_of {e : AExit} {res : List ResultVar} {rs : List RE} {L1 : List AVal → Own} {ks : List Nat} (js : List Nat) (γ : List AVal) (he : e = .normal ∨ e = .ret) (q : Rets T Γ L res rs ks) (hL : picks L js = L1 γ) (hn : (ks ++ js).Nodup) : ∀ fr h, St C Γ L fr h → RetM C T res rs L1 e fr h := by
 intro fr h ⟨z, s⟩
 obtain ⟨us, h1, h2, h3, h4⟩ := q.ok s
 refine ⟨he, us, z, γ, h1, h2, s.zle, s.sub, s.old, h3, ?_, s.chg⟩
 rw [h4, ← hL, ← picks_app]
 exact ⟨fun p hp => s.own.ok p (picks_sub hp), fun p hp => s.own.out p (picks_sub hp), picks_nodup s.own.nodup hn⟩
theorem funm_of {g : FuncId} {F : Func} {c : Code} {as : List TE} {rs : List RE} {L0 : Own} {L1 : List AVal → Own} (hF : T.funcs.get g = some F) (hb : F.body = some c) (hn : Nat.blt F.ntmps as.length = false) (run : ∀ C, SRun C T c (entry 0 as) L0 (RetM C T F.results.toList rs L1)) : FunM T g as L0 rs L1 := by
 intro z h vs hsub hwm hok hL
 refine callF_of hF hb (by rw [okAll_len hok]; exact hn) ?_
 have s0 : StZ ⟨z, h, blks L0⟩ (entry 0 as) L0 z (argFrame 0 vs .leaf) h :=
  { zle := .refl _, sub := hsub, old := fun _ _ _ => rfl, fr := entry_ok hok, own := hL, chg := ⟨Nat.le_refl _, fun _ _ _ => rfl, fun _ m1 _ _ => m1, hwm⟩ }
 refine (run ⟨z, h, blks L0⟩ _ _ ⟨z, s0⟩).mono fun e fr h' ⟨he, us, z', γ, h1, h2, h3, h4, h5, h6, h7, h8⟩ => ⟨he, us, h1, us, z', γ, rfl, h2, h8, h3, h4, fun b hb => h5 b hb, h6, h7⟩
def rClo (g : FuncId) (ps cs : List TE) : Rep Unit :=
 ⟨1, false, fun z xs _ => ∃ us vs, xs = [.func (.func g) us vs] ∧ okAll z ps us ∧ okAll z cs vs, fun _ _ _ h => by obtain ⟨u, v, h, _⟩ := h; rw [h]; rfl,
  fun _ _ _ _ e h => let ⟨u, v, h1, h2, h3⟩ := h; ⟨u, v, h1, okAll_mono e h2, okAll_mono e h3⟩, fun _ => rfl, fun _ _ _ h => by obtain ⟨u, v, h, _⟩ := h; rw [h]; rfl⟩
theorem tv_clo {g : FuncId} {ps cs : List TE} {v : AVal} {x : Unit} (q : TV (rClo g ps cs) z v x) : ∃ us vs, v = .func (.func g) us vs ∧ okAll z ps us ∧ okAll z cs vs := by
 obtain ⟨⟨us, vs, h1, h2, h3⟩, h4⟩ := q
 refine ⟨us, vs, ?_, h2, h3⟩
 cases v <;> simp_all [AVal.isAgg, AVal.cells, rClo]
theorem s_mkclo {g : FuncId} {first captured : Array Operand} {ps cs : List TE} (hw : Want ops Γ true o.guard) (ho : o.op = .makeFunc (.func g) first captured) (hd : o.dst = some t) (h1 : Opds Γ first.toList ps) (h2 : Opds Γ captured.toList cs)
    (r : SOps C T d ops rest ((t, .val (rClo g ps cs) ()) :: Γ) L Q) : SOps C T d ops (o :: rest) Γ L Q := by
  refine s_pure (by rw [ho]; rfl) hw hd (fun z fr h s => ?_) r
  refine ⟨.func (.func g) (first.toList.map fr.op) (captured.toList.map fr.op), by rw [ho]; rfl, ?_⟩
  simp only [TE.ok]
  exact ⟨⟨_, _, rfl, h1.ok s.fr, h2.ok s.fr⟩, rfl⟩
end
end Go.Ai.Sx

/- Rows whose elements are rows that are owned too. -/
namespace Go.Ai.Sx
def rRaw : Rep AVal := ⟨1, false, fun _ cs x => cs = [x] ∧ x.one = true ∧ x.isAgg = false, fun _ _ _ h => by rw [h.1]; rfl, fun _ _ _ _ _ h => h, fun _ => rfl, fun _ _ _ h => by rw [h.1]; simp [h.2.1]⟩
theorem tv_raw {z : Store} {v x : AVal} (q : TV rRaw z v x) : v = x := by
 have h1 := q.agg
 have h2 := q.rel
 cases v <;> simp_all [AVal.isAgg, AVal.cells, rRaw]
section
variable {C : Ctx} {T : Tab} {d : Option (List Nat)} {ops rest : List Oper} {Γ : Env} {L : Own} {Q : AFrame → AHeap → Prop} {P : AExit → AFrame → AHeap → Prop} {o : Oper} {t : Nat} {z : Store} {fr : AFrame} {h : AHeap}
theorem StZ.repack (s : StZ C Γ L z fr h) {L' : Own} (hp : (blks L').Perm (blks L)) (hk : ∀ p ∈ L', p.2.ok z h p.1) : StZ C Γ L' z fr h := by
 refine { s with own := ⟨hk, fun p hp' b hb => ?_, hp.nodup_iff.2 s.own.nodup⟩ }
 have h1 := hp.mem_iff.1 (mem_blks.2 ⟨p, hp', hb⟩)
 obtain ⟨q, hq, hb'⟩ := mem_blks.1 h1
 exact s.own.out q hq b hb'
theorem blks_perm {L L' : Own} (hp : L.Perm L') : (blks L).Perm (blks L') := List.Perm.flatMap_right _ hp
theorem set_same.{u} {α : Type u} {l : List α} {i : Nat} {a : α} (h : l[i]? = some a) : l.set i a = l := by
 apply List.ext_getElem?
 intro j
 rw [List.getElem?_set]
 split
 ·rename_i q
  subst q
  rw [if_pos (List.getElem?_eq_some_iff.1 h).1]; exact h.symm
 ·rfl
theorem frok_at {e : TE} {n : Nat} (hf : FrOk z Γ fr) (h : e.ok z (fr.ev n)) : FrOk z ((n, e) :: Γ) fr := by
 intro t e' q
 simp only [look] at q
 cases hb : Nat.beq n t with
 | true =>
  rw [hb] at q
  cases q
  have := Nat.eq_of_beq_eq_true hb
  subst this
  exact h
 | false => rw [hb] at q; exact hf t e' q
theorem st_unraw {x : AVal} {n : Nat} (hl : look Γ n = some (.val rRaw x)) : ∀ z fr h, StZ C Γ L z fr h → ∃ z', z.le z' ∧ StZ C ((n, .raw x) :: Γ) L z' fr h := fun z fr h s => by
 have h1 := s.fr _ _ hl
 simp only [TE.ok] at h1
 exact ⟨z, .refl _, { s with fr := frok_at s.fr (by simp only [TE.ok]; exact tv_raw h1) }⟩
def untup : AVal → List AVal
 | .tuple l => l
 | _ => []
end
end Go.Ai.Sx

/- Functions that call back, and loops over them. -/
namespace Go.Ai.Sx
def CallM (T : Tab) (f : AVal) (as : List TE) (L0 : Own) (rs : List RE) (L1 : List AVal → Own) : Prop :=
 ∀ z h vs, z.Sub h → h.wm ≤ h.next → okAll z as vs → OwnOk ⟨z, h, blks L0⟩ z h L0 → CallV T f vs h fun r h' => ∃ us z' γ, r = .ret (packed us) ∧ us.length = rs.length ∧ Chg ⟨z, h, blks L0⟩ h' ∧ z.le z' ∧ z'.Sub h' ∧ (∀ b, b < h.next → b ∉ blks L0 → z' b = z b) ∧ okAll z' (tes rs us) us ∧ OwnOk ⟨z, h, blks L0⟩ z' h' (owns rs us ++ L1 γ)
structure CbAt (T : Tab) (yv : AVal) {X σ τ : Type} (ins : X → List TE) (step : σ → X → Option (σ ⊕ τ)) (K : σ ⊕ τ → List AVal → Obj) : Prop where
 call : ∀ s γ x r, step s x = some r → CallM T yv (ins x) [(yv, K (.inl s) γ)] [.val rBool r.isLeft] fun γ' => [(yv, K r γ')]
 one : yv.one = true
 agg : yv.isAgg = false
def serB (ops : List Oper) (ol : List Nat) (i : Nat) : Bool := match allBefore ops i with
 | b => (List.range i).all fun p => b.contains p || (match ops[p]? with | some q => emptyOp q.op && !ol.contains p | none => false)
def serialOk (d : Option (List Nat)) (ops rest : List Oper) : Prop := ∀ ol, d = some ol → serB ops ol (ops.length - (rest.length + 1)) = true ∧ rest.all (fun o => noFoot o.op) = true
section
variable {C : Ctx} {T : Tab} {d : Option (List Nat)} {ops rest : List Oper} {Γ : Env} {L : Own} {Q : AFrame → AHeap → Prop} {P : AExit → AFrame → AHeap → Prop} {o : Oper} {t : Nat} {z : Store} {fr : AFrame} {h : AHeap}
theorem apart_none {a : Foot} : a.apart ⟨[], false, [], false⟩ = true := by
 unfold Foot.apart disj
 simp
theorem footsOk_none {i : Nat} {done : List (Nat × Foot)} : footsOk ops i ⟨[], false, [], false⟩ done = true := by
 unfold footsOk
 rw [if_pos (List.all_eq_true.2 fun p _ => apart_none)]
theorem apart_none' {a : Foot} : (⟨[], false, [], false⟩ : Foot).apart a = true := by
 unfold Foot.apart disj
 simp
theorem footsOk_after {ol : List Nat} {i : Nat} {f : Foot} {done : List (Nat × Foot)} (hc : serB ops ol i = true) (hd : DoneOk ops ol z i fr h done) : footsOk ops i f done = true := by
 unfold footsOk
 split
 ·rfl
 ·refine List.all_eq_true.2 fun p hp => ?_
  obtain ⟨h1, h2, h3, h4, h5, h6⟩ := hd.1 p hp
  unfold serB at hc
  have := List.all_eq_true.1 hc p.1 (List.mem_range.2 h1)
  rw [Bool.or_eq_true] at this
  rcases this with q | q
  ·rw [q, Bool.or_true]
  ·split at q
   ·rename_i o ho
    rw [Bool.and_eq_true] at q
    have hq : quietRd ol p.1 o.op = true := by
     unfold quietRd
     have := q.1
     unfold emptyOp at this
     rw [Bool.or_eq_true] at this
     rcases this with k | k
     ·rw [k]; rfl
     ·rw [k, q.2]; simp
    obtain ⟨k1, k2, _, k4⟩ := h6 o ho hq
    have e : p.2 = ⟨[], false, [], false⟩ := by
     cases hp2 : p.2 with
     | mk rd rall wr wall =>
      rw [hp2] at k1 k2 k4 h2
      simp only at k1 k2 k4 h2
      rw [k1, k2, h2, k4 q.1]
    rw [e, apart_none', Bool.true_or]
   ·cases q
theorem draw_nofoot : ∀ {rest : List Oper} {i : Nat} {done : List (Nat × Foot)} {fr : AFrame} {h : AHeap}, rest.all (fun o => noFoot o.op) = true → h.wm ≤ h.next → wX T ops rest fr h Q → Draw T ops rest i done fr h Q
 | [], _, _, _, _, _, _, w => draw_nil w
 | o :: rest, i, done, fr, h, hno, hwm, w => by
  rw [List.all_cons, Bool.and_eq_true] at hno
  simp only [wX] at w
  split at w
  ·rename_i hw
   split at w
   ·rename_i v h' ha
    have hk := aop_keeps ha
    exact draw_op hw ha hwm (foot_nf _ hno.1) footsOk_none (draw_nofoot hno.2 (Nat.le_trans hk.2.1 (Nat.le_trans hwm hk.1)) w)
   ·rename_i f vs ha
    obtain ⟨c, fo, ho, hc, _⟩ := aop_call_inv ha
    have := hno.1
    rw [ho] at this
    simp only [noFoot, hc] at this
    cases this
   ·exact w.elim
  ·rename_i hw; exact draw_skip hw (draw_nofoot hno.2 hwm w)
  ·exact w.elim
theorem draw_callm {i : Nat} {done : List (Nat × Foot)} {f : AVal} {vs : List AVal} (hw : awanted ops fr o.guard = some true) (ha : aop T fr.op h o.op = some (.call f vs))
    (hk : ∀ w, footsOk ops i ⟨[], true, [], w⟩ done = true)
    (r : CallV T f vs (lay h h.next) fun r h1 => ∃ v, r = .ret v ∧ ∀ w, Draw T ops rest (i + 1) ((i, ⟨[], true, [], w⟩) :: done) (putDst fr o.dst v) (lay h1 (min h.wm h1.wm)) Q) : Draw T ops (o :: rest) i done fr h Q := by
  obtain ⟨n, r, h1, h2, v, rfl, q⟩ := r
  obtain ⟨m, fr', h3, h4, h5⟩ := q (!(Nat.ble h.next h1.wm))
  have ha' : aop T fr.op { h with wm := h.next } o.op = some (.call f vs) := by
    obtain ⟨c, fo, ho, hc, e1, e2⟩ := aop_call_inv ha
    rw [ho]
    simp only [aop, opCall, hc, e1, e2]
  have e : footOf (foot fr.op o) h h1 = ⟨[], true, [], !(Nat.ble h.next h1.wm)⟩ := by rw [foot_call ha]; rfl
  refine ⟨max n m, fr', h3, ?_, h5⟩
  have c1 := acall_le (T := T) (aexec_le (Nat.le_max_left n m)) _ _ _ _ h2
  have c2 := adraw_le (T := T) (acall_le (aexec_le (Nat.le_max_right n m))) _ _ _ _ _ _ h4
  have c1 : acall T (aexec T (max n m)) f vs { h with wm := h.next } = some (.ret v, h1) := c1
  simp only [adraw, hw, astep, ha', c1, e, hk, cond_true]
  exact c2
theorem callm_step {rs : List RE} {L1 : List AVal → Own} (ks js : List Nat) (hn : (ks ++ js).Nodup) (hser : serialOk d ops rest) (hw : Want ops Γ true o.guard) (hd : o.dst = some t)
    (H : ∀ z fr h, StZ C Γ L z fr h → ∃ f vs, aop T fr.op h o.op = some (.call f vs) ∧ ∀ h, z.Sub h → h.wm ≤ h.next → OwnOk ⟨z, h, blks (picks L ks)⟩ z h (picks L ks) → CallV T f vs h fun r h' => ∃ us z' γ, r = .ret (packed us) ∧ us.length = rs.length ∧ Chg ⟨z, h, blks (picks L ks)⟩ h' ∧ z.le z' ∧ z'.Sub h' ∧ (∀ b, b < h.next → b ∉ blks (picks L ks) → z' b = z b) ∧ okAll z' (tes rs us) us ∧ OwnOk ⟨z, h, blks (picks L ks)⟩ z' h' (owns rs us ++ L1 γ))
    (hq : ∀ γ, RQ rs (L1 γ ++ picks L js) fun es L' => SOps C T none ops rest ((t, teOf es) :: Γ) L' Q) : SOps C T d ops (o :: rest) Γ L Q := by
  cases d with
  | none =>
    intro fr h ⟨z, s⟩
    obtain ⟨f, vs, ha, hf⟩ := H z fr h s
    simp only [wX, hw.ok s.fr, ha, hd, put_some]
    refine (hf h s.sub s.chg.ok (s.lent (List.nodup_append.1 hn).1)).mono fun r h' ⟨us, z', γ, e1, hl, q, hz, hs, hold, hok, hown⟩ => ⟨packed us, e1, ?_⟩
    have s' := s.afterM (js := js) hn q hz hs hold hown
    rw [List.append_assoc] at s'
    exact (hq γ).at hl _ _ ⟨z', s'.set (teOf_ok hl hok)⟩
  | some ol =>
    intro z fr h i done s hr hok hdn
    obtain ⟨f, vs, ha, hf⟩ := H z fr h s
    have hi : ops[i]? = some o := by have := congrArg (fun l => l[0]?) hr; simpa using this
    have hlt : i < ops.length := (List.getElem?_eq_some_iff.1 hi).1
    have hil : i = ops.length - (rest.length + 1) := by
      have := congrArg List.length hr
      rw [List.length_drop, List.length_cons] at this
      omega
    obtain ⟨hc, hno⟩ := hser ol rfl
    rw [← hil] at hc
    have sl : StZ C Γ L z fr (lay h h.next) := s.low (Nat.le_refl _) (fun m _ m2 _ => Nat.le_trans m2 s.chg.next)
    refine draw_callm (hw.ok s.fr) ha (fun w => footsOk_after hc hdn) ?_
    refine (hf (lay h h.next) sl.sub sl.chg.ok (sl.lent (List.nodup_append.1 hn).1)).mono fun r h' ⟨us, z', γ, e1, hl, q, hz, hs, hold, hok, hown⟩ => ⟨packed us, e1, fun w => ?_⟩
    have s' := sl.afterM (js := js) hn q hz hs hold hown
    rw [List.append_assoc] at s'
    have s'' : StZ C Γ (owns rs us ++ (L1 γ ++ picks L js)) z' fr (lay h' (min h.wm h'.wm)) := s'.low (by have := s'.chg.ok; omega) (fun m m1 m2 m3 => by have h1 := s.chg.wm m m1 m2 m3; have h2 := s'.chg.wm m m1 m2 m3; omega)
    refine draw_nofoot hno s''.chg.ok ?_
    rw [hd, put_some]
    exact (hq γ).at hl _ _ ⟨z', s''.set (teOf_ok hl hok)⟩
theorem callM_of {g : FuncId} {as : List TE} {L0 : Own} {rs : List RE} {L1 : List AVal → Own} (hcst : T.consts.get g = none) (hf : FunM T g as L0 rs L1) : CallM T (.func (.func g) [] []) as L0 rs L1 := fun z h vs h1 h2 h3 h4 => by
 refine callV_func hcst ?_
 rw [List.nil_append, List.append_nil]
 exact hf z h vs h1 h2 h3 h4
theorem s_callmd {c : Call} {x : Operand} {g : FuncId} {as : List TE} {rs : List RE} {L0 Lr : Own} {L1 : List AVal → Own} (ks js : List Nat) (hser : serialOk d ops rest) (hf : FunM T g as L0 rs L1) (h0 : picks L ks = L0) (hr : picks L js = Lr) (hn : (ks ++ js).Nodup) (hcst : T.consts.get g = none) (hw : Want ops Γ true o.guard) (ho : o.op = .call c) (hd : o.dst = some t) (hc : c.callee = .value x) (hx : Opd Γ x (.raw (.func (.func g) [] []))) (hvs : Opds Γ c.args.toList as)
    (hq : ∀ γ, RQ rs (L1 γ ++ Lr) fun es L' => SOps C T none ops rest ((t, teOf es) :: Γ) L' Q) : SOps C T d ops (o :: rest) Γ L Q := by
  subst h0 hr
  exact callm_step ks js hn hser hw hd (fun z fr h s => ⟨.func (.func g) [] [], c.args.toList.map fr.op, by rw [ho]; simp only [aop, opCall, hc, hx.raw s.fr], fun h1 h2 h3 h4 => callM_of hcst hf z h1 _ h2 h3 (hvs.ok s.fr) h4⟩) hq
theorem s_callcd {c : Call} {x : Operand} {g : FuncId} {ps cs es : List TE} {rs : List RE} {L0 Lr : Own} {L1 : List AVal → Own} (ks js : List Nat) (hser : serialOk d ops rest) (hf : FunM T g (ps ++ es ++ cs) L0 rs L1) (h0 : picks L ks = L0) (hr : picks L js = Lr) (hn : (ks ++ js).Nodup) (hcst : T.consts.get g = none) (hw : Want ops Γ true o.guard) (ho : o.op = .call c) (hd : o.dst = some t) (hc : c.callee = .value x) (hx : Opd Γ x (.val (rClo g ps cs) ())) (hvs : Opds Γ c.args.toList es)
    (hq : ∀ γ, RQ rs (L1 γ ++ Lr) fun es' L' => SOps C T none ops rest ((t, teOf es') :: Γ) L' Q) : SOps C T d ops (o :: rest) Γ L Q := by
  subst h0 hr
  refine callm_step (rs := rs) (L1 := L1) ks js hn hser hw hd (fun z fr h s => ?_) hq
  obtain ⟨us0, vs0, ev, hp, hcs⟩ := tv_clo (hx.val s.fr)
  refine ⟨.func (.func g) us0 vs0, c.args.toList.map fr.op, by rw [ho]; simp only [aop, opCall, hc, ev], fun h1 h2 h3 h4 => ?_⟩
  exact callV_func hcst (hf z h1 _ h2 h3 (okAll_append (okAll_append hp (hvs.ok s.fr)) hcs) h4)
theorem s_cally {c : Call} {x : Operand} {yv : AVal} {X σ τ : Type} {ins : X → List TE} {step : σ → X → Option (σ ⊕ τ)} {K : σ ⊕ τ → List AVal → Obj} {s : σ} {a : X} {r : σ ⊕ τ} {γ : List AVal} {L0 Lr : Own} (ks js : List Nat) (hser : serialOk d ops rest) (hcb : CbAt T yv ins step K) (hs : step s a = some r) (h0 : picks L ks = L0) (hL0 : L0 = [(yv, K (.inl s) γ)]) (hr : picks L js = Lr) (hn : (ks ++ js).Nodup) (hw : Want ops Γ true o.guard) (ho : o.op = .call c) (hd : o.dst = some t) (hc : c.callee = .value x) (hx : Opd Γ x (.raw yv)) (hvs : Opds Γ c.args.toList (ins a))
    (hq : ∀ γ', SOps C T none ops rest ((t, .val rBool r.isLeft) :: Γ) ((yv, K r γ') :: Lr) Q) : SOps C T d ops (o :: rest) Γ L Q := by
  subst hr h0
  refine callm_step (rs := [.val rBool r.isLeft]) (L1 := fun γ' => [(yv, K r γ')]) ks js hn hser hw hd (fun z fr h s => ⟨yv, c.args.toList.map fr.op, by rw [ho]; simp only [aop, opCall, hc, hx.raw s.fr], fun h1 h2 h3 h4 => ?_⟩) (fun γ' => hq γ')
  rw [hL0] at h4 ⊢
  exact hcb.call _ γ a r hs z h1 _ h2 h3 (hvs.ok s.fr) h4
def exitOf : Option Nat → AExit
 | none => .ret
 | some id => .exit id
def pendOf : Option Nat → Code
 | none => .ret
 | some id => .exit id
def stOf {σ τ : Type} (B : ALoop) (X : τ → Option Nat) : σ ⊕ τ → ALoop
 | .inl _ => { B with state := .ready, pending := none }
 | .inr t => { B with state := .done, pending := some (pendOf (X t)) }
def endOf {σ τ : Type} (X : τ → Option Nat) : σ ⊕ τ → AExit
 | .inl _ => .normal
 | .inr t => exitOf (X t)
def rangeK {σ τ : Type} (l : Nat) (B : ALoop) (Γ : Env) (I : σ ⊕ τ → List AVal → Own) (X : τ → Option Nat) (r : σ ⊕ τ) (γ : List AVal) : Obj :=
 .cb (l :: blks (I r γ)) fun z h => (∀ p ∈ I r γ, p.2.ok z h p.1) ∧ h.get l = some (.loop (stOf B X r)) ∧ FrOk z Γ B.fr
theorem rangeK_ok {σ τ : Type} {l : Nat} {B : ALoop} {I : σ ⊕ τ → List AVal → Own} {X : τ → Option Nat} {r : σ ⊕ τ} {γ : List AVal} {v : AVal} (h1 : ∀ p ∈ I r γ, p.2.ok z h p.1) (h2 : h.get l = some (.loop (stOf B X r))) (h3 : FrOk z Γ B.fr) : (rangeK l B Γ I X r γ).ok z h v := by
 refine ⟨⟨h1, h2, h3⟩, fun z z' h h' hz hb q => ⟨fun p hp => ?_, ?_, q.2.2.mono hz⟩⟩
 ·exact Obj.ok_mono hz (fun b hb' => hb b (List.mem_cons_of_mem _ (mem_blks.2 ⟨p, hp, hb'⟩))) (q.1 p hp)
 ·rw [hb l (List.mem_cons_self ..)]; exact q.2.1
def parE : List Nat → List TE → Env → Env
 | p :: ps, e :: es, Γ => parE ps es ((p, e) :: Γ)
 | _, _, Γ => Γ
theorem parE_ok : ∀ {ps : List Nat} {es : List TE} {vs : List AVal} {Γ : Env} {fr : AFrame}, okAll z es vs → FrOk z Γ fr → FrOk z (parE ps es Γ) (putParams ps vs fr)
 | [], es, vs, Γ, fr, _, h => by cases es <;> simpa [parE, putParams] using h
 | p :: ps, [], vs, Γ, fr, hv, h => by
  simp only [okAll] at hv
  subst hv
  simpa [parE, putParams] using h
 | p :: ps, e :: es, vs, Γ, fr, hv, h => by
  simp only [okAll] at hv
  obtain ⟨v, vs', rfl, h1, h2⟩ := hv
  simp only [parE, putParams]
  exact parE_ok h2 (h.set h1)
def BodyP {σ τ : Type} (C : Ctx) (I : σ ⊕ τ → List AVal → Own) (X : τ → Option Nat) (r : σ ⊕ τ) (e : AExit) (fr : AFrame) (h : AHeap) : Prop := e = endOf X r ∧ ∃ γ, St C [] (I r γ) fr h
def AsgP {σ τ : Type} (C : Ctx) (T : Tab) (body : Code) (I : σ ⊕ τ → List AVal → Own) (X : τ → Option Nat) (r : σ ⊕ τ) (e : AExit) (fr : AFrame) (h : AHeap) : Prop := e = .normal ∧ ∃ Γ1 L1, St C Γ1 L1 fr h ∧ ∀ C', SRun C' T body Γ1 L1 (BodyP C' I X r)
theorem StZ.ctx {z0 : Store} {h0 : AHeap} {B0 : List Nat} {l : Nat} {x : ABlk} (s : StZ ⟨z0, h0, B0⟩ Γ L z fr h) (hl : l < h0.next) (hB : l ∉ B0) (hz : z0 l = none) : StZ ⟨z0, h0.set l x, B0⟩ Γ L z fr (h.set l x) := by
  have hzl : z l = none := by rw [s.old l hl hB]; exact hz
  have hout : ∀ p ∈ L, ∀ b, b ∈ blkE p → b ≠ l := by
    intro p hp b hb e
    subst e
    rcases (s.own.out p hp b hb).2.2 with q | q
    · have q : h0.next ≤ b := q; omega
    · exact hB q
  refine { zle := s.zle, sub := fun b y hb => ?_, old := s.old, fr := s.fr, own := ⟨fun p hp => ?_, s.own.out, s.own.nodup⟩, chg := ⟨s.chg.next, fun b hb hb' => ?_, fun m m1 m2 m3 => ?_, ?_⟩ }
  · obtain ⟨h1, h2⟩ := s.sub b y hb
    exact ⟨by rw [AHeap.get_set, if_neg (fun e => by subst e; rw [hzl] at hb; cases hb)]; exact h1, h2⟩
  · exact Obj.ok_mono (.refl _) (fun b hb => by rw [AHeap.get_set, if_neg (fun e => hout p hp b hb e)]) (s.own.ok p hp)
  · rw [AHeap.get_set]
    show _ = (h0.set l x).get b
    rw [AHeap.get_set]
    split
    · rfl
    · exact s.chg.same b hb hb'
  · have m1 : m ≤ min h0.wm l := m1
    have := s.chg.wm m (by have : m ≤ h0.wm := by omega
                           exact this) m2 m3
    show m ≤ min h.wm l
    omega
  · show min h.wm l ≤ h.next
    have := s.chg.ok
    omega
theorem range_cb {σ τ X : Type} {ins : X → List TE} {step : σ → X → Option (σ ⊕ τ)} {I : σ ⊕ τ → List AVal → Own} {E : τ → Option Nat} {l : Nat} {params : List Nat} {assign body : Code} {fr0 : AFrame} (hp : ∀ x, (ins x).length = params.length)
    (hb : ∀ s γ x r, step s x = some r → ∀ C, SRun C T assign (parE params (ins x) Γ) (I (.inl s) γ) (AsgP C T body I E r)) :
    CbAt T (.func (.yield l) [] []) ins step (rangeK l { state := .ready, pending := none, fr := fr0, params := params, assign := assign, body := body } Γ I E) := by
  refine ⟨fun s γ x r hs => ?_, rfl, rfl⟩
  intro z h vs hsub hwm hvs hown
  have hko := hown.ok _ (List.mem_singleton.2 rfl)
  obtain ⟨⟨k1, k2, k3⟩, _⟩ := hko
  have hblk : blks [((AVal.func (.yield l) [] [] : AVal), rangeK l { state := .ready, pending := none, fr := fr0, params := params, assign := assign, body := body } Γ I E (.inl s) γ)] = l :: blks (I (.inl s) γ) := by
    rw [blks_cons]; simp [blks, blkE, rangeK]
  have hnd := hown.nodup
  rw [hblk] at hnd ⊢
  have hl : l < h.next ∧ z l = none := by
    have := hown.out _ (List.mem_singleton.2 rfl) l (List.mem_cons_self ..)
    exact ⟨this.2.1, this.1⟩
  have hlB : l ∉ blks (I (.inl s) γ) := (List.nodup_cons.1 hnd).1
  -- the assignments
  have s1 : StZ ⟨z, h, blks (I (.inl s) γ)⟩ (parE params (ins x) Γ) (I (.inl s) γ) z (putParams params vs fr0) h :=
    { zle := .refl _, sub := hsub, old := fun _ _ _ => rfl, fr := parE_ok hvs k3,
      own := ⟨k1, fun p hp b hb => by
        have := hown.out _ (List.mem_singleton.2 rfl) b (List.mem_cons_of_mem _ (mem_blks.2 ⟨p, hp, hb⟩))
        exact ⟨this.1, this.2.1, .inr (mem_blks.2 ⟨p, hp, hb⟩)⟩, (List.nodup_cons.1 hnd).2⟩,
      chg := ⟨Nat.le_refl _, fun _ _ _ => rfl, fun _ m1 _ _ => m1, hwm⟩ }
  obtain ⟨n1, e1, fr1, h1, a1, rfl, Γ1, L1, ⟨z1, t1⟩, hbody⟩ := hb s γ x r hs _ _ _ ⟨z, s1⟩
  have hg1 : h1.get l = h.get l := t1.chg.same l hl.1 hlB
  -- the body
  have t2 := t1.ctx (x := .loop { state := .busy, pending := none, fr := fr0, params := params, assign := assign, body := body }) hl.1 hlB hl.2
  obtain ⟨n2, e2, fr2, h2, a2, rfl, γ', z2, t3⟩ := hbody _ _ _ ⟨z1, t2⟩
  have hl3 : ∀ b, b ∈ blks (I r γ') → b ≠ l := by
    intro b hb' e
    subst e
    obtain ⟨p, hp, hb'⟩ := mem_blks.1 hb'
    rcases (t3.own.out p hp b hb').2.2 with q | q
    · have q : h.next ≤ b := q; omega
    · exact hlB q
  have hz2 : z2 l = none := by rw [t3.old l hl.1 hlB]; exact hl.2
  have hn2 : h.next ≤ h2.next := t3.chg.next
  have hlen : vs.length = params.length := by rw [okAll_len hvs]; exact hp x
  have fin : around (aexec T (max n1 n2)) l vs h = some (.ret (.bool r.isLeft), h2.set l (.loop (stOf { state := .ready, pending := none, fr := fr0, params := params, assign := assign, body := body } E r))) := by
    have c1 := aexec_le (T := T) (Nat.le_max_left n1 n2) _ _ _ _ a1
    have c2 := aexec_le (T := T) (Nat.le_max_right n1 n2) _ _ _ _ a2
    unfold around
    simp only [k2, stOf, hlen, and_self, if_true, c1, hg1, c2]
    cases r with
    | inl s' => rfl
    | inr t' =>
      simp only [endOf, stOf]
      cases hE : E t' <;> rfl
  refine ⟨max n1 n2, .ret (.bool r.isLeft), h2.set l (.loop (stOf { state := .ready, pending := none, fr := fr0, params := params, assign := assign, body := body } E r)), ?_, ?_⟩
  · simp only [acall, List.nil_append]
    exact fin
  refine ⟨[.bool r.isLeft], z2, γ', rfl, rfl, ⟨hn2, fun b hb' hB => ?_, fun m m1 m2 m3 => ?_, ?_⟩, t3.zle, fun b y hby => ?_, fun b hb' hB => ?_, ?_, ⟨fun p hp => ?_, fun p hp b hb' => ?_, ?_⟩⟩
  · rw [AHeap.get_set, if_neg (fun e => by subst e; exact hB (List.mem_cons_self ..))]
    have := t3.chg.same b hb' (fun q => hB (List.mem_cons_of_mem _ q))
    rw [this]
    show (h.set l _).get b = _
    rw [AHeap.get_set, if_neg (fun e => by subst e; exact hB (List.mem_cons_self ..))]
  · have ml : m ≤ l := m3 l (List.mem_cons_self ..)
    have := t3.chg.wm m (by show m ≤ min h.wm l; have m1 : m ≤ h.wm := m1; omega) m2 (fun b hb' => m3 b (List.mem_cons_of_mem _ hb'))
    show m ≤ min h2.wm l
    omega
  · show min h2.wm l ≤ h2.next
    have := t3.chg.ok
    omega
  · obtain ⟨q1, q2⟩ := t3.sub b y hby
    exact ⟨by rw [AHeap.get_set, if_neg (fun e => by subst e; rw [hz2] at hby; cases hby)]; exact q1, q2⟩
  · exact t3.old b hb' (fun q => hB (List.mem_cons_of_mem _ q))
  · simp only [tes, okAll, TE.ok]
    exact ⟨_, _, rfl, tv_bool_mk, rfl⟩
  · rw [show owns [RE.val rBool r.isLeft] [AVal.bool r.isLeft] = [] from rfl, List.nil_append, List.mem_singleton] at hp
    subst hp
    refine rangeK_ok (fun p hp => ?_) (by rw [AHeap.get_set, if_pos rfl]) (k3.mono t3.zle)
    exact Obj.ok_mono (.refl _) (fun b hb' => by rw [AHeap.get_set, if_neg (hl3 b (mem_blks.2 ⟨p, hp, hb'⟩))]) (t3.own.ok p hp)
  · rw [show owns [RE.val rBool r.isLeft] [AVal.bool r.isLeft] = [] from rfl, List.nil_append, List.mem_singleton] at hp
    subst hp
    rcases List.mem_cons.1 hb' with rfl | hb'
    · exact ⟨hz2, Nat.lt_of_lt_of_le hl.1 hn2, .inr (List.mem_cons_self ..)⟩
    · obtain ⟨p, hp, hb'⟩ := mem_blks.1 hb'
      obtain ⟨o1, o2, o3⟩ := t3.own.out p hp b hb'
      refine ⟨o1, o2, ?_⟩
      rcases o3 with q | q
      · exact .inl q
      · exact .inr (List.mem_cons_of_mem _ q)
  · rw [show owns [RE.val rBool r.isLeft] [AVal.bool r.isLeft] = [] from rfl, List.nil_append, blks_cons]
    show (l :: blks (I r γ') ++ blks []).Nodup
    simp only [blks, List.flatMap_nil, List.append_nil]
    exact List.nodup_cons.2 ⟨fun q => hl3 l q rfl, t3.own.nodup⟩
theorem picks_succ {x : AVal × Obj} : ∀ {is : List Nat}, picks (x :: L) (is.map (· + 1)) = picks L is
 | [] => rfl
 | i :: is => by
  simp only [List.map_cons, picks, List.getElem?_cons_succ]
  cases L[i]? with
  | none => exact picks_succ
  | some p => simp only [picks_succ]
theorem picks_all : ∀ {L : Own}, picks L (List.range L.length) = L
 | [] => rfl
 | x :: L => by
  rw [List.length_cons, List.range_succ_eq_map]
  simp only [picks, List.getElem?_cons_zero]
  have e : (List.range L.length).map Nat.succ = (List.range L.length).map (· + 1) := rfl
  rw [e, picks_succ, picks_all]
theorem r_range {σ τ X : Type} {ins : X → List TE} {step : σ → X → Option (σ ⊕ τ)} (I : σ ⊕ τ → List AVal → Own) (E : τ → Option Nat) {f : Operand} {params : Array Nat} {assign body : Code} {g : FuncId} {ps cs : List TE} {s0 : σ} {r : σ ⊕ τ} {Lr : Own} (γ0 : List AVal) (ks js : List Nat)
    (hcst : T.consts.get g = none) (hf : Opd Γ f (.val (rClo g ps cs) ())) (h0 : picks L ks = I (.inl s0) γ0) (hr : picks L js = Lr) (hn : (ks ++ js).Nodup) (hp : ∀ x, (ins x).length = params.size)
    (hit : ∀ (yv : AVal) (K : σ ⊕ τ → List AVal → Obj), CbAt T yv ins step K → ∀ γ, FunM T g (ps ++ [.raw yv] ++ cs) [(yv, K (.inl s0) γ)] [] fun γ' => [(yv, K r γ')])
    (hb : ∀ s γ x r, step s x = some r → ∀ C, SRun C T assign (parE params.toList (ins x) Γ) (I (.inl s) γ) (AsgP C T body I E r))
    (out : ∀ γ fr h, St C Γ (I r γ ++ Lr) fr h → P (endOf E r) fr h) : SRun C T (.rangeFunc f params assign body) Γ L P := by
  subst hr
  intro fr h ⟨z, s⟩
  obtain ⟨us0, vs0, ev, hps, hcs⟩ := tv_clo (hf.val s.fr)
  have hpk : StZ C Γ (I (.inl s0) γ0 ++ picks L js) z fr h := by
    have e : picks L (ks ++ js) = I (.inl s0) γ0 ++ picks L js := by rw [picks_app, h0]
    rw [← e]
    exact { s with own := ⟨fun p hp => s.own.ok p (picks_sub hp), fun p hp => s.own.out p (picks_sub hp), picks_nodup s.own.nodup hn⟩ }
  generalize picks L js = Lr at hpk out
  let B : ALoop := { state := .ready, pending := none, fr := fr, params := params.toList, assign := assign, body := body }
  have cb : CbAt T (.func (.yield h.next) [] []) ins step (rangeK h.next B Γ I E) := range_cb (by simpa using hp) hb
  have s2 : StZ C Γ ((.func (.yield h.next) [] [], .cb [h.next] fun _ h' => h'.get h.next = some (.loop B)) :: (I (.inl s0) γ0 ++ Lr)) z fr (h.push (.loop B)) :=
    hpk.pushOwn (.loop B) rfl ⟨by show (h.push (.loop B)).get h.next = _; rw [AHeap.get_push, if_pos rfl], fun _ _ h1 h1' _ hb q => by
      have q : h1.get h.next = some (.loop B) := q
      show h1'.get h.next = _
      rw [hb _ (List.mem_singleton.2 rfl)]; exact q⟩
  have s3 : StZ C Γ ((.func (.yield h.next) [] [], rangeK h.next B Γ I E (.inl s0) γ0) :: Lr) z fr (h.push (.loop B)) := by
    refine s2.repack (List.Perm.of_eq ?_) fun p hp' => ?_
    · rw [blks_cons, blks_cons]
      show (h.next :: blks (I (.inl s0) γ0)) ++ blks Lr = [h.next] ++ blks (I (.inl s0) γ0 ++ Lr)
      simp [blks]
    · rcases List.mem_cons.1 hp' with rfl | hp'
      · exact rangeK_ok (fun p hp => s2.own.ok p (List.mem_cons_of_mem _ (List.mem_append_left _ hp))) (by rw [AHeap.get_push, if_pos rfl]; rfl) s.fr
      · exact s2.own.ok p (List.mem_cons_of_mem _ (List.mem_append_right _ hp'))
  have hjs : picks ((.func (.yield h.next) [] [], rangeK h.next B Γ I E (.inl s0) γ0) :: Lr) ((List.range Lr.length).map (· + 1)) = Lr := by rw [picks_succ, picks_all]
  have hnd : ([0] ++ (List.range Lr.length).map (· + 1)).Nodup := by
    refine List.nodup_append.2 ⟨by simp, List.Pairwise.map _ (fun a b q e => q (by omega)) List.nodup_range, fun a ha b hb e => ?_⟩
    rw [List.mem_singleton] at ha
    subst ha
    obtain ⟨i, _, q⟩ := List.mem_map.1 hb
    omega
  have hL := s3.lent (ks := [0]) (by simp)
  have hcall := hit _ _ cb γ0 z (h.push (.loop B)) (us0 ++ [.func (.yield h.next) [] []] ++ vs0) s3.sub s3.chg.ok (okAll_append (okAll_append hps (by simp [okAll, TE.ok])) hcs) hL
  have hcall := callV_func (a := us0) (b := vs0) hcst hcall
  obtain ⟨n, r', h2, hrun, us, z', γ, e1, hl, q, hz, hs, hold, hok, hown⟩ := hcall
  have hus : us = [] := List.length_eq_zero_iff.1 hl
  subst hus
  have s4 := s3.afterM (ks := [0]) (js := (List.range Lr.length).map (· + 1)) hnd q hz hs hold hown
  rw [hjs] at s4
  have s4 : StZ C Γ ((.func (.yield h.next) [] [], rangeK h.next B Γ I E r γ) :: Lr) z' fr h2 := s4
  obtain ⟨⟨o1, o2, _⟩, _⟩ := s4.own.ok _ (List.mem_cons_self ..)
  obtain ⟨w1, w2, w3⟩ := s4.own.out _ (List.mem_cons_self ..) h.next (List.mem_cons_self ..)
  have hnd4 : (h.next :: (blks (I r γ) ++ blks Lr)).Nodup := by
    have := s4.own.nodup
    rw [blks_cons] at this
    exact this
  have hblk : blks (I r γ ++ Lr) = blks (I r γ) ++ blks Lr := by simp [blks]
  have s5 : StZ C Γ (I r γ ++ Lr) z' fr h2 := by
    refine { s4 with own := ⟨fun p hp' => ?_, fun p hp' b hb' => ?_, by rw [hblk]; exact (List.nodup_cons.1 hnd4).2⟩ }
    · rcases List.mem_append.1 hp' with hp' | hp'
      · exact o1 p hp'
      · exact s4.own.ok p (List.mem_cons_of_mem _ hp')
    · rcases List.mem_append.1 hp' with hp' | hp'
      · exact s4.own.out _ (List.mem_cons_self ..) b (List.mem_cons_of_mem _ (mem_blks.2 ⟨p, hp', hb'⟩))
      · exact s4.own.out p (List.mem_cons_of_mem _ hp') b hb'
  have s6 : ∀ x, StZ C Γ (I r γ ++ Lr) z' fr (h2.set h.next x) := fun x => s5.wild w1 w2 w3 (by rw [hblk]; exact (List.nodup_cons.1 hnd4).1) x
  have hrun' : acall T (aexec T n) (fr.op f) [.func (.yield h.next) [] []] (h.push (.loop { state := .ready, pending := none, fr := fr, params := params.toList, assign := assign, body := body })) = some (r', h2) := by rw [ev]; exact hrun
  subst e1
  refine ⟨n + 1, endOf E r, fr, h2.set h.next (.loop { stOf B E r with state := .exhausted }), ?_, out γ fr _ ⟨z', s6 _⟩⟩
  simp only [aexec, hrun', o2]
  cases r with
  | inl s' => rfl
  | inr t' =>
    simp only [stOf, endOf]
    cases hE : E t' <;> rfl
def goL {σ τ : Type} : σ ⊕ τ → Option σ
 | .inl s => some s
 | .inr _ => none
theorem goL_inv {σ τ : Type} {r : σ ⊕ τ} {s : σ} (h : goL r = some s) : r = .inl s := by
 cases r with
 | inl a => cases h; rfl
 | inr b => cases h
def altO {σ τ A : Type} {B : Type 1} (f : σ → A → B) (g : τ → A → B) : σ ⊕ τ → A → B
 | .inl s => f s
 | .inr t => g t
theorem st_cbl {σ τ : Type} {K : σ ⊕ τ → List AVal → Obj} {yv : AVal} {r : σ ⊕ τ} {s : σ} {γ : List AVal} (k : Nat) (hr : r = .inl s) (hk : L[k]? = some (yv, K r γ)) {L' : Own} (hL : setAt L k (yv, K (.inl s) γ) = some L') : ∀ z fr h, StZ C Γ L z fr h → ∃ z', z.le z' ∧ StZ C Γ L' z' fr h := fun z fr h s0 => by
 subst hr
 obtain ⟨rfl, _⟩ := setAt_eq hL
 rw [set_same hk]
 exact ⟨z, .refl _, s0⟩
theorem st_rawcb {σ τ X : Type} {ins : X → List TE} {step : σ → X → Option (σ ⊕ τ)} {K : σ ⊕ τ → List AVal → Obj} {yv : AVal} {n : Nat} (hcb : CbAt T yv ins step K) (hl : look Γ n = some (.raw yv)) : ∀ z fr h, StZ C Γ L z fr h → ∃ z', z.le z' ∧ StZ C ((n, .val rRaw yv) :: Γ) L z' fr h := fun z fr h s => by
 have h1 := s.fr _ _ hl
 simp only [TE.ok] at h1
 refine ⟨z, .refl _, { s with fr := frok_at s.fr ?_ }⟩
 simp only [TE.ok]
 rw [h1]
 have hone := hcb.one
 have hagg := hcb.agg
 refine ⟨⟨?_, hone, hagg⟩, hagg⟩
 cases yv <;> simp_all [AVal.isAgg, AVal.cells]
theorem funm_gh {g : FuncId} {as : List TE} {L0 : Own} {rs : List RE} {yv : AVal} {F : List AVal → Obj} (h : FunM T g as L0 rs fun γ => [(yv, F (untup (gh γ 0)))]) : FunM T g as L0 rs fun γ => [(yv, F γ)] := fun z hp vs h1 h2 h3 h4 =>
 (h z hp vs h1 h2 h3 h4).mono fun _ _ ⟨us, z', γ, q⟩ => ⟨us, z', untup (gh γ 0), q⟩
def rSelfP (g : FuncId) (cs : List TE) : Rep Unit :=
 ⟨1, false, fun z xs _ => ∃ b us ro, xs = [.ptr b 0] ∧ z b = some (.arr [.func (.func g) [] (us ++ [.ptr b 0])] ro) ∧ okAll z cs us, fun _ _ _ h => by obtain ⟨_, _, _, h, _⟩ := h; rw [h]; rfl,
  fun _ _ _ _ e h => let ⟨b, us, ro, h1, h2, h3⟩ := h; ⟨b, us, ro, h1, e _ _ h2, okAll_mono e h3⟩, fun _ => rfl, fun _ _ _ h => by obtain ⟨_, _, _, h, _⟩ := h; rw [h]; rfl⟩
theorem tv_self {g : FuncId} {cs : List TE} {v : AVal} {x : Unit} (q : TV (rSelfP g cs) z v x) : ∃ b us ro, v = .ptr b 0 ∧ z b = some (.arr [.func (.func g) [] (us ++ [.ptr b 0])] ro) ∧ okAll z cs us := by
 obtain ⟨⟨b, us, ro, h1, h2, h3⟩, h4⟩ := q
 refine ⟨b, us, ro, ?_, h2, h3⟩
 cases v <;> simp_all [AVal.isAgg, AVal.cells, rSelfP]
theorem st_freezeg {e : TE} {es : List TE} {b : Nat} (k : Nat) (ts : List Nat) (hc : ∀ z cells, z b = some (.arr cells false) → okAll z es cells → e.ok z (.ptr b 0)) {L' : Own} (hk : L[k]? = some (.ptr b 0, .box es)) (hL : dropAt L k = some L') (hts : AllRaw Γ (.ptr b 0) ts) : ∀ z fr h, StZ C Γ L z fr h → ∃ z', z.le z' ∧ StZ C (holdAll ts e Γ) L' z' fr h := by
 intro z fr h s
 have ho := s.own.ok _ (List.mem_of_getElem? hk)
 simp only [Obj.ok] at ho
 obtain ⟨b', cells, q, h2, h3, h4⟩ := ho
 cases q
 obtain ⟨o1, o2, o3⟩ := s.own.out _ (List.mem_of_getElem? hk) b (by simp [blkE, blkO])
 have hle : z.le (z.add b (.arr cells false)) := add_le o1
 have s' := s.drop hL
 have hne : ∀ p ∈ L', ∀ c, c ∈ blkE p → c ≠ b := by
  intro p hp c hcb e
  subst e
  have hp' := (List.Perm.flatMap_right blkE (dropAt_perm hk hL)).nodup_iff.2 s.own.nodup
  have hp' : (blks ((AVal.ptr c 0, Obj.box es) :: L')).Nodup := hp'
  rw [blks_cons] at hp'
  exact (List.nodup_append.1 hp').2.2 c (by simp [blkE, blkO]) c (mem_blks.2 ⟨p, hp, hcb⟩) rfl
 refine ⟨z.add b (.arr cells false), hle, { zle := s.zle.trans hle, sub := ?_, old := ?_, fr := holdAll_ok (hc _ _ add_at (okAll_mono hle h3)) hts (s.fr.mono hle), own := ⟨fun p hp => Obj.ok_mono hle (fun _ _ => rfl) (s'.own.ok p hp), fun p hp c hc => ?_, s'.own.nodup⟩, chg := s.chg }⟩
 ·intro c y hc
  by_cases e : c = b
  ·subst e; rw [add_at] at hc; cases hc; exact ⟨h2, o2⟩
  ·rw [add_ne e] at hc; exact s.sub c y hc
 ·intro c hc hB
  rw [add_ne]
  ·exact s.old c hc hB
  ·intro e; subst e
   rcases o3 with q | q
   ·omega
   ·exact hB q
 ·obtain ⟨q1, q2, q3⟩ := s'.own.out p hp c hc
  exact ⟨by rw [add_ne (hne p hp c hc)]; exact q1, q2, q3⟩
theorem self_box {g : FuncId} {cs cs' : List TE} {b : Nat} (e : cs' = cs ++ [.raw (.ptr b 0)]) : ∀ z cells, z b = some (.arr cells false) → okAll z [.val (rClo g [] cs') ()] cells → (TE.val (rSelfP g cs) ()).ok z (.ptr b 0) := fun z cells hz h => by
 subst e
 simp only [okAll, TE.ok] at h ⊢
 obtain ⟨v, vs, rfl, h1, rfl⟩ := h
 obtain ⟨us, ws, rfl, h2, h3⟩ := tv_clo h1
 simp only [okAll] at h2
 subst h2
 obtain ⟨u1, u2, rfl, h4, h5⟩ := okAll_app.1 h3
 simp only [okAll, TE.ok] at h5
 obtain ⟨w, ws', rfl, rfl, rfl⟩ := h5
 exact ⟨⟨b, u1, false, rfl, hz, h4⟩, rfl⟩
theorem s_loadself {g : FuncId} {cs cs' : List TE} {x : Operand} {et : TypeId} (e : cs' = cs ++ [.val (rSelfP g cs) ()]) (hu : Und T et rRaw) (hw : Want ops Γ true o.guard) (ho : o.op = .load et x) (hd : o.dst = some t)
    (hx : Opd Γ x (.val (rSelfP g cs) ())) (r : SOps C T d ops rest ((t, .val (rClo g [] cs') ()) :: Γ) L Q) : SOps C T d ops (o :: rest) Γ L Q := by
  subst e
  have hf : ∀ z fr h, StZ C Γ L z fr h → foot fr.op o = ⟨blkOf (fr.op x), false, [], false⟩ := fun z fr h s => by unfold foot; rw [ho]
  have hq : ∀ z fr h, StZ C Γ L z fr h → ∀ b, b ∈ blkOf (fr.op x) → z b ≠ none ∧ b < h.next := fun z fr h s b hb => by
    obtain ⟨b', us, ro, h1, h2, _⟩ := tv_self (hx.val s.fr)
    rw [h1] at hb
    simp [blkOf] at hb
    subst hb
    exact ⟨by rw [h2]; exact fun q => (nomatch q), (s.sub _ _ h2).2⟩
  refine s_pureF (.f fun z fr h s => by rw [hf z fr h s]; exact ⟨rfl, rfl, fun b hb => (hq z fr h s b hb).1, fun q => by rw [ho] at q; cases q⟩) (fun z fr h s => by rw [hf z fr h s]; exact ⟨fun b hb => (hq z fr h s b hb).2, fun b hb => (nomatch hb)⟩) hw hd (fun z fr h s => ?_) r
  have hv := hx.val s.fr
  obtain ⟨b, us, ro, h1, h2, h3⟩ := tv_self hv
  have hrel : rRaw.rel z (([AVal.func (.func g) [] (us ++ [.ptr b 0])].drop 0).take rRaw.sz) (.func (.func g) [] (us ++ [.ptr b 0])) := ⟨rfl, rfl, rfl⟩
  obtain ⟨v, h5, h6⟩ := apart_ok (R := rRaw) hu.sz hu.agg (by simp [rRaw]) hrel
  have hv' := tv_raw h6
  subst hv'
  refine ⟨.func (.func g) [] (us ++ [.ptr b 0]), ?_, ?_⟩
  · rw [ho]
    simp only [aop, h1, aload, (s.sub _ _ h2).1, h5, optVal, Option.map]
  · simp only [TE.ok]
    refine ⟨⟨[], us ++ [.ptr b 0], rfl, by simp only [okAll], ?_⟩, rfl⟩
    refine okAll_append h3 ?_
    simp only [okAll, TE.ok]
    rw [h1] at hv
    exact ⟨_, _, rfl, hv, rfl⟩
theorem st_wk {Γ' : Env} {L' : Own} {R : AFrame → AHeap → Prop} (is : List Nat) (q : AllIn Γ Γ') (hL : picks L is = L') (hn : is.Nodup) (k : ∀ fr h, St C Γ' L' fr h → R fr h) : ∀ fr h, St C Γ L fr h → R fr h := fun fr h s => k fr h (s.pick is q hL hn)
def LendOk (C : Ctx) (Γ : Env) (L : Own) (x : Operand) (e : TE) : Prop := ∀ z fr h, StZ C Γ L z fr h → e.ok h.st (fr.op x)
inductive LendsK (C : Ctx) (Γ : Env) (L : Own) : List Operand → List TE → Prop where
 | n : LendsK C Γ L [] []
 | c {x : Operand} {e : TE} {xs : List Operand} {es : List TE} (h : LendOk C Γ L x e) (r : LendsK C Γ L xs es) : LendsK C Γ L (x :: xs) (e :: es)
theorem LendsK.ok {xs : List Operand} {es : List TE} (q : LendsK C Γ L xs es) (s : StZ C Γ L z fr h) : okAll h.st es (xs.map fr.op) := by
 induction q with
 | n => simp [okAll]
 | c h _ ih => simp only [okAll, List.map]; exact ⟨_, _, rfl, h _ _ _ s, ih⟩
def CapOk (C : Ctx) (Γ : Env) (L : Own) (e e' : TE) : Prop := ∀ z fr h a, StZ C Γ L z fr h → e.ok z a → e'.ok h.st a
inductive CapsK (C : Ctx) (Γ : Env) (L : Own) : List TE → List TE → Prop where
 | n : CapsK C Γ L [] []
 | c {e e' : TE} {es es' : List TE} (h : CapOk C Γ L e e') (r : CapsK C Γ L es es') : CapsK C Γ L (e :: es) (e' :: es')
theorem CapsK.ok {es es' : List TE} (q : CapsK C Γ L es es') (s : StZ C Γ L z fr h) : ∀ {vs : List AVal}, okAll z es vs → okAll h.st es' vs := by
 induction q with
 | n => intro vs h; simpa [okAll] using h
 | c h _ ih =>
  intro vs hv
  simp only [okAll] at hv ⊢
  obtain ⟨v, vs', rfl, h1, h2⟩ := hv
  exact ⟨v, vs', rfl, h _ _ _ _ s h1, ih h2⟩
def slO3 {A : Type} (xs : List A) (j k : Int) : Option (List A) := if xs ≠ [] ∧ 0 ≤ j ∧ j ≤ k ∧ k ≤ xs.length then some (xs.take j.toNat) else none
theorem s_sl3o {A : Type} {R : Rep A} {xs ys : List A} {x hi mx : Operand} {st et : TypeId} {v : AVal} {j k : Int} (kk : Nat) (hsl : Sl T st et R) (hn : slO3 xs j k = some ys) (hw : Want ops Γ true o.guard) (ho : o.op = .slice st x none (some hi) (some mx)) (hd : o.dst = some t)
    (hx : Opd Γ x (.raw v)) (hk : L[kk]? = some (v, .row R xs)) (hh : Opd Γ hi (.val (rInt .i64) j)) (hm : Opd Γ mx (.val (rInt .i64) k)) {L' : Own} (hL : dropAt L kk = some L') (r : ∀ v', SOps C T d ops rest ((t, .raw v') :: Γ) ((v', .row R ys) :: L') Q) : SOps C T d ops (o :: rest) Γ L Q := by
  unfold slO3 at hn
  split at hn
  case isFalse => cases hn
  cases hn
  rename_i hc
  obtain ⟨c0, c1, c2, c3⟩ := hc
  refine s_memv (e := fun v' => .raw v') (L' := fun v' => (v', .row R (xs.take j.toNat)) :: L') (nf (by rw [ho]; rfl)) (fun _ _ _ _ => nfo (by rw [ho]; rfl)) hw hd (fun z fr h s => ?_) r
  have hp := dropAt_perm hk hL
  have hr := s.own.ok _ (List.mem_of_getElem? hk)
  simp only [Obj.ok] at hr
  rcases hr.2 with ⟨_, q⟩ | ⟨b, off, cap, cells, rfl, g1, g2, g3, g4⟩
  · exact absurd q c0
  · have hlen : (xs.take j.toNat).length = j.toNat := by rw [List.length_take]; omega
    refine ⟨.slice b off j.toNat R.sz (some k.toNat), h, .slice b off j.toNat R.sz (some k.toNat), ?_, s.repack (L' := (.slice b off j.toNat R.sz (some k.toNat), .row R (xs.take j.toNat)) :: L') ?_ (fun p hp' => ?_), by simp only [TE.ok]⟩
    · rw [ho]
      have hk1 : k.toNat ≤ xs.length := by omega
      have hj1 : j.toNat ≤ k.toNat := by omega
      simp only [aop, hx.raw s.fr, hh.int s.fr, hm.int s.fr, aslice, hsl.und, hsl.sz, Option.map]
      rw [if_pos (by exact ⟨trivial, hsl.pos⟩)]
      have a2 : abound (some (.int .i64 j)) xs.length k.toNat = some j.toNat := if_pos ⟨c1, by omega⟩
      cases cap with
      | none =>
        have a1 : abound (some (.int .i64 k)) xs.length xs.length = some k.toNat := if_pos ⟨by omega, c3⟩
        simp only [a1, a2]
        simp [abound, optVal]
      | some c =>
        have := (g3 c rfl).1
        have a1 : abound (some (.int .i64 k)) c c = some k.toNat := if_pos ⟨by omega, by omega⟩
        simp only [a1, a2, Option.isSome_some, Option.isNone_some, Bool.and_false, Bool.false_eq_true, if_false]
        simp [abound, optVal]
    · refine List.Perm.trans (List.Perm.of_eq ?_) (blks_perm hp)
      rw [blks_cons, blks_cons]; rfl
    · rcases List.mem_cons.1 hp' with rfl | hp'
      · refine ⟨by rw [hlen]; have := hr.1; omega, .inr ⟨b, off, some k.toNat, cells, by rw [hlen], g1, ?_, fun c q => ?_, fun i x hi => ?_⟩⟩
        · rw [hlen]
          have := Nat.mul_le_mul_right R.sz (show j.toNat ≤ xs.length by omega)
          omega
        · cases q
          rw [hlen]
          have := Nat.mul_le_mul_right R.sz (show k.toNat ≤ xs.length by omega)
          exact ⟨by omega, by omega⟩
        · rw [List.getElem?_take] at hi
          split at hi
          · exact g4 i x hi
          · cases hi
      · exact s.own.ok p (hp.mem_iff.1 (List.mem_cons_of_mem _ hp'))
end
end Go.Ai.Sx

/- Maps from numbers that are owned. -/
namespace Go.Ai.Sx
def mget {B : Type} : List (Int × B) → Int → Option B
 | [], _ => none
 | (k, v) :: es, x => if x = k then some v else mget es x
def mset {B : Type} : List (Int × B) → Int → B → List (Int × B)
 | [], x, v => [(x, v)]
 | (k, w) :: es, x, v => if x = k then (x, v) :: es else (k, w) :: mset es x v
def MpRel {B : Type} (R : Rep B) (k : IntKind) (z : Store) (l : List (AVal × AVal)) (es : List (Int × B)) : Prop :=
 l.length = es.length ∧ ∀ (i : Nat) (p : AVal × AVal) (q : Int × B), l[i]? = some p → es[i]? = some q → p.1 = .int k q.1 ∧ TV R z p.2 q.2
theorem mprel_cons {B : Type} {R : Rep B} {k : IntKind} {z : Store} {p : AVal × AVal} {l : List (AVal × AVal)} {q : Int × B} {es : List (Int × B)} : MpRel R k z (p :: l) (q :: es) ↔ (p.1 = .int k q.1 ∧ TV R z p.2 q.2) ∧ MpRel R k z l es := by
 constructor
 ·rintro ⟨h1, h2⟩
  refine ⟨h2 0 p q rfl rfl, by simpa using h1, fun i p' q' hp hq => h2 (i + 1) p' q' (by simpa using hp) (by simpa using hq)⟩
 ·rintro ⟨h1, h2, h3⟩
  refine ⟨by simp [h2], fun i p' q' hp hq => ?_⟩
  cases i with
  | zero => simp at hp hq; subst hp hq; exact h1
  | succ i => exact h3 i p' q' (by simpa using hp) (by simpa using hq)
theorem afind_rel {B : Type} {R : Rep B} {k : IntKind} {z : Store} {x : Int} : ∀ {l : List (AVal × AVal)} {es : List (Int × B)} {n : Nat}, MpRel R k z l es →
    (mget es x = none ∧ afind (.int k x) l n = some none ∧ ∀ (v : AVal) (w : B), TV R z v w → MpRel R k z (l ++ [(.int k x, v)]) (mset es x w)) ∨
    (∃ i v y, mget es x = some y ∧ afind (.int k x) l n = some (some (n + i, v)) ∧ TV R z v y ∧ ∀ (v : AVal) (w : B), TV R z v w → MpRel R k z (l.set i (.int k x, v)) (mset es x w))
  | [], [], n, h => .inl ⟨rfl, rfl, fun v w hw => mprel_cons.2 ⟨⟨rfl, hw⟩, h⟩⟩
  | [], _ :: _, _, h => by have := h.1; simp at this
  | _ :: _, [], _, h => by have := h.1; simp at this
  | (pk, pv) :: l, (qk, qv) :: es, n, h => by
    obtain ⟨⟨h1, h2⟩, h3⟩ := mprel_cons.1 h
    simp only at h1 h2
    subst h1
    by_cases e : x = qk
    · subst e
      right
      refine ⟨0, pv, qv, by simp [mget], by simp [afind, akey], h2, fun v w hw => ?_⟩
      simp only [List.set_cons_zero, mset, if_true]
      exact mprel_cons.2 ⟨⟨rfl, hw⟩, h3⟩
    · have ek : akey (.int k x) (.int k qk) = some false := by simp [akey, e]
      rcases afind_rel (x := x) (n := n + 1) h3 with ⟨a1, a2, a3⟩ | ⟨i, v, y, a1, a2, a3, a4⟩
      · left
        refine ⟨by simp [mget, e, a1], by simp [afind, ek, a2], fun v w hw => ?_⟩
        simp only [mset, if_neg e, List.cons_append]
        exact mprel_cons.2 ⟨⟨rfl, h2⟩, a3 v w hw⟩
      · right
        refine ⟨i + 1, v, y, by simp [mget, e, a1], by simp only [afind, ek, a2]; congr 3; omega, a3, fun v w hw => ?_⟩
        simp only [mset, if_neg e, List.set_cons_succ]
        exact mprel_cons.2 ⟨⟨rfl, h2⟩, a4 v w hw⟩
structure Mp (T : Tab) (mt : TypeId) (k : IntKind) (et : TypeId) : Prop where
 und : ∃ kt, T.und mt = some (.map kt et) ∧ T.und kt = some (.int k)
section
variable {C : Ctx} {T : Tab} {d : Option (List Nat)} {ops rest : List Oper} {Γ : Env} {L : Own} {Q : AFrame → AHeap → Prop} {P : AExit → AFrame → AHeap → Prop} {o : Oper} {t : Nat} {z : Store} {fr : AFrame} {h : AHeap}
theorem s_mkmap {B : Type} (R : Rep B) {mt et : TypeId} {k : IntKind} {r : Option Operand} (hm : Mp T mt k et) (hr : r = none) (hw : Want ops Γ true o.guard) (ho : o.op = .makeMap mt r) (hd : o.dst = some t)
    (go : ∀ b, SOps C T d ops rest ((t, .raw (.map b)) :: Γ) ((.map b, .mp R k []) :: L) Q) : SOps C T d ops (o :: rest) Γ L Q := by
  subst hr
  obtain ⟨kt, h1, h2⟩ := hm.und
  have hno : noFoot o.op = true := by rw [ho]; rfl
  refine step_val hw (nf hno) fun z fr h s => ?_
  refine ⟨.map h.next, h.push (.mp []), z, _, _, by rw [ho]; simp only [aop, opMakeMap, h1], nfo hno, .refl _, ?_, go h.next⟩
  rw [hd, put_some]
  refine (s.pushOwn (.mp []) (v := .map h.next) (ob := .mp R k []) rfl ?_).set (by simp only [TE.ok])
  simp only [Obj.ok]
  exact ⟨h.next, [], rfl, by rw [AHeap.get_push, if_pos rfl], rfl, by simp⟩
theorem s_mapset {B : Type} {R : Rep B} {mt et : TypeId} {k : IntKind} {m x y : Operand} {b : Nat} {es : List (Int × B)} {i : Int} {w : B} (kk : Nat) (hm : Mp T mt k et) (ho : o.op = .mapUpdate mt m x y ∨ o.op = .insert mt m x y) (hk : L[kk]? = some (.map b, .mp R k es)) (hw : Want ops Γ true o.guard) (hd : o.dst = none)
    (hmx : Opd Γ m (.raw (.map b))) (hx : Opd Γ x (.val (rInt k) i)) (hy : Opd Γ y (.val R w)) {L' : Own} (hL : setAt L kk (.map b, .mp R k (mset es i w)) = some L') (r : SOps C T d ops rest Γ L' Q) : SOps C T d ops (o :: rest) Γ L Q := by
  obtain ⟨kt, h1, h2⟩ := hm.und
  have hft : ∀ fr : AFrame, foot fr.op o = ⟨[], false, blkOf (fr.op m), false⟩ := fun fr => by
    rcases ho with ho | ho <;> (unfold foot; rw [ho])
  have hop : ∀ (fr : AFrame) (h : AHeap), aop T fr.op h o.op = optHeap (amapUpdate T mt (fr.op m) (fr.op x) (fr.op y) h) := fun fr h => by
    rcases ho with ho | ho <;> rw [ho] <;> rfl
  refine s_memn (.w (by rcases ho with ho | ho <;> rw [ho] <;> rfl) (fun t a q => by rcases ho with ho | ho <;> (rw [ho] at q; cases q)) (by rcases ho with ho | ho <;> rw [ho] <;> rfl) (fun q => by rcases ho with ho | ho <;> (rw [ho] at q; cases q))) (fun z fr h s => by
    rw [hft]
    exact ⟨fun b hb => (nomatch hb), fun b' hb => own_none s hk rfl b' (by simpa [blkOf, hmx.raw s.fr] using hb)⟩) hw hd (fun z fr h s => ?_) r
  have hob := s.own.ok _ (List.mem_of_getElem? hk)
  simp only [Obj.ok] at hob
  obtain ⟨b', l, e, g1, g2, g3⟩ := hob
  cases e
  have hpk : plainKey T kt (.int k i) = true := by simp [plainKey, h2]
  rcases afind_rel (x := i) (n := 0) (l := l) (es := es) (R := R) (k := k) (z := z) ⟨g2, g3⟩ with ⟨a1, a2, a3⟩ | ⟨j, v, y', a1, a2, a3, a4⟩
  · obtain ⟨k1, k2⟩ := a3 _ w (hy.val s.fr)
    refine ⟨.tuple [], h.set b (.mp (l ++ [(.int k i, fr.op y)])), ?_, s.upd hk rfl rfl _ ?_ hL⟩
    · rw [hop, hmx.raw s.fr, hx.int s.fr]
      simp only [amapUpdate, h1, hpk, if_true, g1, a2]
      rfl
    · simp only [Obj.ok]
      exact ⟨b, _, rfl, by rw [AHeap.get_set, if_pos rfl], k1, k2⟩
  · obtain ⟨k1, k2⟩ := a4 _ w (hy.val s.fr)
    refine ⟨.tuple [], h.set b (.mp (l.set j (.int k i, fr.op y))), ?_, s.upd hk rfl rfl _ ?_ hL⟩
    · rw [hop, hmx.raw s.fr, hx.int s.fr]
      simp only [amapUpdate, h1, hpk, if_true, g1, a2]
      rw [Nat.zero_add]; rfl
    · simp only [Obj.ok]
      exact ⟨b, _, rfl, by rw [AHeap.get_set, if_pos rfl], k1, k2⟩
theorem look_val {B : Type} {R : Rep B} {mt et : TypeId} {k : IntKind} {b : Nat} {es : List (Int × B)} {i : Int} {w0 : B} {kk : Nat} (hm : Mp T mt k et) (hz : Zr T et R w0) (hk : L[kk]? = some (.map b, .mp R k es)) (ok : Bool) (s : StZ C Γ L z fr h) :
    ∃ v, alookup T mt (.map b) (.int k i) ok h = some (if ok then .tuple [v, .bool (mget es i).isSome] else v) ∧ TV R z v ((mget es i).getD w0) := by
  obtain ⟨kt, h1, h2⟩ := hm.und
  have hob := s.own.ok _ (List.mem_of_getElem? hk)
  simp only [Obj.ok] at hob
  obtain ⟨b', l, e, g1, g2, g3⟩ := hob
  cases e
  have hpk : plainKey T kt (.int k i) = true := by simp [plainKey, h2]
  obtain ⟨zv, z1, z2⟩ := hz.zero
  rcases afind_rel (x := i) (n := 0) (l := l) (es := es) (R := R) (k := k) (z := z) ⟨g2, g3⟩ with ⟨a1, a2, _⟩ | ⟨j, v, y', a1, a2, a3, _⟩
  · refine ⟨zv, ?_, by rw [a1]; exact z2 z⟩
    simp only [alookup, h1, hpk, if_true, g1, a2, z1, a1]
    cases ok <;> rfl
  · refine ⟨v, ?_, by rw [a1]; exact a3⟩
    simp only [alookup, h1, hpk, if_true, g1, a2, a1]
    cases ok <;> rfl
theorem s_look {B : Type} {R : Rep B} {mt et : TypeId} {k : IntKind} {m x : Operand} {b : Nat} {es : List (Int × B)} {i : Int} {w0 : B} (kk : Nat) (hls : d = none) (hm : Mp T mt k et) (hz : Zr T et R w0) (hk : L[kk]? = some (.map b, .mp R k es)) (hw : Want ops Γ true o.guard) (ho : o.op = .lookup mt m x false) (hd : o.dst = some t)
    (hmx : Opd Γ m (.raw (.map b))) (hx : Opd Γ x (.val (rInt k) i)) (r : SOps C T d ops rest ((t, .val R ((mget es i).getD w0)) :: Γ) L Q) : SOps C T d ops (o :: rest) Γ L Q := by
  subst hls
  intro fr h ⟨z, s⟩
  obtain ⟨v, e1, e2⟩ := look_val (i := i) hm hz hk false s
  have ha : aop T fr.op h o.op = some (.val v h) := by
    rw [ho]; simp only [aop, hmx.raw s.fr, hx.int s.fr, e1, optVal, Option.map, Bool.false_eq_true, if_false]
  simp only [wX, hw.ok s.fr, ha, hd, put_some]
  exact r _ _ ⟨z, s.set (by simp only [TE.ok]; exact e2)⟩
theorem s_lookok {B : Type} {R : Rep B} {mt et : TypeId} {k : IntKind} {m x : Operand} {b : Nat} {es : List (Int × B)} {i : Int} {w0 : B} (kk : Nat) (hls : d = none) (hm : Mp T mt k et) (hz : Zr T et R w0) (hk : L[kk]? = some (.map b, .mp R k es)) (hw : Want ops Γ true o.guard) (ho : o.op = .lookup mt m x true) (hd : o.dst = some t)
    (hmx : Opd Γ m (.raw (.map b))) (hx : Opd Γ x (.val (rInt k) i)) (r : SOps C T d ops rest ((t, .tup [.val R ((mget es i).getD w0), .val rBool (mget es i).isSome]) :: Γ) L Q) : SOps C T d ops (o :: rest) Γ L Q := by
  subst hls
  intro fr h ⟨z, s⟩
  obtain ⟨v, e1, e2⟩ := look_val (i := i) hm hz hk true s
  have ha : aop T fr.op h o.op = some (.val (.tuple [v, .bool (mget es i).isSome]) h) := by
    rw [ho]; simp only [aop, hmx.raw s.fr, hx.int s.fr, e1, optVal, Option.map, if_true]
  simp only [wX, hw.ok s.fr, ha, hd, put_some]
  refine r _ _ ⟨z, s.set ?_⟩
  simp only [TE.ok]
  refine ⟨_, rfl, ?_⟩
  simp only [okAll, TE.ok]
  exact ⟨_, _, rfl, e2, _, _, rfl, tv_bool_mk, rfl⟩
theorem st_rawmap {b n : Nat} (hl : look Γ n = some (.raw (.map b))) : ∀ z fr h, StZ C Γ L z fr h → ∃ z', z.le z' ∧ StZ C ((n, .val rRaw (.map b)) :: Γ) L z' fr h := fun z fr h s => by
 have h1 := s.fr _ _ hl
 simp only [TE.ok] at h1
 exact ⟨z, .refl _, { s with fr := frok_at s.fr (by simp only [TE.ok]; rw [h1]; exact ⟨⟨rfl, rfl, rfl⟩, rfl⟩) }⟩
end
end Go.Ai.Sx

/- Plain functions that printed texts use. -/
namespace Go.Ai.Sx
abbrev w64 (n : Int) : Int := IntKind.i64.wrap n
abbrev bAnd (k : IntKind) (a b : Int) : Int := k.wrap ((BitVec.ofInt k.bits a &&& BitVec.ofInt k.bits b).toNat)
abbrev bOr (k : IntKind) (a b : Int) : Int := k.wrap ((BitVec.ofInt k.bits a ||| BitVec.ofInt k.bits b).toNat)
theorem okn {z : Store} : okAll z [] [] := by simp only [okAll]
theorem okint {z : Store} {k : IntKind} {es : List TE} {vs : List AVal} (h : okAll z es vs) : okAll z (.val (rInt k) 0 :: es) (.int k 0 :: vs) := by
 simp only [okAll, TE.ok]
 exact ⟨_, _, rfl, tv_int_mk (by cases k <;> decide) (by cases k <;> decide), h⟩
theorem okbool {z : Store} {es : List TE} {vs : List AVal} (h : okAll z es vs) : okAll z (.val rBool false :: es) (.bool false :: vs) := by
 simp only [okAll, TE.ok]
 exact ⟨_, _, rfl, tv_bool_mk, h⟩
theorem oknil {A : Type} {R : Rep A} {z : Store} {es : List TE} {vs : List AVal} (h : okAll z es vs) : okAll z (.val (rSlice R) [] :: es) (.nilslice :: vs) := by
 simp only [okAll, TE.ok]
 exact ⟨_, _, rfl, tv_slice_mk row_nil, h⟩
theorem okraw {z : Store} {v : AVal} {es : List TE} {vs : List AVal} (h : okAll z es vs) : okAll z (.raw v :: es) (v :: vs) := by
 simp only [okAll, TE.ok]
 exact ⟨_, _, rfl, rfl, h⟩
end Go.Ai.Sx

/- An abstract interpreter for the model's code: from a run of it to what a law's row says. -/
namespace Go.Ai
open Go.RowKit
structure ARep (A : Type) where
 rel : Store → List AVal → A → Prop
 mono : ∀ z z' as x, z.le z' → rel z as x → rel z' as x
def aNil : ARep Unit := ⟨fun _ as _ => as = [], fun _ _ _ _ _ h => h⟩
def aCons {A B : Type} (R : Rep A) (S : ARep B) : ARep (A × B) :=
 ⟨fun h as x => ∃ a rest, as = a :: rest ∧ TV R h a x.1 ∧ S.rel h rest x.2, fun _ _ _ _ e h => let ⟨a, rest, h1, h2, h3⟩ := h; ⟨a, rest, h1, h2.mono e, S.mono _ _ _ _ e h3⟩⟩
def flat (P : Program) (t : TypeId) : Bool := match P.underlying t with | some (.int _) | some .bool | some (.slice _) | some (.struct _) => true | _ => false
def OpensA (P : Program) {A : Type} (ts : List TypeId) (S : ARep A) : Prop :=
 ∀ (H : Type) (enc : TypeId × Value → H) (W : World) (base : Nat) (vs : List Value) (ds : List (DataW H)) (ps : List MemPlace), 0 < W.heap.size →
  (∀ (j : Nat) t v, ts[j]? = some t → vs[j]? = some v → Value.okWide P W .any base t v) → DataW.TrodAll enc P W 0 (fun _ => true) true ts vs ds ps → ∀ (ρ : Emb) (h : AHeap), HRel W.heap.size ρ h W → NoOwn ρ h →
   ∃ ρ' h' as x, Lay W ρ h ρ' h' ∧ LRel ρ' as vs ∧ S.rel h'.st as x
section
variable {P : Program}
theorem opensA_nil : OpensA P [] aNil := by
 intro H enc W base vs ds ps _ _ hd ρ h hr hn
 obtain ⟨rfl, _⟩ := ChangeShapes.trodAll_nil hd
 exact ⟨ρ, h, [], (), ⟨.refl _, hr, hn, .refl _⟩, .nil _, rfl⟩
theorem opensA_cons {A B : Type} {t : TypeId} {ts : List TypeId} {R : Rep A} {S : ARep B} (ho : Opens P t R) (hf : flat P t = true) (hs : OpensA P ts S) : OpensA P (t :: ts) (aCons R S) := by
 intro H enc W base vs ds ps hpos hok hd ρ h hr hn
 obtain ⟨v, vs', d, ds', p, q, rfl, rfl, rfl, h1, h2⟩ := ChangeShapes.trodAll_cons hd
 obtain ⟨ρ1, h1', a, x, l1, r1, q1⟩ := opens_arg ho hpos (hok 0 t v rfl rfl) hf h1 hr hn
 obtain ⟨ρ2, h2', as, y, l2, r2, q2⟩ := hs H enc W base vs' ds' q hpos (fun j t' v' ht hv => hok (j + 1) t' v' (by simpa using ht) (by simpa using hv)) h2 ρ1 h1' l1.heap l1.none
 exact ⟨ρ2, h2', a :: as, (x, y), l1.trans l2, .cons (r1.mono l2.ext) r2, a, as, rfl, q1.mono l2.grow.st, q2⟩
theorem trodAll_below {H : Type} {enc : TypeId × Value → H} (hl : laidOutB P = true) {W W' : World} (hb : Below W.heap.size W W') : ∀ {ts : List TypeId} {vs : List Value} {ds : List (DataW H)} {ps : List MemPlace}, (∀ t ∈ ts, P.readableRec t = true ∧ t < P.types.size) →
    DataW.TrodAll enc P W 0 (fun _ => true) true ts vs ds ps → DataW.TrodAll enc P W' 0 (fun b => decide (b < W.heap.size)) true ts vs ds ps
  | [], [], [], _, _, h => h
  | t :: ts, v :: vs, d :: ds, ps, hts, ⟨p, q, h1, h2, e⟩ => by
    refine ⟨p, q, ?_, trodAll_below hl hb (fun t ht => hts t (List.mem_cons_of_mem _ ht)) h2, e⟩
    obtain ⟨hr, hrow⟩ := hts t (List.mem_cons_self ..)
    refine Below.trod hl hr hrow h1 hb ?_
    have h3 : DataW.TrodAll enc P W 0 (fun _ => true) true [t] [v] [d] p := ⟨p, [], h1, rfl, by simp⟩
    exact DataW.TrodAll.lt h3
  | [], _ :: _, _, _, _, h => h.elim
  | [], [], _ :: _, _, _, h => h.elim
  | _ :: _, [], _, _, _, h => h.elim
  | _ :: _, _ :: _, [], _, _, h => h.elim
end
theorem law_contract {T : Tab} {C : Checked} (ok : T.Ok C.prog) {f : FuncId} {fn : Func} {s : ChangeSpec} {A : Type} {S : ARep A} {tb : TypeId}
    (hl : laidOutB C.prog = true) (hvars : s.vars = []) (hrt : fn.resultTypes = #[tb]) (hb : C.prog.underlying tb = some .bool) (hts : ∀ t ∈ fn.params.toList, C.prog.readableRec t = true ∧ t < C.prog.types.size)
    (hfn : ∀ (H : Type) (ds : List (DataW H)), ds.length = fn.params.size → s.fn H ds = { results := [.lit (.bool true)], args := ds })
    (ho : OpensA C.prog fn.params.toList S)
    (law : ∀ (h : AHeap) (as : List AVal) (x : A), S.rel h.st as x → h.wm ≤ h.next → ∃ n h', acallFn T (aexec T n) f as h = some (.ret (.bool true), h'))
    {H : Type} {enc : TypeId × Value → H} {W : World} {base : Nat} {args : Array Value} {ds gs : List (DataW H)} {before : List MemPlace} (hpos : 0 < W.heap.size)
    (hval : ∀ (j : Nat) t v, fn.params[j]? = some t → args[j]? = some v → Value.okWide C.prog W .any base t v)
    (hW : DataW.Whole enc C.prog fn.params.toList s.vars false W args.toList ds gs before) :
    Calls C.prog f args W fun e W' => ∃ v, e = .returned v ∧ s.post enc C.prog fn false true false false W args v W' := by
  have hW0 := hW
  obtain ⟨p, q, hA, hV, rfl, _, _⟩ := hW
  have hr0 : HRel W.heap.size (fun _ => none) ⟨.leaf, 0, 0⟩ W := ⟨⟨fun _ _ h => (nomatch h), fun _ _ h => (nomatch h), fun _ _ _ _ h => (nomatch h), Nat.le_refl _⟩, fun _ _ h => (nomatch h)⟩
  obtain ⟨ρ, h, as, x, l, r, hx⟩ := ho H enc W base args.toList ds p hpos (fun j t v ht hv => hval j t v (by simpa using ht) (by simpa using hv)) hA _ _ hr0 (fun _ _ h => (nomatch h))
  obtain ⟨n, h', hrun⟩ := law h as x hx (l.grow.wm (Nat.le_refl 0))
  refine (acallFn_sound ok hrun r l.heap).mono fun e W' he => ?_
  obtain ⟨ρ', hr', ht, hend⟩ := he
  rcases hend with ⟨v, v', hv, rfl, hrel⟩ | ⟨v, v', hv, _⟩
  case inr => cases hv
  cases hv
  cases hrel
  refine ⟨_, rfl, ?_⟩
  have hbelow : Below W.heap.size W W' := ⟨ht.os, ht.tape, ht.output, ht.size, fun k hk => ht.frame k hk (fun b l' hb ho' => absurd ho' (l.none b l' hb))⟩
  have hgs : gs = [] ∧ q = [] := by
    rw [hvars] at hV
    cases gs with
    | nil => exact ⟨rfl, hV⟩
    | cons _ _ => exact hV.elim
  obtain ⟨rfl, rfl⟩ := hgs
  have hlen := trodAll_length hA
  have hres : s.fn H (ds ++ []) = { results := [.lit (.bool true)], args := ds } := by rw [List.append_nil]; exact hfn H ds (by rw [hlen.2]; simp)
  refine ⟨ds, [], p ++ [], [], p, [], hW0, ?_, ?_, ?_, hbelow.frame _, fun q => by cases q⟩
  · rw [hres, hrt]
    exact ⟨[], [], RowKit.shut_bool hb true, rfl, rfl⟩
  · rw [hres]; exact trodAll_below hl hbelow hts hA
  · rw [hres, hvars]; exact rfl
end Go.Ai

/- From a walk through a law to what its row says. -/
namespace Go.Ai.Sx
def AOk {A : Type} (S : ARep A) (ts : A → List TE) : Prop := ∀ z vs x, S.rel z vs x → okAll z (ts x) vs
theorem aok_nil : AOk aNil (fun _ => []) := fun z vs x h => by
 simp only [okAll]; exact h
theorem aok_cons {A B : Type} {R : Rep A} {S : ARep B} {ts : B → List TE} (h : AOk S ts) : AOk (aCons R S) (fun x => .val R x.1 :: ts x.2) := fun z vs x hr => by
 obtain ⟨a, rest, rfl, h1, h2⟩ := hr
 simp only [okAll, TE.ok]
 exact ⟨a, rest, rfl, h1, h _ _ _ h2⟩
theorem law_run {T : Tab} {g : FuncId} {A : Type} {S : ARep A} {ts : A → List TE} (ha : AOk S ts) (hf : ∀ z vs x, S.rel z vs x → Fun T g (ts x) [.val rBool true]) : ∀ (h : AHeap) (as : List AVal) (x : A), S.rel h.st as x → h.wm ≤ h.next → ∃ n h', acallFn T (aexec T n) g as h = some (.ret (.bool true), h') := by
 intro h as x hr hwm
 obtain ⟨n, r, h', e, us, z', rfl, hl, _, _, _, _, hok, _⟩ := hf _ _ x hr h.st h as (full_sub h) hwm (ha _ _ _ hr)
 match us, hl with
 | [u], _ =>
  simp only [tes, okAll, TE.ok] at hok
  obtain ⟨v, vs, q, h1, _⟩ := hok
  cases q
  have := tv_bool h1
  subst this
  exact ⟨n, h', e⟩
end Go.Ai.Sx
