/- Symbolic runs of the abstract interpreter: arrays, rows held against nil. -/
import Derived.Test.YtpiblfbidgcjaaaAiSf
namespace Go.Ai.Sx

section
variable {C : Ctx} {T : Tab} {d : Option (List Nat)} {ops rest : List Oper} {Γ : Env} {L : Own} {Q : AFrame → AHeap → Prop} {P : AExit → AFrame → AHeap → Prop} {o : Oper} {t : Nat} {z : Store} {fr : AFrame} {h : AHeap}

theorem zarr {A : Type} {R : Rep A} {x : A} {n : Nat} {c zc : List AVal} (h : ∀ z, R.rel z c x) (hz : copies n c = zc) : ∀ z, (rArr n R).rel z zc (List.replicate n x) := by
  intro z
  subst hz
  have hl := R.len _ _ _ (h z)
  have hp : ∀ i y, (List.replicate n x)[i]? = some y → R.rel z (((copies n c).drop (i * R.sz)).take R.sz) y := by
    intro i y hi
    have h1 := (List.getElem?_eq_some_iff.1 hi).1
    rw [List.length_replicate] at h1
    rw [List.getElem?_replicate, if_pos h1] at hi
    cases hi
    rw [← hl, copies_piece _ h1]; exact h z
  refine ⟨List.length_replicate, by rw [copies_len, hl], ?_, hp⟩
  rcases Nat.eq_zero_or_pos R.sz with q | q
  · have : copies n c = [] := List.length_eq_zero_iff.1 (by rw [copies_len, hl, q, Nat.mul_zero])
    rw [this]; rfl
  · exact ones_of q (by rw [copies_len, hl, List.length_replicate]) hp

/- an element of an array value -/
theorem s_index {A : Type} {R : Rep A} {x y : Operand} {xs : List A} {at_ et : TypeId} {n : Nat} {k : IntKind} {i : Int} {a : A} (har : Ar1 T at_ et n R) (hi : idx xs i = some a) (hw : Want ops Γ true o.guard) (ho : o.op = .index at_ x y) (hd : o.dst = some t)
    (hx : Opd Γ x (.val (rArr n R) xs)) (hy : Opd Γ y (.val (rInt k) i)) (r : SOps C T d ops rest ((t, .val R a) :: Γ) L Q) : SOps C T d ops (o :: rest) Γ L Q := by
  refine s_pure (by rw [ho]; rfl) hw hd (fun z fr h s => ?_) r
  obtain ⟨h0, h1, h2, h3⟩ := idx_inv hi
  have hv := hx.val s.fr
  have hc := hv.agg
  cases hq : fr.op x with
  | agg cs =>
    rw [hq] at hv
    obtain ⟨e1, e2, e3, e4⟩ := hv.rel
    simp only [AVal.cells] at e2 e3 e4
    have hb := row_cells (off := 0) (i := i.toNat) (R := R) (cells := cs) (by rw [e1]; omega) h3
    obtain ⟨u, h8, h9⟩ := apart_ok (cells := cs) (off := i.toNat * R.sz) har.sz har.agg (by omega) (e4 _ _ h3)
    refine ⟨u, ?_, by simp only [TE.ok]; exact h9⟩
    rw [ho]
    simp only [aop, hq, hy.int s.fr, aindex, har.und, har.sz]
    rw [if_pos ⟨h0, by omega⟩, h8]
    rfl
  | _ => rw [hq] at hc; cases hc

/- an array built of all its elements -/
theorem s_builda {A : Type} {R : Rep A} {at_ et : TypeId} {n : Nat} {zc : List AVal} {parts : Array (Nat × Operand)} {as : List A} (har : Ar1 T at_ et n R) (hz : zeroT T at_ = some (.agg zc)) (hzl : zc.length = n * R.sz) (hw : Want ops Γ true o.guard) (ho : o.op = .build at_ parts) (hd : o.dst = some t) (he : Elts Γ R 0 parts.toList as) (hn : as.length = n)
    (r : SOps C T d ops rest ((t, .val (rArr n R) as) :: Γ) L Q) : SOps C T d ops (o :: rest) Γ L Q := by
  refine s_pure (by rw [ho]; rfl) hw hd (fun z fr h s => ?_) r
  obtain ⟨cells, h3, h4, _, h5⟩ := elts_fill he s.fr har.pos zc (by rw [hzl, ← hn]; simp)
  refine ⟨.agg cells, ?_, ?_⟩
  · rw [ho]
    simp only [aop, abuild, hz, har.und, har.sz, AVal.cells, h3, optVal, Option.map]
  · simp only [TE.ok]
    have hp : ∀ i x, as[i]? = some x → R.rel z ((cells.drop (i * R.sz)).take R.sz) x := fun i x hx => by have := h5 i x hx; rwa [Nat.zero_add] at this
    exact ⟨⟨hn, by simp only [AVal.cells]; rw [h4, hzl], ones_of (l := cells) har.pos (by rw [h4, hzl, hn]) hp, hp⟩, rfl⟩

/- an array in memory: held as a row -/
theorem s_alloca {A : Type} {R : Rep A} {at_ et : TypeId} {n : Nat} {x : A} {zc : List AVal} (har : Ar1 T at_ et n R) (hz : zeroT T at_ = some (.agg zc)) (hx : ∀ z, (rArr n R).rel z zc (List.replicate n x)) (hn : n ≤ maxLen) (hw : Want ops Γ true o.guard) (ho : o.op = .alloc at_) (hd : o.dst = some t)
    (r : ∀ b, SOps C T d ops rest ((t, .raw (.ptr b 0)) :: Γ) ((.slice b 0 n R.sz (some n), .row R (List.replicate n x)) :: L) Q) : SOps C T d ops (o :: rest) Γ L Q := by
  refine step_val hw (nf (by rw [ho]; rfl)) fun z fr h s => ?_
  have ha : aop T fr.op h o.op = some (.val (.ptr h.next 0) (h.push (.arr zc false))) := by rw [ho]; simp only [aop, opAlloc, hz, AVal.cells]
  refine ⟨_, _, z, _, _, ha, nfo (by rw [ho]; rfl), .refl _, ?_, r h.next⟩
  rw [hd, put_some]
  refine (s.pushOwn (v := .slice h.next 0 n R.sz (some n)) (ob := .row R (List.replicate n x)) _ rfl ?_).set (by simp only [TE.ok])
  obtain ⟨e1, e2, _, e4⟩ := hx z
  refine ⟨by rw [List.length_replicate]; exact hn, .inr ⟨h.next, 0, some n, zc, by rw [List.length_replicate], by rw [AHeap.get_push, if_pos rfl], by rw [List.length_replicate, e2]; omega, fun c hc => by cases hc; rw [List.length_replicate, e2]; omega, fun i y hy => by rw [Nat.zero_add]; exact e4 i y hy⟩⟩

theorem s_idxa {A : Type} {R : Rep A} {x y : Operand} {xs : List A} {at_ et : TypeId} {n : Nat} {kk : IntKind} {i : Int} {a : A} {b : Nat} (k : Nat) (har : Ar1 T at_ et n R) (hk : L[k]? = some (.slice b 0 n R.sz (some n), .row R xs)) (hi : idx xs i = some a) (hw : Want ops Γ true o.guard) (ho : o.op = .indexAddr at_ x y) (hd : o.dst = some t)
    (hx : Opd Γ x (.raw (.ptr b 0))) (hy : Opd Γ y (.val (rInt kk) i)) (r : SOps C T d ops rest ((t, .elt (.slice b 0 n R.sz (some n)) i.toNat 0) :: Γ) L Q) : SOps C T d ops (o :: rest) Γ L Q := by
  refine s_pure (by rw [ho]; rfl) hw hd (fun z fr h s => ?_) r
  obtain ⟨h0, h1, h2, h3⟩ := idx_inv hi
  have hr := s.own.ok _ (List.mem_of_getElem? hk)
  simp only [Obj.ok] at hr
  have hlen : xs.length = n := by
    rcases hr.2 with ⟨q, _⟩ | ⟨b', off, cap, cells, q, _⟩
    · cases q
    · cases q; rfl
  refine ⟨.ptr b (0 + i.toNat * R.sz), ?_, by simp only [TE.ok]; exact ⟨b, 0, n, R.sz, some n, rfl, by simp⟩⟩
  rw [ho]
  simp only [aop, hy.int s.fr, hx.raw s.fr, aindexAddr, har.und, har.sz]
  rw [if_pos (by exact ⟨h0, by omega⟩)]
  rfl

/- the whole array -/
theorem s_loada {A : Type} {R : Rep A} {x : Operand} {xs : List A} {at_ et : TypeId} {n : Nat} {b : Nat} (k : Nat) (hls : Listed d ops rest) (har : Ar1 T at_ et n R) (hk : L[k]? = some (.slice b 0 n R.sz (some n), .row R xs)) (hw : Want ops Γ true o.guard) (ho : o.op = .load at_ x) (hd : o.dst = some t)
    (hx : Opd Γ x (.raw (.ptr b 0))) (r : SOps C T d ops rest ((t, .val (rArr n R) xs) :: Γ) L Q) : SOps C T d ops (o :: rest) Γ L Q := by
  refine s_pureF (.l hls (by rw [ho]; rfl)) (fun z fr h s => by
    rw [show foot fr.op o = ⟨blkOf (fr.op x), false, [], false⟩ by unfold foot; rw [ho]]
    exact ⟨fun b' hb => own_foot s hk rfl b' (by simpa [blkOf, hx.raw s.fr] using hb), fun b hb => (nomatch hb)⟩) hw hd (fun z fr h s => ?_) r
  have hr := s.own.ok _ (List.mem_of_getElem? hk)
  simp only [Obj.ok] at hr
  rcases hr.2 with ⟨q, _⟩ | ⟨b', off, cap, cells, q, g1, g2, g3, g4⟩
  · cases q
  · cases q
    have hcl : 0 + xs.length * R.sz ≤ cells.length := g2
    refine ⟨.agg ((cells.drop 0).take (xs.length * R.sz)), ?_, ?_⟩
    · rw [ho]
      simp only [aop, hx.raw s.fr, aload, g1, Go.Ai.apart, har.isagg, har.whole]
      rw [if_pos (by omega)]
      rfl
    · simp only [TE.ok]
      have hp : ∀ i x, xs[i]? = some x → R.rel z ((((cells.drop 0).take (xs.length * R.sz)).drop (i * R.sz)).take R.sz) x := by
        intro i x hi
        have h6 := row_cells (off := 0) (i := i) (R := R) (cells := cells.take (xs.length * R.sz)) (by simp; omega) hi
        rw [List.drop_zero, List.drop_take, List.take_take, Nat.min_eq_left]
        · have := g4 i x hi; rwa [Nat.zero_add] at this
        · simp at h6; omega
      have hl : ((cells.drop 0).take (xs.length * R.sz)).length = xs.length * R.sz := by simp; omega
      exact ⟨⟨rfl, hl, ones_of har.pos hl hp, hp⟩, rfl⟩

theorem s_storea {A : Type} {R : Rep A} {x y : Operand} {xs ys : List A} {at_ et : TypeId} {n : Nat} {b : Nat} (k : Nat) (har : Ar1 T at_ et n R) (hk : L[k]? = some (.slice b 0 n R.sz (some n), .row R xs)) (hw : Want ops Γ true o.guard) (ho : o.op = .store at_ x y) (hd : o.dst = none)
    (hx : Opd Γ x (.raw (.ptr b 0))) (hy : Opd Γ y (.val (rArr n R) ys)) {L' : Own} (hL : setAt L k (.slice b 0 n R.sz (some n), .row R ys) = some L') (r : SOps C T d ops rest Γ L' Q) : SOps C T d ops (o :: rest) Γ L Q := by
  refine s_memn (.w (by rw [ho]; rfl) (fun t a q => by rw [ho] at q; cases q)) (fun z fr h s => by
    rw [show foot fr.op o = ⟨[], false, blkOf (fr.op x), false⟩ by unfold foot; rw [ho]]
    exact ⟨fun b hb => (nomatch hb), fun b' hb => own_none s hk rfl b' (by simpa [blkOf, hx.raw s.fr] using hb)⟩) hw hd (fun z fr h s => ?_) r
  have hr := s.own.ok _ (List.mem_of_getElem? hk)
  simp only [Obj.ok] at hr
  have hv := hy.val s.fr
  obtain ⟨e1, e2, e3, e4⟩ := hv.rel
  rcases hr.2 with ⟨q, _⟩ | ⟨b', off, cap, cells, q, g1, g2, g3, g4⟩
  · cases q
  · cases q
    have hin : 0 + (fr.op y).cells.length ≤ cells.length := by omega
    refine ⟨.tuple [], h.set b (.arr (splice cells 0 (fr.op y).cells) false), ?_, s.upd hk rfl rfl _ ?_ hL⟩
    · rw [ho]
      simp only [aop, hx.raw s.fr, astore, g1, har.whole]
      rw [if_pos (by exact ⟨e2, by omega, e3⟩)]
      rfl
    · simp only [Obj.ok]
      refine ⟨by rw [e1]; exact hr.1, .inr ⟨b, 0, some xs.length, _, by rw [e1], by rw [AHeap.get_set, if_pos rfl], by rw [splice_len hin, e1]; exact g2, fun c hc => by rw [splice_len hin, e1]; exact g3 c hc, fun i x hi => ?_⟩⟩
      have h6 := row_cells (off := 0) (i := i) (R := R) (cells := (fr.op y).cells) (by rw [e1]; omega) hi
      have : ((splice cells 0 (fr.op y).cells).drop (0 + i * R.sz)).take R.sz = ((fr.op y).cells.drop (i * R.sz)).take R.sz := by
        apply List.ext_getElem?
        intro j
        unfold splice
        simp only [List.getElem?_take, List.getElem?_drop, List.getElem?_append, List.length_append, List.length_take, List.take_zero, List.nil_append, Nat.zero_add]
        repeat' split
        all_goals (try omega)
        all_goals rfl
      rw [this]; exact e4 i x hi

/- the first whole store into an array that has been made -/
theorem s_storeab {A : Type} {R : Rep A} {x y : Operand} {ys : List A} {es : List TE} {at_ et : TypeId} {n : Nat} {b : Nat} (k : Nat) (har : Ar1 T at_ et n R) (hk : L[k]? = some (.ptr b 0, .box es)) (hn : es.length = n * R.sz) (hm : n ≤ maxLen) (hw : Want ops Γ true o.guard) (ho : o.op = .store at_ x y) (hd : o.dst = none)
    (hx : Opd Γ x (.raw (.ptr b 0))) (hy : Opd Γ y (.val (rArr n R) ys)) {L' : Own} (hL : setAt L k (.slice b 0 n R.sz (some n), .row R ys) = some L') (r : SOps C T d ops rest Γ L' Q) : SOps C T d ops (o :: rest) Γ L Q := by
  refine s_memn (.w (by rw [ho]; rfl) (fun t a q => by rw [ho] at q; cases q)) (fun z fr h s => by
    rw [show foot fr.op o = ⟨[], false, blkOf (fr.op x), false⟩ by unfold foot; rw [ho]]
    exact ⟨fun b hb => (nomatch hb), fun b' hb => own_none s hk rfl b' (by simpa [blkOf, hx.raw s.fr] using hb)⟩) hw hd (fun z fr h s => ?_) r
  have hob := s.own.ok _ (List.mem_of_getElem? hk)
  simp only [Obj.ok] at hob
  obtain ⟨b', cells, q', g1, g2, g3⟩ := hob
  cases q'
  have hv := hy.val s.fr
  obtain ⟨e1, e2, e3, e4⟩ := hv.rel
  have hlc := okAll_len g2
  have e : splice cells 0 (fr.op y).cells = (fr.op y).cells := by
    unfold splice
    rw [List.take_zero, Nat.zero_add, List.drop_eq_nil_of_le (by omega)]; simp
  refine ⟨.tuple [], h.set b (.arr (fr.op y).cells false), ?_, s.upd hk rfl rfl _ ?_ hL⟩
  · rw [ho]
    simp only [aop, hx.raw s.fr, astore, g1, har.whole]
    rw [if_pos (by exact ⟨e2, by omega, e3⟩), e]
    rfl
  · simp only [Obj.ok]
    exact ⟨by rw [e1]; exact hm, .inr ⟨b, 0, some n, _, by rw [e1], by rw [AHeap.get_set, if_pos rfl], by rw [e1]; omega, fun c hc => by cases hc; rw [e1]; omega, fun i x hi => by rw [Nat.zero_add]; exact e4 i x hi⟩⟩

/- is a row nil: it may or may not be, where it is empty -/
theorem s_isnil {A : Type} {R : Rep A} {u u' : TypeId} {et : TypeId} {x : Operand} {xs : List A} (hsl : Sl T u et R) (hw : Want ops Γ true o.guard) (ho : o.op = .binOp .eql u x (.const (.slice none 0 0)) u') (hd : o.dst = some t) (hx : Opd Γ x (.val (rSlice R) xs))
    (r1 : xs = [] → SOps C T d ops rest ((t, .val rBool true) :: Γ) L Q) (r0 : SOps C T d ops rest ((t, .val rBool false) :: Γ) L Q) : SOps C T d ops (o :: rest) Γ L Q := by
  have e0 : ∀ fr : AFrame, fr.op (.const (.slice none 0 0)) = .nilslice := fun _ => rfl
  refine step_val hw (nf (by rw [ho]; rfl)) fun z fr h s => ?_
  have hr := tv_slice (hx.val s.fr)
  rcases hr.2 with ⟨q, e⟩ | ⟨b, off, cap, q, e, _⟩ | ⟨b, off, cap, cells, ro, q, _⟩
  · exact ⟨.bool true, h, z, _, _, by rw [ho]; simp [aop, abin, q, e0, aguard, aeq, hsl.und, optVal], nfo (by rw [ho]; rfl), .refl _, by rw [hd, put_some]; exact s.set (e := .val rBool true) (by simp only [TE.ok]; exact tv_bool_mk), r1 e⟩
  · exact ⟨.bool false, h, z, _, _, by rw [ho]; simp [aop, abin, q, e0, aguard, aeq, hsl.und, optVal], nfo (by rw [ho]; rfl), .refl _, by rw [hd, put_some]; exact s.set (e := .val rBool false) (by simp only [TE.ok]; exact tv_bool_mk), r0⟩
  · exact ⟨.bool false, h, z, _, _, by rw [ho]; simp [aop, abin, q, e0, aguard, aeq, hsl.und, optVal], nfo (by rw [ho]; rfl), .refl _, by rw [hd, put_some]; exact s.set (e := .val rBool false) (by simp only [TE.ok]; exact tv_bool_mk), r0⟩

/- structs held against each other -/
inductive EqFs (T : Tab) : {A : Type} → Rep A → (A → A → Bool) → List Field → Nat → Prop where
  | n {off : Nat} : EqFs T rUnit (fun _ _ => true) [] off
  | i {B : Type} {S : Rep B} {k : IntKind} {q : B → B → Bool} {f : Field} {fs : List Field} {off : Nat} (hn : f.name ≠ "_") (hu : T.und f.type = some (.int k)) (hf : f.offset = off) (r : EqFs T S q fs (off + 1)) : EqFs T (rPair (rInt k) S) (fun x y => x.1 == y.1 && q x.2 y.2) (f :: fs) off
  | b {B : Type} {S : Rep B} {q : B → B → Bool} {f : Field} {fs : List Field} {off : Nat} (hn : f.name ≠ "_") (hu : T.und f.type = some .bool) (hf : f.offset = off) (r : EqFs T S q fs (off + 1)) : EqFs T (rPair rBool S) (fun x y => x.1 == y.1 && q x.2 y.2) (f :: fs) off

theorem isAgg_int {t : TypeId} {k : IntKind} (h : T.und t = some (.int k)) : isAggT T t = some false := by simp only [isAggT, h]
theorem isAgg_bool {t : TypeId} (h : T.und t = some .bool) : isAggT T t = some false := by simp only [isAggT, h]

theorem eqFs_ok {dp : Nat} {A : Type} {R : Rep A} {q : A → A → Bool} {fs : List Field} {off : Nat} (e : EqFs T R q fs off) : ∀ (cx cy : List AVal) (x y : A), R.rel z (cx.drop off) x → R.rel z (cy.drop off) y →
    aeqFields (fun f => match Go.Ai.apart T f.type cx f.offset, Go.Ai.apart T f.type cy f.offset with
        | some u, some v => aeq T (dp + 1) f.type u v
        | _, _ => none) fs = some (q x y) := by
  induction e with
  | n => intros; rfl
  | @i B S k q f fs off hn hu hf _ ih =>
    intro cx cy x y hx hy
    subst hf
    obtain ⟨c1, c2, e1, h1, h2⟩ := hx
    obtain ⟨d1, d2, e2, g1, g2⟩ := hy
    rw [h1.1] at e1
    rw [g1.1] at e2
    have hcx : cx[f.offset]? = some (.int k x.1) := by have := congrArg (fun l => l[0]?) e1; simpa using this
    have hcy : cy[f.offset]? = some (.int k y.1) := by have := congrArg (fun l => l[0]?) e2; simpa using this
    have ax : cx.drop (f.offset + 1) = c2 := by have := congrArg List.tail e1; simpa using this
    have ay : cy.drop (f.offset + 1) = d2 := by have := congrArg List.tail e2; simpa using this
    have := ih cx cy x.2 y.2 (by rw [ax]; exact h2) (by rw [ay]; exact g2)
    have hag := isAgg_int hu
    simp only [aeqFields, if_pos hn, Go.Ai.apart, hag, hcx, hcy, aeq, hu, if_pos rfl] at this ⊢
    cases hb : (x.1 == y.1) with
    | true => simp only [Bool.true_and]; exact this
    | false => rfl
  | @b B S q f fs off hn hu hf _ ih =>
    intro cx cy x y hx hy
    subst hf
    obtain ⟨c1, c2, e1, h1, h2⟩ := hx
    obtain ⟨d1, d2, e2, g1, g2⟩ := hy
    have h1 : c1 = [.bool x.1] := h1
    have g1 : d1 = [.bool y.1] := g1
    rw [h1] at e1
    rw [g1] at e2
    have hcx : cx[f.offset]? = some (.bool x.1) := by have := congrArg (fun l => l[0]?) e1; simpa using this
    have hcy : cy[f.offset]? = some (.bool y.1) := by have := congrArg (fun l => l[0]?) e2; simpa using this
    have ax : cx.drop (f.offset + 1) = c2 := by have := congrArg List.tail e1; simpa using this
    have ay : cy.drop (f.offset + 1) = d2 := by have := congrArg List.tail e2; simpa using this
    have := ih cx cy x.2 y.2 (by rw [ax]; exact h2) (by rw [ay]; exact g2)
    have hag := isAgg_bool hu
    simp only [aeqFields, if_pos hn, Go.Ai.apart, hag, hcx, hcy, aeq, hu] at this ⊢
    cases hb : (x.1 == y.1) with
    | true => simp only [Bool.true_and]; exact this
    | false => rfl

structure SEq (T : Tab) (t : TypeId) {A : Type} (R : Rep A) (q : A → A → Bool) : Prop where
  ok : ∃ fs, T.und t = some (.struct fs) ∧ EqFs T R q fs.toList 0
  stood : ((T.types.get t).map (·.stood)).getD true = false
  eqg : ((T.types.get t).map (·.eqg)).getD true = false

theorem seq_val {A : Type} {R : Rep A} {q : A → A → Bool} {u : TypeId} {v w : AVal} {a b : A} (h : SEq T u R q) (hR : R.agg = true) (hv : TV R z v a) (hw : TV R z w b) : abin T .eql u v w = some (.bool (q a b)) ∧ abin T .neq u v w = some (.bool (!q a b)) := by
  obtain ⟨fs, h1, h2⟩ := h.ok
  have e1 := hv.agg
  have e2 := hw.agg
  rw [hR] at e1 e2
  cases v with
  | agg cx =>
    cases w with
    | agg cy =>
      have hr1 := hv.rel
      have hr2 := hw.rel
      simp only [AVal.cells] at hr1 hr2
      have key := eqFs_ok (dp := 6) h2 cx cy a b (by simpa using hr1) (by simpa using hr2)
      have ae : aeq T 8 u (.agg cx) (.agg cy) = some (q a b) := by
        simp only [aeq, h1, h.stood]
        exact key
      constructor
      · simp only [abin, aguard, h.eqg, ae]; rfl
      · simp only [abin, aguard, h.eqg, ae]; rfl
    | _ => cases e2
  | _ => cases e1

theorem s_seq {A : Type} {R : Rep A} {q : A → A → Bool} {u u' : TypeId} {x y : Operand} {a b : A} (hs : SEq T u R q) (hR : R.agg = true) (hw : Want ops Γ true o.guard) (ho : o.op = .binOp .eql u x y u') (hd : o.dst = some t) (hx : Opd Γ x (.val R a)) (hy : Opd Γ y (.val R b))
    (r : SOps C T d ops rest ((t, .val rBool (q a b)) :: Γ) L Q) : SOps C T d ops (o :: rest) Γ L Q := by
  refine s_pure (by rw [ho]; rfl) hw hd (fun z fr h s => ⟨.bool (q a b), ?_, by simp only [TE.ok]; exact tv_bool_mk⟩) r
  rw [ho]
  simp only [aop, (seq_val hs hR (hx.val s.fr) (hy.val s.fr)).1, optVal, Option.map]
theorem s_sne {A : Type} {R : Rep A} {q : A → A → Bool} {u u' : TypeId} {x y : Operand} {a b : A} (hs : SEq T u R q) (hR : R.agg = true) (hw : Want ops Γ true o.guard) (ho : o.op = .binOp .neq u x y u') (hd : o.dst = some t) (hx : Opd Γ x (.val R a)) (hy : Opd Γ y (.val R b))
    (r : SOps C T d ops rest ((t, .val rBool (!q a b)) :: Γ) L Q) : SOps C T d ops (o :: rest) Γ L Q := by
  refine s_pure (by rw [ho]; rfl) hw hd (fun z fr h s => ⟨.bool (!q a b), ?_, by simp only [TE.ok]; exact tv_bool_mk⟩) r
  rw [ho]
  simp only [aop, (seq_val hs hR (hx.val s.fr) (hy.val s.fr)).2, optVal, Option.map]

/- an owned row's header into a cell of a box -/
theorem s_storebo {A : Type} {R : Rep A} {xs : List A} {et : TypeId} {x y : Operand} {b q : Nat} {v : AVal} {es : List TE} (k m : Nat) (hsz : szT T et = some 1) (hk : L[k]? = some (.ptr b 0, .box es)) (hm : L[m]? = some (v, .row R xs)) (hq : q < es.length) (hw : Want ops Γ true o.guard) (ho : o.op = .store et x y) (hd : o.dst = none) (hx : Opd Γ x (.raw (.ptr b q))) (hy : Opd Γ y (.raw v))
    {L' : Own} (hL : setAt L k (.ptr b 0, .box (es.set q (.raw v))) = some L') (r : SOps C T d ops rest Γ L' Q) : SOps C T d ops (o :: rest) Γ L Q := by
  refine s_memn (.w (by rw [ho]; rfl) (fun t a q => by rw [ho] at q; cases q)) (fun z fr h s => by
    rw [show foot fr.op o = ⟨[], false, blkOf (fr.op x), false⟩ by unfold foot; rw [ho]]
    exact ⟨fun b hb => (nomatch hb), fun b' hb => own_none s hk rfl b' (by simpa [blkOf, hx.raw s.fr] using hb)⟩) hw hd (fun z fr h s => ?_) r
  have hv1 : v.one = true := by
    have hr := s.own.ok _ (List.mem_of_getElem? hm)
    simp only [Obj.ok] at hr
    rcases hr.2 with ⟨q, _⟩ | ⟨_, _, _, _, q, _⟩ <;> rw [q] <;> rfl
  have hob := s.own.ok _ (List.mem_of_getElem? hk)
  simp only [Obj.ok] at hob
  obtain ⟨b', cells, q', h2, h3, h4⟩ := hob
  cases q'
  have hv := hy.raw s.fr
  have hcs : v.cells = [v] := by cases v <;> simp_all [AVal.cells, AVal.one]
  have hlt : q < cells.length := by rw [okAll_len h3]; exact hq
  refine ⟨.tuple [], h.set b (.arr (cells.set q v) false), ?_, s.upd hk rfl rfl _ ?_ hL⟩
  · rw [ho]
    simp only [aop, hx.raw s.fr, hv, astore, h2, hsz, hcs, List.length_singleton]
    rw [if_pos (by exact ⟨by trivial, by omega, by simp [hv1]⟩), splice_one hlt]
    rfl
  · refine ⟨b, _, rfl, by rw [AHeap.get_set, if_pos rfl], okAll_set h3 (by simp only [TE.ok]), ?_⟩
    rw [List.all_eq_true] at h4 ⊢
    intro c hc
    rcases List.mem_or_eq_of_mem_set hc with q | rfl
    · exact h4 c q
    · exact hv1

/- an owned row whose header lies in a cell of a box is written no more -/
theorem st_freezec {A : Type} {R : Rep A} {xs : List A} {v : AVal} {b q : Nat} {es : List TE} (k m : Nat) (ts : List Nat) {L' L'' : Own} (hk : L[k]? = some (v, .row R xs)) (hL : dropAt L k = some L') (hm : L'[m]? = some (.ptr b 0, .box es)) (hq : es[q]? = some (.raw v)) (hL' : setAt L' m (.ptr b 0, .box (es.set q (.val (rSlice R) xs))) = some L'') (hts : AllRaw Γ v ts) :
    ∀ z fr h, StZ C Γ L z fr h → ∃ z', z.le z' ∧ StZ C (holdAll ts (.val (rSlice R) xs) Γ) L'' z' fr h := by
  intro z fr h s
  obtain ⟨z', hz, s', hr⟩ := s.freeze hk hL
  have hval : TE.ok z' (.val (rSlice R) xs) v := by simp only [TE.ok]; exact tv_slice_mk hr
  have hob := s'.own.ok _ (List.mem_of_getElem? hm)
  simp only [Obj.ok] at hob
  obtain ⟨b', cells, q', g1, g2, g3⟩ := hob
  cases q'
  obtain ⟨c, hc1, hc2⟩ := okAll_at g2 hq
  simp only [TE.ok] at hc2
  subst hc2
  have hset : cells.set q c = cells := by
    apply List.ext_getElem?
    intro i
    rw [List.getElem?_set]
    split
    · rename_i e; subst e
      rw [if_pos (List.getElem?_eq_some_iff.1 hc1).1, hc1]
    · rfl
  have hobj : (Obj.box (es.set q (.val (rSlice R) xs))).ok z' h (.ptr b 0) := by
    refine ⟨b, cells, rfl, g1, ?_, g3⟩
    rw [← hset]; exact okAll_set g2 hval
  obtain ⟨rfl, hlt⟩ := setAt_eq hL'
  have hmem : ∀ p ∈ L'.set m (.ptr b 0, .box (es.set q (.val (rSlice R) xs))), p = (.ptr b 0, .box (es.set q (.val (rSlice R) xs))) ∨ p ∈ L' := by
    intro p hp
    rcases List.mem_or_eq_of_mem_set hp with e | e
    · exact .inr e
    · exact .inl e
  have hb0 : blks (L'.set m (.ptr b 0, .box (es.set q (.val (rSlice R) xs)))) = blks L' := by
    have key : ∀ (L : Own) (m : Nat), L[m]? = some (.ptr b 0, .box es) → blks (L.set m (.ptr b 0, .box (es.set q (.val (rSlice R) xs)))) = blks L := by
      intro L
      induction L with
      | nil => intro m h; simp at h
      | cons p L ih =>
        intro m h
        cases m with
        | zero => simp at h; subst h; rw [List.set_cons_zero, blks_cons, blks_cons]; rfl
        | succ m => rw [List.set_cons_succ, blks_cons, blks_cons, ih m (by simpa using h)]
    exact key L' m hm
  refine ⟨z', hz, { s' with fr := holdAll_ok hval hts s'.fr, own := ⟨fun p hp => ?_, fun p hp => ?_, by rw [hb0]; exact s'.own.nodup⟩ }⟩
  · rcases hmem p hp with rfl | hp
    · exact hobj
    · exact s'.own.ok p hp
  · rcases hmem p hp with rfl | hp
    · intro c' hc'
      exact s'.own.out _ (List.mem_of_getElem? hm) c' (by simpa [blkE, blkO] using hc')
    · exact s'.own.out p hp
end
end Go.Ai.Sx
