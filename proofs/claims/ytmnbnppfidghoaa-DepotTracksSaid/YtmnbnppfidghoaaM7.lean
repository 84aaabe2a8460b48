/- Fields that are known to be nil: rows that grow from nothing, in boxes. -/
import Derived.Test.YtmnbnppfidghoaaM5
set_option linter.unusedSimpArgs false
set_option linter.unusedVariables false
set_option linter.unusedSectionVars false
namespace Go.Ai.Sx
def rNil : Rep Unit := ⟨1, false, fun _ cs _ => cs = [.nilslice], fun _ _ _ h => by rw [h]; rfl, fun _ _ _ _ _ h => h, fun _ => rfl, fun _ _ _ h => by rw [h]; rfl⟩
theorem znilN {z : Store} : rNil.rel z [.nilslice] () := rfl
theorem oknilN {z : Store} {x : Unit} {es : List TE} {vs : List AVal} (h : okAll z es vs) : okAll z (.val rNil x :: es) (.nilslice :: vs) := by
 simp only [okAll, TE.ok]
 exact ⟨_, _, rfl, ⟨rfl, rfl⟩, h⟩
section
variable {C : Ctx} {Γ : Env} {L : Own}
theorem box_swap {b : Nat} {es es' : List TE} : ∀ (L : Own) (m : Nat), L[m]? = some (.ptr b 0, .box es) → blks (L.set m (.ptr b 0, .box es')) = blks L := by
 intro L
 induction L with
 | nil => intro m h; simp at h
 | cons p L ih =>
  intro m h
  cases m with
  | zero => simp at h; subst h; rw [List.set_cons_zero, blks_cons, blks_cons]; rfl
  | succ m => rw [List.set_cons_succ, blks_cons, blks_cons, ih m (by simpa using h)]
theorem StZ.cell {z : Store} {fr : AFrame} {h : AHeap} {b q : Nat} {es : List TE} {e e' : TE} (s : StZ C Γ L z fr h) (m : Nat) {L' : Own} (hm : L[m]? = some (.ptr b 0, .box es)) (hq : es[q]? = some e) (hi : ∀ v, e.ok z v → e'.ok z v) (hL : setAt L m (.ptr b 0, .box (es.set q e')) = some L') : StZ C Γ L' z fr h := by
 have hob := s.own.ok _ (List.mem_of_getElem? hm)
 simp only [Obj.ok] at hob
 obtain ⟨b', cells, q', g1, g2, g3⟩ := hob
 cases q'
 obtain ⟨c, hc1, hc2⟩ := okAll_at g2 hq
 have hset : cells.set q c = cells := by
  apply List.ext_getElem?
  intro i
  rw [List.getElem?_set]
  split
  ·rename_i e; subst e
   rw [if_pos (List.getElem?_eq_some_iff.1 hc1).1, hc1]
  ·rfl
 have hobj : (Obj.box (es.set q e')).ok z h (.ptr b 0) := by
  refine ⟨b, cells, rfl, g1, ?_, g3⟩
  rw [← hset]; exact okAll_set g2 (hi _ hc2)
 obtain ⟨rfl, hlt⟩ := setAt_eq hL
 have hmem : ∀ p ∈ L.set m (.ptr b 0, .box (es.set q e')), p = (.ptr b 0, .box (es.set q e')) ∨ p ∈ L := by
  intro p hp
  rcases List.mem_or_eq_of_mem_set hp with e | e
  ·exact .inr e
  ·exact .inl e
 refine { s with own := ⟨fun p hp => ?_, fun p hp => ?_, by rw [box_swap L m hm]; exact s.own.nodup⟩ }
 ·rcases hmem p hp with rfl | hp
  ·exact hobj
  ·exact s.own.ok p hp
 ·rcases hmem p hp with rfl | hp
  ·intro c' hc'
   exact s.own.out _ (List.mem_of_getElem? hm) c' (by simpa [blkE, blkO] using hc')
  ·exact s.own.out p hp
theorem st_cell {b q : Nat} {es : List TE} {e e' : TE} (m : Nat) {L' : Own} (hm : L[m]? = some (.ptr b 0, .box es)) (hq : es[q]? = some e) (hi : ∀ z v, e.ok z v → e'.ok z v) (hL : setAt L m (.ptr b 0, .box (es.set q e')) = some L') :
    ∀ z fr h, StZ C Γ L z fr h → ∃ z', z.le z' ∧ StZ C Γ L' z' fr h := fun z _ _ s => ⟨z, .refl _, s.cell m hm hq (hi z) hL⟩
theorem st_rawcell {b q : Nat} {es : List TE} {v : AVal} (m : Nat) {L' : Own} (hm : L[m]? = some (.ptr b 0, .box es)) (hq : es[q]? = some (.val rRaw v)) (hL : setAt L m (.ptr b 0, .box (es.set q (.raw v))) = some L') :
    ∀ z fr h, StZ C Γ L z fr h → ∃ z', z.le z' ∧ StZ C Γ L' z' fr h := st_cell m hm hq raw_cell hL
theorem st_freezemc {A B : Type} {K : Rep A} {R : Rep B} {xs : List (A × B)} {b c q : Nat} {es : List TE} (k m : Nat) (ts : List Nat) {L' L'' : Own} (hk : L[k]? = some (.map c, .mp K R xs)) (hL : dropAt L k = some L') (hm : L'[m]? = some (.ptr b 0, .box es)) (hq : es[q]? = some (.raw (.map c))) (hL' : setAt L' m (.ptr b 0, .box (es.set q (.val (rMap K R) xs))) = some L'') (hts : AllRaw Γ (.map c) ts) :
    ∀ z fr h, StZ C Γ L z fr h → ∃ z', z.le z' ∧ StZ C (holdAll ts (.val (rMap K R) xs) Γ) L'' z' fr h := by
  intro z fr h s
  obtain ⟨z', hz, s', hr⟩ := s.freezem hk hL
  have s2 := s'.cell m hm hq (e' := .val (rMap K R) xs) (fun v hv => by simp only [TE.ok] at hv ⊢; rw [hv]; exact hr) hL'
  exact ⟨z', hz, { s2 with fr := holdAll_ok (by simp only [TE.ok]; exact hr) hts s2.fr }⟩
theorem tv_nilN {z : Store} {v : AVal} {x : Unit} (h : TV rNil z v x) : v = .nilslice := by
 have h1 := h.rel
 have h2 := h.agg
 cases v <;> simp_all [rNil, AVal.cells, AVal.isAgg]
theorem nil_cell : ∀ z v, (TE.val rNil ()).ok z v → (TE.raw .nilslice).ok z v := fun z v h => by
 simp only [TE.ok] at h ⊢
 exact tv_nilN h
theorem st_nilcell {b q : Nat} {es : List TE} (m : Nat) {L' : Own} (hm : L[m]? = some (.ptr b 0, .box es)) (hq : es[q]? = some (.val rNil ())) (hL : setAt L m (.ptr b 0, .box (es.set q (.raw .nilslice))) = some L') :
    ∀ z fr h, StZ C Γ L z fr h → ∃ z', z.le z' ∧ StZ C Γ L' z' fr h := st_cell m hm hq nil_cell hL
end
end Go.Ai.Sx

/- Floats, tables in strings, arrays whose first elements are left out, slices that are made greater. -/
namespace Go.Ai.Sx
def sqrtP : List AVal → Option AVal
 | [.float .f64 b] => (FloatKind.f64.format.sqrt b).map (AVal.float .f64)
 | _ => none
theorem sqrtP_eq {b r : Nat} (h : FloatKind.f64.format.sqrt b = some r) : sqrtP [.float .f64 b] = some (.float .f64 r) := by
 simp only [sqrtP, h, Option.map]
def f2i (b : Nat) : Option Int := match (FloatKind.f64.decode b).toInt .zero with
 | some n => if IntKind.i64.min ≤ n ∧ n ≤ IntKind.i64.max then some n else none
 | none => none
def appzO {A : Type} (bytes : Nat) (n : Int) (x : A) : Option (List A) := if 0 < n ∧ n.toNat * bytes ≤ 2 ^ 46 ∧ n ≤ 2 ^ 62 then some (List.replicate n.toNat x) else none
theorem appzO_inv {A : Type} {bytes : Nat} {n : Int} {x : A} {xs : List A} (h : appzO bytes n x = some xs) : (0 < n ∧ n.toNat * bytes ≤ 2 ^ 46 ∧ n ≤ 2 ^ 62) ∧ xs = List.replicate n.toNat x := by
 unfold appzO at h
 split at h
 ·rename_i q; cases h; exact ⟨q, rfl⟩
 ·cases h
def lenmO {A B : Type} (es : List (A × B)) : Option Int := if es.length ≤ 4611686018427387904 then some (es.length : Int) else none
def slz {A : Type} (xs : List A) : Option Unit := if xs.isEmpty then none else some ()
theorem slz_inv {A : Type} {xs : List A} {u : Unit} (h : slz xs = some u) : xs ≠ [] := fun e => by subst e; cases h
section
variable {C : Ctx} {T : Tab} {d : Option (List Nat)} {ops rest : List Oper} {Γ : Env} {L : Own} {Q : AFrame → AHeap → Prop} {P : AExit → AFrame → AHeap → Prop} {o : Oper} {t : Nat} {z : Store} {fr : AFrame} {h : AHeap}
theorem raw_te {v : AVal} {z : Store} : TE.ok z (.raw v) v := by simp only [TE.ok]
theorem prim1 {x : Operand} {v : AVal} (hx : Opd Γ x (.raw v)) : ∀ z fr, FrOk z Γ fr → [x].map fr.op = [v] := fun z fr hf => by
 simp only [List.map, hx.raw hf]
theorem s_cif {u u' : TypeId} {k : IntKind} {x : Operand} {a : Int} (h1 : (T.und u).isSome = true) (h2 : T.und u' = some (.float .f64)) (hw : Want ops Γ true o.guard) (ho : o.op = .convert u u' x) (hd : o.dst = some t) (hx : Opd Γ x (.val (rInt k) a))
    (r : SOps C T d ops rest ((t, .raw (.float .f64 (FloatKind.f64.nearest a))) :: Γ) L Q) : SOps C T d ops (o :: rest) Γ L Q := by
  refine s_pure (by rw [ho]; rfl) hw hd (fun z fr h s => ⟨.float .f64 (FloatKind.f64.nearest a), ?_, raw_te⟩) r
  rw [ho]
  cases e : T.und u with
  | none => rw [e] at h1; cases h1
  | some q => simp [aop, aconvert, hx.int s.fr, h2, e, optVal]
theorem s_cfi {u u' : TypeId} {x : Operand} {b : Nat} {a : Int} (h1 : (T.und u).isSome = true) (h2 : T.und u' = some (.int .i64)) (hf : f2i b = some a) (hw : Want ops Γ true o.guard) (ho : o.op = .convert u u' x) (hd : o.dst = some t) (hx : Opd Γ x (.raw (.float .f64 b)))
    (r : SOps C T d ops rest ((t, .val (rInt .i64) a) :: Γ) L Q) : SOps C T d ops (o :: rest) Γ L Q := by
  unfold f2i at hf
  cases e1 : (FloatKind.f64.decode b).toInt .zero with
  | none => rw [e1] at hf; cases hf
  | some n =>
    rw [e1] at hf
    simp only at hf
    split at hf
    case isFalse => cases hf
    rename_i hr
    cases hf
    refine s_pure (by rw [ho]; rfl) hw hd (fun z fr h s => ⟨.int .i64 a, ?_, by simp only [TE.ok]; exact tv_int_mk hr.1 hr.2⟩) r
    rw [ho]
    cases e : T.und u with
    | none => rw [e] at h1; cases h1
    | some q => simp only [aop, aconvert, hx.raw s.fr, h2, e, e1, if_pos hr, optVal, Option.map]
theorem s_builda0 {A : Type} {R : Rep A} {at_ et : TypeId} {n : Nat} {zc : List AVal} {parts : Array (Nat × Operand)} {as : List A} (i0 : Nat) (x0 : A) (har : Ar1 T at_ et n R) (hz : zeroT T at_ = some (.agg zc)) (hzl : zc.length = n * R.sz) (hx : ∀ z j, j < i0 → R.rel z ((zc.drop (j * R.sz)).take R.sz) x0) (hw : Want ops Γ true o.guard) (ho : o.op = .build at_ parts) (hd : o.dst = some t) (he : Elts Γ R i0 parts.toList as) (hn : i0 + as.length = n)
    (r : SOps C T d ops rest ((t, .val (rArr n R) (List.replicate i0 x0 ++ as)) :: Γ) L Q) : SOps C T d ops (o :: rest) Γ L Q := by
  refine s_pure (by rw [ho]; rfl) hw hd (fun z fr h s => ?_) r
  obtain ⟨cells, h3, h4, h6, h5⟩ := elts_fill he s.fr har.pos zc (by rw [hzl, ← hn])
  refine ⟨.agg cells, ?_, ?_⟩
  · rw [ho]
    simp only [aop, abuild, hz, har.und, har.sz, AVal.cells, h3, optVal, Option.map]
  · simp only [TE.ok]
    have hl : (List.replicate i0 x0 ++ as).length = n := by rw [List.length_append, List.length_replicate, hn]
    have hp : ∀ i x, (List.replicate i0 x0 ++ as)[i]? = some x → R.rel z ((cells.drop (i * R.sz)).take R.sz) x := fun i x hx' => by
      rw [List.getElem?_append, List.length_replicate] at hx'
      split at hx'
      · rename_i hlt
        rw [List.getElem?_replicate, if_pos hlt] at hx'
        cases hx'
        rw [h6 i hlt]
        exact hx z i hlt
      · have := h5 _ x hx'
        rwa [show i0 + (i - i0) = i by omega] at this
    exact ⟨⟨hl, by simp only [AVal.cells]; rw [h4, hzl], ones_of (l := cells) har.pos (by rw [h4, hzl, hl]) hp, hp⟩, rfl⟩
theorem st_nilval {A : Type} (R : Rep A) {n : Nat} (hl : look Γ n = some (.raw .nilslice)) : ∀ z fr h, StZ C Γ L z fr h → ∃ z', z.le z' ∧ StZ C ((n, .val (rSlice R) []) :: Γ) L z' fr h := fun z fr h s => by
 have h1 := s.fr _ _ hl
 simp only [TE.ok] at h1
 exact ⟨z, .refl _, { s with fr := frok_at s.fr (by simp only [TE.ok]; rw [h1]; exact tv_slice_mk row_nil) }⟩
theorem s_capnil {x : Operand} {st et : TypeId} {ats : Array TypeId} (hu : T.und st = some (.slice et)) (hats : ats = #[st]) (hw : Want ops Γ true o.guard) (ho : o.op = .call ⟨.builtin .cap, #[x], ats⟩) (hd : o.dst = some t) (hx : Opd Γ x (.raw .nilslice))
    (r : SOps C T d ops rest ((t, .val (rInt .i64) 0) :: Γ) L Q) : SOps C T d ops (o :: rest) Γ L Q := by
  subst hats
  refine s_pure (by rw [ho]; rfl) hw hd (fun z fr h s => ⟨.int .i64 0, ?_, by simp only [TE.ok]; exact tv_int_mk (by decide) (by decide)⟩) r
  rw [ho]
  show abuiltin T .cap #[st] [fr.op x] h = _
  simp only [abuiltin, hx.raw s.fr]
  show optVal h (acap T st .nilslice) = _
  simp only [acap, hu, optVal, Option.map]
theorem s_slnil {x hi : Operand} {st et : TypeId} {n : Nat} (hu : T.und st = some (.slice et)) (hz : szT T et = some n) (hw : Want ops Γ true o.guard) (ho : o.op = .slice st x none (some hi) none) (hd : o.dst = some t) (hx : Opd Γ x (.raw .nilslice)) (hh : Opd Γ hi (.val (rInt .i64) 0))
    (r : SOps C T d ops rest ((t, .raw .nilslice) :: Γ) L Q) : SOps C T d ops (o :: rest) Γ L Q := by
  refine s_pure (by rw [ho]; rfl) hw hd (fun z fr h s => ⟨.nilslice, ?_, raw_te⟩) r
  rw [ho]
  simp only [aop, hx.raw s.fr, hh.int s.fr, aslice, hu, hz, Option.map]
  rfl
theorem s_appz {A : Type} {R : Rep A} {bytes : Nat} {st et xt : TypeId} {x0 : A} {x y : Operand} {ats : Array TypeId} {n : Int} (hsl : Sl T st et R) (hty : Ty T et R bytes) (hz : Zr T et R x0) (hxt : T.und xt = some (.int .i64)) (hne : Nat.beq st xt = false) {xs : List A} (hn' : appzO bytes n x0 = some xs) (hats : ats = #[st, xt]) (hw : Want ops Γ true o.guard) (ho : o.op = .call ⟨.builtin .append, #[x, y], ats⟩) (hd : o.dst = some t) (hx : Opd Γ x (.raw .nilslice)) (hy : Opd Γ y (.val (rInt .i64) n)) (hls : d = none)
    (r : ∀ v, SOps C T d ops rest ((t, .raw v) :: Γ) ((v, .row R xs) :: L) Q) : SOps C T d ops (o :: rest) Γ L Q := by
  obtain ⟨hn, rfl⟩ := appzO_inv hn'
  subst hats hls
  intro fr h ⟨z, s⟩
  obtain ⟨i, h1, h2, h3⟩ := hty.info
  obtain ⟨zv, h4, h5⟩ := hz.zero
  have h5 := h5 z
  have hlen := R.len _ _ _ h5.rel
  have hst : st ≠ xt := fun e => by subst e; simp at hne
  have ha : aop T fr.op h o.op = some (.val (.slice h.next 0 n.toNat R.sz none) (h.push (.arr (copies n.toNat zv.cells) false))) := by
    rw [ho]
    show abuiltin T .append #[st, xt] [fr.op x, fr.op y] h = _
    simp only [abuiltin, aappend]
    rw [if_pos hst, hx.raw s.fr, hy.int s.fr]
    simp only [azeros, hxt, hsl.und, h1, h4]
    rw [h2, h3, if_neg (by rw [hlen]; have := hty.pos; omega), if_pos hn]
    rfl
  simp only [wX, hw.ok s.fr, ha, hd, put_some]
  refine r _ _ _ ⟨z, (s.pushOwn _ rfl ?_).set raw_te⟩
  simp only [Obj.ok]
  have hcl : (copies n.toNat zv.cells).length = n.toNat * R.sz := by rw [copies_len, hlen]
  refine ⟨by rw [List.length_replicate]; simp only [maxLen]; omega, .inr ⟨h.next, 0, none, copies n.toNat zv.cells, by rw [List.length_replicate], by rw [AHeap.get_push, if_pos rfl], by rw [List.length_replicate]; omega, fun c hc => (nomatch hc), fun i x' hx => ?_⟩⟩
  have hi := (List.getElem?_eq_some_iff.1 hx).1
  rw [List.length_replicate] at hi
  rw [List.getElem?_replicate, if_pos hi] at hx
  cases hx
  rw [Nat.zero_add, ← hlen, copies_piece _ hi]
  exact h5.rel
theorem s_slo0 {A : Type} {R : Rep A} {xs : List A} {x hi : Operand} {st et : TypeId} {v : AVal} (kk : Nat) (hsl : Sl T st et R) (h0 : xs ≠ []) (hw : Want ops Γ true o.guard) (ho : o.op = .slice st x none (some hi) none) (hd : o.dst = some t)
    (hx : Opd Γ x (.raw v)) (hk : L[kk]? = some (v, .row R xs)) (hh : Opd Γ hi (.val (rInt .i64) 0)) {L' : Own} (hL : dropAt L kk = some L') (r : ∀ v', SOps C T d ops rest ((t, .raw v') :: Γ) ((v', .row R ([] : List A)) :: L') Q) : SOps C T d ops (o :: rest) Γ L Q := by
  refine s_memv (e := fun v' => .raw v') (L' := fun v' => (v', .row R []) :: L') (nf (by rw [ho]; rfl)) (fun _ _ _ _ => nfo (by rw [ho]; rfl)) hw hd (fun z fr h s => ?_) r
  have hp := dropAt_perm hk hL
  have hr := s.own.ok _ (List.mem_of_getElem? hk)
  simp only [Obj.ok] at hr
  rcases hr.2 with ⟨_, q⟩ | ⟨b, off, cap, cells, rfl, g1, g2, g3, g4⟩
  · exact absurd q h0
  · refine ⟨.slice b off 0 R.sz cap, h, .slice b off 0 R.sz cap, ?_, s.repack (L' := (.slice b off 0 R.sz cap, .row R []) :: L') ?_ (fun p hp' => ?_), by simp only [TE.ok]⟩
    · rw [ho]
      simp only [aop, hx.raw s.fr, hh.int s.fr, aslice, hsl.und, hsl.sz, Option.map]
      rw [if_pos (by exact ⟨trivial, hsl.pos⟩)]
      have a2 : ∀ m : Nat, abound (some (.int .i64 0)) xs.length m = some 0 := fun m => by simp [abound]
      cases cap with
      | none =>
        simp only [a2]
        simp [abound, optVal]
      | some c =>
        simp only [a2]
        simp [abound, optVal]
    · refine List.Perm.trans (List.Perm.of_eq ?_) (blks_perm hp)
      rw [blks_cons, blks_cons]; rfl
    · rcases List.mem_cons.1 hp' with rfl | hp'
      · simp only [Obj.ok]
        exact ⟨by simp [maxLen], .inr ⟨b, off, cap, cells, rfl, g1, by simp; omega, fun c hc => ⟨by simp, (g3 c hc).2⟩, fun i x hx => by simp at hx⟩⟩
      · exact s.own.ok p (hp.mem_iff.1 (List.mem_cons_of_mem _ hp'))
theorem s_lenm {A B : Type} {K : Rep A} {R : Rep B} {x : Operand} {st kt et : TypeId} {ats : Array TypeId} {b : Nat} {es : List (A × B)} {n : Int} (kk : Nat) (hls : d = none) (hu : T.und st = some (.map kt et)) (hn : lenmO es = some n) (hats : ats = #[st]) (hk : L[kk]? = some (.map b, .mp K R es)) (hw : Want ops Γ true o.guard) (ho : o.op = .call ⟨.builtin .len, #[x], ats⟩) (hd : o.dst = some t) (hx : Opd Γ x (.raw (.map b)))
    (r : SOps C T d ops rest ((t, .val (rInt .i64) n) :: Γ) L Q) : SOps C T d ops (o :: rest) Γ L Q := by
  subst hats hls
  unfold lenmO at hn
  split at hn
  case isFalse => cases hn
  rename_i hb
  cases hn
  intro fr h ⟨z, s⟩
  have hob := s.own.ok _ (List.mem_of_getElem? hk)
  simp only [Obj.ok] at hob
  obtain ⟨b', l, e, g1, g2, g3⟩ := hob
  cases e
  have ha : aop T fr.op h o.op = some (.val (.int .i64 es.length) h) := by
    rw [ho]
    show abuiltin T .len #[st] [fr.op x] h = _
    simp only [abuiltin, hx.raw s.fr]
    show optVal h (alen T st (.map b) h) = _
    simp only [alen, hu, g1, optVal, Option.map, g2]
  simp only [wX, hw.ok s.fr, ha, hd, put_some]
  refine r _ _ ⟨z, s.set (by simp only [TE.ok]; exact tv_int_mk (by show (-9223372036854775808 : Int) ≤ _; omega) (by show _ ≤ (9223372036854775807 : Int); omega))⟩
end
end Go.Ai.Sx
