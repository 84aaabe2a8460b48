/- Maps from numbers that are owned. -/
import Derived.Test.YtmnbnppfidghoaaM4
import Derived.Test.YtmnbnppfidghoaaM3
import Derived.HandedShaped
import Derived.Carry
import Derived.OpenShut
import Derived.JoinedOf
import Derived.ChangeCalls
import Derived.Test.YtmnbnppfidghoaaM0
set_option linter.unusedSimpArgs false
set_option linter.unusedVariables false
set_option linter.unusedSectionVars false
namespace Go.Ai.Sx
def mget {A B : Type} [DecidableEq A] : List (A × B) → A → Option B
 | [], _ => none
 | (k, v) :: es, x => if x = k then some v else mget es x
def mset {A B : Type} [DecidableEq A] : List (A × B) → A → B → List (A × B)
 | [], x, v => [(x, v)]
 | (k, w) :: es, x, v => if x = k then (x, v) :: es else (k, w) :: mset es x v
structure KeyOk (T : Tab) (kt : TypeId) {A : Type} [DecidableEq A] (Q : Rep A) : Prop where
 plain : ∀ z v x, TV Q z v x → plainKey T kt v = true
 eq : ∀ z z' v v' x y, TV Q z v x → TV Q z' v' y → akey v v' = some (decide (x = y))
structure KF (T : Tab) (fs : List Field) (i : Nat) {A : Type} [DecidableEq A] (R : Rep A) : Prop where
 plain : ∀ z cs x, R.rel z cs x → flatKey T i fs cs = true
 eq : ∀ z z' cs ds x y, R.rel z cs x → R.rel z' ds y → akeys cs ds = some (decide (x = y))
theorem tv_agg {A : Type} {R : Rep A} {z : Store} {v : AVal} {x : A} (h : TV R z v x) (ha : R.agg = true) : ∃ cs, v = .agg cs ∧ R.rel z cs x := by
 have h1 := h.rel
 have h2 := h.agg
 rw [ha] at h2
 cases v <;> first | exact ⟨_, rfl, h1⟩ | cases h2
theorem kf_nil {T : Tab} {i : Nat} : KF T [] i rUnit := by
 refine ⟨fun z cs x h => ?_, fun z z' cs ds x y h h' => ?_⟩
 ·have : cs = [] := h
  rw [this]; rfl
 ·have e1 : cs = [] := h
  have e2 : ds = [] := h'
  rw [e1, e2]; simp [akeys]
theorem decide_pair {A B : Type} [DecidableEq A] [DecidableEq B] (x y : A × B) : decide (x = y) = (decide (x.1 = y.1) && decide (x.2 = y.2)) := by
 rcases x with ⟨a, b⟩
 rcases y with ⟨c, d⟩
 simp only [Prod.mk.injEq, Bool.decide_and]
theorem kf_int {T : Tab} {f : Field} {fs : List Field} {i : Nat} {k : IntKind} {B : Type} [DecidableEq B] {S : Rep B} (hn : (f.name != "_") = true) (ho : Nat.beq f.offset i = true) (hu : T.und f.type = some (.int k)) (r : KF T fs (i + 1) S) : KF T (f :: fs) i (rPair (rInt k) S) := by
 refine ⟨fun z cs x h => ?_, fun z z' cs ds x y h h' => ?_⟩
 ·obtain ⟨c1, c2, rfl, ⟨rfl, _⟩, h2⟩ := h
  simp [flatKey, hn, ho, scalarIn, hu, r.plain z c2 _ h2]
 ·obtain ⟨c1, c2, rfl, ⟨rfl, _⟩, h2⟩ := h
  obtain ⟨d1, d2, rfl, ⟨rfl, _⟩, h2'⟩ := h'
  rw [decide_pair]
  simp only [List.cons_append, List.nil_append, akeys, akey1, if_true, r.eq z z' _ _ _ _ h2 h2']
  by_cases e : x.1 = y.1
  ·rw [e]; simp
  ·rw [(by simpa using e : (x.1 == y.1) = false)]; simp [e]
theorem kf_bool {T : Tab} {f : Field} {fs : List Field} {i : Nat} {B : Type} [DecidableEq B] {S : Rep B} (hn : (f.name != "_") = true) (ho : Nat.beq f.offset i = true) (hu : T.und f.type = some .bool) (r : KF T fs (i + 1) S) : KF T (f :: fs) i (rPair rBool S) := by
 refine ⟨fun z cs x h => ?_, fun z z' cs ds x y h h' => ?_⟩
 ·obtain ⟨c1, c2, rfl, h1, h2⟩ := h
  have h1 : c1 = [.bool x.1] := h1
  subst h1
  simp [flatKey, hn, ho, scalarIn, hu, r.plain z c2 _ h2]
 ·obtain ⟨c1, c2, rfl, h1, h2⟩ := h
  obtain ⟨d1, d2, rfl, h1', h2'⟩ := h'
  have h1 : c1 = [.bool x.1] := h1
  have h1' : d1 = [.bool y.1] := h1'
  subst h1 h1'
  rw [decide_pair]
  simp only [List.cons_append, List.nil_append, akeys, akey1, r.eq z z' _ _ _ _ h2 h2']
  by_cases e : x.1 = y.1
  ·rw [e]; simp
  ·rw [(by simpa using e : (x.1 == y.1) = false)]; simp [e]
theorem key_st {T : Tab} {kt : TypeId} {fs : Array Field} {A : Type} [DecidableEq A] {R : Rep A} (hu : T.und kt = some (.struct fs)) (hs : (!((T.types.get kt).map (·.stood)).getD true) = true) (ha : R.agg = true) (r : KF T fs.toList 0 R) : KeyOk T kt R := by
 refine ⟨fun z v x h => ?_, fun z z' v v' x y h h' => ?_⟩
 ·obtain ⟨cs, rfl, h1⟩ := tv_agg h ha
  simp [plainKey, hu, r.plain z cs x h1] at hs ⊢
  exact hs
 ·obtain ⟨cs, rfl, h1⟩ := tv_agg h ha
  obtain ⟨ds, rfl, h2⟩ := tv_agg h' ha
  exact r.eq z z' cs ds x y h1 h2
section
variable {A B : Type} [DecidableEq A]
def MpRel {A B : Type} (Q : Rep A) (R : Rep B) (z : Store) (l : List (AVal × AVal)) (es : List (A × B)) : Prop :=
 l.length = es.length ∧ ∀ (i : Nat) (p : AVal × AVal) (q : A × B), l[i]? = some p → es[i]? = some q → TV Q z p.1 q.1 ∧ TV R z p.2 q.2
theorem mprel_cons {A B : Type} {Q : Rep A} {R : Rep B} {z : Store} {p : AVal × AVal} {l : List (AVal × AVal)} {q : A × B} {es : List (A × B)} : MpRel Q R z (p :: l) (q :: es) ↔ (TV Q z p.1 q.1 ∧ TV R z p.2 q.2) ∧ MpRel Q R z l es := by
 constructor
 ·rintro ⟨h1, h2⟩
  refine ⟨h2 0 p q rfl rfl, by simpa using h1, fun i p' q' hp hq => h2 (i + 1) p' q' (by simpa using hp) (by simpa using hq)⟩
 ·rintro ⟨h1, h2, h3⟩
  refine ⟨by simp [h2], fun i p' q' hp hq => ?_⟩
  cases i with
  | zero => simp at hp hq; subst hp hq; exact h1
  | succ i => exact h3 i p' q' (by simpa using hp) (by simpa using hq)
theorem MpRel.mono {A B : Type} {Q : Rep A} {R : Rep B} {z z' : Store} {l : List (AVal × AVal)} {es : List (A × B)} (e : z.le z') (h : MpRel Q R z l es) : MpRel Q R z' l es :=
 ⟨h.1, fun i p q hp hq => ⟨(h.2 i p q hp hq).1.mono e, (h.2 i p q hp hq).2.mono e⟩⟩
theorem afind_rel {T : Tab} {kt : TypeId} {Q : Rep A} {R : Rep B} {z : Store} {kv : AVal} {x : A} (hQ : KeyOk T kt Q) (hkv : TV Q z kv x) : ∀ {l : List (AVal × AVal)} {es : List (A × B)} {n : Nat}, MpRel Q R z l es →
    (mget es x = none ∧ afind kv l n = some none ∧ ∀ (v : AVal) (w : B), TV R z v w → MpRel Q R z (l ++ [(kv, v)]) (mset es x w)) ∨
    (∃ i v y, mget es x = some y ∧ afind kv l n = some (some (n + i, v)) ∧ TV R z v y ∧ ∀ (v : AVal) (w : B), TV R z v w → MpRel Q R z (l.set i (kv, v)) (mset es x w))
  | [], [], n, h => .inl ⟨rfl, rfl, fun v w hw => mprel_cons.2 ⟨⟨hkv, hw⟩, h⟩⟩
  | [], _ :: _, _, h => by have := h.1; simp at this
  | _ :: _, [], _, h => by have := h.1; simp at this
  | (pk, pv) :: l, (qk, qv) :: es, n, h => by
    obtain ⟨⟨h1, h2⟩, h3⟩ := mprel_cons.1 h
    have ek := hQ.eq z z kv pk x qk hkv h1
    by_cases e : x = qk
    · subst e
      rw [decide_eq_true rfl] at ek
      right
      refine ⟨0, pv, qv, by simp [mget], by simp [afind, ek], h2, fun v w hw => ?_⟩
      simp only [List.set_cons_zero, mset, if_true]
      exact mprel_cons.2 ⟨⟨hkv, hw⟩, h3⟩
    · rw [decide_eq_false e] at ek
      rcases afind_rel (n := n + 1) hQ hkv h3 with ⟨a1, a2, a3⟩ | ⟨i, v, y, a1, a2, a3, a4⟩
      · left
        refine ⟨by simp [mget, e, a1], by simp [afind, ek, a2], fun v w hw => ?_⟩
        simp only [mset, if_neg e, List.cons_append]
        exact mprel_cons.2 ⟨⟨h1, h2⟩, a3 v w hw⟩
      · right
        refine ⟨i + 1, v, y, by simp [mget, e, a1], by simp only [afind, ek, a2]; congr 3; omega, a3, fun v w hw => ?_⟩
        simp only [mset, if_neg e, List.set_cons_succ]
        exact mprel_cons.2 ⟨⟨h1, h2⟩, a4 v w hw⟩
end
structure Mp (T : Tab) (mt : TypeId) {A : Type} [DecidableEq A] (Q : Rep A) (et : TypeId) : Prop where
 und : ∃ kt, T.und mt = some (.map kt et) ∧ KeyOk T kt Q
def rMap {A B : Type} (Q : Rep A) (R : Rep B) : Rep (List (A × B)) :=
 ⟨1, false, fun z cs es => ∃ v, cs = [v] ∧ ((v = .nilmap ∧ es = []) ∨ ∃ b l, v = .map b ∧ z b = some (.mp l) ∧ MpRel Q R z l es), fun _ _ _ h => by obtain ⟨v, h, _⟩ := h; rw [h]; rfl,
  fun _ _ _ _ e h => let ⟨v, h1, h2⟩ := h; ⟨v, h1, h2.imp id fun ⟨b, l, g1, g2, g3⟩ => ⟨b, l, g1, e _ _ g2, g3.mono e⟩⟩,
  fun _ => rfl, fun _ _ _ h => by
   obtain ⟨v, h, r⟩ := h
   rw [h]
   rcases r with ⟨rfl, _⟩ | ⟨b, l, rfl, _⟩ <;> rfl⟩
theorem tv_map_mk {A B : Type} {Q : Rep A} {R : Rep B} {z : Store} {b : Nat} {l : List (AVal × AVal)} {es : List (A × B)} (h : z b = some (.mp l)) (r : MpRel Q R z l es) : TV (rMap Q R) z (.map b) es := ⟨⟨_, rfl, .inr ⟨b, l, rfl, h, r⟩⟩, rfl⟩
section
variable {A : Type} [DecidableEq A]
variable {C : Ctx} {T : Tab} {d : Option (List Nat)} {ops rest : List Oper} {Γ : Env} {L : Own} {Q : AFrame → AHeap → Prop} {P : AExit → AFrame → AHeap → Prop} {o : Oper} {t : Nat} {z : Store} {fr : AFrame} {h : AHeap}
theorem s_mkmap {B : Type} {K : Rep A} (R : Rep B) {mt et : TypeId} {r : Option Operand} (hm : Mp T mt K et) (hr : r = none) (hw : Want ops Γ true o.guard) (ho : o.op = .makeMap mt r) (hd : o.dst = some t)
    (go : ∀ b, SOps C T d ops rest ((t, .raw (.map b)) :: Γ) ((.map b, .mp K R []) :: L) Q) : SOps C T d ops (o :: rest) Γ L Q := by
  subst hr
  obtain ⟨kt, h1, h2⟩ := hm.und
  have hno : noFoot o.op = true := by rw [ho]; rfl
  refine step_val hw (nf hno) fun z fr h s => ?_
  refine ⟨.map h.next, h.push (.mp []), z, _, _, by rw [ho]; simp only [aop, opMakeMap, h1], nfo hno, .refl _, ?_, go h.next⟩
  rw [hd, put_some]
  refine (s.pushOwn (.mp []) (v := .map h.next) (ob := .mp K R []) rfl ?_).set (by simp only [TE.ok])
  simp only [Obj.ok]
  exact ⟨h.next, [], rfl, by rw [AHeap.get_push, if_pos rfl], rfl, by simp⟩
theorem s_mapset {B : Type} {K : Rep A} {R : Rep B} {mt et : TypeId} {m x y : Operand} {b : Nat} {es : List (A × B)} {i : A} {w : B} (kk : Nat) (hm : Mp T mt K et) (ho : o.op = .mapUpdate mt m x y ∨ o.op = .insert mt m x y) (hk : L[kk]? = some (.map b, .mp K R es)) (hw : Want ops Γ true o.guard) (hd : o.dst = none)
    (hmx : Opd Γ m (.raw (.map b))) (hx : Opd Γ x (.val K i)) (hy : Opd Γ y (.val R w)) {L' : Own} (hL : setAt L kk (.map b, .mp K R (mset es i w)) = some L') (r : SOps C T d ops rest Γ L' Q) : SOps C T d ops (o :: rest) Γ L Q := by
  obtain ⟨kt, h1, h2⟩ := hm.und
  have hft : ∀ fr : AFrame, foot fr.op o = ⟨[], false, blkOf (fr.op m), false⟩ := fun fr => by
    rcases ho with ho | ho <;> (unfold foot; rw [ho])
  have hop : ∀ (fr : AFrame) (h : AHeap), aop T fr.op h o.op = optHeap (amapUpdate T mt (fr.op m) (fr.op x) (fr.op y) h) := fun fr h => by
    rcases ho with ho | ho <;> rw [ho] <;> rfl
  refine s_memn (.w (by rcases ho with ho | ho <;> rw [ho] <;> rfl) (fun t a q => by rcases ho with ho | ho <;> (rw [ho] at q; cases q)) (by rcases ho with ho | ho <;> rw [ho] <;> rfl) (fun q => by rcases ho with ho | ho <;> (rw [ho] at q; cases q))) (fun z fr h s => by
    rw [hft]
    exact ⟨fun b hb => (nomatch hb), fun b' hb => own_none s hk rfl b' (by simpa [blkOf, hmx.raw s.fr] using hb)⟩) hw hd (fun z fr h s => ?_) r
  have hob := s.own.ok _ (List.mem_of_getElem? hk)
  simp only [Obj.ok] at hob
  obtain ⟨b', l, e, g1, g2, g3⟩ := hob
  cases e
  have hpk := h2.plain z _ i (hx.val s.fr)
  rcases afind_rel (n := 0) (l := l) (es := es) (R := R) h2 (hx.val s.fr) ⟨g2, g3⟩ with ⟨a1, a2, a3⟩ | ⟨j, v, y', a1, a2, a3, a4⟩
  · obtain ⟨k1, k2⟩ := a3 _ w (hy.val s.fr)
    refine ⟨.tuple [], h.set b (.mp (l ++ [(fr.op x, fr.op y)])), ?_, s.upd hk rfl rfl _ ?_ hL⟩
    · rw [hop, hmx.raw s.fr]
      simp only [amapUpdate, h1, hpk, if_true, g1, a2]
      rfl
    · simp only [Obj.ok]
      exact ⟨b, _, rfl, by rw [AHeap.get_set, if_pos rfl], k1, k2⟩
  · obtain ⟨k1, k2⟩ := a4 _ w (hy.val s.fr)
    refine ⟨.tuple [], h.set b (.mp (l.set j (fr.op x, fr.op y))), ?_, s.upd hk rfl rfl _ ?_ hL⟩
    · rw [hop, hmx.raw s.fr]
      simp only [amapUpdate, h1, hpk, if_true, g1, a2]
      rw [Nat.zero_add]; rfl
    · simp only [Obj.ok]
      exact ⟨b, _, rfl, by rw [AHeap.get_set, if_pos rfl], k1, k2⟩
theorem look_rel {B : Type} {K : Rep A} {R : Rep B} {mt et : TypeId} {m kv : AVal} {l : List (AVal × AVal)} {es : List (A × B)} {i : A} {w0 : B} (hm : Mp T mt K et) (hz : Zr T et R w0) (hkv : TV K z kv i) (hr : MpRel K R z l es)
    (hg : (m = .nilmap ∧ l = []) ∨ ∃ b, m = .map b ∧ h.get b = some (.mp l)) (ok : Bool) :
    ∃ v, alookup T mt m kv ok h = some (if ok then .tuple [v, .bool (mget es i).isSome] else v) ∧ TV R z v ((mget es i).getD w0) := by
  obtain ⟨kt, h1, h2⟩ := hm.und
  have hpk := h2.plain z _ i hkv
  obtain ⟨zv, z1, z2⟩ := hz.zero
  rcases hg with ⟨rfl, rfl⟩ | ⟨b, rfl, g⟩
  · have : es = [] := List.eq_nil_of_length_eq_zero hr.1.symm
    subst this
    refine ⟨zv, ?_, by simp only [mget, Option.getD_none]; exact z2 z⟩
    simp only [alookup, h1, hpk, if_true, afind, z1, mget]
    cases ok <;> rfl
  · rcases afind_rel (n := 0) h2 hkv hr with ⟨a1, a2, _⟩ | ⟨j, v, y', a1, a2, a3, _⟩
    · refine ⟨zv, ?_, by rw [a1]; exact z2 z⟩
      simp only [alookup, h1, hpk, if_true, g, a2, z1, a1]
      cases ok <;> rfl
    · refine ⟨v, ?_, by rw [a1]; exact a3⟩
      simp only [alookup, h1, hpk, if_true, g, a2, a1]
      cases ok <;> rfl
theorem look_val {B : Type} {K : Rep A} {R : Rep B} {mt et : TypeId} {b : Nat} {es : List (A × B)} {kv : AVal} {i : A} {w0 : B} {kk : Nat} (hm : Mp T mt K et) (hz : Zr T et R w0) (hk : L[kk]? = some (.map b, .mp K R es)) (hkv : TV K z kv i) (ok : Bool) (s : StZ C Γ L z fr h) :
    ∃ v, alookup T mt (.map b) kv ok h = some (if ok then .tuple [v, .bool (mget es i).isSome] else v) ∧ TV R z v ((mget es i).getD w0) := by
  have hob := s.own.ok _ (List.mem_of_getElem? hk)
  simp only [Obj.ok] at hob
  obtain ⟨b', l, e, g1, g2, g3⟩ := hob
  cases e
  exact look_rel hm hz hkv ⟨g2, g3⟩ (.inr ⟨b, rfl, g1⟩) ok
theorem s_look {B : Type} {K : Rep A} {R : Rep B} {mt et : TypeId} {m x : Operand} {b : Nat} {es : List (A × B)} {i : A} {w0 : B} (kk : Nat) (hls : d = none) (hm : Mp T mt K et) (hz : Zr T et R w0) (hk : L[kk]? = some (.map b, .mp K R es)) (hw : Want ops Γ true o.guard) (ho : o.op = .lookup mt m x false) (hd : o.dst = some t)
    (hmx : Opd Γ m (.raw (.map b))) (hx : Opd Γ x (.val K i)) (r : SOps C T d ops rest ((t, .val R ((mget es i).getD w0)) :: Γ) L Q) : SOps C T d ops (o :: rest) Γ L Q := by
  subst hls
  intro fr h ⟨z, s⟩
  obtain ⟨v, e1, e2⟩ := look_val hm hz hk (hx.val s.fr) false s
  have ha : aop T fr.op h o.op = some (.val v h) := by
    rw [ho]; simp only [aop, hmx.raw s.fr, e1, optVal, Option.map, Bool.false_eq_true, if_false]
  simp only [wX, hw.ok s.fr, ha, hd, put_some]
  exact r _ _ ⟨z, s.set (by simp only [TE.ok]; exact e2)⟩
theorem StZ.freezem {A B : Type} {K : Rep A} {R : Rep B} {es : List (A × B)} {b : Nat} (s : StZ C Γ L z fr h) {k : Nat} {L' : Own} (hk : L[k]? = some (.map b, .mp K R es)) (hL : dropAt L k = some L') : ∃ z', z.le z' ∧ StZ C Γ L' z' fr h ∧ TV (rMap K R) z' (.map b) es := by
 have ho := s.own.ok _ (List.mem_of_getElem? hk)
 simp only [Obj.ok] at ho
 obtain ⟨b', l, e, h2, h3, h5⟩ := ho
 cases e
 obtain ⟨o1, o2, o3⟩ := s.own.out _ (List.mem_of_getElem? hk) b (by simp [blkE, blkO])
 have hle : z.le (z.add b (.mp l)) := add_le o1
 have s' := s.drop hL
 have hne : ∀ p ∈ L', ∀ c, c ∈ blkE p → c ≠ b := by
  intro p hp c hc e
  subst e
  rw [dropAt_eq hL] at hp
  obtain ⟨j, hj, hjp⟩ := List.getElem_of_mem hp
  have hj' : (L.eraseIdx k)[j]? = some p := by rw [← hjp]; exact List.getElem?_eq_getElem _
  rw [List.getElem?_eraseIdx] at hj'
  split at hj'
  ·have := blks_apart s.own.nodup hj' hk hc (by simp [blkE, blkO]); omega
  ·have := blks_apart s.own.nodup hj' hk hc (by simp [blkE, blkO]); omega
 refine ⟨z.add b (.mp l), hle, { zle := s.zle.trans hle, sub := ?_, old := ?_, fr := s.fr.mono hle, own := ⟨fun p hp => Obj.ok_mono hle (fun _ _ => rfl) (s'.own.ok p hp), fun p hp c hc => ?_, s'.own.nodup⟩, chg := s.chg }, ?_⟩
 ·intro c y hc
  by_cases e : c = b
  ·subst e; rw [add_at] at hc; cases hc; exact ⟨h2, o2⟩
  ·rw [add_ne e] at hc; exact s.sub c y hc
 ·intro c hc hB
  rw [add_ne]
  ·exact s.old c hc hB
  ·intro e; subst e
   rcases o3 with q | q
   ·omega
   ·exact hB q
 ·obtain ⟨q1, q2, q3⟩ := s'.own.out p hp c hc
  exact ⟨by rw [add_ne (hne p hp c hc)]; exact q1, q2, q3⟩
 ·exact tv_map_mk add_at (MpRel.mono hle ⟨h3, h5⟩)
theorem znilM {A B : Type} {K : Rep A} {R : Rep B} {z : Store} : (rMap K R).rel z [.nilmap] [] := ⟨_, rfl, .inl ⟨rfl, rfl⟩⟩
theorem st_rawmap {b n : Nat} (hl : look Γ n = some (.raw (.map b))) : ∀ z fr h, StZ C Γ L z fr h → ∃ z', z.le z' ∧ StZ C ((n, .val rRaw (.map b)) :: Γ) L z' fr h := fun z fr h s => by
 have h1 := s.fr _ _ hl
 simp only [TE.ok] at h1
 exact ⟨z, .refl _, { s with fr := frok_at s.fr (by simp only [TE.ok]; rw [h1]; exact ⟨⟨rfl, rfl, rfl⟩, rfl⟩) }⟩
theorem raw_cell {v : AVal} : ∀ z c, (TE.val rRaw v).ok z c → (TE.raw v).ok z c := fun z c h => by
 simp only [TE.ok] at h ⊢
 exact tv_raw h
def rPtrN {A : Type} (R : Rep A) : Rep (Option A) :=
  ⟨1, false, fun z cs x => (x = none ∧ cs = [.nilptr]) ∨ ∃ a, x = some a ∧ (rPtr R).rel z cs a, fun z cs x q => by
      rcases q with ⟨_, rfl⟩ | ⟨a, _, q⟩
      · rfl
      · exact (rPtr R).len z cs a q,
    fun z z' cs x e q => q.imp id fun ⟨a, h1, h2⟩ => ⟨a, h1, (rPtr R).mono z z' cs a e h2⟩, fun _ => rfl, fun z cs x q => by
      rcases q with ⟨_, rfl⟩ | ⟨a, _, q⟩
      · rfl
      · exact (rPtr R).ones z cs a q⟩
theorem nilptr_ok {A : Type} {R : Rep A} : (TE.val (rPtrN R) none).ok z .nilptr := by
 simp only [TE.ok]
 exact ⟨.inl ⟨rfl, rfl⟩, rfl⟩
theorem st_optn {A : Type} {R : Rep A} {a : A} {n : Nat} (hl : look Γ n = some (.val (rPtr R) a)) : ∀ z fr h, StZ C Γ L z fr h → ∃ z', z.le z' ∧ StZ C ((n, .val (rPtrN R) (some a)) :: Γ) L z' fr h := fun z fr h s => by
 have h1 := s.fr _ _ hl
 simp only [TE.ok] at h1
 exact ⟨z, .refl _, { s with fr := frok_at s.fr (by simp only [TE.ok]; exact ⟨.inr ⟨a, rfl, h1.rel⟩, h1.agg⟩) }⟩
theorem st_someptr {A : Type} {R : Rep A} {x : Option A} {a : A} {n : Nat} (hx : x = some a) (hl : look Γ n = some (.val (rPtrN R) x)) : ∀ z fr h, StZ C Γ L z fr h → ∃ z', z.le z' ∧ StZ C ((n, .val (rPtr R) a) :: Γ) L z' fr h := fun z fr h s => by
 have h1 := s.fr _ _ hl
 simp only [TE.ok] at h1
 subst hx
 exact ⟨z, .refl _, { s with fr := frok_at s.fr (by
  simp only [TE.ok]
  rcases h1.rel with ⟨q, _⟩ | ⟨b, q, h2⟩
  ·cases q
  ·cases q; exact ⟨h2, h1.agg⟩) }⟩
end
end Go.Ai.Sx

/- Plain functions that printed texts use. -/
namespace Go.Ai.Sx
abbrev w64 (n : Int) : Int := IntKind.i64.wrap n
theorem okn {z : Store} : okAll z [] [] := by simp only [okAll]
theorem okint {z : Store} {k : IntKind} {es : List TE} {vs : List AVal} (h : okAll z es vs) : okAll z (.val (rInt k) 0 :: es) (.int k 0 :: vs) := by
 simp only [okAll, TE.ok]
 exact ⟨_, _, rfl, tv_int_mk (by cases k <;> decide) (by cases k <;> decide), h⟩
theorem okbool {z : Store} {es : List TE} {vs : List AVal} (h : okAll z es vs) : okAll z (.val rBool false :: es) (.bool false :: vs) := by
 simp only [okAll, TE.ok]
 exact ⟨_, _, rfl, tv_bool_mk, h⟩
theorem oknil {A : Type} {R : Rep A} {z : Store} {es : List TE} {vs : List AVal} (h : okAll z es vs) : okAll z (.val (rSlice R) [] :: es) (.nilslice :: vs) := by
 simp only [okAll, TE.ok]
 exact ⟨_, _, rfl, tv_slice_mk row_nil, h⟩
theorem okraw {z : Store} {v : AVal} {es : List TE} {vs : List AVal} (h : okAll z es vs) : okAll z (.raw v :: es) (v :: vs) := by
 simp only [okAll, TE.ok]
 exact ⟨_, _, rfl, rfl, h⟩
end Go.Ai.Sx

/- An abstract interpreter for the model's code: from a run of it to what a law's row says. -/
namespace Go.Ai
open Go.RowKit
structure ARep (A : Type) where
 rel : Store → List AVal → A → Prop
 mono : ∀ z z' as x, z.le z' → rel z as x → rel z' as x
def aNil : ARep Unit := ⟨fun _ as _ => as = [], fun _ _ _ _ _ h => h⟩
def aCons {A B : Type} (R : Rep A) (S : ARep B) : ARep (A × B) :=
 ⟨fun h as x => ∃ a rest, as = a :: rest ∧ TV R h a x.1 ∧ S.rel h rest x.2, fun _ _ _ _ e h => let ⟨a, rest, h1, h2, h3⟩ := h; ⟨a, rest, h1, h2.mono e, S.mono _ _ _ _ e h3⟩⟩
def flat (P : Program) (t : TypeId) : Bool := match P.underlying t with | some (.int _) | some .bool | some (.slice _) | some (.struct _) => true | _ => false
def OpensA (P : Program) {A : Type} (ts : List TypeId) (S : ARep A) : Prop :=
 ∀ (H : Type) (enc : TypeId × Value → H) (W : World) (base : Nat) (vs : List Value) (ds : List (DataW H)) (ps : List MemPlace), 0 < W.heap.size →
  (∀ (j : Nat) t v, ts[j]? = some t → vs[j]? = some v → Value.okWide P W .any base t v) → DataW.TrodAll enc P W 0 (fun _ => true) true ts vs ds ps → ∀ (ρ : Emb) (h : AHeap), HRel W.heap.size ρ h W → NoOwn ρ h →
   ∃ ρ' h' as x, Lay W ρ h ρ' h' ∧ LRel ρ' as vs ∧ S.rel h'.st as x
section
variable {P : Program}
theorem opensA_nil : OpensA P [] aNil := by
 intro H enc W base vs ds ps _ _ hd ρ h hr hn
 obtain ⟨rfl, _⟩ := ChangeShapes.trodAll_nil hd
 exact ⟨ρ, h, [], (), ⟨.refl _, hr, hn, .refl _⟩, .nil _, rfl⟩
theorem opensA_cons {A B : Type} {t : TypeId} {ts : List TypeId} {R : Rep A} {S : ARep B} (ho : Opens P t R) (hf : flat P t = true) (hs : OpensA P ts S) : OpensA P (t :: ts) (aCons R S) := by
 intro H enc W base vs ds ps hpos hok hd ρ h hr hn
 obtain ⟨v, vs', d, ds', p, q, rfl, rfl, rfl, h1, h2⟩ := ChangeShapes.trodAll_cons hd
 obtain ⟨ρ1, h1', a, x, l1, r1, q1⟩ := opens_arg ho hpos (hok 0 t v rfl rfl) hf h1 hr hn
 obtain ⟨ρ2, h2', as, y, l2, r2, q2⟩ := hs H enc W base vs' ds' q hpos (fun j t' v' ht hv => hok (j + 1) t' v' (by simpa using ht) (by simpa using hv)) h2 ρ1 h1' l1.heap l1.none
 exact ⟨ρ2, h2', a :: as, (x, y), l1.trans l2, .cons (r1.mono l2.ext) r2, a, as, rfl, q1.mono l2.grow.st, q2⟩
theorem trodAll_below {H : Type} {enc : TypeId × Value → H} (hl : laidOutB P = true) {W W' : World} (hb : Below W.heap.size W W') : ∀ {ts : List TypeId} {vs : List Value} {ds : List (DataW H)} {ps : List MemPlace}, (∀ t ∈ ts, P.readableRec t = true ∧ t < P.types.size) →
    DataW.TrodAll enc P W 0 (fun _ => true) true ts vs ds ps → DataW.TrodAll enc P W' 0 (fun b => decide (b < W.heap.size)) true ts vs ds ps
  | [], [], [], _, _, h => h
  | t :: ts, v :: vs, d :: ds, ps, hts, ⟨p, q, h1, h2, e⟩ => by
    refine ⟨p, q, ?_, trodAll_below hl hb (fun t ht => hts t (List.mem_cons_of_mem _ ht)) h2, e⟩
    obtain ⟨hr, hrow⟩ := hts t (List.mem_cons_self ..)
    refine Below.trod hl hr hrow h1 hb ?_
    have h3 : DataW.TrodAll enc P W 0 (fun _ => true) true [t] [v] [d] p := ⟨p, [], h1, rfl, by simp⟩
    exact DataW.TrodAll.lt h3
  | [], _ :: _, _, _, _, h => h.elim
  | [], [], _ :: _, _, _, h => h.elim
  | _ :: _, [], _, _, _, h => h.elim
  | _ :: _, _ :: _, [], _, _, h => h.elim
end
theorem law_contract {T : Tab} {C : Checked} (ok : T.Ok C.prog) {f : FuncId} {fn : Func} {s : ChangeSpec} {A : Type} {S : ARep A} {tb : TypeId}
    (hl : laidOutB C.prog = true) (hvars : s.vars = []) (hrt : fn.resultTypes = #[tb]) (hb : C.prog.underlying tb = some .bool) (hts : ∀ t ∈ fn.params.toList, C.prog.readableRec t = true ∧ t < C.prog.types.size)
    (hfn : ∀ (H : Type) (ds : List (DataW H)), ds.length = fn.params.size → s.fn H ds = { results := [.lit (.bool true)], args := ds })
    (ho : OpensA C.prog fn.params.toList S)
    (law : ∀ (h : AHeap) (as : List AVal) (x : A), S.rel h.st as x → h.wm ≤ h.next → ∃ n h', acallFn T (aexec T n) f as h = some (.ret (.bool true), h'))
    {H : Type} {enc : TypeId × Value → H} {W : World} {base : Nat} {args : Array Value} {ds gs : List (DataW H)} {before : List MemPlace} (hpos : 0 < W.heap.size)
    (hval : ∀ (j : Nat) t v, fn.params[j]? = some t → args[j]? = some v → Value.okWide C.prog W .any base t v)
    (hW : DataW.Whole enc C.prog fn.params.toList s.vars false W args.toList ds gs before) :
    Calls C.prog f args W fun e W' => ∃ v, e = .returned v ∧ s.post enc C.prog fn false true false false W args v W' := by
  have hW0 := hW
  obtain ⟨p, q, hA, hV, rfl, _, _⟩ := hW
  have hr0 : HRel W.heap.size (fun _ => none) ⟨.leaf, 0, 0⟩ W := ⟨⟨fun _ _ h => (nomatch h), fun _ _ h => (nomatch h), fun _ _ _ _ h => (nomatch h), Nat.le_refl _⟩, fun _ _ h => (nomatch h)⟩
  obtain ⟨ρ, h, as, x, l, r, hx⟩ := ho H enc W base args.toList ds p hpos (fun j t v ht hv => hval j t v (by simpa using ht) (by simpa using hv)) hA _ _ hr0 (fun _ _ h => (nomatch h))
  obtain ⟨n, h', hrun⟩ := law h as x hx (l.grow.wm (Nat.le_refl 0))
  refine (acallFn_sound ok hrun r l.heap).mono fun e W' he => ?_
  obtain ⟨ρ', hr', ht, hend⟩ := he
  rcases hend with ⟨v, v', hv, rfl, hrel⟩ | ⟨v, v', hv, _⟩
  case inr => cases hv
  cases hv
  cases hrel
  refine ⟨_, rfl, ?_⟩
  have hbelow : Below W.heap.size W W' := ⟨ht.os, ht.tape, ht.output, ht.size, fun k hk => ht.frame k hk (fun b l' hb ho' => absurd ho' (l.none b l' hb))⟩
  have hgs : gs = [] ∧ q = [] := by
    rw [hvars] at hV
    cases gs with
    | nil => exact ⟨rfl, hV⟩
    | cons _ _ => exact hV.elim
  obtain ⟨rfl, rfl⟩ := hgs
  have hlen := trodAll_length hA
  have hres : s.fn H (ds ++ []) = { results := [.lit (.bool true)], args := ds } := by rw [List.append_nil]; exact hfn H ds (by rw [hlen.2]; simp)
  refine ⟨ds, [], p ++ [], [], p, [], hW0, ?_, ?_, ?_, hbelow.frame _, fun q => by cases q⟩
  · rw [hres, hrt]
    exact ⟨[], [], RowKit.shut_bool hb true, rfl, rfl⟩
  · rw [hres]; exact trodAll_below hl hbelow hts hA
  · rw [hres, hvars]; exact rfl
end Go.Ai

/- From a walk through a law to what its row says. -/
namespace Go.Ai.Sx
def AOk {A : Type} (S : ARep A) (ts : A → List TE) : Prop := ∀ z vs x, S.rel z vs x → okAll z (ts x) vs
theorem aok_nil : AOk aNil (fun _ => []) := fun z vs x h => by
 simp only [okAll]; exact h
theorem aok_cons {A B : Type} {R : Rep A} {S : ARep B} {ts : B → List TE} (h : AOk S ts) : AOk (aCons R S) (fun x => .val R x.1 :: ts x.2) := fun z vs x hr => by
 obtain ⟨a, rest, rfl, h1, h2⟩ := hr
 simp only [okAll, TE.ok]
 exact ⟨a, rest, rfl, h1, h _ _ _ h2⟩
theorem law_run {T : Tab} {g : FuncId} {A : Type} {S : ARep A} {ts : A → List TE} (ha : AOk S ts) (hf : ∀ z vs x, S.rel z vs x → Fun T g (ts x) [.val rBool true]) : ∀ (h : AHeap) (as : List AVal) (x : A), S.rel h.st as x → h.wm ≤ h.next → ∃ n h', acallFn T (aexec T n) g as h = some (.ret (.bool true), h') := by
 intro h as x hr hwm
 obtain ⟨n, r, h', e, us, z', rfl, hl, _, _, _, _, hok, _⟩ := hf _ _ x hr h.st h as (full_sub h) hwm (ha _ _ _ hr)
 match us, hl with
 | [u], _ =>
  simp only [tes, okAll, TE.ok] at hok
  obtain ⟨v, vs, q, h1, _⟩ := hok
  cases q
  have := tv_bool h1
  subst this
  exact ⟨n, h', e⟩
end Go.Ai.Sx

/- An abstract interpreter for the model's code: that a program's tables agree with it. -/
namespace Go.Ai
def Tr.toList {α : Type} : Tr α → List (Nat × α)
 | .leaf => []
 | .node v l r => (match v with | some x => [(0, x)] | none => []) ++ (l.toList.map fun p => (2 * p.1 + 1, p.2)) ++ (r.toList.map fun p => (2 * p.1 + 2, p.2))
theorem Tr.mem_toList {α : Type} : ∀ (t : Tr α) (n : Nat) (x : α), t.get n = some x → (n, x) ∈ t.toList
 | .leaf, n, x, h => by simp [Tr.get] at h
 | .node v l r, 0, x, h => by
  have h : v = some x := h
  subst h
  simp [Tr.toList]
 | .node v l r, m + 1, x, h => by
  rw [Tr.get_succ] at h
  simp only [Tr.toList, List.mem_append, List.mem_map]
  split at h
  ·rename_i hm
   exact .inl (.inr ⟨_, Tr.mem_toList l _ _ h, by simp; omega⟩)
  ·exact .inr ⟨_, Tr.mem_toList r _ _ h, by simp; omega⟩
def AllP {α : Type} (Q : Nat → α → Prop) : List (Nat × α) → Prop
 | [] => True
 | p :: l => Q p.1 p.2 ∧ AllP Q l
theorem AllP.get {α : Type} {Q : Nat → α → Prop} : ∀ {l : List (Nat × α)}, AllP Q l → ∀ n x, (n, x) ∈ l → Q n x
 | _ :: _, h, n, x, hm => by
  rcases List.mem_cons.1 hm with q | q
  ·cases q; exact h.1
  ·exact AllP.get h.2 n x q
def TypeOk (P : Program) (t : Nat) (i : TInfo) : Prop :=
 P.underlying t = some i.desc ∧ ∃ j, P.info? t = some j ∧ j.size = i.size ∧ j.bytes = i.bytes ∧
  (∀ z, i.zero = some z → ∃ zv, j.zero = some zv ∧ ofVal zv = some z) ∧ (i.stood = false → P.stoodInHeld t = false) ∧ (i.eqg = false → P.eqGuardType P.depth t = false)
theorem typeOk_of {P : Program} {t : Nat} {j ju : TypeInfo} (h1 : P.info? t = some j) (h2 : P.underlying t = some ju.desc) :
    TypeOk P t { desc := ju.desc, size := j.size, bytes := j.bytes, zero := j.zero.bind ofVal, stood := P.stoodInHeld t, eqg := P.eqGuardType P.depth t } := by
  refine ⟨h2, j, h1, rfl, rfl, fun z hz => ?_, id, id⟩
  exact Option.bind_eq_some_iff.1 hz
def FuncOk (P : Program) (f : Nat) (F : Func) : Prop :=
 P.funcs[f]? = some F ∧ (F.name == "runtime.NumGoroutine") = false ∧ (∀ c, F.body = some c → codeOk F.ntmps c = true)
def bodyOk (F : Func) : Bool := match F.body with | some c => codeOk F.ntmps c | none => true
theorem funcOk_of {P : Program} {f : Nat} {F : Func} (h1 : P.funcs[f]? = some F) (h2 : (F.name == "runtime.NumGoroutine") = false) (h3 : bodyOk F = true) : FuncOk P f F := by
 refine ⟨h1, h2, fun c hc => ?_⟩
 unfold bodyOk at h3
 rw [hc] at h3
 exact h3
theorem tabOk_of {P : Program} {T : Tab} (h1 : AllP (TypeOk P) T.types.toList) (h2 : AllP (FuncOk P) T.funcs.toList) (h3 : P.follows .mixedOrders = true) (h4 : T.consts = .leaf) : T.Ok P :=
 ⟨fun t i h => h1.get t i (Tr.mem_toList _ _ _ h), fun f F h => h2.get f F (Tr.mem_toList _ _ _ h), h3, fun g v h => by rw [h4] at h; cases h⟩
end Go.Ai
