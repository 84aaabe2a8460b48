/- Symbolic runs of the abstract interpreter: calls and code. -/
import Derived.Test.YtpiblfbidgcjaaaAiSb
namespace Go.Ai.Sx

/- what a call hands back -/
inductive RE : Type 1 where
  | val {A : Type} (R : Rep A) (y : A)
  | row {A : Type} (R : Rep A) (ys : List A)

def tes : List RE → List AVal → List TE
  | .val R y :: rs, _ :: us => .val R y :: tes rs us
  | .row _ _ :: rs, u :: us => .raw u :: tes rs us
  | _, _ => []
def owns : List RE → List AVal → Own
  | .val _ _ :: rs, _ :: us => owns rs us
  | .row R ys :: rs, u :: us => (u, .row R ys) :: owns rs us
  | _, _ => []

def Fun (T : Tab) (g : FuncId) (as : List TE) (rs : List RE) : Prop :=
  ∀ z h vs, z.Sub h → h.wm ≤ h.next → okAll z as vs → CallF T g vs h fun r h' => ∃ us z', r = .ret (packed us) ∧ us.length = rs.length ∧ Quiet h h' ∧ z.le z' ∧ z'.Sub h' ∧ (∀ b, b < h.next → z' b = z b) ∧ okAll z' (tes rs us) us ∧ OwnOk ⟨z, h, []⟩ z' h' (owns rs us)

def teOf : List TE → TE
  | [e] => e
  | es => .tup es

def RQ : List RE → Own → (List TE → Own → Prop) → Prop
  | [], L, k => k [] L
  | .val R y :: rs, L, k => RQ rs L fun es L' => k (.val R y :: es) L'
  | .row R ys :: rs, L, k => ∀ v, RQ rs L fun es L' => k (.raw v :: es) ((v, .row R ys) :: L')

theorem RQ.at : ∀ {rs : List RE} {us : List AVal} {L : Own} {k : List TE → Own → Prop}, us.length = rs.length → RQ rs L k → k (tes rs us) (owns rs us ++ L)
  | [], [], L, k, _, h => h
  | .val R y :: rs, u :: us, L, k, hl, h => RQ.at (rs := rs) (us := us) (k := fun es L' => k (.val R y :: es) L') (by simpa using hl) h
  | .row R ys :: rs, u :: us, L, k, hl, h => RQ.at (rs := rs) (us := us) (k := fun es L' => k (.raw u :: es) ((u, .row R ys) :: L')) (by simpa using hl) (h u)
  | [], _ :: _, _, _, hl, _ => by simp at hl
  | _ :: _, [], _, _, hl, _ => by simp at hl

theorem teOf_ok {z : Store} {rs : List RE} {us : List AVal} (hl : us.length = rs.length) (h : okAll z (tes rs us) us) : (teOf (tes rs us)).ok z (packed us) := by
  have hlen : (tes rs us).length = us.length := (okAll_len h).symm
  match us, hl with
  | [], _ =>
    have : tes rs [] = [] := List.length_eq_zero_iff.1 (by simpa using hlen)
    rw [this] at h ⊢
    simp only [teOf, TE.ok]
    exact ⟨[], rfl, h⟩
  | [u], _ =>
    obtain ⟨e, he⟩ := List.length_eq_one_iff.1 hlen
    rw [he] at h ⊢
    simp only [okAll] at h
    obtain ⟨v, vs, q, h1, rfl⟩ := h
    cases q
    exact h1
  | u :: u' :: us, _ =>
    have : ∃ e e' es, tes rs (u :: u' :: us) = e :: e' :: es := by
      match htes : tes rs (u :: u' :: us), hlen with
      | e :: e' :: es, _ => exact ⟨e, e', es, rfl⟩
      | [_], hlen => simp at hlen
      | [], hlen => simp at hlen
    obtain ⟨e, e', es, he⟩ := this
    rw [he] at h ⊢
    simp only [teOf, TE.ok]
    exact ⟨_, rfl, h⟩

section
variable {C : Ctx} {T : Tab} {d : Option (List Nat)} {ops rest : List Oper} {Γ : Env} {L : Own} {Q : AFrame → AHeap → Prop} {P : AExit → AFrame → AHeap → Prop} {o : Oper} {t : Nat} {z : Store} {fr : AFrame} {h : AHeap}

inductive Opds (Γ : Env) : List Operand → List TE → Prop where
  | n : Opds Γ [] []
  | c {x : Operand} {e : TE} {xs : List Operand} {es : List TE} (h : Opd Γ x e) (r : Opds Γ xs es) : Opds Γ (x :: xs) (e :: es)
theorem Opds.ok {xs : List Operand} {es : List TE} (q : Opds Γ xs es) (hf : FrOk z Γ fr) : okAll z es (xs.map fr.op) := by
  induction q with
  | n => simp [okAll]
  | c h _ ih => simp only [okAll, List.map]; exact ⟨_, _, rfl, h.ok hf, ih⟩

/- what a callee has left is what the caller goes on with -/
theorem StZ.after (s : StZ C Γ L z fr h) {h' : AHeap} {z' : Store} {O : Own} (q : Quiet h h') (hz : z.le z') (hs : z'.Sub h') (hold : ∀ b, b < h.next → z' b = z b) (ho : OwnOk ⟨z, h, []⟩ z' h' O) : StZ C Γ (O ++ L) z' fr h' := by
  refine { zle := s.zle.trans hz, sub := hs, old := fun b hb hB => ?_, fr := s.fr.mono hz, own := ⟨?_, ?_, ?_⟩, chg := ⟨Nat.le_trans s.chg.next q.next, fun b hb hB => ?_, fun m m1 m2 m3 => ?_, q.ok s.chg.ok⟩ }
  · rw [hold b (Nat.lt_of_lt_of_le hb s.chg.next)]; exact s.old b hb hB
  · intro p hp
    rcases List.mem_append.1 hp with hp | hp
    · exact ho.ok p hp
    · exact Obj.ok_mono hz (fun b hb => q.same b (s.own.out p hp b hb).2.1) (s.own.ok p hp)
  · intro p hp b hb
    rcases List.mem_append.1 hp with hp | hp
    · obtain ⟨o1, o2, o3⟩ := ho.out p hp b hb
      refine ⟨o1, o2, .inl ?_⟩
      rcases o3 with q1 | q1
      · exact Nat.le_trans s.chg.next q1
      · cases q1
    · obtain ⟨o1, o2, o3⟩ := s.own.out p hp b hb
      exact ⟨by rw [hold b o2]; exact o1, Nat.lt_of_lt_of_le o2 q.next, o3⟩
  · rw [show blks (O ++ L) = blks O ++ blks L by simp [blks]]
    refine List.nodup_append.2 ⟨ho.nodup, s.own.nodup, fun a ha b hb e => ?_⟩
    subst e
    obtain ⟨p, hp, h1⟩ := mem_blks.1 ha
    obtain ⟨p', hp', h2⟩ := mem_blks.1 hb
    have := (s.own.out p' hp' a h2).2.1
    rcases (ho.out p hp a h1).2.2 with q1 | q1
    · have q1 : h.next ≤ a := q1
      omega
    · cases q1
  · rw [q.same b (Nat.lt_of_lt_of_le hb s.chg.next)]; exact s.chg.same b hb hB
  · have h1 := s.chg.wm m m1 m2 m3
    have h2 := q.wm
    have h3 := s.chg.next
    omega

theorem lay_next_eq (h : AHeap) (x : Nat) : (lay h x).next = h.next := rfl

/- a call, drawn or not -/
theorem call_step (hw : Want ops Γ true o.guard) (hd : o.dst = some t) {rs : List RE} (hq : RQ rs L fun es L' => SOps C T d ops rest ((t, teOf es) :: Γ) L' Q)
    (H : ∀ z fr h, StZ C Γ L z fr h → ∃ f vs, aop T fr.op h o.op = some (.call f vs) ∧ ∀ h1, h1.next = h.next → (∀ b, h1.get b = h.get b) → h1.wm ≤ h1.next → CallV T f vs h1 fun r h' => ∃ us z', r = .ret (packed us) ∧ us.length = rs.length ∧ Quiet h1 h' ∧ z.le z' ∧ z'.Sub h' ∧ (∀ b, b < h.next → z' b = z b) ∧ okAll z' (tes rs us) us ∧ OwnOk ⟨z, h1, []⟩ z' h' (owns rs us)) :
    SOps C T d ops (o :: rest) Γ L Q := by
  cases d with
  | none =>
    intro fr h ⟨z, s⟩
    obtain ⟨f, vs, ha, hcall⟩ := H z fr h s
    simp only [wX, hw.ok s.fr, ha, hd, put_some]
    refine (hcall h rfl (fun _ => rfl) s.chg.ok).mono fun r h' ⟨us, z', e1, hl, q, hz, hs, hold, hok, hown⟩ => ⟨packed us, e1, ?_⟩
    have s' := s.after q hz hs hold hown
    exact hq.at hl _ _ ⟨z', s'.set (teOf_ok hl hok)⟩
  | some ol =>
    intro z fr h i done s hr hok hdn
    obtain ⟨f, vs, ha, hcall⟩ := H z fr h s
    have hi : ops[i]? = some o := by have := congrArg (fun l => l[0]?) hr; simpa using this
    have hlt : i < ops.length := (List.getElem?_eq_some_iff.1 hi).1
    have hr' : ops.drop (i + 1) = rest := by have := congrArg List.tail hr; simpa using this
    obtain ⟨c, fo, hoc, hcc, _⟩ := aop_call_inv ha
    have n1 : noFoot o.op = false := by rw [hoc]; simp only [noFoot, hcc]
    have n2 : ownWr o.op = false := by rw [hoc]; simp only [ownWr, hcc]
    have sl : StZ C Γ L z fr (lay h h.next) := s.low (Nat.le_refl _) (fun m _ m2 _ => Nat.le_trans m2 s.chg.next)
    refine draw_call (hw.ok s.fr) ha s.chg.ok (footsOk_draw hi hdn (drawOk_at hok i hlt) rfl ⟨fun b hb => (nomatch hb), fun b hb => (nomatch hb)⟩ (fun q => by rw [n1] at q; cases q) (fun q => by rw [n2] at q; cases q) (fun _ => rfl) (fun t et y q => by rw [hoc] at q; cases q)) ?_
    refine (hcall (lay h h.next) rfl (fun _ => rfl) (Nat.le_refl _)).mono fun r h' ⟨us, z', e1, hl, q, hz, hs, hold, hok', hown⟩ => ⟨packed us, e1, q, ?_⟩
    have s' := sl.after q hz hs hold hown
    have s'' : StZ C Γ (owns rs us ++ L) z' fr (lay h' (min h.wm h'.wm)) := s'.low (by have := s'.chg.ok; omega) (fun m m1 m2 m3 => by have h1 := s.chg.wm m m1 m2 m3; have h2 := s'.chg.wm m m1 m2 m3; omega)
    have hn := hdn.next (z' := z') (h' := lay h' (min h.wm h'.wm)) (v := packed us) hi hz q.next [(i, ⟨[], true, [], false⟩)] (fun p hp => by
      rw [List.mem_singleton] at hp
      subst hp
      refine ⟨rfl, rfl, fun _ => rfl, fun q => (by rw [hoc] at q; cases q), fun b hb => (by simp at hb), fun q => ?_⟩
      unfold quietRd at q
      rw [n1, hoc] at q
      cases q) (fun hal => (alloc_call hal ha).elim)
    rw [hd, put_some] at hn ⊢
    exact hq.at hl z' _ _ (i + 1) _ (s''.set (teOf_ok hl hok')) hr' hok hn

theorem s_call {c : Call} {x : Operand} {g : FuncId} {pre post : List AVal} {as : List TE} {rs : List RE} {vs : List TE} (hf : Fun T g as rs) (hcst : T.consts.get g = none) (hw : Want ops Γ true o.guard) (ho : o.op = .call c) (hd : o.dst = some t) (hc : c.callee = .value x) (hx : Opd Γ x (.raw (.func (.func g) [] []))) (hvs : Opds Γ c.args.toList as)
    (hq : RQ rs L fun es L' => SOps C T d ops rest ((t, teOf es) :: Γ) L' Q) : SOps C T d ops (o :: rest) Γ L Q := by
  refine call_step hw hd hq fun z fr h s => ⟨.func (.func g) [] [], c.args.toList.map fr.op, by rw [ho]; simp only [aop, opCall, hc, hx.raw s.fr], fun h1 hn hg hwm => ?_⟩
  have hsub : z.Sub h1 := fun b y hb => by rw [hg, hn]; exact s.sub b y hb
  refine callV_func hcst ?_
  rw [List.nil_append, List.append_nil]
  refine (hf z h1 _ hsub hwm (hvs.ok s.fr)).mono fun r h' ⟨us, z', e1, hl, q, hz, hs, hold, hok, hown⟩ => ⟨us, z', e1, hl, q, hz, hs, ?_, hok, hown⟩
  rw [← hn]; exact hold

/- a call whose arguments may be owned; what comes back holds no memory of theirs -/
def Rep.flat {A : Type} (R : Rep A) : Prop := ∀ z z' cs x, R.rel z cs x → R.rel z' cs x
theorem flat_int {k : IntKind} : Rep.flat (rInt k) := fun _ _ _ _ h => h
theorem flat_bool : Rep.flat rBool := fun _ _ _ _ h => h
theorem flat_unit : Rep.flat rUnit := fun _ _ _ _ h => h
theorem flat_pair {A B : Type} {R : Rep A} {S : Rep B} (h1 : Rep.flat R) (h2 : Rep.flat S) : Rep.flat (rPair R S) := fun _ _ _ _ ⟨c1, c2, e, a, b⟩ => ⟨c1, c2, e, h1 _ _ _ _ a, h2 _ _ _ _ b⟩

inductive Flats : List RE → Prop where
  | n : Flats []
  | v {A : Type} {R : Rep A} {y : A} {rs : List RE} (h : Rep.flat R) (r : Flats rs) : Flats (.val R y :: rs)
  | r {A : Type} {R : Rep A} {ys : List A} {rs : List RE} (h : Rep.flat R) (r : Flats rs) : Flats (.row R ys :: rs)

theorem Flats.ok : ∀ {rs : List RE} {us : List AVal} {z z' : Store}, Flats rs → okAll z' (tes rs us) us → okAll z (tes rs us) us
  | [], us, _, _, _, h => by simpa [tes, okAll] using h
  | .val R y :: rs, [], _, _, _, h => by simp [tes, okAll]
  | .row R y :: rs, [], _, _, _, h => by simp [tes, okAll]
  | .val R y :: rs, u :: us, z, z', .v h1 h2, h => by
    simp only [tes, okAll, TE.ok] at h ⊢
    obtain ⟨v, vs, e, h3, h4⟩ := h
    cases e
    exact ⟨u, us, rfl, ⟨h1 _ _ _ _ h3.rel, h3.agg⟩, h2.ok h4⟩
  | .row R y :: rs, u :: us, z, z', .r h1 h2, h => by
    simp only [tes, okAll, TE.ok] at h ⊢
    obtain ⟨v, vs, e, h3, h4⟩ := h
    cases e
    exact ⟨u, us, rfl, rfl, h2.ok h4⟩
theorem Flats.own : ∀ {rs : List RE} {us : List AVal} {z z' : Store} {h : AHeap} {p : AVal × Obj}, Flats rs → p ∈ owns rs us → p.2.ok z' h p.1 → p.2.ok z h p.1
  | [], us, _, _, _, p, _, hp, _ => by simp [owns] at hp
  | .val R y :: rs, [], _, _, _, p, _, hp, _ => by simp [owns] at hp
  | .row R y :: rs, [], _, _, _, p, _, hp, _ => by simp [owns] at hp
  | .val R y :: rs, u :: us, z, z', h, p, .v h1 h2, hp, ho => by simp only [owns] at hp; exact h2.own hp ho
  | .row R y :: rs, u :: us, z, z', h, p, .r h1 h2, hp, ho => by
    simp only [owns] at hp
    rcases List.mem_cons.1 hp with rfl | hp
    · simp only [Obj.ok] at ho ⊢
      refine ⟨ho.1, ?_⟩
      rcases ho.2 with q | ⟨b, off, cap, cells, q1, q2, q3, q4, q5⟩
      · exact .inl q
      · exact .inr ⟨b, off, cap, cells, q1, q2, q3, q4, fun i x hx => h1 _ _ _ _ (q5 i x hx)⟩
    · exact h2.own hp ho

inductive Lend (Γ : Env) (L : Own) : Operand → TE → Prop where
  | o {x : Operand} {e : TE} (h : Opd Γ x e) : Lend Γ L x e
  | r {A : Type} {R : Rep A} {xs : List A} {v : AVal} {x : Operand} (k : Nat) (h : Opd Γ x (.raw v)) (hk : L[k]? = some (v, .row R xs)) : Lend Γ L x (.val (rSlice R) xs)
  | b {A : Type} {R : Rep A} {a : A} {es : List TE} {b : Nat} {x : Operand} (k : Nat) (h : Opd Γ x (.raw (.ptr b 0))) (hk : L[k]? = some (.ptr b 0, .box es)) (hc : Cells R a es) : Lend Γ L x (.val (rPtr R) a)

def full (h : AHeap) : Store := h.st
theorem full_sub (h : AHeap) : (h.st).Sub h := fun b x hb => ⟨(AHeap.st_lt hb).2, (AHeap.st_lt hb).1⟩
theorem le_full (hs : z.Sub h) : z.le h.st := fun b x hb => AHeap.st_of (hs b x hb).2 (hs b x hb).1

theorem Lend.ok {x : Operand} {e : TE} (q : Lend Γ L x e) (s : StZ C Γ L z fr h) : e.ok h.st (fr.op x) := by
  have hle := le_full s.sub
  cases q with
  | o h => exact TE.ok_mono hle (h.ok s.fr)
  | @r A R xs v _ k h hk =>
    simp only [TE.ok]
    rw [h.raw s.fr]
    have ho := s.own.ok _ (List.mem_of_getElem? hk)
    simp only [Obj.ok] at ho
    refine tv_slice_mk ⟨ho.1, ?_⟩
    rcases ho.2 with ⟨q, e⟩ | ⟨b, off, cap, cells, q, h2, h3, h4, h5⟩
    · exact .inl ⟨q, e⟩
    · subst q
      have hb := (s.own.out _ (List.mem_of_getElem? hk) b (by simp [blkE, blkO])).2.1
      exact .inr (.inr ⟨b, off, cap, cells, false, rfl, AHeap.st_of hb h2, h3, fun c hc => (h4 c hc).1, fun i x hx => R.mono _ _ _ _ hle (h5 i x hx)⟩)
  | @b A R a es b _ k h hk hc =>
    simp only [TE.ok]
    rw [h.raw s.fr]
    have ho := s.own.ok _ (List.mem_of_getElem? hk)
    simp only [Obj.ok] at ho
    obtain ⟨b', cells, q, h2, h3, h4⟩ := ho
    cases q
    have hb := (s.own.out _ (List.mem_of_getElem? hk) b (by simp [blkE, blkO])).2.1
    have hr := (hc z cells).2 h3
    have hl := R.len _ _ _ hr
    refine tv_ptr_mk ⟨b, 0, cells, false, rfl, AHeap.st_of hb h2, by omega, ?_⟩
    rw [List.drop_zero, ← hl, List.take_length]
    exact R.mono _ _ _ _ hle hr

inductive Lends (Γ : Env) (L : Own) : List Operand → List TE → Prop where
  | n : Lends Γ L [] []
  | c {x : Operand} {e : TE} {xs : List Operand} {es : List TE} (h : Lend Γ L x e) (r : Lends Γ L xs es) : Lends Γ L (x :: xs) (e :: es)
theorem Lends.ok {xs : List Operand} {es : List TE} (q : Lends Γ L xs es) (s : StZ C Γ L z fr h) : okAll h.st es (xs.map fr.op) := by
  induction q with
  | n => simp [okAll]
  | c h _ ih => simp only [okAll, List.map]; exact ⟨_, _, rfl, h.ok s, ih⟩

theorem lend_call {g : FuncId} {as : List TE} {rs : List RE} (hfl : Flats rs) {vs : List AVal} {h1 : AHeap} (s : StZ C Γ L z fr h1) (hf : Fun T g as rs) (hok : okAll h1.st as vs) (hwm : h1.wm ≤ h1.next) :
    CallF T g vs h1 fun r h' => ∃ us z', r = .ret (packed us) ∧ us.length = rs.length ∧ Quiet h1 h' ∧ z.le z' ∧ z'.Sub h' ∧ (∀ b, b < h1.next → z' b = z b) ∧ okAll z' (tes rs us) us ∧ OwnOk ⟨z, h1, []⟩ z' h' (owns rs us) := by
  refine (hf h1.st h1 _ (full_sub h1) hwm hok).mono fun r h' ⟨us, z', e1, hl, q, hz, hs, hold, hok, hown⟩ => ⟨us, z, e1, hl, q, .refl _, ?_, fun _ _ => rfl, hfl.ok hok, ?_⟩
  · intro b y hb
    obtain ⟨h2, h3⟩ := s.sub b y hb
    exact ⟨by rw [q.same b h3]; exact h2, Nat.lt_of_lt_of_le h3 q.next⟩
  · refine ⟨fun p hp => hfl.own hp (hown.ok p hp), fun p hp b hb => ?_, hown.nodup⟩
    obtain ⟨o1, o2, o3⟩ := hown.out p hp b hb
    refine ⟨?_, o2, o3⟩
    rcases o3 with q1 | q1
    · cases e : z b with
      | none => rfl
      | some y =>
        have := (s.sub b y e).2
        have q1 : h1.next ≤ b := q1
        omega
    · cases q1

theorem s_calll {c : Call} {x : Operand} {g : FuncId} {as : List TE} {rs : List RE} (hf : Fun T g as rs) (hfl : Flats rs) (hcst : T.consts.get g = none) (hw : Want ops Γ true o.guard) (ho : o.op = .call c) (hd : o.dst = some t) (hc : c.callee = .value x) (hx : Opd Γ x (.raw (.func (.func g) [] []))) (hvs : Lends Γ L c.args.toList as)
    (hq : RQ rs L fun es L' => SOps C T d ops rest ((t, teOf es) :: Γ) L' Q) : SOps C T d ops (o :: rest) Γ L Q := by
  refine call_step hw hd hq fun z fr h s => ⟨.func (.func g) [] [], c.args.toList.map fr.op, by rw [ho]; simp only [aop, opCall, hc, hx.raw s.fr], fun h1 hn hg hwm => ?_⟩
  refine callV_func hcst ?_
  rw [List.nil_append, List.append_nil]
  have est : h1.st = h.st := by funext b; unfold AHeap.st; rw [hn, hg]
  have s1 : StZ ⟨z, h1, []⟩ Γ [] z fr h1 :=
    { zle := .refl _, sub := fun b y hb => by rw [hn, hg]; exact s.sub b y hb, old := fun _ _ _ => rfl, fr := s.fr, own := ⟨fun p hp => (nomatch hp), fun p hp => (nomatch hp), List.nodup_nil⟩, chg := ⟨Nat.le_refl _, fun _ _ _ => rfl, fun _ m1 _ _ => m1, hwm⟩ }
  have := lend_call (T := T) hfl s1 hf (by rw [est]; exact hvs.ok s) hwm
  rw [hn] at this
  exact this

/- a constant -/
theorem s_const {c : Call} {x : Operand} {g : FuncId} {v : AVal} {e : TE} (hcst : T.consts.get g = some v) (he : ∀ z, e.ok z v) (hw : Want ops Γ true o.guard) (ho : o.op = .call c) (hd : o.dst = some t) (hc : c.callee = .value x) (hx : Opd Γ x (.raw (.func (.func g) [] []))) (hvs : c.args.toList = [])
    (r : SOps C T d ops rest ((t, e) :: Γ) L Q) : SOps C T d ops (o :: rest) Γ L Q := by
  cases d with
  | none =>
    intro fr h ⟨z, s⟩
    have ha : aop T fr.op h o.op = some (.call (.func (.func g) [] []) []) := by
      rw [ho]; simp only [aop, opCall, hc, hx.raw s.fr, hvs, List.map]
    simp only [wX, hw.ok s.fr, ha, hd, put_some]
    exact callV_const hcst ⟨v, rfl, r _ _ ⟨z, s.set (he z)⟩⟩
  | some ol =>
    intro z fr h i done s hr hok hdn
    have ha : aop T fr.op h o.op = some (.call (.func (.func g) [] []) []) := by
      rw [ho]; simp only [aop, opCall, hc, hx.raw s.fr, hvs, List.map]
    have hi : ops[i]? = some o := by have := congrArg (fun l => l[0]?) hr; simpa using this
    have hlt : i < ops.length := (List.getElem?_eq_some_iff.1 hi).1
    have hr' : ops.drop (i + 1) = rest := by have := congrArg List.tail hr; simpa using this
    have n1 : noFoot o.op = false := by rw [ho]; simp only [noFoot, hc]
    have n2 : ownWr o.op = false := by rw [ho]; simp only [ownWr, hc]
    refine draw_call (hw.ok s.fr) ha s.chg.ok (footsOk_draw hi hdn (drawOk_at hok i hlt) rfl ⟨fun b hb => (nomatch hb), fun b hb => (nomatch hb)⟩ (fun q => by rw [n1] at q; cases q) (fun q => by rw [n2] at q; cases q) (fun _ => rfl) (fun t et y q => by rw [ho] at q; cases q)) ?_
    refine callV_const hcst ⟨v, rfl, Quiet.refl _, ?_⟩
    have e : ({ lay h h.next with wm := min h.wm (lay h h.next).wm } : AHeap) = h := lay_back s.chg.ok
    have hn := hdn.next (z' := z) (h' := h) (v := v) hi (.refl _) (Nat.le_refl _) [(i, ⟨[], true, [], false⟩)] (fun p hp => by
      rw [List.mem_singleton] at hp
      subst hp
      refine ⟨rfl, rfl, fun _ => rfl, fun q => (by rw [ho] at q; cases q), fun b hb => (by simp at hb), fun q => ?_⟩
      unfold quietRd at q
      rw [n1, ho] at q
      cases q) (fun hal => (alloc_call hal ha).elim)
    rw [hd, put_some] at hn ⊢
    have := r z _ h (i + 1) _ (s.set (he z)) hr' hok hn
    exact e.symm ▸ this

/- code -/
def BlkP (id : Nat) (P : AExit → AFrame → AHeap → Prop) : AExit → AFrame → AHeap → Prop
  | .exit i => bif Nat.beq i id then P .normal else P (.exit i)
  | e => P e
def SeqP (C : Ctx) (T : Tab) (b : Code) (P : AExit → AFrame → AHeap → Prop) : AExit → AFrame → AHeap → Prop
  | .normal => fun fr h => Run T b fr h P
  | e => P e

theorem r_seq {a b : Code} (r : SRun C T a Γ L (SeqP C T b P)) : SRun C T (.seq a b) Γ L P := fun fr h s =>
  run_seq ((r fr h s).mono fun e _ _ q => by cases e <;> exact q)
theorem r_block {id : Nat} {c : Code} (r : SRun C T c Γ L (BlkP id P)) : SRun C T (.block id c) Γ L P := fun fr h s =>
  run_block ((r fr h s).mono fun e _ _ q => by
    cases e with
    | exit i =>
      simp only [BlkP] at q
      simp only [BlockK]
      by_cases e : i = id
      · subst e; rw [if_pos rfl]; simpa using q
      · have : Nat.beq i id = false := by rw [Bool.eq_false_iff]; intro q; exact e (Nat.eq_of_beq_eq_true q)
        rw [this] at q; rw [if_neg e]; exact q
    | _ => exact q)
theorem r_region {id : Nat} {ops : Array Oper} (r : SOps C T none ops.toList ops.toList Γ L (P .normal)) : SRun C T (.region id ops false) Γ L P := fun fr h s => run_region (wX_plain (r fr h s))
theorem r_draw {id : Nat} {ops : Array Oper} (ol : List Nat) (hok : drawOk ops.toList ol ops.toList.length = true) (r : SOps C T (some ol) ops.toList ops.toList Γ L (P .normal)) : SRun C T (.region id ops true) Γ L P := fun fr h ⟨z, s⟩ =>
  run_draw (r z fr h 0 [] s rfl hok ⟨fun _ hp => (nomatch hp), fun j _ _ hj => (nomatch hj)⟩)
theorem r_skip (q : ∀ fr h, St C Γ L fr h → P .normal fr h) : SRun C T .skip Γ L P := fun fr h s => run_skip (q fr h s)
theorem r_label {l : Nat} (q : ∀ fr h, St C Γ L fr h → P .normal fr h) : SRun C T (.label l) Γ L P := fun fr h s => run_label (q fr h s)
theorem r_exit {id : Nat} (q : ∀ fr h, St C Γ L fr h → P (.exit id) fr h) : SRun C T (.exit id) Γ L P := fun fr h s => run_exit (q fr h s)
theorem r_ret (q : ∀ fr h, St C Γ L fr h → P .ret fr h) : SRun C T .ret Γ L P := fun fr h s => run_ret (q fr h s)
theorem r_cond {c : Operand} {a b : Code} {q : Bool} (hc : Opd Γ c (.val rBool q)) (r1 : q = true → SRun C T a Γ L P) (r0 : q = false → SRun C T b Γ L P) : SRun C T (.cond c a b) Γ L P := by
  intro fr h s
  have s0 := s
  obtain ⟨z, s⟩ := s
  refine run_cond (hc.bool s.fr) ?_
  cases q with
  | true => exact r1 rfl fr h s0
  | false => exact r0 rfl fr h s0
theorem r_scope {c : Code} (hg : ∀ l fr h, ¬ P (.goto l) fr h) (r : SRun C T c Γ L P) : SRun C T (.scope c) Γ L P := fun fr h s => run_scope (r fr h s) hg
/- what comes behind a region: the rest of a sequence -/
theorem s_then {b : Code} (r : SRun C T b Γ L P) : SOps C T d ops [] Γ L (SeqP C T b P .normal) := s_nil fun fr h s => r fr h s
theorem r_then {b : Code} (r : SRun C T b Γ L P) : SRun C T .skip Γ L (SeqP C T b P) := fun fr h s => run_skip (r fr h s)
theorem r_thenl {b : Code} {l : Nat} (r : SRun C T b Γ L P) : SRun C T (.label l) Γ L (SeqP C T b P) := fun fr h s => run_label (r fr h s)

/- loops -/
def iter {σ τ : Type} (f : σ → Option (σ ⊕ τ)) : Nat → σ → Option τ
  | 0, _ => none
  | n + 1, s => match f s with
    | some (.inl s') => iter f n s'
    | some (.inr t) => some t
    | none => none

abbrev Sts := Env × Own
def LoopP (C : Ctx) {σ τ G : Type} (I : σ → G → Sts) (X : τ → AExit × (G → Sts)) (r : σ ⊕ τ) (e : AExit) (fr : AFrame) (h : AHeap) : Prop :=
  match r with
  | .inl s => e = .normal ∧ ∃ g, St C (I s g).1 (I s g).2 fr h
  | .inr t => e = (X t).1 ∧ ∃ g, St C ((X t).2 g).1 ((X t).2 g).2 fr h

theorem r_loop {σ τ G : Type} {c : Code} (I : σ → G → Sts) (X : τ → AExit × (G → Sts)) (f : σ → Option (σ ⊕ τ)) {n : Nat} {s0 : σ} {t : τ} (g0 : G) (hit : iter f n s0 = some t) (hin : ∀ fr h, St C Γ L fr h → St C (I s0 g0).1 (I s0 g0).2 fr h) (hne : ∀ t, (X t).1 ≠ .normal)
    (body : ∀ s g r, f s = some r → SRun C T c (I s g).1 (I s g).2 (LoopP C I X r)) (out : ∀ g, ∀ fr h, St C ((X t).2 g).1 ((X t).2 g).2 fr h → P (X t).1 fr h) : SRun C T (.loop c) Γ L P := by
  suffices H : ∀ n s0 g0, iter f n s0 = some t → ∀ fr h, St C (I s0 g0).1 (I s0 g0).2 fr h → Run T (.loop c) fr h P from fun fr h s => H n s0 g0 hit fr h (hin fr h s)
  clear hit hin n s0 g0
  intro n
  induction n with
  | zero => intro s0 g0 hit; cases hit
  | succ n ih =>
    intro s0 g0 hit fr h s
    simp only [iter] at hit
    split at hit
    · rename_i s' hf
      obtain ⟨m, e, fr', h', h1, rfl, g, h2⟩ := body s0 g0 _ hf fr h s
      obtain ⟨k, e2, fr2, hh2, h3, h4⟩ := ih s' g hit fr' h' h2
      refine ⟨max m k + 1, e2, fr2, hh2, ?_, h4⟩
      rw [aexec, aexec_le (Nat.le_max_left m k) _ _ _ _ h1]
      exact aexec_le (Nat.le_max_right m k) _ _ _ _ h3
    · rename_i t' hf
      cases hit
      obtain ⟨m, e, fr', h', h1, he, g, h2⟩ := body s0 g0 _ hf fr h s
      refine ⟨m + 1, e, fr', h', ?_, by rw [he]; exact out g fr' h' h2⟩
      have := hne t
      rw [aexec, h1]
      rw [he]
      cases hx : (X t).1 with
      | normal => exact absurd hx this
      | _ => rfl
    · cases hit

/- a piece of code with several ends -/
def CutP (C : Ctx) {τ G : Type} (X : τ → AExit × (G → Sts)) (t : τ) (e : AExit) (fr : AFrame) (h : AHeap) : Prop := e = (X t).1 ∧ ∃ g, St C ((X t).2 g).1 ((X t).2 g).2 fr h
theorem r_cut {τ G : Type} {c : Code} (X : τ → AExit × (G → Sts)) {t : τ} (r : SRun C T c Γ L (CutP C X t)) (out : ∀ g, ∀ fr h, St C ((X t).2 g).1 ((X t).2 g).2 fr h → P (X t).1 fr h) : SRun C T c Γ L P := fun fr h s =>
  (r fr h s).mono fun e fr' h' ⟨he, g, q⟩ => by rw [he]; exact out g fr' h' q

/- a whole function -/
def entry : Nat → List TE → Env
  | _, [] => []
  | i, e :: es => (i, e) :: entry (i + 1) es

theorem entry_lt : ∀ {es : List TE} {i t : Nat} {e : TE}, look (entry i es) t = some e → i ≤ t
  | [], _, _, _, h => by cases h
  | a :: es, i, t, e, h => by
    simp only [entry, look] at h
    cases hb : Nat.beq i t with
    | true => have := Nat.eq_of_beq_eq_true hb; omega
    | false => rw [hb] at h; have := entry_lt (es := es) h; omega
theorem argFrame_ev : ∀ {vs : List AVal} {i : Nat} {fr : AFrame} {t : Nat}, t < i → (argFrame i vs fr).ev t = fr.ev t
  | [], _, _, _, _ => rfl
  | v :: vs, i, fr, t, h => by
    simp only [argFrame]
    rw [argFrame_ev (by omega), AFrame.ev_set, if_neg (by omega)]
theorem entry_ok : ∀ {es : List TE} {vs : List AVal} {i : Nat} {fr : AFrame}, okAll z es vs → FrOk z (entry i es) (argFrame i vs fr)
  | [], _, _, _, _, t, e, h => by cases h
  | a :: es, _, i, fr, hok, t, e, h => by
    simp only [okAll] at hok
    obtain ⟨v, vs, rfl, h1, h2⟩ := hok
    simp only [entry, look] at h
    simp only [argFrame]
    cases hb : Nat.beq i t with
    | true =>
      have := Nat.eq_of_beq_eq_true hb
      subst this
      rw [hb] at h
      cases h
      rw [argFrame_ev (by omega), AFrame.ev_set, if_pos rfl]
      exact h1
    | false => rw [hb] at h; exact entry_ok h2 t e h

def RetP (C : Ctx) (T : Tab) (res : List ResultVar) (rs : List RE) (e : AExit) (fr : AFrame) (h : AHeap) : Prop :=
  (e = .normal ∨ e = .ret) ∧ ∃ us z, aresults T res fr h = some us ∧ us.length = rs.length ∧ C.z0.le z ∧ z.Sub h ∧ (∀ b, b < C.h0.next → b ∉ C.B0 → z b = C.z0 b) ∧ okAll z (tes rs us) us ∧ OwnOk C z h (owns rs us) ∧ Chg C h

theorem ret_goto {res : List ResultVar} {rs : List RE} : ∀ l fr h, ¬ RetP C T res rs (.goto l) fr h := fun l fr h q => by rcases q.1 with e | e <;> cases e

inductive Rets (T : Tab) (Γ : Env) (L : Own) : List ResultVar → List RE → List Nat → Prop where
  | n : Rets T Γ L [] [] []
  | v {A : Type} {R : Rep A} {y : A} {t : Nat} {res : List ResultVar} {rs : List RE} {ks : List Nat} (h : look Γ t = some (.val R y)) (r : Rets T Γ L res rs ks) : Rets T Γ L (.tmp t :: res) (.val R y :: rs) ks
  | r {A : Type} {R : Rep A} {ys : List A} {v : AVal} {t : Nat} {res : List ResultVar} {rs : List RE} (k : Nat) {ks : List Nat} (h : look Γ t = some (.raw v)) (hk : L[k]? = some (v, .row R ys)) (r : Rets T Γ L res rs ks) : Rets T Γ L (.tmp t :: res) (.row R ys :: rs) (k :: ks)
  | c {A : Type} {R : Rep A} {y : A} {t : Nat} {ty : TypeId} {res : List ResultVar} {rs : List RE} {ks : List Nat} (hu : Und T ty R) (h : look Γ t = some (.val (rPtr R) y)) (r : Rets T Γ L res rs ks) : Rets T Γ L (.cell t ty :: res) (.val R y :: rs) ks
  | b {A : Type} {R : Rep A} {y : A} {t b : Nat} {ty : TypeId} {es : List TE} {res : List ResultVar} {rs : List RE} (k : Nat) {ks : List Nat} (hu : Und T ty R) (hc : Cells R y es) (h : look Γ t = some (.raw (.ptr b 0))) (hk : L[k]? = some (.ptr b 0, .box es)) (r : Rets T Γ L res rs ks) : Rets T Γ L (.cell t ty :: res) (.val R y :: rs) ks
  | a {A : Type} {R : Rep A} {ys : List A} {n : Nat} {t b : Nat} {ty et : TypeId} {res : List ResultVar} {rs : List RE} (k : Nat) {ks : List Nat} (har : Ar1 T ty et n R) (h : look Γ t = some (.raw (.ptr b 0))) (hk : L[k]? = some (.slice b 0 n R.sz (some n), .row R ys)) (r : Rets T Γ L res rs ks) : Rets T Γ L (.cell t ty :: res) (.val (rArr n R) ys :: rs) ks

theorem Rets.ok {res : List ResultVar} {rs : List RE} {ks : List Nat} (q : Rets T Γ L res rs ks) (s : StZ C Γ L z fr h) : ∃ us, aresults T res fr h = some us ∧ us.length = rs.length ∧ okAll z (tes rs us) us ∧ owns rs us = picks L ks := by
  induction q with
  | n => exact ⟨[], rfl, rfl, by simp [tes, okAll], rfl⟩
  | @v A R y t res rs ks hl _ ih =>
    obtain ⟨us, h1, h2, h3, h4⟩ := ih
    have := s.fr _ _ hl
    refine ⟨fr.ev t :: us, by simp only [aresults, aresult, h1], by simp [h2], ?_, by simpa only [owns] using h4⟩
    simp only [tes, okAll]
    exact ⟨_, _, rfl, this, h3⟩
  | @r A R ys v t res rs k ks hl hk _ ih =>
    obtain ⟨us, h1, h2, h3, h4⟩ := ih
    have := s.fr _ _ hl
    simp only [TE.ok] at this
    refine ⟨fr.ev t :: us, by simp only [aresults, aresult, h1], by simp [h2], ?_, ?_⟩
    · simp only [tes, okAll, TE.ok]
      exact ⟨_, _, rfl, rfl, h3⟩
    · simp only [owns, picks, hk, h4, this]
  | @c A R y t ty res rs ks hu hl _ ih =>
    obtain ⟨us, h1, h2, h3, h4⟩ := ih
    have hp := s.fr _ _ hl
    simp only [TE.ok] at hp
    obtain ⟨b, off, cells, ro, e1, e2, e3, e4⟩ := tv_ptr hp
    obtain ⟨v, h5, h6⟩ := apart_ok hu.sz hu.agg e3 e4
    refine ⟨v :: us, by simp only [aresults, aresult, aload, e1, (s.sub _ _ e2).1, h5, h1], by simp [h2], ?_, by simpa only [owns] using h4⟩
    simp only [tes, okAll, TE.ok]
    exact ⟨_, _, rfl, h6, h3⟩
  | @b A R y t b ty es res rs k ks hu hc hl hk _ ih =>
    obtain ⟨us, h1, h2, h3, h4⟩ := ih
    have hp := s.fr _ _ hl
    simp only [TE.ok] at hp
    have hob := s.own.ok _ (List.mem_of_getElem? hk)
    simp only [Obj.ok] at hob
    obtain ⟨b', cells, q', g2, g3, g4⟩ := hob
    cases q'
    have hr := (hc z cells).2 g3
    have hlen := R.len _ _ _ hr
    obtain ⟨v, h5, h6⟩ := apart_ok (off := 0) (cells := cells) hu.sz hu.agg (by omega) (by rw [List.drop_zero, ← hlen, List.take_length]; exact hr)
    refine ⟨v :: us, by simp only [aresults, aresult, aload, hp, g2, h5, h1], by simp [h2], ?_, by simpa only [owns] using h4⟩
    simp only [tes, okAll, TE.ok]
    exact ⟨_, _, rfl, h6, h3⟩
  | @a A R ys n t b ty et res rs k ks har hl hk _ ih =>
    obtain ⟨us, h1, h2, h3, h4⟩ := ih
    have hp := s.fr _ _ hl
    simp only [TE.ok] at hp
    have hr := s.own.ok _ (List.mem_of_getElem? hk)
    simp only [Obj.ok] at hr
    rcases hr.2 with ⟨q, _⟩ | ⟨b', off, cap, cells, q, g1, g2, g3, g4⟩
    · cases q
    · cases q
      have hcl : 0 + ys.length * R.sz ≤ cells.length := g2
      have hl' : ((cells.drop 0).take (ys.length * R.sz)).length = ys.length * R.sz := by simp; omega
      have hpp : ∀ i x, ys[i]? = some x → R.rel z ((((cells.drop 0).take (ys.length * R.sz)).drop (i * R.sz)).take R.sz) x := by
        intro i x hi
        have h6 := row_cells (off := 0) (i := i) (R := R) (cells := cells.take (ys.length * R.sz)) (by simp; omega) hi
        rw [List.drop_zero, List.drop_take, List.take_take, Nat.min_eq_left]
        · have := g4 i x hi; rwa [Nat.zero_add] at this
        · simp at h6; omega
      refine ⟨.agg ((cells.drop 0).take (ys.length * R.sz)) :: us, ?_, by simp [h2], ?_, by simpa only [owns] using h4⟩
      · simp only [aresults, aresult, aload, hp, g1, Go.Ai.apart, har.isagg, har.whole, h1]
        rw [if_pos (by omega)]
      · simp only [tes, okAll, TE.ok]
        exact ⟨_, _, rfl, ⟨⟨rfl, hl', ones_of har.pos hl' hpp, hpp⟩, rfl⟩, h3⟩

theorem ret_of {e : AExit} {res : List ResultVar} {rs : List RE} {ks : List Nat} (he : e = .normal ∨ e = .ret) (q : Rets T Γ L res rs ks) (hn : ks.Nodup) : ∀ fr h, St C Γ L fr h → RetP C T res rs e fr h := by
  intro fr h ⟨z, s⟩
  obtain ⟨us, h1, h2, h3, h4⟩ := q.ok s
  obtain ⟨z', s'⟩ := (show St C Γ L fr h from ⟨z, s⟩)
  refine ⟨he, us, z, h1, h2, s.zle, s.sub, s.old, h3, ?_, s.chg⟩
  rw [h4]
  refine ⟨fun p hp => ?_, fun p hp => ?_, picks_nodup s.own.nodup hn⟩
  · obtain ⟨i, _, h2⟩ := picks_mem hp
    exact s.own.ok p (List.mem_of_getElem? h2)
  · obtain ⟨i, _, h2⟩ := picks_mem hp
    exact s.own.out p (List.mem_of_getElem? h2)

theorem fun_of {g : FuncId} {F : Func} {c : Code} {as : List TE} {rs : List RE} (hF : T.funcs.get g = some F) (hb : F.body = some c) (hn : Nat.blt F.ntmps as.length = false) (run : ∀ C, C.B0 = [] → SRun C T c (entry 0 as) [] (RetP C T F.results.toList rs)) : Fun T g as rs := by
  intro z h vs hsub hwm hok
  refine callF_of hF hb (by rw [okAll_len hok]; exact hn) ?_
  have s0 : StZ ⟨z, h, []⟩ (entry 0 as) [] z (argFrame 0 vs .leaf) h :=
    { zle := .refl _, sub := hsub, old := fun _ _ _ => rfl, fr := entry_ok hok, own := ⟨fun p hp => (nomatch hp), fun p hp => (nomatch hp), List.nodup_nil⟩, chg := ⟨Nat.le_refl _, fun _ _ _ => rfl, fun _ m1 _ _ => m1, hwm⟩ }
  refine (run ⟨z, h, []⟩ rfl _ _ ⟨z, s0⟩).mono fun e fr h' ⟨he, us, z', h1, h2, h3, h4, h5, h6, h7, h8⟩ => ⟨he, us, h1, us, z', rfl, h2, ?_, h3, h4, fun b hb => h5 b hb (fun q => nomatch q), h6, h7⟩
  exact ⟨h8.next, fun b hb => h8.same b hb (fun q => nomatch q), h8.wm _ (Nat.min_le_left _ _) (Nat.min_le_right _ _) (fun _ q => nomatch q), fun _ => h8.ok⟩

end
end Go.Ai.Sx
