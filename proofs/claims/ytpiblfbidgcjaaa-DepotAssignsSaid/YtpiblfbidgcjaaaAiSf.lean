/- Symbolic runs of the abstract interpreter: small steps for printed proofs; function values. -/
import Derived.Test.YtpiblfbidgcjaaaAiSc
namespace Go.Ai.Sx

abbrev big : Nat := 4611686018427387904
theorem bnd {α β : Type} {m : Option α} {k : α → Option β} {y : β} (h : m.bind k = some y) : ∃ x, m = some x ∧ k x = some y := Option.bind_eq_some_iff.1 h
theorem cnd1 {β : Type} {c : Bool} {a b : Option β} {y : β} (h : cond c a b = some y) (q : c = true) : a = some y := by rw [q] at h; exact h
theorem cnd0 {β : Type} {c : Bool} {a b : Option β} {y : β} (h : cond c a b = some y) (q : c = false) : b = some y := by rw [q] at h; exact h
def alt {α β γ : Type} (f : α → γ) (g : β → γ) : α ⊕ β → γ
  | .inl a => f a
  | .inr b => g b
abbrev XT (τ : Type) : Type 1 := τ → AExit × (List AVal → Sts)
def altX {α β : Type} (f : XT α) (g : XT β) : XT (α ⊕ β)
  | .inl a => f a
  | .inr b => g b
theorem alt_l {α β γ : Type} {f : α → Option γ} {g : β → Option γ} {a : α} {y : γ} (h : alt f g (.inl a) = some y) : f a = some y := h
theorem alt_r {α β γ : Type} {f : α → Option γ} {g : β → Option γ} {b : β} {y : γ} (h : alt f g (.inr b) = some y) : g b = some y := h
theorem gt1 {b : Bool} (h : b = true) : (b == true) = true := by rw [h]; rfl
theorem gt0 {b : Bool} (h : b = false) : (b == true) = false := by rw [h]; rfl
theorem gf1 {b : Bool} (h : b = true) : (b == false) = false := by rw [h]; rfl
theorem gf0 {b : Bool} (h : b = false) : (b == false) = true := by rw [h]; rfl

def divO (k : IntKind) (a b : Int) : Option Int := if b = 0 then none else some (k.wrap (a.tdiv b))
theorem divO_inv {k : IntKind} {a b n : Int} (h : divO k a b = some n) : Ar k a b .quo n := by
  unfold divO at h
  split at h
  · cases h
  · cases h; exact .quo (by assumption)
def remO (a b : Int) : Option Int := if b = 0 then none else some (a.tmod b)
theorem remO_inv {a b n : Int} (h : remO a b = some n) : b ≠ 0 ∧ n = a.tmod b := by
  unfold remO at h
  split at h
  · cases h
  · cases h; exact ⟨by assumption, rfl⟩
def shlO (k : IntKind) (a b : Int) : Option Int := if 0 ≤ b then some (k.wrap (a * 2 ^ (min b.toNat k.bits))) else none
theorem shlO_inv {k : IntKind} {a b n : Int} (h : shlO k a b = some n) : 0 ≤ b ∧ n = k.wrap (a * 2 ^ (min b.toNat k.bits)) := by
  unfold shlO at h
  split at h
  · cases h; exact ⟨by assumption, rfl⟩
  · cases h
def shrO (k : IntKind) (a b : Int) : Option Int := if 0 ≤ b then some (a.fdiv (2 ^ (min b.toNat k.bits))) else none
theorem shrO_inv {k : IntKind} {a b n : Int} (h : shrO k a b = some n) : 0 ≤ b ∧ n = a.fdiv (2 ^ (min b.toNat k.bits)) := by
  unfold shrO at h
  split at h
  · cases h; exact ⟨by assumption, rfl⟩
  · cases h
def slO {A : Type} (xs : List A) (i j : Int) : Option (List A) := if 0 ≤ i ∧ i ≤ j ∧ j ≤ lenI xs then some ((xs.take j.toNat).drop i.toNat) else none
theorem slO_inv {A : Type} {xs ys : List A} {i j : Int} (h : slO xs i j = some ys) : (0 ≤ i ∧ i ≤ j ∧ j ≤ lenI xs) ∧ ys = (xs.take j.toNat).drop i.toNat := by
  unfold slO at h
  split at h
  · cases h; exact ⟨by assumption, rfl⟩
  · cases h

section
variable {C : Ctx} {T : Tab} {d : Option (List Nat)} {ops rest : List Oper} {Γ : Env} {L : Own} {Q : AFrame → AHeap → Prop} {P : AExit → AFrame → AHeap → Prop} {o : Oper} {t : Nat} {z : Store} {fr : AFrame} {h : AHeap}

theorem s_pk1 {c x y : Operand} {e : TE} {b : Bool} (hb : b = true) (hw : Want ops Γ true o.guard) (ho : o.op = .pick c x y) (hd : o.dst = some t) (hc : Opd Γ c (.val rBool b)) (hx : Opd Γ x e)
    (r : SOps C T d ops rest ((t, e) :: Γ) L Q) : SOps C T d ops (o :: rest) Γ L Q := by subst hb; exact s_pick1 hw ho hd hc hx r
theorem s_pk0 {c x y : Operand} {e : TE} {b : Bool} (hb : b = false) (hw : Want ops Γ true o.guard) (ho : o.op = .pick c x y) (hd : o.dst = some t) (hc : Opd Γ c (.val rBool b)) (hy : Opd Γ y e)
    (r : SOps C T d ops rest ((t, e) :: Γ) L Q) : SOps C T d ops (o :: rest) Γ L Q := by subst hb; exact s_pick0 hw ho hd hc hy r
theorem s_remO {u u' : TypeId} {k : IntKind} {x y : Operand} {a b n : Int} (hn : remO a b = some n) (hw : Want ops Γ true o.guard) (ho : o.op = .binOp .rem u x y u') (hd : o.dst = some t) (hx : Opd Γ x (.val (rInt k) a)) (hy : Opd Γ y (.val (rInt k) b))
    (r : SOps C T d ops rest ((t, .val (rInt k) n) :: Γ) L Q) : SOps C T d ops (o :: rest) Γ L Q := by
  obtain ⟨h1, rfl⟩ := remO_inv hn; exact s_rem hw ho hd hx hy h1 r
theorem s_shlO {u u' : TypeId} {k k' : IntKind} {x y : Operand} {a b n : Int} (hn : shlO k a b = some n) (hw : Want ops Γ true o.guard) (ho : o.op = .binOp .shl u x y u') (hd : o.dst = some t) (hx : Opd Γ x (.val (rInt k) a)) (hy : Opd Γ y (.val (rInt k') b))
    (r : SOps C T d ops rest ((t, .val (rInt k) n) :: Γ) L Q) : SOps C T d ops (o :: rest) Γ L Q := by
  obtain ⟨h1, rfl⟩ := shlO_inv hn; exact s_shl hw ho hd hx hy h1 r
theorem s_shrO {u u' : TypeId} {k k' : IntKind} {x y : Operand} {a b n : Int} (hn : shrO k a b = some n) (hw : Want ops Γ true o.guard) (ho : o.op = .binOp .shr u x y u') (hd : o.dst = some t) (hx : Opd Γ x (.val (rInt k) a)) (hy : Opd Γ y (.val (rInt k') b))
    (r : SOps C T d ops rest ((t, .val (rInt k) n) :: Γ) L Q) : SOps C T d ops (o :: rest) Γ L Q := by
  obtain ⟨h1, rfl⟩ := shrO_inv hn; exact s_shr hw ho hd hx hy h1 r

inductive Bnd (Γ : Env) : Option Operand → Int → Int → Prop where
  | n {i : Int} : Bnd Γ none i i
  | s {y : Operand} {k : IntKind} {i j : Int} (h : Opd Γ y (.val (rInt k) i)) : Bnd Γ (some y) j i
theorem s_slO {A : Type} {R : Rep A} {x : Operand} {lo hi : Option Operand} {xs ys : List A} {st et : TypeId} {i j : Int} (hsl : Sl T st et R) (hn : slO xs i j = some ys) (hw : Want ops Γ true o.guard) (ho : o.op = .slice st x lo hi none) (hd : o.dst = some t)
    (hx : Opd Γ x (.val (rSlice R) xs)) (hlo : Bnd Γ lo 0 i) (hhi : Bnd Γ hi (lenI xs) j) (r : SOps C T d ops rest ((t, .val (rSlice R) ys) :: Γ) L Q) : SOps C T d ops (o :: rest) Γ L Q := by
  obtain ⟨h1, rfl⟩ := slO_inv hn
  cases hlo with
  | n =>
    cases hhi with
    | n => exact s_slice (kl := .i64) (kh := .i64) hsl h1 hw ho hd hx (.inl ⟨rfl, rfl⟩) (.inl ⟨rfl, rfl⟩) r
    | s h => exact s_slice (kl := .i64) hsl h1 hw ho hd hx (.inl ⟨rfl, rfl⟩) (.inr ⟨_, rfl, h⟩) r
  | s h' =>
    cases hhi with
    | n => exact s_slice (kh := .i64) hsl h1 hw ho hd hx (.inr ⟨_, rfl, h'⟩) (.inl ⟨rfl, rfl⟩) r
    | s h => exact s_slice hsl h1 hw ho hd hx (.inr ⟨_, rfl, h'⟩) (.inr ⟨_, rfl, h⟩) r

/- exits that go on somewhere -/
theorem r_exitq {id : Nat} {b : Code} {P2 : AExit → AFrame → AHeap → Prop} (e : P (.exit id) = fun fr h => Run T b fr h P2) (r : SRun C T b Γ L P2) : SRun C T (.exit id) Γ L P := fun fr h s => run_exit (by rw [e]; exact r fr h s)
theorem s_nilq {b : Code} {P2 : AExit → AFrame → AHeap → Prop} (e : Q = fun fr h => Run T b fr h P2) (r : SRun C T b Γ L P2) : SOps C T d ops [] Γ L Q := s_nil fun fr h s => by rw [e]; exact r fr h s

theorem r_skipq {b : Code} {P2 : AExit → AFrame → AHeap → Prop} (e : P .normal = fun fr h => Run T b fr h P2) (r : SRun C T b Γ L P2) : SRun C T .skip Γ L P := fun fr h s => run_skip (by rw [e]; exact r fr h s)
theorem r_labelq {b : Code} {l : Nat} {P2 : AExit → AFrame → AHeap → Prop} (e : P .normal = fun fr h => Run T b fr h P2) (r : SRun C T b Γ L P2) : SRun C T (.label l) Γ L P := fun fr h s => run_label (by rw [e]; exact r fr h s)
abbrev gh (g : List AVal) (i : Nat) : AVal := g.getD i .undef
theorem known_te : ∀ z, TE.ok z (.val rBool true) (.bool true) := fun _ => by simp only [TE.ok]; exact tv_bool_mk

/- function values -/
def FnAt (T : Tab) (z : Store) (c : AVal) (as : List TE) (rs : List RE) : Prop :=
  ∃ g pre post, c = .func (.func g) pre post ∧ T.consts.get g = none ∧ ∀ z1 h vs, z.le z1 → z1.Sub h → h.wm ≤ h.next → okAll z1 as vs →
    CallF T g (pre ++ vs ++ post) h fun r h' => ∃ us z', r = .ret (packed us) ∧ us.length = rs.length ∧ Quiet h h' ∧ z1.le z' ∧ z'.Sub h' ∧ (∀ b, b < h.next → z' b = z1 b) ∧ okAll z' (tes rs us) us ∧ OwnOk ⟨z1, h, []⟩ z' h' (owns rs us)
theorem FnAt.mono {z z' : Store} {c : AVal} {as : List TE} {rs : List RE} (hz : z.le z') (f : FnAt T z c as rs) : FnAt T z' c as rs :=
  let ⟨g, pre, post, h1, h2, h3⟩ := f; ⟨g, pre, post, h1, h2, fun z1 h vs hl => h3 z1 h vs (hz.trans hl)⟩

def rFn (T : Tab) (X Y : Type) (ins : X → List TE) (outs : Y → List RE) : Rep (X → Option Y) :=
  ⟨1, false, fun z cs f => ∃ c, cs = [c] ∧ (∃ g pre post, c = .func (.func g) pre post) ∧ ∀ x y, f x = some y → FnAt T z c (ins x) (outs y), fun _ _ _ h => by obtain ⟨v, h, _⟩ := h; rw [h]; rfl,
    fun _ _ _ _ e h => let ⟨c, h1, h2, h3⟩ := h; ⟨c, h1, h2, fun x y q => (h3 x y q).mono e⟩, fun _ => rfl, fun _ _ _ h => by obtain ⟨v, h, ⟨g, p, q, e⟩, _⟩ := h; rw [h, e]; rfl⟩

theorem tv_fn {X Y : Type} {ins : X → List TE} {outs : Y → List RE} {v : AVal} {f : X → Option Y} (q : TV (rFn T X Y ins outs) z v f) : ∀ x y, f x = some y → FnAt T z v (ins x) (outs y) := by
  obtain ⟨h1, h2⟩ := q
  obtain ⟨w, h3, h4, h5⟩ := h1
  cases v <;> simp_all [AVal.isAgg, AVal.cells, rFn]

theorem s_callv {X Y : Type} {ins : X → List TE} {outs : Y → List RE} {c : Call} {p : Operand} {f : X → Option Y} {x : X} {y : Y} (hf : f x = some y) (hw : Want ops Γ true o.guard) (ho : o.op = .call c) (hd : o.dst = some t) (hc : c.callee = .value p) (hx : Opd Γ p (.val (rFn T X Y ins outs) f)) (hvs : Opds Γ c.args.toList (ins x))
    (hq : RQ (outs y) L fun es L' => SOps C T d ops rest ((t, teOf es) :: Γ) L' Q) : SOps C T d ops (o :: rest) Γ L Q := by
  refine call_step hw hd hq fun z fr h s => ?_
  obtain ⟨g, pre, post, e1, e2, e3⟩ := tv_fn (hx.val s.fr) x y hf
  refine ⟨.func (.func g) pre post, c.args.toList.map fr.op, by rw [ho]; simp only [aop, opCall, hc, e1], fun h1 hn hg hwm => ?_⟩
  have hsub : z.Sub h1 := fun b y hb => by rw [hg, hn]; exact s.sub b y hb
  refine callV_func e2 ?_
  refine (e3 z h1 _ (.refl _) hsub hwm (hvs.ok s.fr)).mono fun r h' ⟨us, z', e1, hl, q, hz, hs, hold, hok, hown⟩ => ⟨us, z', e1, hl, q, hz, hs, ?_, hok, hown⟩
  rw [← hn]; exact hold

theorem okAll_append {es fs : List TE} {us vs : List AVal} (h1 : okAll z es us) (h2 : okAll z fs vs) : okAll z (es ++ fs) (us ++ vs) := okAll_app.2 ⟨us, vs, rfl, h1, h2⟩

/- a function made: with what it captures -/
theorem s_mkfn {X Y : Type} (ins : X → List TE) (outs : Y → List RE) {f : X → Option Y} {g : FuncId} {first captured : Array Operand} {ps cs : List TE} (hF : ∀ x y, f x = some y → Fun T g (ps ++ ins x ++ cs) (outs y)) (hcst : T.consts.get g = none) (hw : Want ops Γ true o.guard) (ho : o.op = .makeFunc (.func g) first captured) (hd : o.dst = some t) (h1 : Opds Γ first.toList ps) (h2 : Opds Γ captured.toList cs)
    (r : SOps C T d ops rest ((t, .val (rFn T X Y ins outs) f) :: Γ) L Q) : SOps C T d ops (o :: rest) Γ L Q := by
  refine s_pure (by rw [ho]; rfl) hw hd (fun z fr h s => ?_) r
  refine ⟨.func (.func g) (first.toList.map fr.op) (captured.toList.map fr.op), by rw [ho]; rfl, ?_⟩
  simp only [TE.ok]
  refine ⟨⟨_, rfl, ⟨_, _, _, rfl⟩, fun x y q => ⟨g, _, _, rfl, hcst, fun z1 h' vs hl hs hwm hok => ?_⟩⟩, rfl⟩
  exact hF x y q z1 h' _ hs hwm (okAll_append (okAll_append (okAll_mono hl (h1.ok s.fr)) hok) (okAll_mono hl (h2.ok s.fr)))
/- a function named -/
theorem opd_fn {X Y : Type} {ins : X → List TE} {outs : Y → List RE} {f : X → Option Y} {g : FuncId} (hF : ∀ x y, f x = some y → Fun T g (ins x) (outs y)) (hcst : T.consts.get g = none) : ∀ z, TV (rFn T X Y ins outs) z (.func (.func g) [] []) f := fun z =>
  ⟨⟨_, rfl, ⟨_, _, _, rfl⟩, fun x y q => ⟨g, [], [], rfl, hcst, fun z1 h' vs hl hs hwm hok => by rw [List.nil_append, List.append_nil]; exact hF x y q z1 h' _ hs hwm hok⟩⟩, rfl⟩
theorem st_fn {X Y : Type} {ins : X → List TE} {outs : Y → List RE} {f : X → Option Y} {g : FuncId} {n : Nat} (hF : ∀ x y, f x = some y → Fun T g (ins x) (outs y)) (hcst : T.consts.get g = none) (hl : look Γ n = some (.raw (.func (.func g) [] []))) : ∀ z fr h, StZ C Γ L z fr h → ∃ z', z.le z' ∧ StZ C ((n, .val (rFn T X Y ins outs) f) :: Γ) L z' fr h := by
  intro z fr h s
  refine ⟨z, .refl _, { s with fr := fun t e q => ?_ }⟩
  simp only [look] at q
  cases hb : Nat.beq n t with
  | true =>
    have := Nat.eq_of_beq_eq_true hb
    subst this
    rw [hb] at q
    cases q
    have := s.fr _ _ hl
    simp only [TE.ok] at this ⊢
    rw [this]
    exact opd_fn hF hcst z
  | false => rw [hb] at q; exact s.fr t e q
end
end Go.Ai.Sx
