/- An abstract interpreter for the model's code: sound, and steady in its fuel. -/
import Derived.Test.YtpiblfbidgcjaaaAiDraw4
namespace Go.Ai

theorem aexec_sound {T : Tab} {P : Program} {base : Nat} (ok : T.Ok P) (n : Nat) : RunOk P base (aexec T n) :=
  aexec_ok ok (draw_ok ok) aexec_keeps acall_keeps n

theorem acallFn_sound {T : Tab} {P : Program} {base : Nat} (ok : T.Ok P) {n : Nat} {f : FuncId} {args : List AVal} {h : AHeap} {r : CRes} {h' : AHeap} (hl : acallFn T (aexec T n) f args h = some (r, h')) {ρ : Emb} {w : World} {args' : Array Value}
    (ha : LRel ρ args args'.toList) (hr : HRel base ρ h w) : Calls P f args' w (FnEnd base ρ h w r h') :=
  (fn_ok ok (aexec_sound ok n) hl ha hr).2

/- what a function without arguments comes to, whatever the memory -/
theorem const_ok {T : Tab} {P : Program} (ok : T.Ok P) {n : Nat} {g : FuncId} {b : Bool} {h' : AHeap} (hl : acallFn T (aexec T n) g [] ⟨.leaf, 0, 0⟩ = some (.ret (.bool b), h')) :
    (∃ F, P.funcs[g]? = some F ∧ (F.name == "runtime.NumGoroutine") = false ∧ F.body.isSome = true) ∧ ∀ w, Calls P g #[] w fun e w' =>
      ∃ v', e = .returned v' ∧ (∀ ρ, VRel ρ (.bool b) v') ∧ w.heap.size ≤ w'.heap.size ∧ (∀ k, k < w.heap.size → w'.heap[k]? = w.heap[k]?) ∧ w'.os = w.os ∧ w'.tape = w.tape ∧ w'.output = w.output := by
  have hr0 : ∀ w : World, HRel w.heap.size (fun _ => none) ⟨.leaf, 0, 0⟩ w := fun w => ⟨⟨fun _ _ h => (nomatch h), fun _ _ h => (nomatch h), fun _ _ _ _ h => (nomatch h), Nat.le_refl _⟩, fun _ _ h => (nomatch h)⟩
  have key : ∀ w : World, _ := fun w => fn_ok ok (aexec_sound (base := w.heap.size) ok n) hl (args' := #[]) (.nil _) (hr0 w)
  refine ⟨?_, fun w => ?_⟩
  · obtain ⟨h1, _⟩ := fn_ok ok (aexec_sound (base := 0) ok n) hl (args' := #[]) (ρ := fun _ => none) (w := default) (.nil _) ⟨⟨fun _ _ h => (nomatch h), fun _ _ h => (nomatch h), fun _ _ _ _ h => (nomatch h), Nat.zero_le _⟩, fun _ _ h => (nomatch h)⟩
    exact h1
  · refine (key w).2.mono fun e w' he => ?_
    obtain ⟨ρ', hr', ht, hend⟩ := he
    rcases hend with ⟨v, v', hv, rfl, hrel⟩ | ⟨v, v', hv, _⟩
    case inr => cases hv
    cases hv
    cases hrel
    exact ⟨_, rfl, fun ρ => .bool b, ht.size, fun k hk => ht.frame k hk (fun _ _ h => (nomatch h)), ht.os, ht.tape, ht.output⟩

theorem Tab.Ok.const {T : Tab} {P : Program} (ok : T.Ok P) {n : Nat} {g : FuncId} {b : Bool} {h' : AHeap} (hl : acallFn T (aexec T n) g [] ⟨.leaf, 0, 0⟩ = some (.ret (.bool b), h')) :
    Tab.Ok { T with consts := T.consts.set g (.bool b) } P := by
  refine ⟨ok.types, ok.funcs, ok.mixed, fun f v hv => ?_⟩
  have hv : (T.consts.set g (.bool b)).get f = some v := hv
  rw [Tr.get_set] at hv
  by_cases e : f = g
  · rw [if_pos e] at hv
    cases hv
    subst e
    exact const_ok ok hl
  · rw [if_neg e] at hv
    exact ok.consts f v hv

/- one runner knows more than another -/
def Runner.Le (a b : Runner) : Prop := ∀ c fr h r, a c fr h = some r → b c fr h = some r
def Caller.Le (a b : Caller) : Prop := ∀ f as h r, a f as h = some r → b f as h = some r

section
variable {T : Tab}

theorem astep_le {a b : Caller} (h : Caller.Le a b) {ev : Operand → AVal} {o : Op} {hp : AHeap} {r : CRes × AHeap} (hl : astep T a ev o hp = some r) : astep T b ev o hp = some r := by
  unfold astep at hl ⊢
  split at hl
  · rename_i e; exact hl
  · rename_i e; exact h _ _ _ _ hl
  · cases hl

theorem aops_le {a b : Caller} (h : Caller.Le a b) {ops : List Oper} : ∀ (rest : List Oper) (fr : AFrame) (hp : AHeap) (r : AExit × AFrame × AHeap), aops T a ops rest fr hp = some r → aops T b ops rest fr hp = some r
  | [], _, _, _, hl => hl
  | o :: rest, fr, hp, r, hl => by
    simp only [aops] at hl ⊢
    split at hl
    · split at hl
      · rename_i e
        rw [astep_le h e]
        exact aops_le h rest _ _ _ hl
      · rename_i e
        rw [astep_le h e]
        exact hl
      · cases hl
    · exact aops_le h rest _ _ _ hl
    · cases hl

theorem adraw_le {a b : Caller} (h : Caller.Le a b) {ops : List Oper} : ∀ (rest : List Oper) (i : Nat) (done : List (Nat × Foot)) (fr : AFrame) (hp : AHeap) (r : AFrame × AHeap), adraw T a ops rest i done fr hp = some r → adraw T b ops rest i done fr hp = some r
  | [], _, _, _, _, _, hl => hl
  | o :: rest, i, done, fr, hp, r, hl => by
    simp only [adraw] at hl ⊢
    split at hl
    · split at hl
      · rename_i e
        rw [astep_le h e]
        cases hf : footsOk ops i _ done with
        | false => rw [hf] at hl; cases hl
        | true =>
          rw [hf] at hl
          simp only [cond_true] at hl ⊢
          simp only [hf, cond_true]
          exact adraw_le h rest _ _ _ _ _ hl
      · cases hl
    · exact adraw_le h rest _ _ _ _ _ hl
    · cases hl

theorem acallFn_le {a b : Runner} (h : Runner.Le a b) {f : FuncId} {as : List AVal} {hp : AHeap} {r : CRes × AHeap} (hl : acallFn T a f as hp = some r) : acallFn T b f as hp = some r := by
  unfold acallFn at hl ⊢
  split at hl
  · rename_i F hF
    cases hb : Nat.blt F.ntmps as.length with
    | true => rw [hb] at hl; cases hl
    | false =>
      rw [hb] at hl
      simp only [cond_false] at hl ⊢
      split at hl
      · rename_i c hc
        split at hl <;> first | (rename_i e; simp only [h _ _ _ _ e]; exact hl) | cases hl
      · cases hl
  · cases hl

theorem around_le {a b : Runner} (h : Runner.Le a b) {l : Nat} {as : List AVal} {hp : AHeap} {r : CRes × AHeap} (hl : around a l as hp = some r) : around b l as hp = some r := by
  unfold around at hl ⊢
  split at hl
  · rename_i L hL
    split at hl
    · rename_i hc
      rw [if_pos hc]
      split at hl
      · rename_i e
        simp only [h _ _ _ _ e]
        split at hl
        · rename_i L1 hL1
          split at hl
          · rename_i hr
            rw [if_pos hr]
            split at hl <;> first | (rename_i e; simp only [h _ _ _ _ e]; exact hl) | cases hl
          · cases hl
        · cases hl
      · cases hl
    · cases hl
  · cases hl

theorem acall_le {a b : Runner} (h : Runner.Le a b) : Caller.Le (acall T a) (acall T b) := by
  intro f as hp r hl
  unfold acall at hl ⊢
  split at hl
  · split at hl
    · exact hl
    · exact acallFn_le h hl
  · exact around_le h hl
  · cases hl

theorem aexec_le1 : ∀ n, Runner.Le (aexec T n) (aexec T (n + 1))
  | 0 => by intro c fr h r hl; simp [aexec] at hl
  | n + 1 => by
    have ih := aexec_le1 n
    have ihc := acall_le (T := T) ih
    intro c fr h r hl
    cases c with
    | skip => exact hl
    | label l => exact hl
    | region id ops draw =>
      rw [aexec] at hl ⊢
      cases draw with
      | true =>
        simp only [if_true] at hl ⊢
        split at hl
        · rename_i e
          simp only [adraw_le ihc _ _ _ _ _ _ e]
          exact hl
        · cases hl
      | false =>
        simp only [Bool.false_eq_true, if_false] at hl ⊢
        exact aops_le ihc _ _ _ _ hl
    | seq x y =>
      rw [aexec] at hl ⊢
      cases e : aexec T n x fr h with
      | none => rw [e] at hl; cases hl
      | some q =>
        obtain ⟨ex, fr', h'⟩ := q
        rw [ih _ _ _ _ e]
        rw [e] at hl
        cases ex <;> first | exact hl | exact ih _ _ _ _ hl
    | cond c x y =>
      rw [aexec] at hl ⊢
      split at hl
      · rename_i t e
        exact ih _ _ _ _ hl
      · cases hl
    | block id c =>
      rw [aexec] at hl ⊢
      cases e : aexec T n c fr h with
      | none => rw [e] at hl; cases hl
      | some q =>
        rw [ih _ _ _ _ e]
        rw [e] at hl
        exact hl
    | loop c =>
      rw [aexec] at hl ⊢
      cases e : aexec T n c fr h with
      | none => rw [e] at hl; cases hl
      | some q =>
        obtain ⟨ex, fr', h'⟩ := q
        rw [ih _ _ _ _ e]
        rw [e] at hl
        cases ex <;> first | exact hl | exact ih _ _ _ _ hl
    | rangeFunc f params assign body =>
      rw [aexec] at hl ⊢
      split at hl <;> first | (rename_i e; simp only [ihc _ _ _ _ e]; exact hl) | cases hl
    | exit id => exact hl
    | scope c =>
      rw [aexec] at hl ⊢
      cases e : aexec T n c fr h with
      | none => rw [e] at hl; cases hl
      | some q =>
        rw [ih _ _ _ _ e]
        rw [e] at hl
        exact hl
    | goto l => exact hl
    | ret => exact hl
    | refuse _ => simp [aexec] at hl

theorem aexec_le {n m : Nat} (h : n ≤ m) : Runner.Le (aexec T n) (aexec T m) := by
  induction m with
  | zero => have : n = 0 := by omega
            subst this; exact fun _ _ _ _ q => q
  | succ m ih =>
    by_cases e : n = m + 1
    · subst e; exact fun _ _ _ _ q => q
    · exact fun c fr hp r q => aexec_le1 m c fr hp r (ih (by omega) c fr hp r q)

end

end Go.Ai
