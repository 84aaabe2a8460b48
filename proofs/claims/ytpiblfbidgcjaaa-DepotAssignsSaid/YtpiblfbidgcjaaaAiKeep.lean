/- An abstract interpreter for the model's code: the water mark says which old blocks were not written. -/
import Derived.Test.YtpiblfbidgcjaaaAiRun5
namespace Go.Ai

theorem Keeps.refl (h : AHeap) : Keeps h h := ⟨Nat.le_refl _, Nat.le_refl _, fun _ _ _ => rfl⟩
theorem Keeps.trans {a b c : AHeap} (h : Keeps a b) (h' : Keeps b c) : Keeps a c := by
  refine ⟨Nat.le_trans h.1 h'.1, Nat.le_trans h'.2.1 h.2.1, fun x hx hw => ?_⟩
  rw [h'.2.2 x (Nat.lt_of_lt_of_le hx h.1) hw]
  exact h.2.2 x hx (Nat.lt_of_lt_of_le hw h'.2.1)
theorem Keeps.push (h : AHeap) (x : ABlk) : Keeps h (h.push x) :=
  ⟨Nat.le_succ _, Nat.le_refl _, fun b hb _ => by rw [AHeap.get_push, if_neg (by omega)]⟩
theorem Keeps.set (h : AHeap) (b : Nat) (x : ABlk) : Keeps h (h.set b x) := by
  refine ⟨Nat.le_refl _, Nat.min_le_left _ _, fun b' _ hw => ?_⟩
  have : b' < min h.wm b := hw
  rw [AHeap.get_set, if_neg (by omega)]

section
variable {T : Tab} {h h' : AHeap}

theorem astore_keeps {t : TypeId} {a v : AVal} (hl : astore T t h a v = some h') : Keeps h h' := by
  unfold astore at hl
  repeat' split at hl
  all_goals first | (cases hl; done) | (cases hl; exact Keeps.set ..)

theorem amakeRow_keeps {elem : TypeId} {len n : Nat} {cap : Option Nat} {parts : List (Nat × AVal)} {v : AVal} (hl : amakeRow T elem len cap n h parts = some (v, h')) : Keeps h h' := by
  unfold amakeRow at hl
  repeat' split at hl
  all_goals first | (cases hl; done) | (cases hl; exact Keeps.push ..)

theorem aappend_keeps {ts : Array TypeId} {s x v : AVal} (hl : aappend T ts s x h = some (v, h')) : Keeps h h' := by
  unfold aappend at hl
  repeat' split at hl
  all_goals first
    | (cases hl; done)
    | (simp only at hl
       repeat' split at hl
       all_goals first
         | (cases hl; done)
         | (cases hl; first | exact Keeps.refl _ | exact Keeps.push .. | exact Keeps.set .. | exact (Keeps.set ..).trans (Keeps.push ..)))

theorem acopy_keeps {ts : Array TypeId} {s x v : AVal} (hl : acopy T ts s x h = some (v, h')) : Keeps h h' := by
  unfold acopy at hl
  repeat' split at hl
  all_goals first
    | (cases hl; done)
    | (simp only at hl
       repeat' split at hl
       all_goals first
         | (cases hl; done)
         | (cases hl; first | exact Keeps.refl _ | exact Keeps.set ..))

theorem amapUpdate_keeps {t : TypeId} {m k v : AVal} (hl : amapUpdate T t m k v h = some h') : Keeps h h' := by
  unfold amapUpdate at hl
  repeat' split at hl
  all_goals first | (cases hl; done) | (cases hl; exact Keeps.set ..)

theorem aop_keeps {ev : Operand → AVal} {o : Op} {v : AVal} (hl : aop T ev h o = some (.val v h')) : Keeps h h' := by
  cases o <;> simp only [aop] at hl <;> (try (cases hl; done)) <;> (try (obtain ⟨_, rfl⟩ := optVal_inv hl; exact Keeps.refl _))
  case move => cases hl; exact Keeps.refl _
  case assign => cases hl; exact Keeps.refl _
  case pick => unfold opPick at hl; split at hl <;> cases hl; exact Keeps.refl _
  case alloc => unfold opAlloc at hl; split at hl <;> cases hl; exact Keeps.push ..
  case box => unfold opBox at hl; split at hl <;> cases hl; exact Keeps.push ..
  case buildSlice =>
    have hl := optPair_inv hl
    unfold abuildSlice at hl
    repeat' split at hl
    all_goals first | (cases hl; done) | exact amakeRow_keeps hl
  case store => exact astore_keeps (optHeap_inv hl).1
  case nilCheck => unfold opNilCheck at hl; split at hl <;> cases hl <;> exact Keeps.refl _
  case makeInterface => unfold opMakeInterface at hl; split at hl <;> cases hl; exact Keeps.refl _
  case makeFunc => unfold opMakeFunc at hl; split at hl <;> cases hl; exact Keeps.refl _
  case makeMap => unfold opMakeMap at hl; split at hl <;> cases hl; exact Keeps.push ..
  case makeSlice =>
    have hl := optPair_inv hl
    unfold amakeSlice at hl
    repeat' split at hl
    all_goals first | (cases hl; done) | exact amakeRow_keeps hl
  case mapUpdate => exact amapUpdate_keeps (optHeap_inv hl).1
  case insert => exact amapUpdate_keeps (optHeap_inv hl).1
  case extract =>
    unfold opExtract at hl
    split at hl
    · obtain ⟨_, rfl⟩ := optVal_inv hl; exact Keeps.refl _
    · cases hl
  case call c =>
    unfold opCall at hl
    split at hl
    · unfold abuiltin at hl
      split at hl
      · split at hl
        · obtain ⟨_, rfl⟩ := optVal_inv hl; exact Keeps.refl _
        · cases hl
      · exact aappend_keeps (optPair_inv hl)
      · exact acopy_keeps (optPair_inv hl)
      · obtain ⟨_, rfl⟩ := optVal_inv hl; exact Keeps.refl _
      · obtain ⟨_, rfl⟩ := optVal_inv hl; exact Keeps.refl _
      · cases hl
    · cases hl
    · cases hl

theorem astep_keeps {call : Caller} (hc : CallKeeps call) {ev : Operand → AVal} {o : Op} {r : CRes} (hl : astep T call ev o h = some (r, h')) : Keeps h h' := by
  unfold astep at hl
  split at hl
  · rename_i ha; cases hl; exact aop_keeps ha
  · exact hc _ _ _ _ _ hl
  · cases hl
end

theorem aops_keeps {T : Tab} {call : Caller} (hc : CallKeeps call) {ops : List Oper} : ∀ (rest : List Oper) (fr : AFrame) (h : AHeap) (e : AExit) (fr' : AFrame) (h' : AHeap), aops T call ops rest fr h = some (e, fr', h') → Keeps h h'
  | [], fr, h, e, fr', h', hl => by simp only [aops] at hl; cases hl; exact Keeps.refl _
  | o :: rest, fr, h, e, fr', h', hl => by
    simp only [aops] at hl
    split at hl
    · split at hl
      · rename_i hs; exact (astep_keeps hc hs).trans (aops_keeps hc rest _ _ _ _ _ hl)
      · rename_i hs; cases hl; exact astep_keeps hc hs
      · cases hl
    · exact aops_keeps hc rest _ _ _ _ _ hl
    · cases hl

theorem keeps_wm {h h' : AHeap} (hk : Keeps { h with wm := h.next } h') : Keeps h { h' with wm := min h.wm h'.wm } :=
  ⟨hk.1, Nat.min_le_left _ _, fun b hb hw => hk.2.2 b hb (by have : b < min h.wm h'.wm := hw; omega)⟩

theorem adraw_keeps {T : Tab} {call : Caller} (hc : CallKeeps call) {ops : List Oper} : ∀ (rest : List Oper) (i : Nat) (done : List (Nat × Foot)) (fr : AFrame) (h : AHeap) (fr' : AFrame) (h' : AHeap), adraw T call ops rest i done fr h = some (fr', h') → Keeps h h'
  | [], i, done, fr, h, fr', h', hl => by simp only [adraw] at hl; cases hl; exact Keeps.refl _
  | o :: rest, i, done, fr, h, fr', h', hl => by
    simp only [adraw] at hl
    split at hl
    · split at hl
      · rename_i hs
        have hk := keeps_wm (astep_keeps hc hs)
        rename_i v h1
        cases hf : footsOk ops i (footOf (foot fr.op o) h h1) done with
        | false => rw [hf] at hl; cases hl
        | true =>
          rw [hf] at hl
          simp only [cond_true] at hl
          exact hk.trans (adraw_keeps hc rest _ _ _ _ _ _ hl)
      · cases hl
    · exact adraw_keeps hc rest _ _ _ _ _ _ hl
    · cases hl

theorem acall_keeps {T : Tab} : ∀ run, RunKeeps run → CallKeeps (acall T run) := by
  intro run hr f args h r h' hl
  unfold acall at hl
  split at hl
  · split at hl
    · cases hl; exact Keeps.refl _
    unfold acallFn at hl
    split at hl
    case h_2 => cases hl
    rename_i F _
    cases hb : Nat.blt F.ntmps _ with
    | true => rw [hb] at hl; cases hl
    | false =>
      rw [hb] at hl
      simp only [cond_false] at hl
      repeat' split at hl
      all_goals first
        | (cases hl; done)
        | (rename_i hh _ _ _; cases hl; exact hr _ _ _ _ _ _ hh)
        | (rename_i hh _ _; cases hl; exact hr _ _ _ _ _ _ hh)
        | (rename_i hh _; cases hl; exact hr _ _ _ _ _ _ hh)
        | (rename_i hh; cases hl; exact hr _ _ _ _ _ _ hh)
  · unfold around at hl
    split at hl
    case h_2 => cases hl
    split at hl
    case isFalse => cases hl
    split at hl
    case h_2 => cases hl
    rename_i h1
    split at hl
    case h_2 => cases hl
    split at hl
    case isFalse => cases hl
    have k1 := hr _ _ _ _ _ _ h1
    split at hl
    all_goals first
      | (cases hl; done)
      | (rename_i h2; cases hl; have k2 := hr _ _ _ _ _ _ h2; exact (k1.trans (Keeps.set ..)).trans (k2.trans (Keeps.set ..)))
      | (rename_i h2; cases hl; have k2 := hr _ _ _ _ _ _ h2; exact (k1.trans (Keeps.set ..)).trans k2)
  · cases hl

theorem aexec_keeps {T : Tab} : ∀ n, RunKeeps (aexec T n)
  | 0 => by intro c fr h e fr' h' hl; simp [aexec] at hl
  | n + 1 => by
    have ih := aexec_keeps (T := T) n
    have hc := acall_keeps (T := T) _ ih
    intro c fr h e fr' h' hl
    cases c with
    | skip => simp only [aexec] at hl; cases hl; exact Keeps.refl _
    | label l => simp only [aexec] at hl; cases hl; exact Keeps.refl _
    | exit id => simp only [aexec] at hl; cases hl; exact Keeps.refl _
    | goto l => simp only [aexec] at hl; cases hl; exact Keeps.refl _
    | ret => simp only [aexec] at hl; cases hl; exact Keeps.refl _
    | refuse s => simp [aexec] at hl
    | region id ops draw =>
      simp only [aexec] at hl
      split at hl
      · split at hl
        · rename_i hd; cases hl; exact adraw_keeps hc _ _ _ _ _ _ _ hd
        · cases hl
      · exact aops_keeps hc _ _ _ _ _ _ hl
    | seq a b =>
      simp only [aexec] at hl
      split at hl
      · rename_i h1; exact (ih _ _ _ _ _ _ h1).trans (ih _ _ _ _ _ _ hl)
      · exact ih _ _ _ _ _ _ hl
    | cond c a b =>
      simp only [aexec] at hl
      split at hl
      · exact ih _ _ _ _ _ _ hl
      · cases hl
    | block id c =>
      simp only [aexec] at hl
      split at hl
      · rename_i h1
        split at hl <;> cases hl <;> exact ih _ _ _ _ _ _ h1
      · exact ih _ _ _ _ _ _ hl
    | loop c =>
      simp only [aexec] at hl
      split at hl
      · rename_i h1; exact (ih _ _ _ _ _ _ h1).trans (ih _ _ _ _ _ _ hl)
      · exact ih _ _ _ _ _ _ hl
    | scope c =>
      simp only [aexec] at hl
      split at hl
      · cases hl
      · exact ih _ _ _ _ _ _ hl
    | rangeFunc f params assign body =>
      simp only [aexec] at hl
      split at hl
      · rename_i h1
        have k1 := (Keeps.push h _).trans (hc _ _ _ _ _ h1)
        split at hl
        case h_2 => cases hl
        split at hl
        · cases hl
        split at hl
        all_goals first | (cases hl; done) | (cases hl; exact k1.trans (Keeps.set ..))
      · rename_i h1; cases hl; exact (Keeps.push h _).trans (hc _ _ _ _ _ h1)
      · cases hl

end Go.Ai
