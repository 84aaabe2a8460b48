/- An abstract interpreter for the model's code: the run of a drawn region in the order of the text, laid out step by step. -/
import Derived.Test.YtpiblfbidgcjaaaAiSched
namespace Go.Ai

section
variable {T : Tab} {call : Caller}

structure IsTrace (T : Tab) (call : Caller) (os : List Oper) (st : Nat → AFrame × AHeap) (vl : Nat → AVal) (ft : Nat → Foot) (ex : Nat → Bool) (i : Nat) (done : List (Nat × Foot)) : Prop where
  step : ∀ k o, i ≤ k → os[k]? = some o →
    (ex k = false ∧ awanted os (st k).1 o.guard = some false ∧ vl k = unit ∧ st (k + 1) = (putDst (st k).1 o.dst unit, (st k).2)) ∨
    (ex k = true ∧ awanted os (st k).1 o.guard = some true ∧ ∃ h', astep T call (st k).1.op o.op { (st k).2 with wm := (st k).2.next } = some (.ret (vl k), h') ∧
      ft k = footOf (foot (st k).1.op o) (st k).2 h' ∧ st (k + 1) = (putDst (st k).1 o.dst (vl k), { h' with wm := min (st k).2.wm h'.wm }))
  apart : ∀ j k, i ≤ j → j < k → k < os.length → ex k = true → ex j = true → (ft j).apart (ft k) = true ∨ j ∈ allBefore os k
  apartD : ∀ p ∈ done, ∀ k, i ≤ k → k < os.length → ex k = true → p.2.apart (ft k) = true ∨ p.1 ∈ allBefore os k

theorem footsOk_spec {os : List Oper} {j : Nat} {f : Foot} {done : List (Nat × Foot)} (h : footsOk os j f done = true) : ∀ p ∈ done, p.2.apart f = true ∨ p.1 ∈ allBefore os j := by
  intro p hp
  unfold footsOk at h
  split at h
  · rename_i hq
    exact .inl (List.all_eq_true.1 hq p hp)
  · have := List.all_eq_true.1 h p hp
    simp only [Bool.or_eq_true] at this
    rcases this with q | q
    · exact .inl q
    · right; simpa using q

theorem adraw_trace {os : List Oper} : ∀ (rest : List Oper) (i : Nat) (done : List (Nat × Foot)) (fr : AFrame) (h : AHeap) (fr' : AFrame) (h' : AHeap), os.drop i = rest → adraw T call os rest i done fr h = some (fr', h') →
    ∃ st vl ft ex, st i = (fr, h) ∧ IsTrace T call os st vl ft ex i done ∧ st (i + rest.length) = (fr', h')
  | [], i, done, fr, h, fr', h', hd, hl => by
    simp only [adraw] at hl
    cases hl
    have hlen : os.length ≤ i := by
      have := congrArg List.length hd
      simp at this; omega
    refine ⟨fun _ => (fr, h), fun _ => unit, fun _ => ⟨[], false, [], false⟩, fun _ => false, rfl, ⟨?_, ?_, ?_⟩, rfl⟩
    · intro k o hk ho
      have := (List.getElem?_eq_some_iff.1 ho).1
      omega
    · intro j k _ _ _ he; cases he
    · intro p _ k _ _ he; cases he
  | o :: rest, i, done, fr, h, fr', h', hd, hl => by
    have hoi : os[i]? = some o := by
      have := congrArg (fun l => l[0]?) hd
      simpa [List.getElem?_drop] using this
    have hd2 : os.drop (i + 1) = rest := by
      have := congrArg (fun l => l.drop 1) hd
      simpa [List.drop_drop] using this
    simp only [adraw] at hl
    split at hl
    · rename_i hw
      split at hl
      · rename_i v h1 hs
        cases hf : footsOk os i (footOf (foot fr.op o) h h1) done with
        | false => rw [hf] at hl; cases hl
        | true =>
          rw [hf] at hl
          simp only [cond_true] at hl
          obtain ⟨st, vl, ft, ex, s1, s2, s3⟩ := adraw_trace rest (i + 1) _ _ _ fr' h' hd2 hl
          refine ⟨fun k => if k = i then (fr, h) else st k, fun k => if k = i then v else vl k, fun k => if k = i then footOf (foot fr.op o) h h1 else ft k, fun k => if k = i then true else ex k, by simp, ⟨?_, ?_, ?_⟩, ?_⟩
          · intro k o' hk ho'
            by_cases e : k = i
            · subst e
              rw [hoi] at ho'; cases ho'
              right
              simp only [if_true, if_neg (show ¬ (k + 1 = k) by omega)]
              exact ⟨trivial, hw, h1, hs, rfl, s1⟩
            · simp only [if_neg e, if_neg (show ¬ (k + 1 = i) by omega)]
              exact s2.step k o' (by omega) ho'
          · intro j k hj hjk hk hek hej
            simp only [if_neg (show ¬ k = i by omega)] at hek ⊢
            by_cases e : j = i
            · subst e
              simp only [if_true]
              exact s2.apartD (j, _) (List.mem_cons_self ..) k (by omega) hk hek
            · simp only [if_neg e] at hej ⊢
              exact s2.apart j k (by omega) hjk hk hek hej
          · intro p hp k hk hkl hek
            by_cases e : k = i
            · subst e
              simp only [if_true]
              exact footsOk_spec hf p hp
            · simp only [if_neg e] at hek ⊢
              exact s2.apartD p (List.mem_cons_of_mem _ hp) k (by omega) hkl hek
          · show (if i + (o :: rest).length = i then (fr, h) else st (i + (o :: rest).length)) = _
            rw [if_neg (by simp), show i + (o :: rest).length = i + 1 + rest.length from by simp; omega]
            exact s3
      · cases hl
    · rename_i hw
      obtain ⟨st, vl, ft, ex, s1, s2, s3⟩ := adraw_trace rest (i + 1) _ _ _ fr' h' hd2 hl
      refine ⟨fun k => if k = i then (fr, h) else st k, fun k => if k = i then unit else vl k, ft, fun k => if k = i then false else ex k, by simp, ⟨?_, ?_, ?_⟩, ?_⟩
      · intro k o' hk ho'
        by_cases e : k = i
        · subst e
          rw [hoi] at ho'; cases ho'
          left
          simp only [if_true, if_neg (show ¬ (k + 1 = k) by omega)]
          exact ⟨trivial, hw, trivial, s1⟩
        · simp only [if_neg e, if_neg (show ¬ (k + 1 = i) by omega)]
          exact s2.step k o' (by omega) ho'
      · intro j k hj hjk hk hek hej
        simp only [if_neg (show ¬ k = i by omega)] at hek
        by_cases e : j = i
        · subst e; simp at hej
        · simp only [if_neg e] at hej
          exact s2.apart j k (by omega) hjk hk hek hej
      · intro p hp k hk hkl hek
        by_cases e : k = i
        · subst e; simp at hek
        · simp only [if_neg e] at hek
          exact s2.apartD p hp k (by omega) hkl hek
      · show (if i + (o :: rest).length = i then (fr, h) else st (i + (o :: rest).length)) = _
        rw [if_neg (by simp), show i + (o :: rest).length = i + 1 + rest.length from by simp; omega]
        exact s3
    · cases hl

/- the footprint of an operation -/
theorem foot_val {ev : Operand → AVal} {o : Oper} {h : AHeap} {v : AVal} {h' : AHeap} (hl : aop T ev h o.op = some (.val v h')) : (foot ev o).rall = false ∧ (foot ev o).wall = false := by
  unfold foot
  cases ho : o.op <;> try exact ⟨rfl, rfl⟩
  rename_i c
  rw [ho] at hl
  simp only [aop, opCall] at hl
  cases hc : c.callee with
  | builtin b => simp only [hc]; cases b <;> simp
  | value f => rw [hc] at hl; cases hl
  | invoke r m => rw [hc] at hl; cases hl

theorem foot_call {ev : Operand → AVal} {o : Oper} {h : AHeap} {f : AVal} {as : List AVal} (hl : aop T ev h o.op = some (.call f as)) : foot ev o = ⟨[], true, [], false⟩ := by
  obtain ⟨c, fo, h1, h2, _⟩ := aop_call_inv hl
  unfold foot
  rw [h1]
  simp only [h2]

end

end Go.Ai
