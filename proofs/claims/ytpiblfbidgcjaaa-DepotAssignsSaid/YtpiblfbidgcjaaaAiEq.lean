/- An abstract interpreter for the model's code: equality, and the operators. -/
import Derived.Test.YtpiblfbidgcjaaaAiOps
namespace Go.Ai

section
variable {T : Tab} {P : Program} (ok : T.Ok P) {base : Nat} {ρ : Emb} {h : AHeap} {w : World}

include ok in
theorem aeq_ok : ∀ (d : Nat) (t : TypeId) (x y : AVal) (x' y' : Value) (r : Bool) (D : Nat), d ≤ D → VRel ρ x x' → VRel ρ y y' → aeq T d t x y = some r → (Op.equalIn D t x' y').run P w = .ok r w
  | 0, _, _, _, _, _, _, _, _, _, _, h => by simp [aeq] at h
  | d + 1, t, x, y, x', y', r, D, hD, hx, hy, h => by
    obtain ⟨D, rfl⟩ : ∃ E, D = E + 1 := ⟨D - 1, by omega⟩
    simp only [aeq] at h
    split at h
    case h_18 =>
      rename_i fields xs ys ht
      split at h
      · cases h
      rename_i hst
      obtain ⟨xs', rfl, hxs⟩ := hx.agg_inv
      obtain ⟨ys', rfl, hys⟩ := hy.agg_inv
      have hu := ok.und ht
      have hf : P.fieldsOf t = fields := by simp [Program.fieldsOf, hu]
      have hp : P.stoodInHeld t = false := by
        cases hg : T.types.get t with
        | none => rw [hg] at hst; simp at hst
        | some i =>
          rw [hg] at hst
          simp at hst
          obtain ⟨_, j, _, _, _, _, hs, _⟩ := ok.types t i hg
          exact hs hst
      rw [run_equalIn_struct w D t xs' ys' (by rw [hf]; exact hu) hp, hf]
      revert h
      generalize fields.toList = fs
      intro h
      clear ht hst hu hf
      induction fs with
      | nil => simp only [aeqFields] at h; cases h; rfl
      | cons f fs ih =>
        simp only [aeqFields] at h
        simp only [Op.eqFields]
        by_cases hn : f.name ≠ "_"
        · rw [if_pos hn] at h
          rw [if_pos hn]
          cases ha : apart T f.type xs f.offset with
          | none => simp [ha] at h
          | some u =>
            cases hb : apart T f.type ys f.offset with
            | none => simp [ha, hb] at h
            | some v =>
              simp only [ha, hb] at h
              obtain ⟨u', hu1, hu2⟩ := part_ok ok (w := w) hxs ha
              obtain ⟨v', hv1, hv2⟩ := part_ok ok (w := w) hys hb
              cases he : aeq T d f.type u v with
              | none => simp [he] at h
              | some q =>
                have hq := aeq_ok d f.type u v u' v' q D (by omega) hu2 hv2 he
                simp only [he] at h
                simp only [Sem.run_bind, hu1, hv1, hq, Result.andThen_ok]
                cases q with
                | true => simp only [Bool.not_true, Bool.false_eq_true, if_false]; exact ih h
                | false => simp at h; subst h; simp
        · rw [if_neg hn] at h
          rw [if_neg hn]
          exact ih h
    case h_19 => cases h
    all_goals
      rename_i ht
      have hu := ok.und ht
      cases hx
      cases hy
    all_goals first
      | (simp only [Option.some.injEq] at h; subst h; simp [Op.equalIn, run_underlying' hu]; done)
      | (split at h
         · rename_i hk
           cases h
           simp [Op.equalIn, run_underlying' hu, hk]
         · cases h)
      | skip

/- the guard ahead of == -/
theorem eqGuard_other {op : BinOp} (t : TypeId) (X Y : Operand) (x y : Value) (h1 : op ≠ .eql) (h2 : op ≠ .neq) : eqGuard op t X Y x y = pure () := by
  cases op <;> first | rfl | (exact absurd rfl h1) | (exact absurd rfl h2)

theorem eqGuard_int (op : BinOp) (t : TypeId) (X Y : Operand) (k k' : IntKind) (a b : Int) : (eqGuard op t X Y (.int k a) (.int k' b)).run P w = .ok () w := by
  cases op <;> rfl

include ok in
theorem aguard_ok {op : BinOp} {t : TypeId} (X Y : Operand) {x y : AVal} {x' y' : Value} (hop : op = .eql ∨ op = .neq) (hx : VRel ρ x x') (hy : VRel ρ y y') (h : aguard T t x y = true) : (eqGuard op t X Y x' y').run P w = .ok () w := by
  unfold aguard at h
  split at h
  · cases hx
    split at h
    · cases h
    · cases h
    · rename_i hne hnu
      rcases hop with rfl | rfl <;> cases hy <;> first | (exact (hne rfl).elim) | (exact (hnu rfl).elim) | rfl
  · cases hx; cases hy
    cases hg : T.types.get t with
    | none => rw [hg] at h; simp at h
    | some i =>
      rw [hg] at h
      simp at h
      obtain ⟨_, j, _, _, _, _, _, he⟩ := ok.types t i hg
      exact run_eqGuard_agg w op t X Y _ _ (he h)
  · cases h
  · cases h
  · rename_i h1 h2 h3 h4
    rcases hop with rfl | rfl <;> cases hx <;> first
      | rfl
      | (exact absurd rfl h3)
      | (exact (h1 rfl).elim)
      | (exact (h2 rfl).elim)
      | (cases hy <;> first | rfl | (exact (h3 rfl).elim) | (exact (h4 _ _ rfl rfl).elim))

theorem binOp_eql_run {t : TypeId} {x y : Value} (hi : ∀ k a k' b, ¬ (x = .int k a ∧ y = .int k' b)) (hs : ∀ a b, ¬ (x = .string a ∧ y = .string b)) {r : Bool}
    (hf : ∀ k a k' b, ¬ (x = .float k a ∧ y = .float k' b)) (hc : ∀ k a b k' c d, ¬ (x = .complex k a b ∧ y = .complex k' c d))
    (he : (Op.equalIn 10000 t x y).run P w = .ok r w) : (binOp .eql t x y).run P w = .ok (.bool r) w ∧ (binOp .neq t x y).run P w = .ok (.bool (!r)) w := by
  have e : (Op.equal t x y).run P w = .ok r w := he
  constructor
  all_goals
    unfold binOp
    split <;> first
      | (rename_i h1 h2; cases h1; done)
      | (exfalso; exact hi _ _ _ _ ⟨rfl, rfl⟩)
      | (exfalso; exact hs _ _ ⟨rfl, rfl⟩)
      | (exfalso; exact hf _ _ _ _ ⟨rfl, rfl⟩)
      | (exfalso; exact hc _ _ _ _ _ _ ⟨rfl, rfl⟩)
      | (simp [e]; done)
      | (simp_all; done)

include ok in
theorem bin_ok {op : BinOp} {t : TypeId} (X Y : Operand) {x y v : AVal} {x' y' : Value} (hx : VRel ρ x x') (hy : VRel ρ y y') (hl : abin T op t x y = some v) :
    ∃ v', (do eqGuard op t X Y x' y'; binOp op t x' y' : Sem Value).run P w = .ok v' w ∧ VRel ρ v v' := by
  unfold abin at hl
  split at hl
  · rename_i k a k' b
    cases hx; cases hy
    simp only [Sem.run_bind, eqGuard_int, Result.andThen_ok]
    split at hl
    · obtain ⟨h1, h2⟩ := aint_ok (P := P) (w := w) (ρ := ρ) t hl
      exact ⟨_, by simp only [binOp, Op.shift] at h1 ⊢; exact h1, h2⟩
    · obtain ⟨h1, h2⟩ := aint_ok (P := P) (w := w) (ρ := ρ) t hl
      exact ⟨_, by simp only [binOp, Op.shift] at h1 ⊢; exact h1, h2⟩
    · split at hl
      · rename_i hk
        subst hk
        obtain ⟨h1, h2⟩ := aint_ok (P := P) (w := w) (ρ := ρ) t hl
        exact ⟨_, h1, h2⟩
      · cases hl
  · cases hl
  · rename_i hni hns
    have main : ∀ r : Bool, aguard T t x y = true → aeq T 8 t x y = some r → (binOp .eql t x' y').run P w = .ok (.bool r) w ∧ (binOp .neq t x' y').run P w = .ok (.bool (!r)) w := by
      intro r hg he
      have hu1 : x ≠ .undef := by rintro rfl; simp [aeq] at he
      have hu2 : y ≠ .undef := by
        rintro rfl
        cases x <;> simp [aeq] at he
      refine binOp_eql_run ?_ ?_ ?_ ?_ (aeq_ok ok 8 t x y x' y' r 10000 (by omega) hx hy he)
      · rintro k a k' b ⟨rfl, rfl⟩
        cases hx <;> first | (exact hu1 rfl) | (cases hy <;> first | (exact hu2 rfl) | (exact hni _ _ _ _ rfl rfl))
      · rintro a b ⟨rfl, rfl⟩
        cases hx <;> first | (exact hu1 rfl) | (cases hy <;> first | (exact hu2 rfl) | (exact hns _ _ rfl rfl))
      · rintro k a k' b ⟨rfl, rfl⟩
        cases hx; exact hu1 rfl
      · rintro k a b k' c d ⟨rfl, rfl⟩
        cases hx; exact hu1 rfl
    split at hl
    · split at hl
      · rename_i hg
        cases he : aeq T 8 t x y with
        | none => rw [he] at hl; cases hl
        | some r =>
          rw [he] at hl; cases hl
          refine ⟨.bool r, ?_, .bool r⟩
          simp only [Sem.run_bind, aguard_ok ok X Y (.inl rfl) hx hy hg, Result.andThen_ok, (main r hg he).1]
      · cases hl
    · split at hl
      · rename_i hg
        cases he : aeq T 8 t x y with
        | none => rw [he] at hl; cases hl
        | some r =>
          rw [he] at hl; cases hl
          refine ⟨.bool (!r), ?_, .bool _⟩
          simp only [Sem.run_bind, aguard_ok ok X Y (.inr rfl) hx hy hg, Result.andThen_ok, (main r hg he).2]
      · cases hl
    · cases hl

theorem un_ok {op : UnOp} {x v : AVal} {x' : Value} (hx : VRel ρ x x') (hl : aun op x = some v) : ∃ v', (Op.unary op x').run P w = .ok v' w ∧ VRel ρ v v' := by
  unfold aun at hl
  split at hl
  · cases hx
    simp only [aint] at hl
    cases hl
    exact ⟨_, by simp [Op.unary, Op.intArith], .int _ _⟩
  · cases hx
    simp only [aint] at hl
    cases hl
    exact ⟨_, by simp [Op.unary, Op.intBits], .int _ _⟩
  · cases hx
    cases hl
    exact ⟨_, by simp [Op.unary], .bool _⟩
  · cases hl

end

end Go.Ai
