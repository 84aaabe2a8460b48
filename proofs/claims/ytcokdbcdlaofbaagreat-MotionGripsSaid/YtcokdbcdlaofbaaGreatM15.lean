/- Motion: a step, in plain numbers. -/
import Derived.Test.YtcokdbcdlaofbaaGreatM13
import Derived.Test.YtcokdbcdlaofbaaGreatM14
import Derived.KernelRfl
set_option linter.unusedSimpArgs false
set_option linter.unusedVariables false
set_option linter.unusedSectionVars false
namespace Go.Ai.Sx
theorem idx4_2 {A : Type} (a b c e : A) : idx [a, b, c, e] 2 = some c := rfl
theorem idx4_3 {A : Type} (a b c e : A) : idx [a, b, c, e] 3 = some e := rfl
theorem mul_nn {a b A B : Int} (ha : 0 ≤ a ∧ a ≤ A) (hb : 0 ≤ b ∧ b ≤ B) : 0 ≤ a * b ∧ a * b ≤ A * B := ⟨Int.mul_nonneg ha.1 hb.1, Int.mul_le_mul ha.2 hb.2 hb.1 (by omega)⟩
theorem mul_bd {a b A B : Int} (ha : 0 ≤ a ∧ a ≤ A) (hb : -B ≤ b ∧ b ≤ B) : -(A * B) ≤ a * b ∧ a * b ≤ A * B := by
 by_cases h : 0 ≤ b
 ·have := mul_nn ha ⟨h, hb.2⟩
  omega
 ·have := mul_nn (b := -b) (B := B) ha ⟨by omega, by omega⟩
  rw [Int.mul_neg] at this
  omega
theorem divO_nn {a b : Int} (ha : 0 ≤ a ∧ a ≤ 9223372036854775807) (hb : 0 < b) : divO .i64 a b = some (a / b) := by
 unfold divO
 rw [if_neg (by omega), Int.tdiv_eq_ediv_of_nonneg ha.1]
 have h1 : 0 ≤ a / b := Int.ediv_nonneg ha.1 (by omega)
 have h2 : a / b ≤ a := Int.ediv_le_self _ ha.1
 exact congrArg some (w64_in (by omega) (by omega))
theorem div_bd {a b A : Int} (ha : 0 ≤ a ∧ a ≤ A * b) (hb : 0 < b) : 0 ≤ a / b ∧ a / b ≤ A :=
 ⟨Int.ediv_nonneg ha.1 (by omega), by
  have := Int.ediv_le_ediv hb ha.2
  rwa [Int.mul_ediv_cancel _ (by omega)] at this⟩
theorem tdiv_bd {a A : Int} {b : Int} (hb : 0 < b) (ha : -(A * b) ≤ a ∧ a ≤ A * b) : -A ≤ a.tdiv b ∧ a.tdiv b ≤ A := by
 by_cases h : 0 ≤ a
 ·rw [Int.tdiv_eq_ediv_of_nonneg h]
  have := div_bd (A := A) ⟨h, ha.2⟩ hb
  omega
 ·have e : a.tdiv b = -((-a).tdiv b) := by rw [Int.neg_tdiv, Int.neg_neg]
  rw [e, Int.tdiv_eq_ediv_of_nonneg (by omega)]
  have := div_bd (a := -a) (A := A) ⟨by omega, by omega⟩ hb
  omega
section
variable (t : Train) (st : Int)
def adhS : Int := t.2.2.2.2.2.2.2.2.2.1.getD st.toNat 0 * t.1 * 981 / 100000
def pullS (v d : Int) : Int := if d ≤ 0 then 0 else if v > 0 then min (min (t.2.2.2.1 * d / 4) (adhS t st)) (1000 * t.2.2.2.2.2.1 / v) else min (t.2.2.2.1 * d / 4) (adhS t st)
def brakeS (d : Int) : Int := if d ≥ 0 then 0 else min (t.2.2.2.2.1 * (-d) / 4) (adhS t st)
def dragS (v : Int) : Int := t.2.2.2.2.2.2.1 + t.2.2.2.2.2.2.2.1 * v / 1000
def hillS (s : Int) : Int := (t.1 * s * 981).tdiv 100000
def netS (v d s : Int) : Int := pullS t st v d - brakeS t st d - dragS t v - hillS t s
end
structure Fin4 (t : Train) (st v d s : Int) : Prop where
 st : 0 ≤ st ∧ st < t.2.2.2.2.2.2.2.2.2.1.length
 v : 0 ≤ v ∧ v ≤ 25000
 d : -4 ≤ d ∧ d ≤ 4
 s : -120 ≤ s ∧ s ≤ 120
section
variable {t : Train} {st v d s : Int} (ht : TrOk t) (h : Fin4 t st v d s)
include ht h
theorem grip_bd : 1 ≤ t.2.2.2.2.2.2.2.2.2.1.getD st.toNat 0 ∧ t.2.2.2.2.2.2.2.2.2.1.getD st.toNat 0 ≤ 1000 := by
 have h1 := h.st
 have hlt : st.toNat < t.2.2.2.2.2.2.2.2.2.1.length := by omega
 have : t.2.2.2.2.2.2.2.2.2.1.getD st.toNat 0 = t.2.2.2.2.2.2.2.2.2.1[st.toNat] := by simp [List.getD, hlt]
 rw [this]
 exact ht.gr _ (List.getElem_mem hlt)
theorem adh_m : g_motion_mover_adhesion (t, st, ()) = some (adhS t st) ∧ divO .i64 (w64 (w64 (t.2.2.2.2.2.2.2.2.2.1.getD st.toNat 0 * t.1) * 981)) 100000 = some (adhS t st) ∧ 0 ≤ adhS t st ∧ adhS t st ≤ 784800 := by
 have h1 := h.st
 have hg := grip_bd ht h
 have hm := ht.m
 have b1 := mul_nn (a := t.2.2.2.2.2.2.2.2.2.1.getD st.toNat 0) (b := t.1) (A := 1000) (B := 80000) ⟨by omega, hg.2⟩ ⟨by omega, hm.2⟩
 have e1 : divO .i64 (w64 (w64 (t.2.2.2.2.2.2.2.2.2.1.getD st.toNat 0 * t.1) * 981)) 100000 = some (adhS t st) := by
  rw [w64_in (n := t.2.2.2.2.2.2.2.2.2.1.getD st.toNat 0 * t.1) (by omega) (by omega), w64_in (by omega) (by omega), divO_nn (by omega) (by omega)]
  rfl
 refine ⟨?_, e1, div_bd (A := 784800) ⟨by omega, by omega⟩ (by omega)⟩
 unfold g_motion_mover_adhesion
 simp only []
 rw [idx_getD (d := 0) h1.1 h1.2, Option.bind_some, e1, Option.bind_some]
theorem eff_m (hd : 0 < d) : divO .i64 (w64 (t.2.2.2.1 * d)) 4 = some (t.2.2.2.1 * d / 4) ∧ 0 ≤ t.2.2.2.1 * d / 4 ∧ t.2.2.2.1 * d / 4 ≤ 200000 := by
 have h1 := h.d
 have b1 := mul_nn (a := t.2.2.2.1) (b := d) (A := 200000) (B := 4) ⟨by have := ht.ef; omega, ht.ef.2⟩ ⟨by omega, h1.2⟩
 refine ⟨?_, div_bd (A := 200000) ⟨by omega, by omega⟩ (by omega)⟩
 rw [w64_in (by omega) (by omega), divO_nn (by omega) (by omega)]
theorem brk_m (hd : d < 0) : divO .i64 (w64 (t.2.2.2.2.1 * w64 (0 - d))) 4 = some (t.2.2.2.2.1 * (-d) / 4) ∧ 0 ≤ t.2.2.2.2.1 * (-d) / 4 ∧ t.2.2.2.2.1 * (-d) / 4 ≤ 200000 := by
 have h1 := h.d
 have b1 := mul_nn (a := t.2.2.2.2.1) (b := -d) (A := 200000) (B := 4) ⟨by have := ht.br; omega, ht.br.2⟩ ⟨by omega, by omega⟩
 refine ⟨?_, div_bd (A := 200000) ⟨by omega, by omega⟩ (by omega)⟩
 rw [w64_in (n := 0 - d) (by omega) (by omega), show (0 : Int) - d = -d by omega, w64_in (by omega) (by omega), divO_nn (by omega) (by omega)]
theorem pow_m (hv : 0 < v) : divO .i64 (w64 (1000 * t.2.2.2.2.2.1)) v = some (1000 * t.2.2.2.2.2.1 / v) ∧ 0 ≤ 1000 * t.2.2.2.2.2.1 / v := by
 have _ := h
 have := ht.po
 refine ⟨?_, Int.ediv_nonneg (by omega) (by omega)⟩
 rw [w64_in (by omega) (by omega), divO_nn (by omega) (by omega)]
theorem pull_m : g_motion_mover_pull (t, st, ()) v d s = some (pullS t st v d) ∧ 0 ≤ pullS t st v d ∧ pullS t st v d ≤ 200000 := by
 obtain ⟨a1, _, a2, a3⟩ := adh_m ht h
 unfold g_motion_mover_pull pullS
 by_cases hd : d ≤ 0
 ·rw [decide_eq_true hd, if_pos hd]
  exact ⟨rfl, by omega, by omega⟩
 ·obtain ⟨e1, e2, e3⟩ := eff_m ht h (by omega)
  rw [decide_eq_false hd, if_neg hd, cond_false]
  simp only []
  rw [e1, Option.bind_some, a1, Option.bind_some]
  by_cases hv : v > 0
  ·obtain ⟨p1, p2⟩ := pow_m ht h hv
   rw [decide_eq_true hv, if_pos hv, cond_true, p1, Option.bind_some]
   exact ⟨rfl, by omega, by omega⟩
  ·rw [decide_eq_false hv, if_neg hv]
   exact ⟨rfl, by omega, by omega⟩
theorem brake_m : g_motion_mover_brake (t, st, ()) v d s = some (brakeS t st d) ∧ 0 ≤ brakeS t st d ∧ brakeS t st d ≤ 200000 := by
 obtain ⟨a1, _, a2, a3⟩ := adh_m ht h
 unfold g_motion_mover_brake brakeS
 by_cases hd : d ≥ 0
 ·rw [decide_eq_true hd, if_pos hd]
  exact ⟨rfl, by omega, by omega⟩
 ·obtain ⟨e1, e2, e3⟩ := brk_m ht h (by omega)
  rw [decide_eq_false hd, if_neg hd, cond_false]
  simp only []
  rw [e1, Option.bind_some, a1, Option.bind_some]
  exact ⟨rfl, by omega, by omega⟩
theorem drg_m : divO .i64 (w64 (t.2.2.2.2.2.2.2.1 * v)) 1000 = some (t.2.2.2.2.2.2.2.1 * v / 1000) ∧ w64 (t.2.2.2.2.2.2.1 + t.2.2.2.2.2.2.2.1 * v / 1000) = dragS t v ∧ 0 ≤ dragS t v ∧ dragS t v ≤ 350000 := by
 have b1 := mul_nn (a := t.2.2.2.2.2.2.2.1) (b := v) (A := 10000) (B := 25000) ht.ri h.v
 have b2 := div_bd (a := t.2.2.2.2.2.2.2.1 * v) (A := 250000) (b := 1000) ⟨by omega, by omega⟩ (by omega)
 have b3 := ht.re
 unfold dragS
 refine ⟨?_, w64_in (by omega) (by omega), by omega, by omega⟩
 rw [w64_in (by omega) (by omega), divO_nn (by omega) (by omega)]
theorem drag_m : g_motion_mover_drag (t, st, ()) v d s = some (dragS t v) := by
 obtain ⟨e1, e2, _⟩ := drg_m ht h
 unfold g_motion_mover_drag
 simp only []
 rw [e1, Option.bind_some, e2]
theorem hll_m : divO .i64 (w64 (w64 (t.1 * s) * 981)) 100000 = some (hillS t s) ∧ -94176 ≤ hillS t s ∧ hillS t s ≤ 94176 := by
 have hs := h.s
 have b1 := mul_bd (a := t.1) (b := s) (A := 80000) (B := 120) ⟨by have := ht.m; omega, ht.m.2⟩ ⟨by omega, by omega⟩
 have b2 : -94176 ≤ hillS t s ∧ hillS t s ≤ 94176 := tdiv_bd (a := t.1 * s * 981) (A := 94176) (b := 100000) (by omega) ⟨by omega, by omega⟩
 refine ⟨?_, b2⟩
 rw [w64_in (n := t.1 * s) (by omega) (by omega), w64_in (by omega) (by omega)]
 unfold divO
 rw [if_neg (by omega)]
 show some (w64 (hillS t s)) = some (hillS t s)
 rw [w64_in (by omega) (by omega)]
theorem hill_m : g_motion_mover_hill (t, st, ()) v d s = some (hillS t s) := by
 unfold g_motion_mover_hill
 simp only []
 rw [(hll_m ht h).1, Option.bind_some]
theorem all_m : g_motion_mover_all (t, st, ()) v d s = some [pullS t st v d, brakeS t st d, dragS t v, hillS t s] := by
  unfold g_motion_mover_all
  have hL : Lp (fun s11 : Int × List Int =>
      cond ((decide (s11.1 < 4))) (Option.bind (idx (([(fun x => g_motion_mover_pull (t, st, ()) x.1 x.2.1 x.2.2), (fun x => g_motion_mover_brake (t, st, ()) x.1 x.2.1 x.2.2), (fun x => g_motion_mover_drag (t, st, ()) x.1 x.2.1 x.2.2), (fun x => g_motion_mover_hill (t, st, ()) x.1 x.2.1 x.2.2)] : (List ((Int × Int × Int) → Option (Int))))) s11.1) fun x14 =>
      Option.bind (x14 ((v, d, s))) fun y15 =>
      Option.bind (idx s11.2 s11.1) fun x16 =>
      some (Sum.inl (((w64 (s11.1 + 1)), (s11.2).set (Int.toNat s11.1) y15)))) (some (Sum.inr s11.2))) 4 (0, List.replicate 4 (0 : Int)) [pullS t st v d, brakeS t st d, dragS t v, hillS t s] := by
    refine Lp.step (s' := (1, [pullS t st v d, 0, 0, 0])) ?_ (Lp.step (s' := (2, [pullS t st v d, brakeS t st d, 0, 0])) ?_ (Lp.step (s' := (3, [pullS t st v d, brakeS t st d, dragS t v, 0])) ?_ (Lp.step (s' := (4, [pullS t st v d, brakeS t st d, dragS t v, hillS t s])) ?_ (Lp.done ?_))))
    · show Option.bind (g_motion_mover_pull (t, st, ()) v d s) _ = _
      rw [(pull_m ht h).1]; rfl
    · show Option.bind (g_motion_mover_brake (t, st, ()) v d s) _ = _
      rw [(brake_m ht h).1]; rfl
    · simp only [decide_eq_true (show (2 : Int) < 4 by omega), cond_true, idx4_2, Option.bind_some, drag_m ht h]
      rfl
    · simp only [decide_eq_true (show (3 : Int) < 4 by omega), cond_true, idx4_3, Option.bind_some, hill_m ht h]
      rfl
    · rfl
  rw [hL.big (by simp only [big]; omega)]
  rfl
theorem forces_r : g_ref03_forces t v d s st = some (pullS t st v d, brakeS t st d, dragS t v, hillS t s) := by
 obtain ⟨_, a1, a2, a3⟩ := adh_m ht h
 obtain ⟨d1, d2, _⟩ := drg_m ht h
 have h1 := (hll_m ht h).1
 have hst := h.st
 unfold g_ref03_forces pullS brakeS
 rw [idx_getD (d := 0) hst.1 hst.2, Option.bind_some, a1, Option.bind_some]
 by_cases hd : d ≤ 0
 ·rw [decide_eq_false (show ¬ d > 0 by omega), if_pos hd, cond_false]
  by_cases hd2 : d ≥ 0
  ·rw [decide_eq_false (show ¬ d < 0 by omega), if_pos hd2, cond_false, d1, Option.bind_some, h1, Option.bind_some, d2]
  ·rw [decide_eq_true (show d < 0 by omega), if_neg hd2, cond_true, (brk_m ht h (by omega)).1, Option.bind_some, d1, Option.bind_some, h1, Option.bind_some, d2]
 ·rw [decide_eq_true (show d > 0 by omega), if_neg hd, cond_true, (eff_m ht h (by omega)).1, Option.bind_some, if_pos (show d ≥ 0 by omega)]
  by_cases hv : v > 0
  ·rw [decide_eq_true hv, if_pos hv, cond_true, (pow_m ht h hv).1, Option.bind_some, decide_eq_false (show ¬ d < 0 by omega), cond_false, d1, Option.bind_some, h1, Option.bind_some, d2]
  ·rw [decide_eq_false hv, if_neg hv, cond_false, decide_eq_false (show ¬ d < 0 by omega), cond_false, d1, Option.bind_some, h1, Option.bind_some, d2]
end
def qS (t : Train) (st : Int) (x : MotionState) (d s : Int) : Int := x.1 + 100 * netS t st (x.1 / t.1) d s
def stayB (t : Train) (st : Int) (x : MotionState) (d s : Int) : Bool := decide (qS t st x d s < 0) || (x.1 == 0 && decide (netS t st (x.1 / t.1) d s ≤ 0))
def stepS (t : Train) (st : Int) (x : MotionState) (d s : Int) : motion_stepped × Bool :=
 if stayB t st x d s then (((0, x.2.1, ()), (0, 0, 0, 0, 0, x.1 * x.1, ()), (1000 * t.1 - 1) / (1000 * t.1), 0, ()), true)
 else (((qS t st x d s, x.2.1 + qS t st x d s, ()), (200 * pullS t st (x.1 / t.1) d * qS t st x d s, 200 * brakeS t st d * qS t st x d s, 200 * dragS t (x.1 / t.1) * qS t st x d s, 200 * hillS t s * qS t st x d s, 10000 * netS t st (x.1 / t.1) d s * netS t st (x.1 / t.1) d s, 0, ()),
  (pullS t st (x.1 / t.1) d * qS t st x d s + 1000 * t.1 - 1) / (1000 * t.1), brakeS t st d * qS t st x d s * t.2.2.2.2.2.2.2.2.1 / (100000 * t.1), ()), decide (qS t st x d s ≤ 25000 * t.1))
structure StOk (t : Train) (x : MotionState) : Prop where
 p : 0 ≤ x.1 ∧ x.1 ≤ 25000 * t.1
 w : 0 ≤ x.2.1 ∧ x.2.1 ≤ 4000000000000000000
structure Fin3 (t : Train) (st d s : Int) : Prop where
 st : 0 ≤ st ∧ st < t.2.2.2.2.2.2.2.2.2.1.length
 d : -4 ≤ d ∧ d ≤ 4
 s : -120 ≤ s ∧ s ≤ 120
theorem Fin3.v {t : Train} {st d s : Int} (ht : TrOk t) (h : Fin3 t st d s) {x : MotionState} (hx : StOk t x) : Fin4 t st (x.1 / t.1) d s :=
 ⟨h.st, div_bd ⟨hx.p.1, hx.p.2⟩ (by have := ht.m; omega), h.d, h.s⟩
section
variable {t : Train} {st d s : Int} {x : MotionState} (ht : TrOk t) (h : Fin3 t st d s) (hx : StOk t x)
include ht h hx
theorem speed_m : g_motion_mover_speed (t, st, ()) x = some (x.1 / t.1) ∧ divO .i64 x.1 t.1 = some (x.1 / t.1) := by
 have _ := h
 have hm := ht.m
 have hp := hx.p
 have e : divO .i64 x.1 t.1 = some (x.1 / t.1) := divO_nn ⟨hp.1, by omega⟩ (by omega)
 refine ⟨?_, e⟩
 unfold g_motion_mover_speed
 simp only []
 rw [e, Option.bind_some]
omit h in
theorem place_m (st : Int) : g_motion_mover_place (t, st, ()) x = some (x.2.1 / (10 * t.1)) ∧ g_ref03_Place t x = some (x.2.1 / (10 * t.1)) := by
 have hm := ht.m
 have hw := hx.w
 have e : divO .i64 x.2.1 (w64 (10 * t.1)) = some (x.2.1 / (10 * t.1)) := by
  rw [w64_in (by omega) (by omega)]
  exact divO_nn ⟨hw.1, by omega⟩ (by omega)
 unfold g_motion_mover_place g_ref03_Place
 simp only []
 rw [e, Option.bind_some]
 exact ⟨rfl, rfl⟩
theorem net_bd : -644176 ≤ netS t st (x.1 / t.1) d s ∧ netS t st (x.1 / t.1) d s ≤ 294176 := by
 have h4 := h.v ht hx
 have a := (pull_m ht h4).2
 have b := (brake_m ht h4).2
 have c := (drg_m ht h4).2.2
 have e := (hll_m ht h4).2
 unfold netS
 omega
theorem q_bd : qS t st x d s ≤ 2029417600 := by
 have := net_bd ht h hx
 have hm := ht.m
 have hp := hx.p
 unfold qS
 omega
theorem step_m : g_motion_mover_step (t, st, ()) x d s = some (stepS t st x d s) := by
 have h4 := h.v ht hx
 obtain ⟨a1, a2, a3⟩ := pull_m ht h4
 obtain ⟨b1, b2, b3⟩ := brake_m ht h4
 obtain ⟨_, _, c2, c3⟩ := drg_m ht h4
 obtain ⟨_, e2, e3⟩ := hll_m ht h4
 have hn := net_bd ht h hx
 have hq := q_bd ht h hx
 have hm := ht.m
 have hb := ht.ba
 have hp := hx.p
 have hw := hx.w
 unfold g_motion_mover_step
 rw [(speed_m ht h hx).1, Option.bind_some, all_m ht h4, Option.bind_some]
 simp only [show ∀ (a b c e : Int), idx [a, b, c, e] 0 = some a from fun _ _ _ _ => rfl, show ∀ (a b c e : Int), idx [a, b, c, e] 1 = some b from fun _ _ _ _ => rfl, show ∀ (a b c e : Int), idx [a, b, c, e] 2 = some c from fun _ _ _ _ => rfl, show ∀ (a b c e : Int), idx [a, b, c, e] 3 = some e from fun _ _ _ _ => rfl, Option.bind_some]
 have w1 : w64 (w64 (w64 (pullS t st (x.1 / t.1) d - brakeS t st d) - dragS t (x.1 / t.1)) - hillS t s) = netS t st (x.1 / t.1) d s := by
  unfold netS
  rw [w64_in (n := pullS t st (x.1 / t.1) d - brakeS t st d) (by omega) (by omega), w64_in (n := _ - dragS t (x.1 / t.1)) (by omega) (by omega), w64_in (by omega) (by omega)]
 have w2 : w64 (x.1 + w64 (100 * netS t st (x.1 / t.1) d s)) = qS t st x d s := by
  unfold qS
  rw [w64_in (n := 100 * _) (by omega) (by omega), w64_in (by omega) (by omega)]
 have w3 : w64 (1000 * t.1) = 1000 * t.1 := w64_in (by omega) (by omega)
 have w4 : w64 (25000 * t.1) = 25000 * t.1 := w64_in (by omega) (by omega)
 have w5 : w64 (100000 * t.1) = 100000 * t.1 := w64_in (by omega) (by omega)
 have w6 : w64 (x.1 * x.1) = x.1 * x.1 := by
  have := mul_nn (a := x.1) (b := x.1) (A := 2000000000) (B := 2000000000) ⟨hp.1, by omega⟩ ⟨hp.1, by omega⟩
  exact w64_in (by omega) (by omega)
 simp only [w1, w2, w3, w4, w5, w6]
 unfold stepS
 have hst : (cond (decide (qS t st x d s < 0)) (some true) (cond (x.1 == 0) (some (decide (netS t st (x.1 / t.1) d s ≤ 0))) (some false)) : Option Bool) = some (stayB t st x d s) := by
  unfold stayB
  cases decide (qS t st x d s < 0) <;> cases (x.1 == 0) <;> rfl
 rw [hst, Option.bind_some]
 cases hs : stayB t st x d s with
 | true =>
  simp only [cond_true, if_true, Int.mul_zero, Int.zero_mul, Int.add_zero, show w64 0 = 0 from rfl]
  rw [w64_in (n := (0 : Int) + 1000 * t.1) (by omega) (by omega), Int.zero_add, w64_in (n := 1000 * t.1 - 1) (by omega) (by omega), divO_nn (by omega) (by omega), Option.bind_some, divO_nn (by omega) (by omega), Option.bind_some, w64_in (n := x.2.1) (by omega) (by omega), decide_eq_true (by omega), Int.zero_ediv]
 | false =>
  have hq0 : 0 ≤ qS t st x d s := by
   unfold stayB at hs
   simp only [Bool.or_eq_false_iff, decide_eq_false_iff_not] at hs
   omega
  have m1 := mul_nn (a := pullS t st (x.1 / t.1) d) (b := qS t st x d s) ⟨a2, a3⟩ ⟨hq0, hq⟩
  have m2 := mul_nn (a := brakeS t st d) (b := qS t st x d s) ⟨b2, b3⟩ ⟨hq0, hq⟩
  have m3 := mul_nn (a := dragS t (x.1 / t.1)) (b := qS t st x d s) ⟨c2, c3⟩ ⟨hq0, hq⟩
  have m4 := mul_bd (a := qS t st x d s) (b := hillS t s) (B := 94176) ⟨hq0, hq⟩ ⟨e2, e3⟩
  rw [Int.mul_comm (qS t st x d s) (hillS t s)] at m4
  have m5 := mul_nn (a := brakeS t st d * qS t st x d s) (b := t.2.2.2.2.2.2.2.2.1) ⟨m2.1, m2.2⟩ hb
  have m6 : -414962718976000 ≤ netS t st (x.1 / t.1) d s * netS t st (x.1 / t.1) d s ∧ netS t st (x.1 / t.1) d s * netS t st (x.1 / t.1) d s ≤ 414962718976000 := by
   by_cases q : 0 ≤ netS t st (x.1 / t.1) d s
   ·have := mul_nn (a := netS t st (x.1 / t.1) d s) (b := netS t st (x.1 / t.1) d s) (A := 644176) (B := 644176) ⟨q, by omega⟩ ⟨q, by omega⟩
    omega
   ·have := mul_nn (a := -netS t st (x.1 / t.1) d s) (b := -netS t st (x.1 / t.1) d s) (A := 644176) (B := 644176) ⟨by omega, by omega⟩ ⟨by omega, by omega⟩
    rw [Int.neg_mul_neg] at this
    omega
  simp only [cond_false, Bool.false_eq_true, if_false]
  rw [w64_in (n := pullS t st (x.1 / t.1) d * qS t st x d s) (by omega) (by omega), w64_in (n := _ + 1000 * t.1) (by omega) (by omega), w64_in (n := _ - 1) (by omega) (by omega), divO_nn (by omega) (by omega), Option.bind_some,
   w64_in (n := brakeS t st d * qS t st x d s) (by omega) (by omega), w64_in (n := brakeS t st d * qS t st x d s * t.2.2.2.2.2.2.2.2.1) (by omega) (by omega), divO_nn (by omega) (by omega), Option.bind_some,
   w64_in (n := x.2.1 + _) (by omega) (by omega), w64_in (n := 200 * pullS t st (x.1 / t.1) d) (by omega) (by omega), w64_in (n := 200 * brakeS t st d) (by omega) (by omega), w64_in (n := 200 * dragS t (x.1 / t.1)) (by omega) (by omega), w64_in (n := 200 * hillS t s) (by omega) (by omega), w64_in (n := 10000 * netS t st (x.1 / t.1) d s) (by omega) (by omega),
   w64_in (n := 200 * pullS t st (x.1 / t.1) d * qS t st x d s) (by rw [Int.mul_assoc]; omega) (by rw [Int.mul_assoc]; omega), w64_in (n := 200 * brakeS t st d * qS t st x d s) (by rw [Int.mul_assoc]; omega) (by rw [Int.mul_assoc]; omega), w64_in (n := 200 * dragS t (x.1 / t.1) * qS t st x d s) (by rw [Int.mul_assoc]; omega) (by rw [Int.mul_assoc]; omega), w64_in (n := 200 * hillS t s * qS t st x d s) (by rw [Int.mul_assoc]; omega) (by rw [Int.mul_assoc]; omega), w64_in (n := 10000 * netS t st (x.1 / t.1) d s * netS t st (x.1 / t.1) d s) (by rw [Int.mul_assoc]; omega) (by rw [Int.mul_assoc]; omega)]
end
end Go.Ai.Sx

/- Motion: couples. -/
namespace Go.Ai.Sx
theorem list_eqB {A : Type} [BEq A] [LawfulBEq A] {ρ : Type} (a b : List A) (hl : a.length = b.length) (hN : a.length ≤ 9223372036854775807) (r0 : ρ) :
    iter (σ := Int) (τ := Unit ⊕ ρ) (fun s6 =>
cond ((decide (s6 < (lenI a)))) (Option.bind (idx a s6) fun x9 =>
Option.bind (idx b s6) fun x10 =>
cond ((x9 != x10)) (some (.inr ((.inr r0)))) (some (.inl ((w64 (s6 + 1)))))) (some (.inr ((.inl (())))))) big 0 = some (if a == b then .inl () else .inr r0) := by
  rw [iter_all0 (a.zip b) (fun x => x.1 == x.2) r0 (by rw [List.length_zip]; omega)]
  · have : ((a.zip b).all fun x => x.1 == x.2) = (a == b) := by
      clear hN
      induction a generalizing b with
      | nil =>
        cases b with
        | nil => rfl
        | cons y b => cases hl
      | cons x a ih =>
        cases b with
        | nil => cases hl
        | cons y b =>
          rw [List.zip_cons_cons, List.all_cons, ih b (by simpa using hl)]
          rfl
    rw [this]
  · intro i h
    rw [List.length_zip] at h
    have h1 : i < a.length := by omega
    have h2 : i < b.length := by omega
    rw [lt_lenI h1, cond_true, idx_some h1, Option.bind_some, idx_some h2, Option.bind_some, w64_succ (by omega), List.getElem_zip]
    simp only [bne]
    cases (a[i] == b[i]) <;> rfl
  · rw [List.length_zip, ← hl, Nat.min_self, nlt_lenI, cond_false]
theorem same_refl (a : Train) (hN : a.2.2.2.2.2.2.2.2.2.1.length ≤ 9223372036854775807) : g_ref03_Same a a = some true := by
 unfold g_ref03_Same
 rw [show (lenI a.2.2.2.2.2.2.2.2.2.1 != lenI a.2.2.2.2.2.2.2.2.2.1) = false from bne_self_eq_false _, cond_false, list_eqB _ _ rfl hN, Option.bind_some]
 simp only [beq_self_eq_true, if_true, alt_inl, cond_true, Option.bind_some]
theorem grips_gen (a b : List Int) (hl : a.length = b.length) (hN : a.length ≤ 20) :
    iter (σ := (Int × (List Int))) (τ := ((List Int))) (fun s13 =>
cond ((decide (s13.1 < (lenI a)))) (Option.bind (idx a s13.1) fun x16 =>
Option.bind (idx b s13.1) fun x17 =>
Option.bind (appO 8 s13.2 ([(min x16 x17)])) fun x18 =>
some (.inl (((w64 (s13.1 + 1)), x18)))) (some (.inr s13.2))) big ((0, [])) = some (List.zipWith min a b) := by
  rw [iter_list (s0 := ((0 : Int), ([] : List Int))) (a.zip b) (fun i c => ((i : Int), c)) (fun _ c x => (.inl (c ++ [min x.1 x.2]) : List Int ⊕ List Int)) id (fun i c => c.length = i) [] rfl (by rw [List.length_zip]; omega) rfl]
  · rw [foldE_inl' (fun c (x : Int × Int) => c ++ [min x.1 x.2]) id]
    have key : ∀ (a b c : List Int), (a.zip b).foldl (fun c (x : Int × Int) => c ++ [min x.1 x.2]) c = c ++ List.zipWith min a b := by
      intro a
      induction a with
      | nil => intro b c; simp
      | cons x a ih =>
        intro b c
        cases b with
        | nil => simp
        | cons y b => rw [List.zip_cons_cons, List.foldl_cons, ih, List.zipWith_cons_cons, List.append_assoc]; rfl
    rw [key, List.nil_append]; rfl
  · intro i h c hc
    rw [List.length_zip] at h
    have h1 : i < a.length := by omega
    have h2 : i < b.length := by omega
    simp only []
    refine ⟨?_, fun b' hb => ?_⟩
    · rw [lt_lenI h1, cond_true, idx_some h1, Option.bind_some, idx_some h2, Option.bind_some, appO_some (by simp only [List.length_singleton]; omega), Option.bind_some, w64_succ (by omega), List.getElem_zip]
    · cases hb
      rw [List.length_append, List.length_singleton, hc]
  · intro c _
    simp only []
    rw [List.length_zip, ← hl, Nat.min_self, nlt_lenI, cond_false]; rfl
def coupS (a b : Train) : Train := (a.1 + b.1, a.2.1 + b.2.1, min a.2.2.1 b.2.2.1, a.2.2.2.1 + b.2.2.2.1, a.2.2.2.2.1 + b.2.2.2.2.1, a.2.2.2.2.2.1 + b.2.2.2.2.2.1, a.2.2.2.2.2.2.1 + b.2.2.2.2.2.2.1, a.2.2.2.2.2.2.2.1 + b.2.2.2.2.2.2.2.1, min a.2.2.2.2.2.2.2.2.1 b.2.2.2.2.2.2.2.2.1, List.zipWith min a.2.2.2.2.2.2.2.2.2.1 b.2.2.2.2.2.2.2.2.2.1, ())
section
variable {a b : Train} (ha : TrOk a) (hb : TrOk b)
include ha hb
theorem coup_w : w64 (a.1 + b.1) = a.1 + b.1 ∧ w64 (a.2.1 + b.2.1) = a.2.1 + b.2.1 ∧ w64 (a.2.2.2.1 + b.2.2.2.1) = a.2.2.2.1 + b.2.2.2.1 ∧ w64 (a.2.2.2.2.1 + b.2.2.2.2.1) = a.2.2.2.2.1 + b.2.2.2.2.1 ∧ w64 (a.2.2.2.2.2.1 + b.2.2.2.2.2.1) = a.2.2.2.2.2.1 + b.2.2.2.2.2.1 ∧ w64 (a.2.2.2.2.2.2.1 + b.2.2.2.2.2.2.1) = a.2.2.2.2.2.2.1 + b.2.2.2.2.2.2.1 ∧ w64 (a.2.2.2.2.2.2.2.1 + b.2.2.2.2.2.2.2.1) = a.2.2.2.2.2.2.2.1 + b.2.2.2.2.2.2.2.1 := by
 obtain ⟨a1, a2, a3, a4, a5, a6, a7, a8, _⟩ := ha
 obtain ⟨b1, b2, b3, b4, b5, b6, b7, b8, _⟩ := hb
 refine ⟨w64_in ?_ ?_, w64_in ?_ ?_, w64_in ?_ ?_, w64_in ?_ ?_, w64_in ?_ ?_, w64_in ?_ ?_, w64_in ?_ ?_⟩ <;> omega
theorem rcouple_eq (hl : a.2.2.2.2.2.2.2.2.2.1.length = b.2.2.2.2.2.2.2.2.2.1.length) : g_ref03_Couple a b = some (coupS a b) := by
 obtain ⟨h1, h2, h3, h4, h5, h6, h7⟩ := coup_w ha hb
 unfold g_ref03_Couple
 rw [grips_gen _ _ hl (by have := ha.gl; omega), Option.bind_some, h1, h2, h3, h4, h5, h6, h7]
 rfl
theorem couple_eq (hl : a.2.2.2.2.2.2.2.2.2.1.length = b.2.2.2.2.2.2.2.2.2.1.length) : g_motion_Couple a b = some (if trB (coupS a b) then (coupS a b, 0) else ((0, 0, 0, 0, 0, 0, 0, 0, 0, [], ()), 3)) := by
 obtain ⟨h1, h2, h3, h4, h5, h6, h7⟩ := coup_w ha hb
 have e : (lenI a.2.2.2.2.2.2.2.2.2.1 != lenI b.2.2.2.2.2.2.2.2.2.1) = false := by
  rw [bne_eq_false_iff_eq, lenI_eq, lenI_eq, hl]
 unfold g_motion_Couple
 rw [check_eq, check_eq, trB_iff.2 ha, trB_iff.2 hb, if_pos rfl, Option.bind_some, Option.bind_some, e]
 simp only [show ((0 : Int) != 0) = false from rfl, cond_false, Option.bind_some]
 rw [grips_gen _ _ hl (by have := ha.gl; omega), Option.bind_some, h1, h2, h3, h4, h5, h6, h7, check_eq, Option.bind_some]
 show cond ((if trB (coupS a b) then (0 : Int) else 2) != 0) _ _ = _
 cases trB (coupS a b) <;> rfl
end
theorem couple_no {a b : Train} (h : trB a = false ∨ trB b = false ∨ a.2.2.2.2.2.2.2.2.2.1.length ≠ b.2.2.2.2.2.2.2.2.2.1.length) : g_motion_Couple a b = some ((0, 0, 0, 0, 0, 0, 0, 0, 0, [], ()), 2) := by
 unfold g_motion_Couple
 rw [check_eq, check_eq]
 cases ha : trB a with
 | false => rfl
 | true =>
  cases hb : trB b with
  | false => rfl
  | true =>
   have hl : a.2.2.2.2.2.2.2.2.2.1.length ≠ b.2.2.2.2.2.2.2.2.2.1.length := by
    rcases h with h | h | h
    ·rw [ha] at h; cases h
    ·rw [hb] at h; cases h
    ·exact h
   have e : (lenI a.2.2.2.2.2.2.2.2.2.1 != lenI b.2.2.2.2.2.2.2.2.2.1) = true := by
    rw [bne_iff_ne, lenI_eq, lenI_eq]; omega
   rw [e]
   rfl
end Go.Ai.Sx

/- Motion: braking. -/
namespace Go.Ai.Sx
def brk (t : Train) (st : Int) (sl : MotionState → Int) : Nat → MotionState → List MotionState
 | 0, _ => []
 | n + 1, x => if x.1 = 0 then [] else if (stepS t st x (-4) (sl x)).2 then (stepS t st x (-4) (sl x)).1.1 :: brk t st sl n (stepS t st x (-4) (sl x)).1.1 else []
def foldG {σ τ X : Type} (g : σ → X → σ ⊕ τ) : σ → List X → σ ⊕ τ
 | s, [] => .inl s
 | s, y :: l => match g s y with
  | .inl s' => foldG g s' l
  | .inr t => .inr t
theorem step_next {t : Train} {st d s : Int} {x : MotionState} (ht : TrOk t) (h : Fin3 t st d s) (hx : 0 ≤ x.1 ∧ x.1 ≤ 25000 * t.1) (hw : 0 ≤ x.2.1 ∧ x.2.1 ≤ 4000000000000000000) (hok : (stepS t st x d s).2 = true) :
    (0 ≤ (stepS t st x d s).1.1.1 ∧ (stepS t st x d s).1.1.1 ≤ 25000 * t.1) ∧ (stepS t st x d s).1.1.2.1 = x.2.1 + (stepS t st x d s).1.1.1 := by
  have hm := ht.m
  unfold stepS at *
  split
  · simp only []; omega
  · rename_i hs
    rw [if_neg hs] at hok
    have hok : qS t st x d s ≤ 25000 * t.1 := of_decide_eq_true hok
    unfold stayB at hs
    simp only [Bool.or_eq_true, decide_eq_true_eq, not_or] at hs
    exact ⟨⟨by show 0 ≤ qS t st x d s; omega, hok⟩, rfl⟩
theorem stopping_eq {σ τ : Type} {t : Train} {st : Int} {sl : MotionState → Int} {f : MotionState → Option Int} {step : σ → MotionState → Option (σ ⊕ τ)} {g : σ → MotionState → σ ⊕ τ} {W : Int} (ht : TrOk t) (hst : 0 ≤ st ∧ st < t.2.2.2.2.2.2.2.2.2.1.length) (hW : W ≤ 4000000000000000000)
    (hf : ∀ y : MotionState, 0 ≤ y.1 ∧ y.1 ≤ 25000 * t.1 → 0 ≤ y.2.1 ∧ y.2.1 ≤ W → f y = some (sl y) ∧ -120 ≤ sl y ∧ sl y ≤ 120)
    (hg : ∀ s (y : MotionState), 0 ≤ y.1 ∧ y.1 ≤ 25000 * t.1 → 0 ≤ y.2.1 ∧ y.2.1 ≤ W → step s y = some (g s y))
    (s0 : σ) (x : MotionState) (hx : 0 ≤ x.1 ∧ x.1 ≤ 25000 * t.1) (hw : 0 ≤ x.2.1 ∧ x.2.1 + 72000000000000 ≤ W) :
    ∃ z, g_motion_mover_stopping_1 step s0 x (t, st, ()) f = some (foldG g s0 (brk t st sl 36000 x), z) := by
  unfold g_motion_mover_stopping_1
  have key : ∀ (n k : Nat) (s : σ) (p w : Int), k + n = 36000 → 0 ≤ p ∧ p ≤ 25000 * t.1 → 0 ≤ w ∧ w + 2000000000 * n ≤ W →
      ∃ T : ((σ ⊕ τ) × Int × Int) ⊕ ((σ ⊕ τ) × Int × Int), Lp (fun s20 : Int × (σ ⊕ τ) × Int × Int =>
cond ((decide (s20.1 < 36000))) (cond ((s20.2.2.1 == 0)) (some (.inr ((.inr ((s20.2.1, s20.2.2.1, s20.2.2.2)))))) (Option.bind (f ((s20.2.2.1, s20.2.2.2, ()))) fun y24 =>
Option.bind (g_motion_mover_step (t, st, ()) ((s20.2.2.1, s20.2.2.2, ())) ((-4)) y24) fun y25 =>
cond ((!y25.2)) (some (.inr ((.inr ((s20.2.1, s20.2.2.1, s20.2.2.2)))))) (Option.bind (goL s20.2.1) fun s28 =>
Option.bind (step s28 y25.1.1) fun y29 =>
cond ((!(y29).isLeft)) (some (.inr ((.inr ((y29, y25.1.1.1, y25.1.1.2.1)))))) (some (.inl (((w64 (s20.1 + 1)), y29, y25.1.1.1, y25.1.1.2.1))))))) (some (.inr ((.inl ((s20.2.1, s20.2.2.1, s20.2.2.2))))))) n ((k : Int), .inl s, p, w) T ∧ (match T with | .inl b => b.1 | .inr b => b.1) = foldG g s (brk t st sl n (p, w, ())) := by
    intro n
    induction n with
    | zero =>
      intro k s p w hk hp hw
      have : k = 36000 := by omega
      subst this
      exact ⟨.inl (.inl s, p, w), Lp.done rfl, rfl⟩
    | succ n ih =>
      intro k s p w hk hp hw
      by_cases h0 : p = 0
      · subst h0
        refine ⟨.inr (.inl s, 0, w), Lp.done ?_, ?_⟩
        · simp only [decide_eq_true (show (k : Int) < 36000 by omega), cond_true]; rfl
        · unfold brk
          rw [if_pos (show ((0, w, ()) : MotionState).1 = 0 from rfl)]; rfl
      · obtain ⟨f1, f2, f3⟩ := hf (p, w, ()) hp ⟨hw.1, by show w ≤ W; omega⟩
        have hfin : Fin3 t st (-4) (sl (p, w, ())) := ⟨hst, by omega, ⟨f2, f3⟩⟩
        have hso : StOk t (p, w, ()) := ⟨hp, ⟨hw.1, by show w ≤ _; omega⟩⟩
        have hp0 : (p == 0) = false := by simpa using h0
        have hm := ht.m
        unfold brk
        rw [if_neg (show ¬ ((p, w, ()) : MotionState).1 = 0 from h0)]
        cases hok : (stepS t st (p, w, ()) (-4) (sl (p, w, ()))).2 with
        | false =>
          refine ⟨.inr (.inl s, p, w), Lp.done ?_, rfl⟩
          simp only [decide_eq_true (show (k : Int) < 36000 by omega), cond_true, hp0, cond_false, f1, Option.bind_some, step_m ht hfin hso, hok, Bool.not_false]
        | true =>
          obtain ⟨n1, n2⟩ := step_next ht hfin hp ⟨hw.1, by show w ≤ _; omega⟩ hok
          have hn2 : (stepS t st (p, w, ()) (-4) (sl (p, w, ()))).1.1.2.1 = w + (stepS t st (p, w, ()) (-4) (sl (p, w, ()))).1.1.1 := n2
          have hgs := hg s (stepS t st (p, w, ()) (-4) (sl (p, w, ()))).1.1 n1 ⟨by omega, by omega⟩
          rw [if_pos rfl, foldG]
          cases hgg : g s (stepS t st (p, w, ()) (-4) (sl (p, w, ()))).1.1 with
          | inl s' =>
            obtain ⟨T, h1, h2⟩ := ih (k + 1) s' _ _ (by omega) n1 (show 0 ≤ (stepS t st (p, w, ()) (-4) (sl (p, w, ()))).1.1.2.1 ∧ (stepS t st (p, w, ()) (-4) (sl (p, w, ()))).1.1.2.1 + 2000000000 * (n : Int) ≤ W by omega)
            refine ⟨T, Lp.step ?_ h1, h2⟩
            simp only [decide_eq_true (show (k : Int) < 36000 by omega), cond_true, hp0, cond_false, f1, Option.bind_some, step_m ht hfin hso, hok, Bool.not_true, goL, hgs, hgg, Sum.isLeft]
            rw [w64_succ (by omega)]
          | inr tt =>
            refine ⟨.inr (.inr tt, (stepS t st (p, w, ()) (-4) (sl (p, w, ()))).1.1.1, (stepS t st (p, w, ()) (-4) (sl (p, w, ()))).1.1.2.1), Lp.done ?_, rfl⟩
            simp only [decide_eq_true (show (k : Int) < 36000 by omega), cond_true, hp0, cond_false, f1, Option.bind_some, step_m ht hfin hso, hok, Bool.not_true, goL, hgs, hgg, Sum.isLeft, Bool.not_false]
  obtain ⟨T, h1, h2⟩ := key 36000 0 s0 x.1 x.2.1 (by omega) hx (by omega)
  rw [show ((0 : Nat) : Int) = 0 from rfl] at h1
  rw [h1.big (by simp only [big]; omega), Option.bind_some]
  cases T with
  | inl b =>
    refine ⟨(b.2.1, b.2.2, ()), ?_⟩
    rw [alt_inl]
    simp only at h2
    rw [h2]
  | inr b =>
    refine ⟨(b.2.1, b.2.2, ()), ?_⟩
    rw [alt_inr]
    simp only at h2
    rw [h2]
def lastS (x : MotionState) (l : List MotionState) : MotionState := l.getLastD x
def placeS (t : Train) (x : MotionState) : Int := x.2.1 / (10 * t.1)
def brakS (t : Train) (st : Int) (x : MotionState) (s : Int) : Int × Bool := (placeS t (lastS x (brk t st (fun _ => s) 36000 x)) - placeS t x, decide ((lastS x (brk t st (fun _ => s) 36000 x)).1 = 0))
theorem foldG_last {τ : Type} : ∀ (l : List MotionState) (x : MotionState), foldG (fun (_ : Int × Int) (y : MotionState) => (.inl (y.1, y.2.1) : (Int × Int) ⊕ τ)) (x.1, x.2.1) l = .inl ((lastS x l).1, (lastS x l).2.1)
 | [], x => rfl
 | y :: l, x => by
  rw [foldG]
  have e : lastS x (y :: l) = lastS y l := by unfold lastS; rw [List.getLastD_cons]
  rw [e]
  exact foldG_last l y
theorem brk_bd {t : Train} {st : Int} {sl : MotionState → Int} {W : Int} (ht : TrOk t) (hst : 0 ≤ st ∧ st < t.2.2.2.2.2.2.2.2.2.1.length) (hW : W ≤ 4000000000000000000)
    (hf : ∀ y : MotionState, 0 ≤ y.1 ∧ y.1 ≤ 25000 * t.1 → 0 ≤ y.2.1 ∧ y.2.1 ≤ W → -120 ≤ sl y ∧ sl y ≤ 120) : ∀ (n : Nat) (x : MotionState), 0 ≤ x.1 ∧ x.1 ≤ 25000 * t.1 → 0 ≤ x.2.1 ∧ x.2.1 + 2000000000 * n ≤ W → ∀ y ∈ brk t st sl n x, (0 ≤ y.1 ∧ y.1 ≤ 25000 * t.1) ∧ x.2.1 ≤ y.2.1 ∧ y.2.1 ≤ x.2.1 + 2000000000 * n
  | 0, x, _, _, y, hy => by cases hy
  | n + 1, x, hx, hw, y, hy => by
    unfold brk at hy
    split at hy
    · cases hy
    · split at hy
      · rename_i hok
        have hm := ht.m
        obtain ⟨f2, f3⟩ := hf x hx ⟨hw.1, by omega⟩
        obtain ⟨n1, n2⟩ := step_next ht ⟨hst, by omega, ⟨f2, f3⟩⟩ hx ⟨hw.1, by omega⟩ hok
        rcases List.mem_cons.1 hy with rfl | hy
        · exact ⟨n1, by omega, by omega⟩
        · obtain ⟨k1, k2, k3⟩ := brk_bd ht hst hW hf n _ n1 (by omega) y hy
          exact ⟨k1, by omega, by omega⟩
      · cases hy
theorem last_mem (x : MotionState) (l : List MotionState) : lastS x l = x ∨ lastS x l ∈ l := by
 unfold lastS
 cases l with
 | nil => exact .inl rfl
 | cons y l => right; rw [List.getLastD_cons]; exact List.getLastD_mem_cons ..
section
variable {t : Train} {st s : Int} {x : MotionState} (ht : TrOk t) (hst : 0 ≤ st ∧ st < t.2.2.2.2.2.2.2.2.2.1.length) (hs : -120 ≤ s ∧ s ≤ 120) (hx : 0 ≤ x.1 ∧ x.1 ≤ 25000 * t.1) (hw : 0 ≤ x.2.1 ∧ x.2.1 ≤ 1000000000000000000)
include ht hst hs hx hw
theorem last_ok : (0 ≤ (lastS x (brk t st (fun _ => s) 36000 x)).1 ∧ (lastS x (brk t st (fun _ => s) 36000 x)).1 ≤ 25000 * t.1) ∧ x.2.1 ≤ (lastS x (brk t st (fun _ => s) 36000 x)).2.1 ∧ (lastS x (brk t st (fun _ => s) 36000 x)).2.1 ≤ x.2.1 + 72000000000000 := by
 rcases last_mem x (brk t st (fun _ => s) 36000 x) with h | h
 ·rw [h]; exact ⟨hx, by omega, by omega⟩
 ·obtain ⟨a, b, c⟩ := brk_bd (W := 4000000000000000000) ht hst (by omega) (fun _ _ _ => hs) 36000 x hx (by omega) _ h
  exact ⟨a, b, by omega⟩
theorem place_bd {y : MotionState} (h : 0 ≤ y.2.1) : 0 ≤ placeS t y ∧ placeS t y ≤ y.2.1 := by
 have _ := hst
 have _ := hs
 have _ := hx
 have _ := hw
 have hm := ht.m
 unfold placeS
 exact ⟨Int.ediv_nonneg h (by omega), Int.ediv_le_self _ h⟩
theorem braking_m : g_motion_mover_braking (t, st, ()) x s = some (brakS t st x s) := by
 obtain ⟨l1, l2, l3⟩ := last_ok ht hst hs hx hw
 unfold g_motion_mover_braking g_motion_mover_stopping
 obtain ⟨z, hz⟩ := stopping_eq (τ := Unit) (σ := Int × Int) (sl := fun _ => s) (f := fun x => g_motion_mover_braking_1 x s) (step := fun _ (x4 : MotionState) => some (.inl ((x4.1, x4.2.1)))) (g := fun _ y => .inl (y.1, y.2.1)) (W := 4000000000000000000) ht hst (by omega) (fun y _ _ => ⟨rfl, hs⟩) (fun _ _ _ _ => rfl) (x.1, x.2.1) x hx (by omega)
 rw [Option.bind_some]
 simp only []
 rw [hz, Option.bind_some, foldG_last]
 simp only [goL, Option.bind_some]
 rw [(place_m (x := ((lastS x (brk t st (fun _ => s) 36000 x)).1, (lastS x (brk t st (fun _ => s) 36000 x)).2.1, ())) ht ⟨l1, by simp only []; omega⟩ st).1, Option.bind_some, (place_m (x := x) ht ⟨hx, by omega⟩ st).1, Option.bind_some]
 have b1 := place_bd ht hst hs hx hw (y := lastS x (brk t st (fun _ => s) 36000 x)) (by omega)
 have b2 := place_bd ht hst hs hx hw (y := x) (by omega)
 have e1 : (lastS x (brk t st (fun _ => s) 36000 x)).2.1 / (10 * t.1) = placeS t (lastS x (brk t st (fun _ => s) 36000 x)) := rfl
 have e2 : x.2.1 / (10 * t.1) = placeS t x := rfl
 simp only [e1, e2]
 rw [w64_in (by omega) (by omega)]
 unfold brakS
 have : ((lastS x (brk t st (fun _ => s) 36000 x)).1 == 0) = decide ((lastS x (brk t st (fun _ => s) 36000 x)).1 = 0) := rfl
 rw [this]
end
end Go.Ai.Sx

/- Motion: braking and sight; more grip, a steeper way, less speed. -/
namespace Go.Ai.Sx
section
variable {t : Train} {st d s : Int} {x : MotionState} (ht : TrOk t) (h : Fin3 t st d s) (hx : StOk t x)
include ht h hx
theorem rstep_m : g_ref03_Step t x d s st = some ((stepS t st x d s).1.1, (stepS t st x d s).1.2.1, (stepS t st x d s).2) := by
 have h4 := h.v ht hx
 obtain ⟨a1, a2, a3⟩ := pull_m ht h4
 obtain ⟨b1, b2, b3⟩ := brake_m ht h4
 obtain ⟨_, _, c2, c3⟩ := drg_m ht h4
 obtain ⟨_, e2, e3⟩ := hll_m ht h4
 have hn := net_bd ht h hx
 have hq := q_bd ht h hx
 have hm := ht.m
 have hp := hx.p
 have hw := hx.w
 unfold g_ref03_Step
 rw [(speed_m ht h hx).2, Option.bind_some, forces_r ht h4, Option.bind_some]
 simp only []
 have w1 : w64 (w64 (w64 (pullS t st (x.1 / t.1) d - brakeS t st d) - dragS t (x.1 / t.1)) - hillS t s) = netS t st (x.1 / t.1) d s := by
  unfold netS
  rw [w64_in (n := pullS t st (x.1 / t.1) d - brakeS t st d) (by omega) (by omega), w64_in (n := _ - dragS t (x.1 / t.1)) (by omega) (by omega), w64_in (by omega) (by omega)]
 have w2 : w64 (x.1 + w64 (100 * netS t st (x.1 / t.1) d s)) = qS t st x d s := by
  unfold qS
  rw [w64_in (n := 100 * _) (by omega) (by omega), w64_in (by omega) (by omega)]
 have w4 : w64 (25000 * t.1) = 25000 * t.1 := w64_in (by omega) (by omega)
 have w6 : w64 (x.1 * x.1) = x.1 * x.1 := by
  have := mul_nn (a := x.1) (b := x.1) (A := 2000000000) (B := 2000000000) ⟨hp.1, by omega⟩ ⟨hp.1, by omega⟩
  exact w64_in (by omega) (by omega)
 simp only [w1, w2, w4, w6]
 unfold stepS
 have hst : (cond (decide (qS t st x d s < 0)) (some true) (cond (x.1 == 0) (some (decide (netS t st (x.1 / t.1) d s ≤ 0))) (some false)) : Option Bool) = some (stayB t st x d s) := by
  unfold stayB
  cases decide (qS t st x d s < 0) <;> cases (x.1 == 0) <;> rfl
 rw [hst, Option.bind_some]
 cases hs : stayB t st x d s with
 | true =>
  simp only [cond_true, if_true, Int.add_zero]
  rw [w64_in (n := x.2.1) (by omega) (by omega), decide_eq_true (by omega)]
 | false =>
  have hq0 : 0 ≤ qS t st x d s := by
   unfold stayB at hs
   simp only [Bool.or_eq_false_iff, decide_eq_false_iff_not] at hs
   omega
  have m1 := mul_nn (a := pullS t st (x.1 / t.1) d) (b := qS t st x d s) ⟨a2, a3⟩ ⟨hq0, hq⟩
  have m2 := mul_nn (a := brakeS t st d) (b := qS t st x d s) ⟨b2, b3⟩ ⟨hq0, hq⟩
  have m3 := mul_nn (a := dragS t (x.1 / t.1)) (b := qS t st x d s) ⟨c2, c3⟩ ⟨hq0, hq⟩
  have m4 := mul_bd (a := qS t st x d s) (b := hillS t s) (B := 94176) ⟨hq0, hq⟩ ⟨e2, e3⟩
  rw [Int.mul_comm (qS t st x d s) (hillS t s)] at m4
  have m6 : -414962718976000 ≤ netS t st (x.1 / t.1) d s * netS t st (x.1 / t.1) d s ∧ netS t st (x.1 / t.1) d s * netS t st (x.1 / t.1) d s ≤ 414962718976000 := by
   by_cases q : 0 ≤ netS t st (x.1 / t.1) d s
   ·have := mul_nn (a := netS t st (x.1 / t.1) d s) (b := netS t st (x.1 / t.1) d s) (A := 644176) (B := 644176) ⟨q, by omega⟩ ⟨q, by omega⟩
    omega
   ·have := mul_nn (a := -netS t st (x.1 / t.1) d s) (b := -netS t st (x.1 / t.1) d s) (A := 644176) (B := 644176) ⟨by omega, by omega⟩ ⟨by omega, by omega⟩
    rw [Int.neg_mul_neg] at this
    omega
  simp only [cond_false, Bool.false_eq_true, if_false]
  rw [w64_in (n := x.2.1 + _) (by omega) (by omega), w64_in (n := 200 * pullS t st (x.1 / t.1) d) (by omega) (by omega), w64_in (n := 200 * brakeS t st d) (by omega) (by omega), w64_in (n := 200 * dragS t (x.1 / t.1)) (by omega) (by omega), w64_in (n := 200 * hillS t s) (by omega) (by omega), w64_in (n := 10000 * netS t st (x.1 / t.1) d s) (by omega) (by omega),
   w64_in (n := 200 * pullS t st (x.1 / t.1) d * qS t st x d s) (by rw [Int.mul_assoc]; omega) (by rw [Int.mul_assoc]; omega), w64_in (n := 200 * brakeS t st d * qS t st x d s) (by rw [Int.mul_assoc]; omega) (by rw [Int.mul_assoc]; omega), w64_in (n := 200 * dragS t (x.1 / t.1) * qS t st x d s) (by rw [Int.mul_assoc]; omega) (by rw [Int.mul_assoc]; omega), w64_in (n := 200 * hillS t s * qS t st x d s) (by rw [Int.mul_assoc]; omega) (by rw [Int.mul_assoc]; omega), w64_in (n := 10000 * netS t st (x.1 / t.1) d s * netS t st (x.1 / t.1) d s) (by rw [Int.mul_assoc]; omega) (by rw [Int.mul_assoc]; omega)]
theorem rpow_m : g_ref03_Powers t x d s st = some ((stepS t st x d s).1.2.2.1, (stepS t st x d s).1.2.2.2.1) := by
 have h4 := h.v ht hx
 obtain ⟨a1, a2, a3⟩ := pull_m ht h4
 obtain ⟨b1, b2, b3⟩ := brake_m ht h4
 have hq := q_bd ht h hx
 have hm := ht.m
 have hb := ht.ba
 unfold g_ref03_Powers
 rw [(speed_m ht h hx).2, Option.bind_some, forces_r ht h4, Option.bind_some, rstep_m ht h hx, Option.bind_some]
 simp only []
 have w3 : w64 (1000 * t.1) = 1000 * t.1 := w64_in (by omega) (by omega)
 have w5 : w64 (100000 * t.1) = 100000 * t.1 := w64_in (by omega) (by omega)
 rw [w3, w5]
 unfold stepS
 cases hs : stayB t st x d s with
 | true =>
  simp only [if_true, Int.mul_zero, Int.zero_mul, Int.zero_add, show w64 0 = 0 from rfl]
  rw [w64_in (n := 1000 * t.1) (by omega) (by omega), w64_in (n := 1000 * t.1 - 1) (by omega) (by omega), divO_nn (by omega) (by omega), Option.bind_some, divO_nn (by omega) (by omega), Option.bind_some, Int.zero_ediv]
 | false =>
  have hq0 : 0 ≤ qS t st x d s := by
   unfold stayB at hs
   simp only [Bool.or_eq_false_iff, decide_eq_false_iff_not] at hs
   omega
  have m1 := mul_nn (a := pullS t st (x.1 / t.1) d) (b := qS t st x d s) ⟨a2, a3⟩ ⟨hq0, hq⟩
  have m2 := mul_nn (a := brakeS t st d) (b := qS t st x d s) ⟨b2, b3⟩ ⟨hq0, hq⟩
  have m5 := mul_nn (a := brakeS t st d * qS t st x d s) (b := t.2.2.2.2.2.2.2.2.1) ⟨m2.1, m2.2⟩ hb
  simp only [Bool.false_eq_true, if_false]
  rw [w64_in (n := pullS t st (x.1 / t.1) d * qS t st x d s) (by omega) (by omega), w64_in (n := _ + 1000 * t.1) (by omega) (by omega), w64_in (n := _ - 1) (by omega) (by omega), divO_nn (by omega) (by omega), Option.bind_some,
   w64_in (n := brakeS t st d * qS t st x d s) (by omega) (by omega), w64_in (n := brakeS t st d * qS t st x d s * t.2.2.2.2.2.2.2.2.1) (by omega) (by omega), divO_nn (by omega) (by omega), Option.bind_some]
end
def fineB (t : Train) (x : MotionState) (d s st : Int) : Bool := trB t && (inB x.1 0 (25000 * t.1) && inB x.2.1 0 10000000000000000 && (inB d (-4) 4 && (inB s (-120) 120 && inB st 0 (t.2.2.2.2.2.2.2.2.2.1.length - 1))))
structure FineS (t : Train) (x : MotionState) (d s st : Int) : Prop where
 tr : TrOk t
 p : 0 ≤ x.1 ∧ x.1 ≤ 25000 * t.1
 w : 0 ≤ x.2.1 ∧ x.2.1 ≤ 10000000000000000
 f : Fin3 t st d s
theorem fineB_iff {t : Train} {x : MotionState} {d s st : Int} : fineB t x d s st = true ↔ FineS t x d s st := by
 unfold fineB
 simp only [Bool.and_eq_true, trB_iff, inB_iff]
 constructor
 ·rintro ⟨a, ⟨b, c⟩, e, f, g⟩
  exact ⟨a, b, c, ⟨by omega, e, f⟩⟩
 ·rintro ⟨a, b, c, ⟨e, f, g⟩⟩
  exact ⟨a, ⟨b, c⟩, f, g, by omega⟩
theorem w25 {t : Train} (ht : TrOk t) : w64 (25000 * t.1) = 25000 * t.1 := w64_in (by have := ht.m; omega) (by have := ht.m; omega)
theorem wlen {t : Train} (ht : TrOk t) : w64 (lenI t.2.2.2.2.2.2.2.2.2.1 - 1) = t.2.2.2.2.2.2.2.2.2.1.length - 1 := by
 have := ht.gl
 rw [lenI_eq, w64_in (by omega) (by omega)]
theorem rfine_eq (t : Train) (x : MotionState) (d s st : Int) : g_ref03_Fine t x d s st = some (fineB t x d s st) := by
 unfold g_ref03_Fine fineB g_ref03_State
 simp only [rin, train_eq, Option.bind_some]
 cases h : trB t with
 | false => rfl
 | true =>
  have ht := trB_iff.1 h
  simp only [cond_true, w25 ht, wlen ht]
  cases inB x.1 0 (25000 * t.1) <;> cases inB x.2.1 0 10000000000000000 <;> cases inB d (-4) 4 <;> cases inB s (-120) 120 <;> rfl
theorem moving_eq (t : Train) (st : Int) : g_motion_moving t st = some (if trB t && inB st 0 (t.2.2.2.2.2.2.2.2.2.1.length - 1) then (some (t, st, ()), true) else (none, false)) := by
 unfold g_motion_moving
 rw [check_eq]
 cases h : trB t with
 | false => rfl
 | true =>
  have ht := trB_iff.1 h
  simp only [if_true, Option.bind_some, show ((0 : Int) != 0) = false from rfl, cond_false, mwithin, wlen ht, Bool.true_and]
  cases inB st 0 (t.2.2.2.2.2.2.2.2.2.1.length - 1) <;> rfl
theorem asked_yes {t : Train} {x : MotionState} {d s st : Int} (h : FineS t x d s st) : g_motion_asked t x d s st = some (some (t, st, ()), true) := by
 have h1 := fineB_iff.2 h
 unfold fineB at h1
 simp only [Bool.and_eq_true] at h1
 obtain ⟨a, ⟨b, c⟩, e, f, g⟩ := h1
 unfold g_motion_asked g_motion_mover_valid
 rw [moving_eq, a, g]
 simp only [Bool.true_and, if_true, Option.bind_some, cond_true, mwithin, w25 h.tr, b, c, e, f]
theorem asked_no {t : Train} {x : MotionState} {d s st : Int} (h : fineB t x d s st = false) : ∃ m, g_motion_asked t x d s st = some (m, false) := by
 unfold fineB at h
 unfold g_motion_asked g_motion_mover_valid
 rw [moving_eq]
 cases a : trB t with
 | false => exact ⟨none, rfl⟩
 | true =>
  rw [a] at h
  cases g : inB st 0 (t.2.2.2.2.2.2.2.2.2.1.length - 1) with
  | false => exact ⟨none, rfl⟩
  | true =>
   rw [g] at h
   have ht := trB_iff.1 a
   refine ⟨some (t, st, ()), ?_⟩
   simp only [Bool.true_and, if_true, Option.bind_some, cond_true, mwithin, w25 ht]
   revert h
   cases inB x.1 0 (25000 * t.1) <;> cases inB x.2.1 0 10000000000000000 <;> cases inB d (-4) 4 <;> cases inB s (-120) 120 <;> intro h <;> first | rfl | cases h
end Go.Ai.Sx

/- Motion: the laws of steps and of the ledger. -/
namespace Go.Ai.Sx
theorem FineS.so {t : Train} {x : MotionState} {d s st : Int} (h : FineS t x d s st) : StOk t x := ⟨h.p, h.w.1, by have := h.w; omega⟩
theorem Step_yes {t : Train} {x : MotionState} {d s st : Int} (h : FineS t x d s st) : g_motion_Step t x d s st = some (if (!(stepS t st x d s).2 || decide ((stepS t st x d s).1.1.2.1 > 10000000000000000)) = true then ((0, 0, ()), (0, 0, 0, 0, 0, 0, ()), 3) else ((stepS t st x d s).1.1, (stepS t st x d s).1.2.1, 0)) := by
 unfold g_motion_Step
 rw [asked_yes h, Option.bind_some]
 simp only [Bool.not_true, cond_false, Option.bind_some]
 rw [step_m h.tr h.f h.so, Option.bind_some]
 cases (stepS t st x d s).2
 ·rfl
 ·cases decide ((stepS t st x d s).1.1.2.1 > 10000000000000000) <;> rfl
theorem Step_no {t : Train} {x : MotionState} {d s st : Int} (h : fineB t x d s st = false) : g_motion_Step t x d s st = some ((0, 0, ()), (0, 0, 0, 0, 0, 0, ()), 2) := by
 obtain ⟨m, hm⟩ := asked_no h
 unfold g_motion_Step
 rw [hm]; rfl
theorem Powers_yes {t : Train} {x : MotionState} {d s st : Int} (h : FineS t x d s st) : g_motion_Powers t x d s st = some (if (!(stepS t st x d s).2 || decide ((stepS t st x d s).1.1.2.1 > 10000000000000000)) = true then (0, 0, 3) else ((stepS t st x d s).1.2.2.1, (stepS t st x d s).1.2.2.2.1, 0)) := by
 unfold g_motion_Powers
 rw [asked_yes h, Option.bind_some]
 simp only [Bool.not_true, cond_false, Option.bind_some]
 rw [step_m h.tr h.f h.so, Option.bind_some]
 cases (stepS t st x d s).2
 ·rfl
 ·cases decide ((stepS t st x d s).1.1.2.1 > 10000000000000000) <;> rfl
theorem Powers_no {t : Train} {x : MotionState} {d s st : Int} (h : fineB t x d s st = false) : g_motion_Powers t x d s st = some (0, 0, 2) := by
 obtain ⟨m, hm⟩ := asked_no h
 unfold g_motion_Powers
 rw [hm]; rfl
theorem law_steps (hk : g_law03_known = some true) (t : Train) (x : MotionState) (d s st : Int) : g_law03_MotionSteps t x d s st = some true := by
 unfold g_law03_MotionSteps
 rw [show g_law03_short t = some (decide (lenI t.2.2.2.2.2.2.2.2.2.1 ≤ 20)) from rfl, Option.bind_some, hk]
 cases decide (lenI t.2.2.2.2.2.2.2.2.2.1 ≤ 20) with
 | false => rfl
 | true =>
  simp only [Bool.not_true, cond_false, rfine_eq]
  cases h : fineB t x d s st with
  | false =>
   rw [Step_no h, Powers_no h]
   rfl
  | true =>
   have hf := fineB_iff.1 h
   rw [Step_yes hf, Powers_yes hf, rstep_m hf.tr hf.f hf.so, rpow_m hf.tr hf.f hf.so]
   simp only [Option.bind_some, Bool.not_true, cond_false]
   cases h1 : (stepS t st x d s).2 with
   | false => rfl
   | true =>
    cases h2 : decide ((stepS t st x d s).1.1.2.1 > 10000000000000000) with
    | true => simp [h2]
    | false => simp [h2]
theorem sq_step {p f : Int} : (p + 100 * f) * (p + 100 * f) - p * p = 200 * f * (p + 100 * f) - 10000 * f * f := by
 have e1 : (p + 100 * f) * (p + 100 * f) = p * p + 200 * (p * f) + 10000 * (f * f) := by
  rw [Int.add_mul, Int.mul_add, Int.mul_add, show p * (100 * f) = 100 * (p * f) by rw [Int.mul_left_comm], show 100 * f * p = 100 * (p * f) by rw [Int.mul_assoc, Int.mul_comm f p], show 100 * f * (100 * f) = 10000 * (f * f) by rw [Int.mul_assoc, Int.mul_left_comm f 100 f]; omega]
  omega
 have e2 : 200 * f * (p + 100 * f) = 200 * (p * f) + 20000 * (f * f) := by
  rw [Int.mul_add, show 200 * f * p = 200 * (p * f) by rw [Int.mul_assoc, Int.mul_comm f p], show 200 * f * (100 * f) = 20000 * (f * f) by rw [Int.mul_assoc, Int.mul_left_comm f 100 f]; omega]
 have e3 : 10000 * f * f = 10000 * (f * f) := Int.mul_assoc ..
 omega
theorem led_eq {t : Train} {st d s : Int} {x : MotionState} : (stepS t st x d s).1.1.1 * (stepS t st x d s).1.1.1 - x.1 * x.1 = (stepS t st x d s).1.2.1.1 - (stepS t st x d s).1.2.1.2.1 - (stepS t st x d s).1.2.1.2.2.1 - (stepS t st x d s).1.2.1.2.2.2.1 - (stepS t st x d s).1.2.1.2.2.2.2.1 - (stepS t st x d s).1.2.1.2.2.2.2.2.1 := by
 unfold stepS
 split
 ·simp only []; omega
 ·simp only []
  have := sq_step (p := x.1) (f := netS t st (x.1 / t.1) d s)
  have e : x.1 + 100 * netS t st (x.1 / t.1) d s = qS t st x d s := rfl
  rw [e] at this
  rw [this]
  have e2 : 200 * netS t st (x.1 / t.1) d s * qS t st x d s = 200 * pullS t st (x.1 / t.1) d * qS t st x d s - 200 * brakeS t st d * qS t st x d s - 200 * dragS t (x.1 / t.1) * qS t st x d s - 200 * hillS t s * qS t st x d s := by
   unfold netS
   rw [← Int.sub_mul, ← Int.sub_mul, ← Int.sub_mul]
   congr 1
   omega
  rw [e2]
  omega
theorem law_balances (hk : g_law03_known = some true) (t : Train) (x : MotionState) (d s st more : Int) : g_law03_MotionBalances t x d s st more = some true := by
  unfold g_law03_MotionBalances
  rw [show g_law03_short t = some (decide (lenI t.2.2.2.2.2.2.2.2.2.1 ≤ 20)) from rfl, Option.bind_some, hk]
  cases decide (lenI t.2.2.2.2.2.2.2.2.2.1 ≤ 20) with
  | false => rfl
  | true =>
  simp only [Bool.not_true, cond_false, rfine_eq]
  cases h : fineB t x d s st with
  | false => rfl
  | true =>
  have hf := fineB_iff.1 h
  have hm := hf.tr.m
  have hp := hf.p
  have hw := hf.w
  rw [Step_yes hf]
  simp only [Option.bind_some, Bool.not_true, cond_false]
  cases h1 : (stepS t st x d s).2 with
  | false => rfl
  | true =>
  cases h2 : decide ((stepS t st x d s).1.1.2.1 > 10000000000000000) with
  | true => rfl
  | false =>
  obtain ⟨n1, n2⟩ := step_next hf.tr hf.f hf.p hf.so.w h1
  have hle := led_eq (t := t) (st := st) (d := d) (s := s) (x := x)
  have h2 := of_decide_eq_false h2
  simp only [Bool.not_true, Bool.or_self, Bool.false_eq_true, if_false, show ((0 : Int) != 0) = false from rfl, cond_false]
  -- what a step does
  have hfacts : 0 ≤ (stepS t st x d s).1.2.1.1 ∧ 0 ≤ (stepS t st x d s).1.2.1.2.1 ∧ 0 ≤ (stepS t st x d s).1.2.1.2.2.1 ∧ 0 ≤ (stepS t st x d s).1.2.1.2.2.2.2.1 ∧ 0 ≤ (stepS t st x d s).1.2.1.2.2.2.2.2.1 ∧ ((stepS t st x d s).1.2.1.1 ≤ 0 ∨ (stepS t st x d s).1.2.1.2.1 ≤ 0) ∧
      (stepS t st x d s).1.2.1.1 ≤ 90000000000000000 ∧ (stepS t st x d s).1.2.1.2.1 ≤ 90000000000000000 ∧ (stepS t st x d s).1.2.1.2.2.1 ≤ 200000000000000000 ∧ -90000000000000000 ≤ (stepS t st x d s).1.2.1.2.2.2.1 ∧ (stepS t st x d s).1.2.1.2.2.2.1 ≤ 90000000000000000 ∧ (stepS t st x d s).1.2.1.2.2.2.2.1 ≤ 4200000000000000000 ∧ (stepS t st x d s).1.2.1.2.2.2.2.2.1 ≤ 4000000000000000000 := by
    have h4 := hf.f.v hf.tr hf.so
    obtain ⟨a1, a2, a3⟩ := pull_m hf.tr h4
    obtain ⟨b1, b2, b3⟩ := brake_m hf.tr h4
    obtain ⟨_, _, c2, c3⟩ := drg_m hf.tr h4
    obtain ⟨_, e2, e3⟩ := hll_m hf.tr h4
    have hn := net_bd hf.tr hf.f hf.so
    have hq := q_bd hf.tr hf.f hf.so
    have hpb : pullS t st (x.1 / t.1) d = 0 ∨ brakeS t st d = 0 := by
      unfold pullS brakeS
      by_cases hd : d ≤ 0
      · exact .inl (if_pos hd)
      · exact .inr (if_pos (by omega))
    unfold stepS
    cases hs : stayB t st x d s with
    | true =>
      simp only [if_true]
      have := mul_nn (a := x.1) (b := x.1) (A := 2000000000) (B := 2000000000) ⟨hp.1, by omega⟩ ⟨hp.1, by omega⟩
      refine ⟨by omega, by omega, by omega, by omega, this.1, .inl (by omega), by omega, by omega, by omega, by omega, by omega, by omega, by omega⟩
    | false =>
      have hq0 : 0 ≤ qS t st x d s := by
        unfold stayB at hs
        simp only [Bool.or_eq_false_iff, decide_eq_false_iff_not] at hs
        omega
      have m1 := mul_nn (a := pullS t st (x.1 / t.1) d) (b := qS t st x d s) ⟨a2, a3⟩ ⟨hq0, hq⟩
      have m2 := mul_nn (a := brakeS t st d) (b := qS t st x d s) ⟨b2, b3⟩ ⟨hq0, hq⟩
      have m3 := mul_nn (a := dragS t (x.1 / t.1)) (b := qS t st x d s) ⟨c2, c3⟩ ⟨hq0, hq⟩
      have m4 := mul_bd (a := qS t st x d s) (b := hillS t s) (B := 94176) ⟨hq0, hq⟩ ⟨e2, e3⟩
      rw [Int.mul_comm (qS t st x d s) (hillS t s)] at m4
      have m6 : 0 ≤ netS t st (x.1 / t.1) d s * netS t st (x.1 / t.1) d s ∧ netS t st (x.1 / t.1) d s * netS t st (x.1 / t.1) d s ≤ 414962718976000 := by
        by_cases q : 0 ≤ netS t st (x.1 / t.1) d s
        · have := mul_nn (a := netS t st (x.1 / t.1) d s) (b := netS t st (x.1 / t.1) d s) (A := 644176) (B := 644176) ⟨q, by omega⟩ ⟨q, by omega⟩
          omega
        · have := mul_nn (a := -netS t st (x.1 / t.1) d s) (b := -netS t st (x.1 / t.1) d s) (A := 644176) (B := 644176) ⟨by omega, by omega⟩ ⟨by omega, by omega⟩
          rw [Int.neg_mul_neg] at this
          omega
      simp only [Bool.false_eq_true, if_false]
      rw [Int.mul_assoc 200, Int.mul_assoc 200, Int.mul_assoc 200, Int.mul_assoc 200, Int.mul_assoc 10000]
      refine ⟨by omega, by omega, by omega, by omega, by omega, ?_, by omega, by omega, by omega, by omega, by omega, by omega, by omega⟩
      rcases hpb with e | e
      · left; rw [e]; omega
      · right; rw [e]; omega
  obtain ⟨f1, f2, f3, f4, f5, f6, g1, g2, g3, g4, g5, g6, g7⟩ := hfacts
  have hyy := mul_nn (a := (stepS t st x d s).1.1.1) (b := (stepS t st x d s).1.1.1) (A := 2000000000) (B := 2000000000) ⟨n1.1, by omega⟩ ⟨n1.1, by omega⟩
  have hxx := mul_nn (a := x.1) (b := x.1) (A := 2000000000) (B := 2000000000) ⟨hp.1, by omega⟩ ⟨hp.1, by omega⟩
  rw [decide_eq_false (show ¬ (stepS t st x d s).1.1.1 < 0 by omega), cond_false, w64_in (n := x.2.1 + _) (by omega) (by omega), show ((stepS t st x d s).1.1.2.1 != x.2.1 + (stepS t st x d s).1.1.1) = false from by rw [bne_eq_false_iff_eq]; exact n2, cond_false,
    w64_in (n := _ * (stepS t st x d s).1.1.1) (by omega) (by omega), w64_in (n := x.1 * x.1) (by omega) (by omega), w64_in (n := _ - x.1 * x.1) (by omega) (by omega), w64_in (n := (stepS t st x d s).1.2.1.1 - _) (by omega) (by omega), w64_in (n := _ - (stepS t st x d s).1.2.1.2.2.1) (by omega) (by omega), w64_in (n := _ - (stepS t st x d s).1.2.1.2.2.2.1) (by omega) (by omega), w64_in (n := _ - (stepS t st x d s).1.2.1.2.2.2.2.1) (by omega) (by omega), w64_in (n := _ - (stepS t st x d s).1.2.1.2.2.2.2.2.1) (by omega) (by omega), hle]
  simp only [bne_self_eq_false, Option.bind_some, cond_false]
  rw [decide_eq_false (show ¬ (stepS t st x d s).1.2.1.1 < 0 by omega), decide_eq_false (show ¬ (stepS t st x d s).1.2.1.2.1 < 0 by omega), decide_eq_false (show ¬ (stepS t st x d s).1.2.1.2.2.1 < 0 by omega), decide_eq_false (show ¬ (stepS t st x d s).1.2.1.2.2.2.2.1 < 0 by omega), decide_eq_false (show ¬ (stepS t st x d s).1.2.1.2.2.2.2.2.1 < 0 by omega)]
  have hpb : (cond (decide ((stepS t st x d s).1.2.1.1 > 0)) (some (decide ((stepS t st x d s).1.2.1.2.1 > 0))) (some false) : Option Bool) = some false := by
    rcases f6 with q | q
    · rw [decide_eq_false (by omega)]; rfl
    · rw [decide_eq_false (show ¬ (stepS t st x d s).1.2.1.2.1 > 0 by omega)]
      cases decide ((stepS t st x d s).1.2.1.1 > 0) <;> rfl
  simp only [cond_false, hpb, Option.bind_some]
  rw [w64_in (n := 10000000000000000 - _) (by omega) (by omega)]
  by_cases hm1 : more < 0
  · rw [decide_eq_true hm1]; rfl
  by_cases hm2 : more > 10000000000000000 - (stepS t st x d s).1.1.2.1
  · rw [decide_eq_false hm1, decide_eq_true hm2]; rfl
  rw [decide_eq_false hm1, decide_eq_false hm2]
  simp only [cond_false, Option.bind_some]
  rw [w64_in (n := x.2.1 + more) (by omega) (by omega), w64_in (n := _ + more) (by omega) (by omega)]
  have hf' : FineS t (x.1, x.2.1 + more, ()) d s st := ⟨hf.tr, hf.p, by simp only []; omega, hf.f⟩
  have hst' : stepS t st (x.1, x.2.1 + more, ()) d s = ((((stepS t st x d s).1.1.1, (stepS t st x d s).1.1.2.1 + more, ()), (stepS t st x d s).1.2), (stepS t st x d s).2) := by
    unfold stepS stayB qS
    simp only []
    split
    · rfl
    · simp only [Prod.mk.injEq, and_true, true_and]; omega
  rw [Step_yes hf', hst']
  simp only [h1, Bool.not_true, Bool.false_or]
  rw [if_neg (by simp only [decide_eq_true_eq]; omega)]
  simp
end Go.Ai.Sx

/- Motion: the laws of braking and of sight; more grip, a steeper way, less speed. -/
namespace Go.Ai.Sx
theorem lastS_cons (x y : MotionState) (l : List MotionState) : lastS x (y :: l) = lastS y l := by unfold lastS; rw [List.getLastD_cons]
theorem brk_zero {t : Train} {st : Int} {sl : MotionState → Int} {x : MotionState} (h : x.1 = 0) : ∀ n, brk t st sl n x = []
 | 0 => rfl
 | n + 1 => by rw [brk, if_pos h]
section
variable {t : Train} {st s : Int} (ht : TrOk t) (hst : 0 ≤ st ∧ st < t.2.2.2.2.2.2.2.2.2.1.length) (hs : -120 ≤ s ∧ s ≤ 120)
include ht hst hs
theorem rbrak_loop : ∀ (n k : Nat) (p w : Int), k + n = 36000 → 0 ≤ p ∧ p ≤ 25000 * t.1 → 0 ≤ w ∧ w + 2000000000 * n ≤ 4000000000000000000 →
    ∃ T : (Int × Int) ⊕ (Int × Bool × Int × Int), Lp (fun s10 : Int × Int × Int =>
cond ((decide (s10.2.1 > 0))) (cond ((s10.1 == 36000)) (some (.inr ((.inr ((0, false, s10.2.1, s10.2.2)))))) (Option.bind (g_ref03_Step t ((s10.2.1, s10.2.2, ())) ((-4)) s st) fun y14 =>
cond ((!y14.2.2)) (some (.inr ((.inr ((0, false, y14.1.1, y14.1.2.1)))))) (some (.inl (((w64 (s10.1 + 1)), y14.1.1, y14.1.2.1)))))) (some (.inr ((.inl ((s10.2.1, s10.2.2))))))) n ((k : Int), p, w) T ∧
    (if (lastS (p, w, ()) (brk t st (fun _ => s) n (p, w, ()))).1 = 0 then T = .inl ((lastS (p, w, ()) (brk t st (fun _ => s) n (p, w, ()))).1, (lastS (p, w, ()) (brk t st (fun _ => s) n (p, w, ()))).2.1) else ∃ a b, T = .inr (0, false, a, b)) := by
  intro n
  induction n with
  | zero =>
    intro k p w hk hp hw
    have : k = 36000 := by omega
    subst this
    have el : lastS (p, w, ()) (brk t st (fun _ => s) 0 (p, w, ())) = (p, w, ()) := rfl
    rw [el]
    by_cases h0 : p = 0
    · subst h0
      refine ⟨.inl (0, w), Lp.done rfl, ?_⟩
      rw [if_pos (show ((0, w, ()) : MotionState).1 = 0 from rfl)]
    · refine ⟨.inr (0, false, p, w), Lp.done ?_, by rw [if_neg (show ¬ ((p, w, ()) : MotionState).1 = 0 from h0)]; exact ⟨_, _, rfl⟩⟩
      simp only [decide_eq_true (show p > 0 by omega), cond_true]
      rfl
  | succ n ih =>
    intro k p w hk hp hw
    by_cases h0 : p = 0
    · subst h0
      have el : lastS (0, w, ()) (brk t st (fun _ => s) (n + 1) (0, w, ())) = (0, w, ()) := by
        rw [brk_zero rfl]; rfl
      rw [el]
      refine ⟨.inl (0, w), Lp.done rfl, ?_⟩
      rw [if_pos (show ((0, w, ()) : MotionState).1 = 0 from rfl)]
    · have hfin : Fin3 t st (-4) s := ⟨hst, by omega, hs⟩
      have hso : StOk t (p, w, ()) := ⟨hp, ⟨hw.1, by show w ≤ _; omega⟩⟩
      have hm := ht.m
      have hk0 : ((k : Int) == 36000) = false := by simp; omega
      unfold brk
      rw [if_neg (show ¬ ((p, w, ()) : MotionState).1 = 0 from h0)]
      cases hok : (stepS t st (p, w, ()) (-4) s).2 with
      | false =>
        simp only [Bool.false_eq_true, if_false]
        refine ⟨.inr (0, false, (stepS t st (p, w, ()) (-4) s).1.1.1, (stepS t st (p, w, ()) (-4) s).1.1.2.1), Lp.done ?_, by rw [if_neg (show ¬ (lastS (p, w, ()) []).1 = 0 from h0)]; exact ⟨_, _, rfl⟩⟩
        simp only [decide_eq_true (show p > 0 by omega), cond_true, hk0, cond_false, rstep_m ht hfin hso, Option.bind_some, hok, Bool.not_false]
      | true =>
        obtain ⟨n1, n2⟩ := step_next ht hfin hp ⟨hw.1, by show w ≤ _; omega⟩ hok
        have hn2 : (stepS t st (p, w, ()) (-4) s).1.1.2.1 = w + (stepS t st (p, w, ()) (-4) s).1.1.1 := n2
        obtain ⟨T, h1, h2⟩ := ih (k + 1) (stepS t st (p, w, ()) (-4) s).1.1.1 (stepS t st (p, w, ()) (-4) s).1.1.2.1 (by omega) n1 (by omega)
        rw [if_pos rfl, lastS_cons]
        refine ⟨T, Lp.step ?_ h1, h2⟩
        simp only [decide_eq_true (show p > 0 by omega), cond_true, hk0, cond_false, rstep_m ht hfin hso, Option.bind_some, hok, Bool.not_true]
        rw [w64_succ (by omega)]
theorem rbraking_m {x : MotionState} (hx : 0 ≤ x.1 ∧ x.1 ≤ 25000 * t.1) (hw : 0 ≤ x.2.1 ∧ x.2.1 ≤ 1000000000000000000) : g_ref03_Braking t x s st = some (if (brakS t st x s).2 then ((brakS t st x s).1, true) else (0, false)) := by
 obtain ⟨l1, l2, l3⟩ := last_ok ht hst hs hx hw
 obtain ⟨T, h1, h2⟩ := rbrak_loop ht hst hs 36000 0 x.1 x.2.1 (by omega) hx (by omega)
 rw [show ((0 : Nat) : Int) = 0 from rfl] at h1
 unfold g_ref03_Braking
 rw [h1.big (by simp only [big]; omega), Option.bind_some]
 have ex : ((x.1, x.2.1, ()) : MotionState) = x := rfl
 rw [ex] at h2
 unfold brakS
 simp only [decide_eq_true_eq]
 split at h2
 ·rename_i h0
  subst h2
  rw [alt_inl, if_pos h0]
  rw [(place_m (x := ((lastS x (brk t st (fun _ => s) 36000 x)).1, (lastS x (brk t st (fun _ => s) 36000 x)).2.1, ())) ht ⟨l1, by simp only []; omega⟩ st).2, Option.bind_some, (place_m (x := x) ht ⟨hx, by omega⟩ st).2, Option.bind_some]
  have b1 := place_bd ht hst hs hx hw (y := lastS x (brk t st (fun _ => s) 36000 x)) (by omega)
  have b2 := place_bd ht hst hs hx hw (y := x) (by omega)
  have e1 : (lastS x (brk t st (fun _ => s) 36000 x)).2.1 / (10 * t.1) = placeS t (lastS x (brk t st (fun _ => s) 36000 x)) := rfl
  have e2 : x.2.1 / (10 * t.1) = placeS t x := rfl
  simp only [e1, e2]
  rw [w64_in (by omega) (by omega)]
 ·rename_i h0
  obtain ⟨a, b, h2⟩ := h2
  subst h2
  rw [alt_inr, if_neg h0]
end
theorem Braking_yes {t : Train} {x : MotionState} {s st : Int} (h : FineS t x 0 s st) : g_motion_Braking t x s st = some (if (brakS t st x s).2 then ((brakS t st x s).1, 0) else (0, 4)) := by
 unfold g_motion_Braking
 rw [asked_yes h, Option.bind_some]
 simp only [Bool.not_true, cond_false, Option.bind_some]
 rw [braking_m h.tr h.f.st h.f.s h.p ⟨h.w.1, by have := h.w; omega⟩, Option.bind_some]
 cases (brakS t st x s).2 <;> rfl
theorem Braking_no {t : Train} {x : MotionState} {s st : Int} (h : fineB t x 0 s st = false) : g_motion_Braking t x s st = some (0, 2) := by
 obtain ⟨m, hm⟩ := asked_no h
 unfold g_motion_Braking
 rw [hm]; rfl
theorem law_brakes (hk : g_law03_known = some true) (t : Train) (x : MotionState) (s st : Int) : g_law03_MotionBrakes t x s st = some true := by
 unfold g_law03_MotionBrakes
 rw [show g_law03_short t = some (decide (lenI t.2.2.2.2.2.2.2.2.2.1 ≤ 20)) from rfl, Option.bind_some, hk]
 cases decide (lenI t.2.2.2.2.2.2.2.2.2.1 ≤ 20) with
 | false => rfl
 | true =>
 simp only [Bool.not_true, cond_false, rfine_eq]
 cases h : fineB t x 0 s st with
 | false => rw [Braking_no h]; rfl
 | true =>
 have hf := fineB_iff.1 h
 rw [Braking_yes hf, Option.bind_some, Option.bind_some, rbraking_m hf.tr hf.f.st hf.f.s hf.p ⟨hf.w.1, by have := hf.w; omega⟩]
 cases (brakS t st x s).2 with
 | false => rfl
 | true => simp
def sightF (ok : Int → Bool) : Nat → Nat
 | 0 => 0
 | n + 1 => if ok ((n + 1 : Nat) : Int) then n + 1 else sightF ok n
theorem sightF_le (ok : Int → Bool) : ∀ n, sightF ok n ≤ n
 | 0 => Nat.le_refl 0
 | n + 1 => by
  unfold sightF
  split
  ·exact Nat.le_refl _
  ·have := sightF_le ok n; omega
theorem sightF_ok (ok : Int → Bool) : ∀ n, sightF ok n = 0 ∨ ok (sightF ok n) = true
 | 0 => .inl rfl
 | n + 1 => by
  unfold sightF
  split
  ·rename_i h; exact .inr h
  ·exact sightF_ok ok n
theorem sightF_no (ok : Int → Bool) : ∀ n j, sightF ok n < j → j ≤ n → ok (j : Int) = false
 | 0, j, h1, h2 => by omega
 | n + 1, j, h1, h2 => by
  unfold sightF at h1
  split at h1
  ·omega
  ·rename_i h
   by_cases e : j = n + 1
   ·subst e
    cases q : ok ((n + 1 : Nat) : Int) with
    | true => exact absurd q h
    | false => rfl
   ·exact sightF_no ok n j h1 (by omega)
def okS (t : Train) (st s dist : Int) (v : Int) : Bool := (brakS t st (v * t.1, 0, ()) s).2 && decide ((brakS t st (v * t.1, 0, ()) s).1 ≤ dist)
theorem vm_bd {t : Train} (ht : TrOk t) {v : Int} (hv : 0 ≤ v ∧ v ≤ 25000) : (0 ≤ v * t.1 ∧ v * t.1 ≤ 25000 * t.1) ∧ w64 (v * t.1) = v * t.1 := by
 have hm := ht.m
 have h1 := Int.mul_nonneg hv.1 (show 0 ≤ t.1 by omega)
 have h2 := Int.mul_le_mul_of_nonneg_right hv.2 (show 0 ≤ t.1 by omega)
 exact ⟨⟨h1, h2⟩, w64_in (by omega) (by omega)⟩
section
variable {t : Train} {st s dist : Int} (ht : TrOk t) (hst : 0 ≤ st ∧ st < t.2.2.2.2.2.2.2.2.2.1.length) (hs : -120 ≤ s ∧ s ≤ 120)
include ht hst hs
theorem sight_loop {ρ : Type} {f : Int → Option (Int ⊕ (Unit ⊕ ρ))} (r : Int → ρ) (hf : ∀ v, 0 < v → v ≤ 25000 → f v = some (if okS t st s dist v then .inr (.inr (r v)) else .inl (v - 1))) (h0 : f 0 = some (.inr (.inl ()))) :
    ∀ n : Nat, n ≤ 25000 → Lp f n (n : Int) (if sightF (okS t st s dist) n = 0 then .inl () else .inr (r (sightF (okS t st s dist) n))) := by
  have _ := ht
  have _ := hst
  have _ := hs
  intro n
  induction n with
  | zero => intro _; exact Lp.done h0
  | succ n ih =>
    intro hn
    have h1 := hf ((n + 1 : Nat) : Int) (by omega) (by omega)
    unfold sightF
    cases hk : okS t st s dist ((n + 1 : Nat) : Int) with
    | true =>
      rw [hk] at h1
      simp only [if_true]
      rw [if_neg (by omega)]
      exact Lp.done h1
    | false =>
      rw [hk] at h1
      simp only [Bool.false_eq_true, if_false]
      refine Lp.step (s' := (n : Int)) ?_ (ih (by omega))
      rw [h1]
      simp only [Bool.false_eq_true, if_false]
      congr 2
      omega
theorem sight_m (hd : 0 ≤ dist ∧ dist ≤ 1000000) : g_motion_Sight t s st dist = some (((sightF (okS t st s dist) t.2.2.1.toNat : Nat) : Int), 0) := by
  have hm := ht.m
  have hsp := ht.sp
  have hf0 : FineS t (0, 0, ()) 0 s st := ⟨ht, by simp only []; omega, by simp only []; omega, ⟨hst, by omega, hs⟩⟩
  unfold g_motion_Sight
  rw [asked_yes hf0, Option.bind_some]
  simp only [Bool.not_true, cond_false, mwithin, Option.bind_some, inB_iff.2 hd]
  have hl := sight_loop (ρ := Int × Int) (dist := dist) ht hst hs (f := fun s15 => cond ((decide (s15 > 0))) (Option.bind (g_motion_mover_braking (t, st, ()) ((((w64 (s15 * t.1)), 0, ()) : MotionState)) s) fun y19 =>
cond (y19.2) (cond ((decide (y19.1 ≤ dist))) (some (.inr ((.inr ((s15, 0)))))) (some (.inl ((w64 (s15 - 1)))))) (some (.inl ((w64 (s15 - 1)))))) (some (.inr ((.inl (())))))) (fun v => (v, 0)) (fun v h1 h2 => by
      obtain ⟨b1, b2⟩ := vm_bd ht (v := v) ⟨by omega, h2⟩
      simp only [decide_eq_true (show v > 0 by omega), cond_true, b2]
      rw [braking_m (x := (v * t.1, 0, ())) ht hst hs b1 (by simp only []; omega), Option.bind_some, w64_in (by omega) (by omega)]
      unfold okS
      cases (brakS t st (v * t.1, 0, ()) s).2
      · rfl
      · cases decide ((brakS t st (v * t.1, 0, ()) s).1 ≤ dist) <;> rfl) rfl t.2.2.1.toNat (by omega)
  rw [Int.toNat_of_nonneg (by omega)] at hl
  rw [hl.big (by simp only [big]; omega), Option.bind_some]
  split
  · rename_i h; rw [h, alt_inl]; rfl
  · rw [alt_inr]
theorem rsight_m : g_ref03_Sight t s st dist = some ((sightF (okS t st s dist) t.2.2.1.toNat : Nat) : Int) := by
  have hm := ht.m
  have hsp := ht.sp
  unfold g_ref03_Sight
  have hl := sight_loop (ρ := Int) (dist := dist) ht hst hs (f := fun s7 => cond ((decide (s7 > 0))) (Option.bind (g_ref03_Braking t ((((w64 (s7 * t.1)), 0, ()) : MotionState)) s st) fun y10 =>
cond (y10.2) (cond ((decide (y10.1 ≤ dist))) (some (.inr ((.inr s7)))) (some (.inl ((w64 (s7 - 1)))))) (some (.inl ((w64 (s7 - 1)))))) (some (.inr ((.inl (())))))) (fun v => v) (fun v h1 h2 => by
      obtain ⟨b1, b2⟩ := vm_bd ht (v := v) ⟨by omega, h2⟩
      simp only [decide_eq_true (show v > 0 by omega), cond_true, b2]
      rw [rbraking_m (x := (v * t.1, 0, ())) ht hst hs b1 (by simp only []; omega), Option.bind_some, w64_in (by omega) (by omega)]
      unfold okS
      cases (brakS t st (v * t.1, 0, ()) s).2
      · rfl
      · simp only [if_true, Bool.true_and, cond_true]
        cases decide ((brakS t st (v * t.1, 0, ()) s).1 ≤ dist) <;> rfl) rfl t.2.2.1.toNat (by omega)
  rw [Int.toNat_of_nonneg (by omega)] at hl
  rw [hl.big (by simp only [big]; omega), Option.bind_some]
  split
  · rename_i h; rw [h, alt_inl]; rfl
  · rw [alt_inr]
end
theorem Sight_no {t : Train} {s st dist : Int} (h : fineB t (0, 0, ()) 0 s st = false ∨ dist < 0 ∨ dist > 1000000) : g_motion_Sight t s st dist = some (0, 2) := by
 unfold g_motion_Sight
 cases hb : fineB t (0, 0, ()) 0 s st with
 | false =>
  obtain ⟨m, hm⟩ := asked_no hb
  rw [hm]; rfl
 | true =>
  rw [asked_yes (fineB_iff.1 hb), Option.bind_some]
  have : inB dist 0 1000000 = false := by
   rw [inB_not]
   rcases h with h | h | h
   ·rw [hb] at h; cases h
   ·exact .inl h
   ·exact .inr h
  simp only [Bool.not_true, cond_false, mwithin, Option.bind_some, this]
  rfl
theorem law_sights (hk : g_law03_known = some true) (t : Train) (s st dist : Int) : g_law03_MotionSights t s st dist = some true := by
 unfold g_law03_MotionSights
 rw [show g_law03_short t = some (decide (lenI t.2.2.2.2.2.2.2.2.2.1 ≤ 20)) from rfl, Option.bind_some, hk]
 cases decide (lenI t.2.2.2.2.2.2.2.2.2.1 ≤ 20) with
 | false => rfl
 | true =>
 cases hc : (decide (t.2.2.1 > 300) && decide (t.2.2.1 ≤ 25000)) with
 | true =>
  rw [Bool.and_eq_true] at hc
  rw [hc.1, hc.2]; rfl
 | false =>
 have e : (cond (decide (t.2.2.1 > 300)) (some (decide (t.2.2.1 ≤ 25000))) (some false) : Option Bool) = some false := by
  rw [Bool.and_eq_false_iff] at hc
  rcases hc with h | h
  ·rw [h]; rfl
  ·rw [h]; cases decide (t.2.2.1 > 300) <;> rfl
 simp only [Bool.not_true, cond_false, e, Option.bind_some, rfine_eq]
 by_cases h : fineB t (0, 0, ()) 0 s st = false ∨ dist < 0 ∨ dist > 1000000
 ·rw [Sight_no h, Option.bind_some]
  have : (cond (!fineB t (0, 0, ()) 0 s st) (some true) (cond (decide (dist < 0)) (some true) (some (decide (dist > 1000000)))) : Option Bool) = some true := by
   cases hb : fineB t (0, 0, ()) 0 s st with
   | false => rfl
   | true =>
    rcases h with h | h | h
    ·rw [hb] at h; cases h
    ·rw [decide_eq_true h]; rfl
    ·rw [decide_eq_true h]; cases decide (dist < 0) <;> rfl
  rw [this]; rfl
 ·have hb : fineB t (0, 0, ()) 0 s st = true := by
   cases q : fineB t (0, 0, ()) 0 s st with
   | true => rfl
   | false => exact absurd (.inl q) h
  have h1 : ¬ dist < 0 := fun q => h (.inr (.inl q))
  have h2 : ¬ dist > 1000000 := fun q => h (.inr (.inr q))
  have hf := fineB_iff.1 hb
  rw [sight_m hf.tr hf.f.st hf.f.s ⟨by omega, by omega⟩, hb, decide_eq_false h1, decide_eq_false h2]
  simp only [Option.bind_some, Bool.not_true, cond_false, rsight_m hf.tr hf.f.st hf.f.s (dist := dist)]
  simp
theorem brakS_zero {t : Train} {st s : Int} : brakS t st (0, 0, ()) s = (0, true) := by
 have e : brk t st (fun _ => s) 36000 (0, 0, ()) = [] := brk_zero rfl _
 unfold brakS
 rw [e]
 simp [lastS]
theorem law_stops (hk : g_law03_known = some true) (t : Train) (s st dist : Int) : g_law03_MotionStops t s st dist = some true := by
 unfold g_law03_MotionStops
 rw [show g_law03_short t = some (decide (lenI t.2.2.2.2.2.2.2.2.2.1 ≤ 20)) from rfl, Option.bind_some, hk]
 cases decide (lenI t.2.2.2.2.2.2.2.2.2.1 ≤ 20) with
 | false => rfl
 | true =>
 rw [show g_law03_quick t = some (decide (t.2.2.1 ≤ 2000)) from rfl, Option.bind_some]
 cases decide (t.2.2.1 ≤ 2000) with
 | false => rfl
 | true =>
 simp only [Bool.not_true, cond_false, rfine_eq, Option.bind_some]
 cases hb : fineB t (0, 0, ()) 0 s st with
 | false => rfl
 | true =>
 by_cases h1 : dist < 0
 ·rw [decide_eq_true h1]; rfl
 by_cases h2 : dist > 1000000
 ·rw [decide_eq_false h1, decide_eq_true h2]; rfl
 rw [decide_eq_false h1, decide_eq_false h2]
 simp only [Bool.not_true, cond_false]
 cases decide (t.2.2.2.2.1 < 100) with
 | true => rfl
 | false =>
 cases decide (s < -30) with
 | true => rfl
 | false =>
 have hf := fineB_iff.1 hb
 have hm := hf.tr.m
 have hsp := hf.tr.sp
 obtain ⟨v, hv⟩ : ∃ v, v = sightF (okS t st s dist) t.2.2.1.toNat := ⟨_, rfl⟩
 have v1 := sightF_le (okS t st s dist) t.2.2.1.toNat
 have v2 := sightF_ok (okS t st s dist) t.2.2.1.toNat
 have v3 := sightF_no (okS t st s dist) t.2.2.1.toNat
 rw [← hv] at v1 v2 v3
 obtain ⟨b1, b2⟩ := vm_bd hf.tr (v := (v : Int)) ⟨by omega, by omega⟩
 have hfv : FineS t ((v : Int) * t.1, 0, ()) 0 s st := ⟨hf.tr, b1, by simp only []; omega, hf.f⟩
 have hok : (brakS t st ((v : Int) * t.1, 0, ()) s).2 = true ∧ (brakS t st ((v : Int) * t.1, 0, ()) s).1 ≤ dist := by
  rcases v2 with q | q
  ·rw [q, show ((0 : Nat) : Int) * t.1 = 0 by omega, brakS_zero]
   exact ⟨rfl, by simp only []; omega⟩
  ·unfold okS at q
   rw [Bool.and_eq_true, decide_eq_true_eq] at q
   exact q
 rw [sight_m hf.tr hf.f.st hf.f.s ⟨by omega, by omega⟩, ← hv]
 simp only [Option.bind_some, cond_false, show ((0 : Int) != 0) = false from rfl]
 rw [decide_eq_false (show ¬ (v : Int) < 0 by omega), decide_eq_false (show ¬ (v : Int) > t.2.2.1 by omega)]
 simp only [Option.bind_some, cond_false]
 rw [b2, Braking_yes hfv, hok.1]
 simp only [Option.bind_some, if_true, show ((0 : Int) != 0) = false from rfl, cond_false]
 rw [decide_eq_false (show ¬ (brakS t st ((v : Int) * t.1, 0, ()) s).1 > dist by omega)]
 simp only [cond_false]
 by_cases he : (v : Int) = t.2.2.1
 ·have : ((v : Int) == t.2.2.1) = true := by simpa using he
  rw [this]; rfl
 ·have : ((v : Int) == t.2.2.1) = false := by simpa using he
  rw [this]
  simp only [cond_false]
  obtain ⟨c1, c2⟩ := vm_bd hf.tr (v := (v : Int) + 1) ⟨by omega, by omega⟩
  have hfw : FineS t (((v : Int) + 1) * t.1, 0, ()) 0 s st := ⟨hf.tr, c1, by simp only []; omega, hf.f⟩
  have hno := v3 (v + 1) (by omega) (by omega)
  rw [w64_in (n := (v : Int) + 1) (by omega) (by omega), c2, Braking_yes hfw]
  unfold okS at hno
  rw [show ((v + 1 : Nat) : Int) = (v : Int) + 1 by omega, Bool.and_eq_false_iff] at hno
  cases hq : (brakS t st (((v : Int) + 1) * t.1, 0, ()) s).2 with
  | false => rfl
  | true =>
   rcases hno with q | q
   ·rw [hq] at q; cases q
   ·have q := of_decide_eq_false q
    simp only [if_true, Option.bind_some]
    rw [decide_eq_true (show (brakS t st (((v : Int) + 1) * t.1, 0, ()) s).1 > dist by omega)]
    rfl
end Go.Ai.Sx

/- Motion: more grip, a steeper way and less speed make no braking way longer; the chapter's examples. -/
namespace Go.Ai.Sx
theorem step_pos {t : Train} {st d s : Int} {x : MotionState} (hp : 0 < x.1) (hm : 0 < t.1) : (stepS t st x d s).1.1.1 = max 0 (qS t st x d s) ∧ (stepS t st x d s).1.1.2.1 = x.2.1 + max 0 (qS t st x d s) ∧ (stepS t st x d s).2 = decide (max 0 (qS t st x d s) ≤ 25000 * t.1) := by
 unfold stepS
 have hx : (x.1 == 0) = false := by rw [beq_eq_false_iff_ne]; omega
 by_cases hq : qS t st x d s < 0
 ·have hs : stayB t st x d s = true := by unfold stayB; rw [decide_eq_true hq]; rfl
  rw [if_pos hs]
  refine ⟨by simp only []; omega, by simp only []; omega, ?_⟩
  rw [decide_eq_true (by omega)]
 ·have hs : ¬ stayB t st x d s = true := by unfold stayB; rw [decide_eq_false hq, hx]; simp
  rw [if_neg hs]
  rw [Int.max_eq_right (by omega)]
  exact ⟨rfl, rfl, rfl⟩
theorem last_ge {t : Train} {st s : Int} (ht : TrOk t) (hst : 0 ≤ st ∧ st < t.2.2.2.2.2.2.2.2.2.1.length) (hs : -120 ≤ s ∧ s ≤ 120) {n : Nat} {x : MotionState} (hx : 0 ≤ x.1 ∧ x.1 ≤ 25000 * t.1) (hw : 0 ≤ x.2.1 ∧ x.2.1 + 2000000000 * n ≤ 4000000000000000000) : x.2.1 ≤ (lastS x (brk t st (fun _ => s) n x)).2.1 := by
 rcases last_mem x (brk t st (fun _ => s) n x) with h | h
 ·rw [h]; exact Int.le_refl _
 ·exact (brk_bd (W := 4000000000000000000) ht hst (by omega) (fun _ _ _ => hs) n x hx hw _ h).2.1
theorem brk_mono {t u : Train} {st su s r : Int} (ht : TrOk t) (hu : TrOk u) (hst : 0 ≤ st ∧ st < t.2.2.2.2.2.2.2.2.2.1.length) (hsu : 0 ≤ su ∧ su < u.2.2.2.2.2.2.2.2.2.1.length) (hs : -120 ≤ s ∧ s ≤ 120) (hr : -120 ≤ r ∧ r ≤ 120) (hm : u.1 = t.1)
    (hF : ∀ v v', netS u su v' (-4) r ≤ netS t st v (-4) s) : ∀ (n : Nat) (x y : MotionState), 0 ≤ x.1 ∧ x.1 ≤ 25000 * t.1 → 0 ≤ y.1 → y.1 ≤ x.1 → 0 ≤ x.2.1 ∧ x.2.1 + 2000000000 * n ≤ 4000000000000000000 → 0 ≤ y.2.1 → y.2.1 ≤ x.2.1 →
      (lastS x (brk t st (fun _ => s) n x)).1 = 0 → (lastS y (brk u su (fun _ => r) n y)).1 = 0 ∧ (lastS y (brk u su (fun _ => r) n y)).2.1 ≤ (lastS x (brk t st (fun _ => s) n x)).2.1
  | 0, x, y, hx, hy0, hy, hwx, hwy0, hwy, h => by
    have h : x.1 = 0 := h
    exact ⟨show y.1 = 0 by omega, hwy⟩
  | n + 1, x, y, hx, hy0, hy, hwx, hwy0, hwy, h => by
    have hmt := ht.m
    have hge := last_ge (n := n + 1) ht hst hs hx hwx
    by_cases y0 : y.1 = 0
    · rw [brk_zero y0]
      exact ⟨y0, Int.le_trans hwy hge⟩
    · have x0 : x.1 ≠ 0 := by omega
      obtain ⟨a1, a2, a3⟩ := step_pos (t := t) (st := st) (d := -4) (s := s) (x := x) (by omega) (by omega)
      obtain ⟨b1, b2, b3⟩ := step_pos (t := u) (st := su) (d := -4) (s := r) (x := y) (by omega) (by omega)
      have hq : qS u su y (-4) r ≤ qS t st x (-4) s := by
        have := hF (x.1 / t.1) (y.1 / u.1)
        unfold qS
        omega
      have ex : brk t st (fun _ => s) (n + 1) x = if (stepS t st x (-4) s).2 = true then (stepS t st x (-4) s).1.1 :: brk t st (fun _ => s) n (stepS t st x (-4) s).1.1 else [] := by rw [brk, if_neg x0]
      have ey : brk u su (fun _ => r) (n + 1) y = if (stepS u su y (-4) r).2 = true then (stepS u su y (-4) r).1.1 :: brk u su (fun _ => r) n (stepS u su y (-4) r).1.1 else [] := by rw [brk, if_neg y0]
      rw [ex] at h ⊢
      rw [ey]
      by_cases hok : (stepS t st x (-4) s).2 = true
      · have hle : max 0 (qS t st x (-4) s) ≤ 25000 * t.1 := by rw [a3] at hok; exact of_decide_eq_true hok
        have hok' : (stepS u su y (-4) r).2 = true := by rw [b3]; exact decide_eq_true (by rw [hm]; omega)
        rw [if_pos hok, lastS_cons] at h ⊢
        rw [if_pos hok', lastS_cons]
        exact brk_mono ht hu hst hsu hs hr hm hF n _ _ (by rw [a1]; omega) (by rw [b1]; omega) (by rw [a1, b1]; omega) (by rw [a2]; omega) (by rw [b2]; omega) (by rw [a2, b2]; omega) h
      · rw [if_neg hok] at h
        exact absurd h x0
theorem brakS_mono {t u : Train} {st su s r : Int} (ht : TrOk t) (hu : TrOk u) (hst : 0 ≤ st ∧ st < t.2.2.2.2.2.2.2.2.2.1.length) (hsu : 0 ≤ su ∧ su < u.2.2.2.2.2.2.2.2.2.1.length) (hs : -120 ≤ s ∧ s ≤ 120) (hr : -120 ≤ r ∧ r ≤ 120) (hm : u.1 = t.1)
    (hF : ∀ v v', netS u su v' (-4) r ≤ netS t st v (-4) s) {p q : Int} (hp : 0 ≤ p ∧ p ≤ 25000 * t.1) (hq : 0 ≤ q ∧ q ≤ p) (h : (brakS t st (p, 0, ()) s).2 = true) : (brakS u su (q, 0, ()) r).2 = true ∧ (brakS u su (q, 0, ()) r).1 ≤ (brakS t st (p, 0, ()) s).1 := by
  have hmt := ht.m
  unfold brakS at h ⊢
  simp only [decide_eq_true_eq] at h ⊢
  obtain ⟨k1, k2⟩ := brk_mono ht hu hst hsu hs hr hm hF 36000 (p, 0, ()) (q, 0, ()) hp hq.1 hq.2 (by simp only []; omega) (by simp only []; omega) (by simp only []; omega) h
  refine ⟨k1, ?_⟩
  unfold placeS
  simp only [Int.zero_ediv, Int.sub_zero]
  rw [hm]
  exact Int.ediv_le_ediv (by omega) k2
theorem tdiv_mono {a b c : Int} (hc : 0 < c) (h : a ≤ b) : a.tdiv c ≤ b.tdiv c := by
 by_cases ha : 0 ≤ a
 ·rw [Int.tdiv_eq_ediv_of_nonneg ha, Int.tdiv_eq_ediv_of_nonneg (by omega)]
  exact Int.ediv_le_ediv hc h
 ·have e : a.tdiv c = -((-a).tdiv c) := by rw [Int.neg_tdiv, Int.neg_neg]
  rw [e, Int.tdiv_eq_ediv_of_nonneg (by omega)]
  have h1 : 0 ≤ (-a) / c := Int.ediv_nonneg (by omega) (by omega)
  by_cases hb : 0 ≤ b
  ·rw [Int.tdiv_eq_ediv_of_nonneg hb]
   have h2 : 0 ≤ b / c := Int.ediv_nonneg hb (by omega)
   omega
  ·have e : b.tdiv c = -((-b).tdiv c) := by rw [Int.neg_tdiv, Int.neg_neg]
   rw [e, Int.tdiv_eq_ediv_of_nonneg (by omega)]
   have := Int.ediv_le_ediv hc (show -b ≤ -a by omega)
   omega
theorem law_grips (hk : g_law03_known = some true) (t : Train) (mom less s steep better : Int) (hle : less ≤ 9223372036854775807) : g_law03_MotionGrips t mom less s steep better = some true := by
 unfold g_law03_MotionGrips
 rw [hk]
 by_cases c1 : lenI t.2.2.2.2.2.2.2.2.2.1 = 1
 case neg =>
  have : (lenI t.2.2.2.2.2.2.2.2.2.1 != 1) = true := by rw [bne_iff_ne]; exact c1
  rw [this]; rfl
 have e1 : (lenI t.2.2.2.2.2.2.2.2.2.1 != 1) = false := by rw [bne_eq_false_iff_eq]; exact c1
 by_cases c2 : less < 0
 ·rw [e1, decide_eq_true c2]; rfl
 by_cases c3 : steep < 0
 ·rw [e1, decide_eq_false c2, decide_eq_true c3]; rfl
 by_cases c4 : better < 0
 ·rw [e1, decide_eq_false c2, decide_eq_false c3, decide_eq_true c4]; rfl
 by_cases c5 : better > 1000
 ·rw [e1, decide_eq_false c2, decide_eq_false c3, decide_eq_false c4, decide_eq_true c5]; rfl
 by_cases c6 : t.2.2.2.2.2.2.2.1 = 0
 case neg =>
  have : (t.2.2.2.2.2.2.2.1 != 0) = true := by rw [bne_iff_ne]; exact c6
  rw [e1, decide_eq_false c2, decide_eq_false c3, decide_eq_false c4, decide_eq_false c5, this]; rfl
 have e6 : (t.2.2.2.2.2.2.2.1 != 0) = false := by rw [bne_eq_false_iff_eq]; exact c6
 by_cases c7 : steep > 240
 ·rw [e1, decide_eq_false c2, decide_eq_false c3, decide_eq_false c4, decide_eq_false c5, e6, decide_eq_true c7]; rfl
 rw [e1, decide_eq_false c2, decide_eq_false c3, decide_eq_false c4, decide_eq_false c5, e6, decide_eq_false c7]
 simp only [cond_false, Option.bind_some]
 rw [lenI_eq] at c1
 rw [idx_getD (d := 0) (by omega) (by omega), Option.bind_some]
 simp only [rfine_eq, Option.bind_some]
 cases hb : fineB t (mom, 0, ()) 0 s 0 with
 | false => rfl
 | true =>
 have hf := fineB_iff.1 hb
 have hs := hf.f.s
 rw [w64_in (n := s + steep) (by omega) (by omega)]
 cases hb2 : fineB t (mom, 0, ()) 0 (s + steep) 0 with
 | false => rfl
 | true =>
 have hf2 := fineB_iff.1 hb2
 have hs2 := hf2.f.s
 have hmt := hf.tr.m
 have hp : 0 ≤ mom ∧ mom ≤ 25000 * t.1 := hf.p
 simp only [Bool.not_true, cond_false, Option.bind_some]
 rw [Braking_yes hf, Option.bind_some]
 cases hq : (brakS t 0 (mom, 0, ()) s).2 with
 | false => rfl
 | true =>
 simp only [if_true, show ((0 : Int) != 0) = false from rfl, cond_false]
 -- the grip
 obtain ⟨g, hg⟩ : ∃ g, g = t.2.2.2.2.2.2.2.2.2.1.getD (0 : Int).toNat 0 := ⟨_, rfl⟩
 have hgb := grip_bd hf.tr (hf.f.v hf.tr hf.so)
 rw [← hg] at hgb ⊢
 rw [w64_in (n := g + better) (by omega) (by omega)]
 obtain ⟨u, hu⟩ : ∃ u : Train, u = (t.1, t.2.1, t.2.2.1, t.2.2.2.1, t.2.2.2.2.1, t.2.2.2.2.2.1, t.2.2.2.2.2.2.1, t.2.2.2.2.2.2.2.1, t.2.2.2.2.2.2.2.2.1, [min 1000 (g + better)], ()) := ⟨_, rfl⟩
 rw [← hu]
 have hut : TrOk u := by
  rw [hu]
  obtain ⟨a1, a2, a3, a4, a5, a6, a7, a8, a9, a10, a11⟩ := hf.tr
  refine ⟨a1, a2, a3, a4, a5, a6, a7, a8, a9, by simp, fun x hx => ?_⟩
  have : x = min 1000 (g + better) := by simpa using hx
  omega
 have hum : u.1 = t.1 := by rw [hu]
 have hug : u.2.2.2.2.2.2.2.2.2.1.length = 1 := by rw [hu]; rfl
 have hfu : FineS u (mom, 0, ()) 0 s 0 := ⟨hut, by rw [hum]; exact hp, by simp only []; omega, ⟨by rw [hug]; omega, by omega, hs⟩⟩
 have hfc : FineS t (max 0 (mom - less), 0, ()) 0 s 0 := ⟨hf.tr, by simp only []; omega, by simp only []; omega, hf.f⟩
 rw [w64_in (n := mom - less) (by omega) (by omega), Braking_yes hfu, Braking_yes hf2, Braking_yes hfc]
 have hdr : ∀ (w : Train) (v : Int), w.2.2.2.2.2.2.2.1 = 0 → dragS w v = w.2.2.2.2.2.2.1 := by
  intro w v h
  unfold dragS
  rw [h, Int.zero_mul, Int.zero_ediv, Int.add_zero]
 have hpu : ∀ (w : Train) (a v : Int), pullS w a v (-4) = 0 := fun w a v => if_pos (by omega)
 -- more grip
 obtain ⟨m1, m2⟩ := brakS_mono hf.tr hut hf.f.st hfu.f.st hs hs hum (fun v v' => by
  unfold netS
  rw [hpu, hpu, hdr t v c6, hdr u v' (by rw [hu]; exact c6)]
  have h1 : brakeS t 0 (-4) ≤ brakeS u 0 (-4) := by
   unfold brakeS
   rw [if_neg (by omega), if_neg (by omega)]
   have hb : u.2.2.2.2.1 = t.2.2.2.2.1 := by rw [hu]
   have ha : adhS t 0 ≤ adhS u 0 := by
    unfold adhS
    rw [← hg, hum]
    have : u.2.2.2.2.2.2.2.2.2.1.getD (0 : Int).toNat 0 = min 1000 (g + better) := by rw [hu]; rfl
    rw [this]
    refine Int.ediv_le_ediv (by omega) ?_
    rw [Int.mul_assoc, Int.mul_assoc]
    exact Int.mul_le_mul_of_nonneg_right (by omega) (by omega)
   rw [hb]
   omega
  have h2 : hillS u s = hillS t s := by unfold hillS; rw [hum]
  have h3 : u.2.2.2.2.2.2.1 = t.2.2.2.2.2.2.1 := by rw [hu]
  omega) hp ⟨hp.1, Int.le_refl _⟩ hq
 -- a steeper way
 obtain ⟨m3, m4⟩ := brakS_mono hf.tr hf.tr hf.f.st hf.f.st hs hs2 rfl (fun v v' => by
  unfold netS
  rw [hpu, hpu, hdr t v c6, hdr t v' c6]
  have h2 : hillS t s ≤ hillS t (s + steep) := by
   unfold hillS
   refine tdiv_mono (by omega) ?_
   have := Int.mul_le_mul_of_nonneg_left (show s ≤ s + steep by omega) (show 0 ≤ t.1 by omega)
   omega
  omega) hp ⟨hp.1, Int.le_refl _⟩ hq
 -- less speed
 obtain ⟨m5, m6⟩ := brakS_mono hf.tr hf.tr hf.f.st hf.f.st hs hs rfl (fun v v' => by
  unfold netS
  rw [hpu, hpu, hdr t v c6, hdr t v' c6]
  omega) (q := max 0 (mom - less)) hp ⟨by omega, by omega⟩ hq
 simp only [m1, m3, m5, if_true, Option.bind_some, beq_self_eq_true, cond_true]
 rw [decide_eq_true m2, decide_eq_true m4, decide_eq_true m6]
 rfl
def tE : Train := (1000, 5000, 10000, 2000, 1000, 1000000, 0, 0, 50, [1000, 10], ())
theorem tE_ok : TrOk tE := trB_iff.1 (by decide +kernel)
theorem kE3 : g_motion_Braking tE (1000000, 0, ()) 0 0 = some (450, 0) := by kernel_rfl
theorem kE4 : g_motion_Braking tE (999000, 0, ()) 0 0 = some (449, 0) := by kernel_rfl
theorem kE : brakS tE 0 (1000000, 0, ()) 0 = (450, true) ∧ (brakS tE 0 (999000, 0, ()) 0).2 = true ∧ (brakS tE 0 (999000, 0, ()) 0).1 ≤ 449 := by
 have ht := tE_ok
 have f1 : FineS tE (1000000, 0, ()) 0 0 0 := ⟨ht, by decide, by decide, ⟨by decide, by decide, by decide⟩⟩
 have f2 : FineS tE (999000, 0, ()) 0 0 0 := ⟨ht, by decide, by decide, ⟨by decide, by decide, by decide⟩⟩
 have h1 := kE3
 have h2 := kE4
 rw [Braking_yes f1] at h1
 rw [Braking_yes f2] at h2
 refine ⟨?_, ?_⟩
 ·split at h1
  ·rename_i h
   simp only [Option.some.injEq, Prod.mk.injEq, and_true] at h1
   exact Prod.ext h1 h
  ·cases h1
 ·split at h2
  ·rename_i h
   simp only [Option.some.injEq, Prod.mk.injEq, and_true] at h2
   exact ⟨h, by omega⟩
  ·cases h2
theorem kE1 : g_motion_Step tE (0, 0, ()) 4 0 0 = some ((200000, 200000, ()), (80000000000, 0, 0, 0, 40000000000, 0, ()), 0) := by kernel_rfl
theorem kE2 : g_motion_Step tE (1000000, 0, ()) 0 100 0 = some ((901900, 901900, ()), (0, 0, 0, 176952780000, 9623610000, 0, ()), 0) := by kernel_rfl
theorem kE6 : g_motion_Drive ([((0, 0, ()), 1, [(0, false, ())], 0, ()), ((100000, 0, ()), 1, [(0, true, ())], 0, ())], [(0, 1, [], 8000, 0, ())], ()) [(0, false, ())] tE 0 [5000, 7000] = some ([(2500, 7000, (2880000000000, 2405000000000, 0, 0, 475000000000, 0, ()), 3200, 725, ())], 0) := by kernel_rfl
theorem kE7 : g_law03_Example = some (tE, ([((0, 0, ()), 1, [(0, false, ())], 0, ()), ((100000, 0, ()), 1, [(0, true, ())], 0, ())], [(0, 1, [], 8000, 0, ())], ())) := by kernel_rfl
theorem kE5 : g_motion_Sight tE 0 0 449 = some (999, 0) := by
 have ht := tE_ok
 have hst : (0 : Int) ≤ 0 ∧ (0 : Int) < tE.2.2.2.2.2.2.2.2.2.1.length := by decide
 rw [sight_m ht hst (by omega) (by omega)]
 have hv : sightF (okS tE 0 0 449) tE.2.2.1.toNat = 999 := by
  obtain ⟨v, hv⟩ : ∃ v, v = sightF (okS tE 0 0 449) tE.2.2.1.toNat := ⟨_, rfl⟩
  have v1 := sightF_le (okS tE 0 0 449) tE.2.2.1.toNat
  have v2 := sightF_ok (okS tE 0 0 449) tE.2.2.1.toNat
  have v3 := sightF_no (okS tE 0 0 449) tE.2.2.1.toNat
  rw [← hv] at v1 v2 v3 ⊢
  have h10 : tE.2.2.1.toNat = 10000 := rfl
  rw [h10] at v1 v3
  obtain ⟨q1, q2, q3⟩ := kE
  by_cases hlt : v < 999
  ·have := v3 999 hlt (by omega)
   unfold okS at this
   rw [show ((999 : Nat) : Int) * tE.1 = 999000 from rfl, q2, decide_eq_true q3] at this
   cases this
  ·by_cases hgt : 999 < v
   ·exfalso
    rcases v2 with q | q
    ·omega
    ·unfold okS at q
     rw [Bool.and_eq_true, decide_eq_true_eq] at q
     obtain ⟨b1, b2⟩ := vm_bd ht (v := (v : Int)) ⟨by omega, by omega⟩
     obtain ⟨m1, m2⟩ := brakS_mono ht ht hst hst (s := 0) (r := 0) (by omega) (by omega) rfl (fun a b => by
      unfold netS dragS
      rw [show pullS tE 0 a (-4) = 0 from if_pos (by omega), show pullS tE 0 b (-4) = 0 from if_pos (by omega), show tE.2.2.2.2.2.2.2.1 = 0 from rfl, Int.zero_mul, Int.zero_mul]
      exact Int.le_refl _) (p := (v : Int) * tE.1) (q := 1000000) b1 ⟨by omega, by
       have : tE.1 = 1000 := rfl
       rw [this]; omega⟩ q.1
     rw [q1] at m2
     have : (450 : Int) ≤ (brakS tE 0 ((v : Int) * tE.1, 0, ()) 0).1 := m2
     omega
   ·omega
 rw [hv]; rfl
theorem known3 : g_law03_known = some true := by
 unfold g_law03_known
 rw [kE7, Option.bind_some]
 simp only []
 rw [kE1, Option.bind_some, kE2, Option.bind_some, kE3, Option.bind_some, kE5, Option.bind_some, kE6, Option.bind_some]
 rfl
end Go.Ai.Sx
