/- The duties: the followers are the reference's. -/
import Derived.Test.YtdhenjdmpacklaaM9
namespace Go.Ai.Sx
section
variable {n : Nat}
structure FR (n : Nat) (M : Int) (F : List Int) (a : Int) (s' : Int × Int × List Int × List Bool) : Prop where
 l : (F.length : Int) = a
 a' : s'.2.1 = a
 hi : a ≤ n
 rng : ∀ x ∈ F, 0 ≤ x ∧ x ≤ n
 need : s'.1 = M - cntR n F
 ol : s'.2.2.1.length = n
 o : ∀ i : Nat, (i : Int) < a → s'.2.2.1.getD i 0 = F.getD i 0
 us : Usd n F s'.2.2.2
theorem usd_pushn {F : List Int} {used : List Bool} (h : Usd n F used) : Usd n (F ++ [(n : Int)]) used := by
 refine ⟨h.l, fun x hx => ?_⟩
 rw [List.mem_append, List.mem_singleton, ← h.u x hx]
 unfold InR at hx
 constructor
 ·exact .inl
 ·rintro (q | q)
  ·exact q
  ·omega
theorem cntR_pushn {F : List Int} : cntR n (F ++ [(n : Int)]) = cntR n F := by
 unfold cntR; rw [List.countP_append]; simp
theorem getD_set_nat {l : List Int} {i : Nat} {v d : Int} {j : Nat} (hi : i < l.length) : (l.set i v).getD j d = if i = j then v else l.getD j d := by
 simp only [List.getD, List.getElem?_set]
 by_cases e : i = j
 ·subst e; simp [hi]
 ·simp [e]
theorem FR.none {M : Int} {F : List Int} {a need : Int} {out : List Int} {used : List Bool} (h : FR n M F a (need, a, out, used)) (ha : a < n) : FR n M (F ++ [(n : Int)]) (a + 1) (need, a + 1, out.set a.toNat n, used) := by
 have hl := h.l
 have hol := h.ol
 have hne := h.need
 simp only [] at hol hne
 refine ⟨by simp; omega, rfl, by omega, fun x hx => ?_, by simp only []; rw [cntR_pushn]; exact hne, by simp only [List.length_set]; exact hol, fun i hi => ?_, usd_pushn h.us⟩
 ·rcases List.mem_append.1 hx with hx | hx
  ·exact h.rng x hx
  ·rw [List.mem_singleton.1 hx]; omega
 ·simp only []
  rw [getD_set_nat (by omega)]
  split
  ·rename_i e
   rw [show i = F.length by omega, getD_app_1]
  ·rename_i e
   rw [getD_app_l (by omega)]
   exact h.o i (by omega)
end
end Go.Ai.Sx

/- The duties: what is reached is the least that is closed; the reference's rounds come to the same. -/
namespace Go.Ai.Sx
section
variable {n : Nat} {g : Int → Int → Bool} {F mt : List Int}
structure Clo (n : Nat) (g : Int → Int → Bool) (F : List Int) (S T : Int → Prop) : Prop where
 a : ∀ x, InR n x → fx F x = n → S x
 b : ∀ x y, InR n x → InR n y → S x → g x y = true → T y
 c : ∀ x y, InR n x → InR n y → fx F x = y → T y → S x
structure In2 (n : Nat) (S T : Int → Prop) (L R : List Bool) : Prop where
 ll : L.length = n
 lr : R.length = n
 l : ∀ x, InR n x → sb L x = true → S x
 r : ∀ x, InR n x → sb R x = true → T x
end
end Go.Ai.Sx

/- The duties: the rounds of the reference's proof. -/
namespace Go.Ai.Sx
section
variable {n : Nat} {g : Int → Int → Bool} {F : List Int}
def cntS (n : Nat) (S : List Bool) : Nat := ((List.range n).filter fun i => S.getD i false).length
structure Rnd (n : Nat) (g : Int → Int → Bool) (F : List Int) (S T : Int → Prop) (again : Int) (f s : List Bool) : Prop where
 i : In2 n S T f s
 im : ∀ x y, InR n x → InR n y → sb f x = true → g x y = true → sb s y = true
 c : Clo n g F (fun x => sb f x = true) (fun x => sb s x = true) ∨ again ≤ cntS n f
end
end Go.Ai.Sx

/- The duties: the plan of cars and its proof are the reference's. -/
namespace Go.Ai.Sx
section
variable {n : Nat} {F : List Int}
end
end Go.Ai.Sx

/- The duties: which pieces and pairs keep the rules; which tasks are covered; and the law. -/
namespace Go.Ai.Sx
section
variable (t : List Task) (y : Yard) (p : List (List Int)) (r : WorkRules)
def F1 (a : DutyPiece) : List Int := fl (lngB t p r a) (relB t y p a) false false (spnB t p r a a) (decide (r.2.2.2.2.1 + r.2.2.2.2.2.1 + lasI t p a > r.2.2.1))
def F2 (a b : DutyPiece) : List Int := fl (lngB t p r a || lngB t p r b) (relB t y p a || relB t y p b) (ordB t y p a b) (!ordB t y p a b && brkB t y p r a b) (spnB t p r a b) (decide (r.2.2.2.2.1 + r.2.2.2.2.2.1 + lasI t p a + lasI t p b > r.2.2.1))
def ok1 (a : DutyPiece) : Bool := lenI (F1 t y p r a) == 0
def ok2 (a b : DutyPiece) : Bool := lenI (F2 t y p r a b) == 0
end
section
variable {t : List Task} {y : Yard} {p : List (List Int)} {r : WorkRules} {a b : DutyPiece}
theorem ref_one (hf : fine t y = true) (hr : rulesB r = true) (ha : PieceI t p a) : g_ref08_Faults t y p r ([a], ()) = some (F1 t y p r a) := faults_ref1 hf hr rfl ha
theorem ref_two (hf : fine t y = true) (hr : rulesB r = true) (ha : PieceI t p a) (hb : PieceI t p b) : g_ref08_Faults t y p r ([a, b], ()) = some (F2 t y p r a b) := faults_ref2 hf hr rfl ha hb
theorem prog_one (hf : fine t y = true) (hr : rulesB r = true) (ha : PieceI t p a) : g_duty_crew_faults ((t, y, ()), p, r, ()) ([a], ()) = some (F1 t y p r a) := by
 obtain ⟨l, h1, h2, _⟩ := faults_eq (p := p) (d := ([a], ())) hf hr ⟨by simp, by simp⟩ (fun x hx => by rw [List.mem_singleton.1 hx]; exact ha)
 rw [ref_one hf hr ha] at h2
 cases h2
 exact h1
theorem prog_two (hf : fine t y = true) (hr : rulesB r = true) (ha : PieceI t p a) (hb : PieceI t p b) : g_duty_crew_faults ((t, y, ()), p, r, ()) ([a, b], ()) = some (F2 t y p r a b) := by
 obtain ⟨l, h1, h2, _⟩ := faults_eq (p := p) (d := ([a, b], ())) hf hr ⟨by simp, by simp⟩ (fun x hx => by
  rcases List.mem_cons.1 hx with rfl | hx
  ·exact ha
  ·rw [List.mem_singleton.1 hx]; exact hb)
 rw [ref_two hf hr ha hb] at h2
 cases h2
 exact h1
end
theorem pc_ref {p : List (List Int)} (hp : p.length ≤ 80) (hrow : ∀ r ∈ p, r.length ≤ 80) :
    iter (σ := ((List DutyPiece) × Int)) (τ := ((List DutyPiece))) (fun s62 =>
cond ((decide (s62.2 < (lenI p)))) (Option.bind (iter (σ := ((List DutyPiece) × Int)) (τ := ((List DutyPiece))) (fun s92 =>
Option.bind (idx p s62.2) fun x97 =>
cond ((decide (s92.2 < (lenI x97)))) (Option.bind (iter (σ := ((List DutyPiece) × Int)) (τ := ((List DutyPiece))) (fun s105 =>
Option.bind (idx p s62.2) fun x110 =>
cond ((decide (s105.2 < (lenI x110)))) (Option.bind (appO 24 s105.1 ([((s62.2, s92.2, s105.2, ()) : DutyPiece)])) fun x112 =>
some (.inl ((x112, (w64 (s105.2 + 1)))))) (some (.inr s105.1))) big ((s92.1, s92.2))) fun t116 =>
some (.inl ((t116, (w64 (s92.2 + 1)))))) (some (.inr s92.1))) big ((s62.1, 0))) fun t121 =>
some (.inl ((t121, (w64 (s62.2 + 1)))))) (some (.inr s62.1))) big (([], 0)) = some (pcs p) := by
 rw [iter_fold (s0 := (([] : List DutyPiece), (0 : Int))) (fun k c => (c, (k : Int))) (fun k c => c ++ pcC k (p.getD k []).length) p.length (fun k c => c.length ≤ k * 6400) [] id rfl (by simp only [big]; omega) (by simp)]
 ·simp only [id]
  rw [fold_app (fun k => pcC k (p.getD k []).length)]
  rfl
 ·intro k c hk hc
  have hw : w64 ((k : Int) + 1) = ((k + 1 : Nat) : Int) := by rw [w64_in (by omega) (by omega)]; omega
  have hl := hrow _ (getD_memx (d := []) hk)
  have hl2 := pcC_len (i := k) hl
  refine ⟨?_, by rw [List.length_append]; omega⟩
  simp only [decide_eq_true (show (k : Int) < lenI p by rw [lenI_eq]; omega), cond_true, idx_natD [] hk, Option.bind_some]
  rw [pc_car hl (by omega), Option.bind_some, hw]
 ·intro c _
  simp only [decide_eq_false (show ¬ (p.length : Int) < lenI p by rw [lenI_eq]; omega), cond_false, id]
def two1 (P : List DutyPiece) (ok : DutyPiece → DutyPiece → Bool) (a : DutyPiece) (k : Nat) : List Duty := if ok a (P.getD k P0) then [([a, P.getD k P0], ())] else []
def lawf (P : List DutyPiece) (o1 : DutyPiece → Bool) (o2 : DutyPiece → DutyPiece → Bool) : List Duty :=
 (List.range P.length).flatMap fun i => (if o1 (P.getD i P0) then [([P.getD i P0], ())] else []) ++ (List.range P.length).flatMap (two1 P o2 (P.getD i P0))
theorem two1_len (P : List DutyPiece) (ok : DutyPiece → DutyPiece → Bool) (a : DutyPiece) (k : Nat) : (two1 P ok a k).length ≤ 1 := by
 unfold two1; split <;> simp
theorem mem_lawf {P : List DutyPiece} {o1 : DutyPiece → Bool} {o2 : DutyPiece → DutyPiece → Bool} {d : Duty} : d ∈ lawf P o1 o2 ↔ (∃ a ∈ P, o1 a = true ∧ d = ([a], ())) ∨ ∃ a ∈ P, ∃ b ∈ P, o2 a b = true ∧ d = ([a, b], ()) := by
 unfold lawf two1
 simp only [List.mem_flatMap, List.mem_range, List.mem_append]
 constructor
 ·rintro ⟨i, hi, h | ⟨k, hk, h⟩⟩
  ·split at h
   ·rename_i ho
    exact .inl ⟨_, getD_memx hi, ho, List.mem_singleton.1 h⟩
   ·cases h
  ·split at h
   ·rename_i ho
    exact .inr ⟨_, getD_memx hi, _, getD_memx hk, ho, List.mem_singleton.1 h⟩
   ·cases h
 ·rintro (⟨a, ha, ho, rfl⟩ | ⟨a, ha, b, hb, ho, rfl⟩)
  ·obtain ⟨i, hi, rfl⟩ := List.getElem_of_mem ha
   refine ⟨i, hi, .inl ?_⟩
   rw [getD_get hi, if_pos ho]; simp
  ·obtain ⟨i, hi, rfl⟩ := List.getElem_of_mem ha
   obtain ⟨k, hk, rfl⟩ := List.getElem_of_mem hb
   refine ⟨i, hi, .inr ⟨k, hk, ?_⟩⟩
   rw [getD_get hi, getD_get hk, if_pos ho]; simp
section
variable {t : List Task} {y : Yard} {p : List (List Int)} {r : WorkRules}
theorem law_two (hf : fine t y = true) (hr : rulesB r = true) {P : List DutyPiece} (hP : ∀ x ∈ P, PieceI t p x) (hl : P.length ≤ 512000) {i : Nat} (hi : i < P.length) {s0 : List Duty} (hs : s0.length ≤ i * 512001 + 1) :
    iter (σ := ((List Duty) × Int)) (τ := ((List Duty))) (fun s321 =>
cond ((decide (s321.2 < (lenI P)))) (Option.bind (idx P (i : Int)) fun x327 =>
Option.bind (idx P s321.2) fun x328 =>
Option.bind (g_ref08_Faults t y p r ((([x327, x328], ()) : Duty))) fun y331 =>
cond (((lenI y331) == 0)) (Option.bind (appO 24 s321.1 ([(([x327, x328], ()) : Duty)])) fun x335 =>
some (.inl ((x335, (w64 (s321.2 + 1)))))) (some (.inl ((s321.1, (w64 (s321.2 + 1))))))) (some (.inr s321.1))) big ((s0, 0)) = some (s0 ++ (List.range P.length).flatMap (two1 P (ok2 t y p r) (P.getD i P0))) := by
 rw [iter_fold (s0 := (s0, (0 : Int))) (fun k c => (c, (k : Int))) (fun k c => c ++ two1 P (ok2 t y p r) (P.getD i P0) k) P.length (fun k c => c.length ≤ i * 512001 + 1 + k) s0 id rfl (by simp only [big]; omega) (by omega)]
 ·simp only [id]
  rw [fold_app (two1 P (ok2 t y p r) (P.getD i P0))]
 ·intro k c hk hc
  have hw : w64 ((k : Int) + 1) = ((k + 1 : Nat) : Int) := by rw [w64_in (by omega) (by omega)]; omega
  have hi2 : i * 512001 ≤ 512000 * 512001 := Nat.mul_le_mul_right _ (by omega)
  have hl2 := two1_len P (ok2 t y p r) (P.getD i P0) k
  refine ⟨?_, by rw [List.length_append]; omega⟩
  simp only [decide_eq_true (show (k : Int) < lenI P by rw [lenI_eq]; omega), cond_true, idx_natD P0 hi, idx_natD P0 hk, Option.bind_some, ref_two hf hr (hP _ (getD_memx hi)) (hP _ (getD_memx hk)), hw]
  have hb : (lenI (F2 t y p r (P.getD i P0) (P.getD k P0)) == 0) = ok2 t y p r (P.getD i P0) (P.getD k P0) := rfl
  rw [hb]
  unfold two1
  cases ok2 t y p r (P.getD i P0) (P.getD k P0) with
  | true =>
   rw [cond_true, appO_some (by simp only [List.length_singleton]; omega)]
   rfl
  | false => simp
 ·intro c _
  simp only [decide_eq_false (show ¬ (P.length : Int) < lenI P by rw [lenI_eq]; omega), cond_false, id]
theorem lawful_eq (hf : fine t y = true) (hr : rulesB r = true) (hS : PlanS t y p) (hp : p.length ≤ 80) (hrow : ∀ r ∈ p, r.length ≤ 80) : g_ref08_Lawful t y p r = some (lawf (pcs p) (ok1 t y p r) (ok2 t y p r)) := by
 have hPI : ∀ x ∈ pcs p, PieceI t p x := fun x hx => (mem_pcOk hS hx).i
 have hl := pcs_len hp hrow
 unfold g_ref08_Lawful
 rw [pc_ref hp hrow]
 rw [Option.bind_some]
 generalize pcs p = P at *
 rw [iter_fold (s0 := (([] : List Duty), (0 : Int))) (fun k c => (c, (k : Int))) (fun i c => c ++ ((if ok1 t y p r (P.getD i P0) then [([P.getD i P0], ())] else []) ++ (List.range P.length).flatMap (two1 P (ok2 t y p r) (P.getD i P0)))) P.length (fun k c => c.length ≤ k * 512001) [] id rfl (by simp only [big]; omega) (by simp)]
 ·simp only [id]
  rw [fold_app (fun i => (if ok1 t y p r (P.getD i P0) then [(([P.getD i P0], ()) : Duty)] else []) ++ (List.range P.length).flatMap (two1 P (ok2 t y p r) (P.getD i P0)))]
  rfl
 ·intro k c hk hc
  have hw : w64 ((k : Int) + 1) = ((k + 1 : Nat) : Int) := by rw [w64_in (by omega) (by omega)]; omega
  have hi2 : k * 512001 ≤ 512000 * 512001 := Nat.mul_le_mul_right _ (by omega)
  have hfl := flat_len (g := two1 P (ok2 t y p r) (P.getD k P0)) (N := P.length) (B := 1) (fun j _ => two1_len P _ _ j)
  have hsl : slO P (k : Int) ((k + 1 : Nat) : Int) = some [P.getD k P0] := by
   rw [slO_some (by omega), Int.toNat_natCast, Int.toNat_natCast, List.take_add_one, List.drop_append_of_le_length (by rw [List.length_take]; omega), List.drop_eq_nil_of_le (by rw [List.length_take]; omega), List.getElem?_eq_getElem hk, getD_get hk]
   rfl
  refine ⟨?_, ?_⟩
  ·simp only [decide_eq_true (show (k : Int) < lenI P by rw [lenI_eq]; omega), cond_true, hw, hsl, Option.bind_some, ref_one hf hr (hPI _ (getD_memx hk))]
   have hb : (lenI (F1 t y p r (P.getD k P0)) == 0) = ok1 t y p r (P.getD k P0) := rfl
   rw [hb]
   cases ok1 t y p r (P.getD k P0) with
   | true =>
    rw [cond_true, appO_some (by simp only [List.length_singleton]; omega), Option.bind_some, law_two hf hr hPI hl hk (by rw [List.length_append, List.length_singleton]; omega), Option.bind_some, if_pos rfl, List.append_assoc]
   | false =>
    rw [cond_false, law_two hf hr hPI hl hk (s0 := c) (Nat.le_trans hc (Nat.le_succ _)), Option.bind_some, if_neg (by simp), List.nil_append]
  ·rw [List.length_append, List.length_append]
   have : (if ok1 t y p r (P.getD k P0) = true then [(([P.getD k P0], ()) : Duty)] else []).length ≤ 1 := by split <;> simp
   omega
 ·intro c _
  simp only [decide_eq_false (show ¬ (P.length : Int) < lenI P by rw [lenI_eq]; omega), cond_false, id]
end
end Go.Ai.Sx

/- The duties: the tasks that cannot be covered; and the law. -/
namespace Go.Ai.Sx
theorem fold_list {X σ : Type} (F : σ → X → σ) (d : X) (xs : List X) (c : σ) : (List.range xs.length).foldl (fun c i => F c (xs.getD i d)) c = xs.foldl F c := by
 have e : xs = (List.range xs.length).map fun i => xs.getD i d := by
  apply List.ext_getElem (by simp)
  intro i h1 h2
  rw [List.getElem_map, List.getElem_range, getD_get h1]
 conv => rhs; rw [e, List.foldl_map]
def tsk (p : List (List Int)) (q : DutyPiece) : List Int := ((p.getD q.1.toNat []).take (q.2.2.1 + 1).toNat).drop q.2.1.toNat
section
variable {n : Nat} {t : List Task} {y : Yard} {p : List (List Int)} {r : WorkRules} {q : DutyPiece}
theorem tsk_len (h : PcOk t y p q) : (tsk p q).length = (q.2.2.1 + 1 - q.2.1).toNat := by
 have h1 := h.le
 have h2 := h.i.to
 have h3 := h.i.fr
 unfold tsk
 rw [List.length_drop, List.length_take]
 omega
theorem tsk_get (h : PcOk t y p q) {k : Nat} (hk : k < (tsk p q).length) : (tsk p q).getD k 0 = (p.getD q.1.toNat []).getD (q.2.1.toNat + k) 0 := by
 have h0 := tsk_len h
 have h1 := h.le
 have h2 := h.i.to
 have h3 := h.i.fr
 unfold tsk List.getD
 rw [List.getElem?_drop, List.getElem?_take, if_pos (by omega)]
theorem tsk_rng (h : PcOk t y p q) {x : Int} (hx : x ∈ tsk p q) : InR t.length x := h.rng x (List.mem_of_mem_take (List.mem_of_mem_drop hx))
end
end Go.Ai.Sx

/- The duties: the tasks of a duty as bits; how long it lasts; in both. -/
namespace Go.Ai.Sx
def mask (s : Nat) (xs : List Int) : Nat := xs.foldl (fun s x => s ||| 2 ^ x.toNat) s
def Sm (xs : List Int) : Prop := ∀ x ∈ xs, InR 62 x
theorem mask_bit {xs : List Int} (h : Sm xs) (s i : Nat) : (mask s xs).testBit i = (s.testBit i || decide ((i : Int) ∈ xs)) := by
 induction xs generalizing s with
 | nil => simp [mask]
 | cons x xs ih =>
  have hx := h x List.mem_cons_self
  unfold InR at hx
  show (mask (s ||| 2 ^ x.toNat) xs).testBit i = _
  rw [ih (fun z hz => h z (List.mem_cons_of_mem _ hz)), Nat.testBit_or, Nat.testBit_two_pow]
  have e : decide (x.toNat = i) = decide ((i : Int) = x) := by
   by_cases q : x.toNat = i
   ·rw [decide_eq_true q, decide_eq_true (by omega)]
   ·rw [decide_eq_false q, decide_eq_false (by omega)]
  rw [e, Bool.or_assoc]
  congr 1
  by_cases q : (i : Int) = x
  ·simp [q]
  ·simp [q]
theorem mask_lt {xs : List Int} (h : Sm xs) {s : Nat} (hs : s < 4611686018427387904) : mask s xs < 4611686018427387904 := by
 induction xs generalizing s with
 | nil => exact hs
 | cons x xs ih =>
  have hx := h x List.mem_cons_self
  unfold InR at hx
  exact ih (fun z hz => h z (List.mem_cons_of_mem _ hz)) (or_lt hs (pow_lt (by omega)))
theorem mask_or {xs : List Int} (h : Sm xs) (s : Nat) : mask s xs = s ||| mask 0 xs := by
 apply Nat.eq_of_testBit_eq
 intro i
 rw [mask_bit h, Nat.testBit_or, mask_bit h, Nat.zero_testBit, Bool.false_or]
def setF : Nat → List Int → Option Nat
 | s, [] => some s
 | s, x :: xs => if s.testBit x.toNat then none else setF (s ||| 2 ^ x.toNat) xs
theorem setF_cons (s : Nat) (x : Int) (xs : List Int) : setF s (x :: xs) = if s.testBit x.toNat then none else setF (s ||| 2 ^ x.toNat) xs := rfl
theorem setF_app (s : Nat) (xs ys : List Int) : setF s (xs ++ ys) = (setF s xs).bind fun s => setF s ys := by
 induction xs generalizing s with
 | nil => rfl
 | cons x xs ih =>
  rw [List.cons_append, setF_cons, setF_cons]
  split
  ·rfl
  ·exact ih _
theorem setF_eq {xs : List Int} (h : Sm xs) (hnd : xs.Nodup) (s : Nat) : setF s xs = if s &&& mask 0 xs = 0 then some (s ||| mask 0 xs) else none := by
 induction xs generalizing s with
 | nil => simp [setF, mask]
 | cons x xs ih =>
  have hx := h x List.mem_cons_self
  unfold InR at hx
  have h2 : Sm xs := fun z hz => h z (List.mem_cons_of_mem _ hz)
  rw [List.nodup_cons] at hnd
  unfold setF
  have hm : mask 0 (x :: xs) = 2 ^ x.toNat ||| mask 0 xs := by
   show mask (0 ||| 2 ^ x.toNat) xs = _
   rw [mask_or h2, Nat.zero_or]
  cases hb : s.testBit x.toNat with
  | true =>
   rw [if_pos rfl, if_neg]
   intro q
   rw [and_zero] at q
   exact q x.toNat hb (by rw [hm, Nat.testBit_or, Nat.testBit_two_pow]; simp)
  | false =>
   rw [if_neg (by simp), ih h2 hnd.2, hm]
   have e : ((s ||| 2 ^ x.toNat) &&& mask 0 xs = 0) ↔ (s &&& (2 ^ x.toNat ||| mask 0 xs) = 0) := by
    rw [and_zero, and_zero]
    constructor
    ·intro q i h3 h4
     rw [Nat.testBit_or, Bool.or_eq_true] at h4
     rcases h4 with h4 | h4
     ·rw [Nat.testBit_two_pow, decide_eq_true_eq] at h4
      rw [← h4, hb] at h3
      cases h3
     ·exact q i (by rw [Nat.testBit_or, h3]; rfl) h4
    ·intro q i h3 h4
     rw [Nat.testBit_or, Bool.or_eq_true] at h3
     rcases h3 with h3 | h3
     ·exact q i h3 (by rw [Nat.testBit_or, h4, Bool.or_true])
     ·rw [Nat.testBit_two_pow, decide_eq_true_eq] at h3
      rw [mask_bit h2, Nat.zero_testBit, Bool.false_or, decide_eq_true_eq, ← h3, Int.toNat_of_nonneg hx.1] at h4
      exact hnd.1 h4
   by_cases q : (s ||| 2 ^ x.toNat) &&& mask 0 xs = 0
   ·rw [if_pos q, if_pos (e.1 q), Nat.or_assoc]
   ·rw [if_neg q, if_neg fun z => q (e.2 z)]
section
variable {t : List Task} {y : Yard} {p : List (List Int)} {r : WorkRules} {q : DutyPiece}
theorem tsk_sm (h : PcOk t y p q) (ht : t.length ≤ 62) : Sm (tsk p q) := fun x hx => by
 have := tsk_rng h hx
 unfold InR at this ⊢
 omega
def pM (p : List (List Int)) (q : DutyPiece) : Nat := mask 0 (tsk p q)
theorem pM_lt (h : PcOk t y p q) (ht : t.length ≤ 62) : pM p q < 4611686018427387904 := mask_lt (tsk_sm h ht) (by decide)
theorem mask_loop {xs : List Int} (hx : Sm xs) (hl : xs.length < 1000) :
    iter (σ := (Int × Int)) (τ := (Int)) (fun s6 =>
cond ((decide (s6.2 < (lenI xs)))) (Option.bind (idx xs s6.2) fun x9 =>
Option.bind (shlO .u64 1 x9) fun x10 =>
some (.inl (((bOr .u64 s6.1 x10), (w64 (s6.2 + 1)))))) (some (.inr s6.1))) big ((0, 0)) = some ((mask 0 xs : Nat) : Int) := by
 rw [iter_fold (s0 := ((0 : Int), (0 : Int))) (fun k (c : Nat) => ((c : Int), (k : Int))) (fun k c => c ||| 2 ^ (xs.getD k 0).toNat) xs.length (fun _ c => c < 4611686018427387904) 0 (fun c => (c : Int)) rfl (by simp only [big]; omega) (by decide)]
 ·rw [fold_list (fun (c : Nat) (x : Int) => c ||| 2 ^ x.toNat) 0 xs 0]
  rfl
 ·intro k c hk hc
  have hw : w64 ((k : Int) + 1) = ((k + 1 : Nat) : Int) := by rw [w64_in (by omega) (by omega)]; omega
  have hm := hx _ (getD_memx (d := (0 : Int)) hk)
  unfold InR at hm
  have hp := pow_lt (x := (xs.getD k 0).toNat) (by omega)
  refine ⟨?_, or_lt hc hp⟩
  simp only [decide_eq_true (show (k : Int) < lenI xs by rw [lenI_eq]; omega), cond_true, idx_natD 0 hk, Option.bind_some, hw]
  have hs := shl_u (x := (xs.getD k 0).toNat) (by omega)
  rw [Int.toNat_of_nonneg hm.1] at hs
  rw [hs, Option.bind_some, bOr_u hc hp]
 ·intro c _
  simp only [decide_eq_false (show ¬ (xs.length : Int) < lenI xs by rw [lenI_eq]; omega), cond_false]
theorem opt1_eq (h : PcOk t y p q) (ht : t.length ≤ 62) (hrow : ∀ r ∈ p, r.length ≤ 80) : g_duty_crew_options_1 q ((t, y, ()), p, r, ()) = some ((pM p q : Nat) : Int) := by
 have h1 := h.le
 have h2 := h.i.to
 have h3 := h.i.fr
 have h4 := h.i.car
 have h5 := hrow _ (getD_memx (l := p) (i := q.1.toNat) (d := ([] : List Int)) (by omega))
 have hw2 : w64 (q.2.2.1 + 1) = q.2.2.1 + 1 := w64_in (by omega) (by omega)
 have hsl : slO (p.getD q.1.toNat []) q.2.1 (q.2.2.1 + 1) = some (tsk p q) := slO_some (by omega)
 have h0 := tsk_len h
 unfold g_duty_crew_options_1
 simp only [idx_getD (l := p) (d := ([] : List Int)) h4.1 h4.2, Option.bind_some, hw2, hsl]
 rw [mask_loop (tsk_sm h ht) (by omega)]
 rfl
def setQ (v : Option Nat) : Int ⊕ (Int × Bool) := match v with | some s => .inl (s : Int) | none => .inr (0, false)
theorem set_row (h : PcOk t y p q) (ht : t.length ≤ 62) (hrow : ∀ r ∈ p, r.length ≤ 80) {s : Nat} (hs : s < 4611686018427387904) :
    iter (σ := (Int × Int)) (τ := (Int) ⊕ (Int × Bool)) (fun s41 =>
cond ((decide (s41.2 ≤ q.2.2.1))) (Option.bind (idx p q.1) fun x44 =>
Option.bind (idx x44 s41.2) fun x45 =>
Option.bind (shrO .i64 s41.1 x45) fun x46 =>
cond (((bAnd .i64 x46 1) == 1)) (some (.inr ((.inr ((0, false)))))) (Option.bind (idx p q.1) fun x48 =>
Option.bind (idx x48 s41.2) fun x49 =>
Option.bind (shlO .i64 1 x49) fun x50 =>
some (.inl (((bOr .i64 s41.1 x50), (w64 (s41.2 + 1))))))) (some (.inr ((.inl s41.1))))) big (((s : Int), q.2.1)) = some (setQ (setF s (tsk p q))) := by
 have h0 := tsk_len h
 have h1 := h.le
 have h2 := h.i.to
 have h3 := h.i.fr
 have h4 := h.i.car
 have h5 := hrow _ (getD_memx (l := p) (i := q.1.toNat) (d := ([] : List Int)) (by omega))
 apply Tot.eq
 refine Tot.iter (fun v : Int × Int => ∃ (k : Nat) (c : Nat), v = ((c : Int), q.2.1 + k) ∧ k ≤ (tsk p q).length ∧ c < 4611686018427387904 ∧ setF s (tsk p q) = setF c ((tsk p q).drop k)) _ (fun v => (q.2.2.1 + 1 - v.2).toNat) ⟨0, s, by simp, by omega, hs, rfl⟩ (by simp only [big]; omega) ?_
 rintro _ ⟨k, c, rfl, hk, hc, he⟩
 simp only []
 by_cases hkl : k < (tsk p q).length
 ·have hm := tsk_rng h (getD_memx (d := (0 : Int)) hkl)
  unfold InR at hm
  have hx : idx (p.getD q.1.toNat []) (q.2.1 + k) = some ((tsk p q).getD k 0) := by
   rw [tsk_get h hkl, show q.2.1 + (k : Int) = ((q.2.1.toNat + k : Nat) : Int) by omega]
   exact idx_natD 0 (by omega)
  have hdr : (tsk p q).drop k = (tsk p q).getD k 0 :: (tsk p q).drop (k + 1) := by
   rw [getD_get hkl]; exact List.drop_eq_getElem_cons hkl
  have hw : w64 (q.2.1 + (k : Int) + 1) = q.2.1 + ((k + 1 : Nat) : Int) := by rw [w64_in (by omega) (by omega)]; omega
  generalize (tsk p q).getD k 0 = x at *
  obtain ⟨v, v1, v2⟩ := bit_i (x := x.toNat) hc (by omega)
  have hp := pow_lt (x := x.toNat) (by omega)
  have hsl := shl_i (x := x.toNat) (by omega)
  rw [Int.toNat_of_nonneg hm.1] at v1 hsl
  simp only [decide_eq_true (show q.2.1 + (k : Int) ≤ q.2.2.1 by omega), cond_true, idx_getD (l := p) (d := ([] : List Int)) h4.1 h4.2, Option.bind_some, hx, v1, v2, hsl, bOr_i hc hp, hw]
  rw [hdr, setF_cons] at he
  cases hb : c.testBit x.toNat with
  | true =>
   rw [hb, if_pos rfl] at he
   rw [cond_true, he]
   exact Tot.some (show _ = _ from rfl)
  | false =>
   rw [hb, if_neg (by simp)] at he
   rw [cond_false]
   exact Tot.some ⟨⟨k + 1, _, rfl, by omega, or_lt hc hp, he⟩, by simp only []; omega⟩
 ·rw [decide_eq_false (show ¬ q.2.1 + (k : Int) ≤ q.2.2.1 by omega), cond_false]
  rw [List.drop_eq_nil_of_le (by omega)] at he
  rw [he]
  exact Tot.some (show _ = _ from rfl)
end
end Go.Ai.Sx

/- The duties: the list of the duties that can be chosen, in both. -/
namespace Go.Ai.Sx
def dM (p : List (List Int)) (d : Duty) : Nat := d.1.foldl (fun s q => s ||| pM p q) 0
def dOk (p : List (List Int)) (d : Duty) : Bool := match d.1 with | [a, b] => decide (pM p a &&& pM p b = 0) | _ => true
def spD (t : List Task) (p : List (List Int)) (d : Duty) : Int := (lstT t p (d.1.getD (d.1.length - 1) P0)).2.2.2.1 - (fstT t p (d.1.getD 0 P0)).2.2.1
def mkOp (t : List Task) (p : List (List Int)) (d : Duty) : duty_option := (d, ((dM p d : Nat) : Int), spD t p d, ())
def LD (t : List Task) (y : Yard) (p : List (List Int)) (r : WorkRules) : List Duty := lawf (pcs p) (ok1 t y p r) (ok2 t y p r)
def OL (t : List Task) (y : Yard) (p : List (List Int)) (r : WorkRules) : List Duty := (LD t y p r).filter (dOk p)
section
variable {t : List Task} {y : Yard} {p : List (List Int)} {r : WorkRules} {q a b : DutyPiece} {d : Duty}
theorem row_nd (hS : PlanS t y p) {row : List Int} (h : row ∈ p) : row.Nodup := (List.pairwise_flatten.1 hS.nd).1 row h
theorem tsk_nd (hS : PlanS t y p) (h : PcOk t y p q) : (tsk p q).Nodup := by
 have h4 := h.i.car
 have hm : p.getD q.1.toNat [] ∈ p := getD_memx (by omega)
 exact (List.drop_sublist _ _).nodup ((List.take_sublist _ _).nodup (row_nd hS hm))
theorem pM_ne (h : PcOk t y p q) (ht : t.length ≤ 62) : pM p q ≠ 0 := by
 have h0 := tsk_len h
 have h1 := h.le
 have hm := tsk_rng h (getD_memx (l := tsk p q) (i := 0) (d := (0 : Int)) (by omega))
 have hmem := getD_memx (l := tsk p q) (i := 0) (d := (0 : Int)) (by omega)
 unfold InR at hm
 intro e
 have hb := mask_bit (tsk_sm h ht) 0 ((tsk p q).getD 0 0).toNat
 unfold pM at e
 rw [e, Nat.zero_testBit, Bool.false_or, Int.toNat_of_nonneg hm.1, decide_eq_true hmem] at hb
 cases hb
structure DOk (t : List Task) (y : Yard) (p : List (List Int)) (d : Duty) : Prop where
 one : (∃ a, d = ([a], ()) ∧ PcOk t y p a) ∨ ∃ a b, d = ([a, b], ()) ∧ PcOk t y p a ∧ PcOk t y p b
theorem LD_ok (hS : PlanS t y p) (h : d ∈ LD t y p r) : DOk t y p d := by
 rcases mem_lawf.1 h with ⟨a, ha, _, rfl⟩ | ⟨a, ha, b, hb, _, rfl⟩
 ·exact ⟨.inl ⟨a, rfl, mem_pcOk hS ha⟩⟩
 ·exact ⟨.inr ⟨a, b, rfl, mem_pcOk hS ha, mem_pcOk hS hb⟩⟩
theorem dM_one : dM p ([a], ()) = pM p a := Nat.zero_or _
theorem dM_two : dM p ([a, b], ()) = pM p a ||| pM p b := by
 show (0 ||| pM p a) ||| pM p b = _
 rw [Nat.zero_or]
theorem DOk.lt (h : DOk t y p d) (ht : t.length ≤ 62) : dM p d < 4611686018427387904 := by
 rcases h.one with ⟨a, rfl, ha⟩ | ⟨a, b, rfl, ha, hb⟩
 ·rw [dM_one]; exact pM_lt ha ht
 ·rw [dM_two]; exact or_lt (pM_lt ha ht) (pM_lt hb ht)
theorem DOk.ne (h : DOk t y p d) (ht : t.length ≤ 62) : dM p d ≠ 0 := by
 rcases h.one with ⟨a, rfl, ha⟩ | ⟨a, b, rfl, ha, hb⟩
 ·rw [dM_one]; exact pM_ne ha ht
 ·rw [dM_two]
  intro e
  exact pM_ne ha ht (Nat.or_eq_zero_iff.1 e).1
theorem DOk.sp (h : DOk t y p d) (hf : fine t y = true) : -200000 ≤ spD t p d ∧ spD t p d ≤ 200000 := by
 have key : ∀ a b, PcOk t y p a → PcOk t y p b → -200000 ≤ (lstT t p b).2.2.2.1 - (fstT t p a).2.2.1 ∧ (lstT t p b).2.2.2.1 - (fstT t p a).2.2.1 ≤ 200000 := fun a b ha hb => by
  have hF := ha.i.f
  have hL := hb.i.l
  unfold InR at hF hL
  have t1 := fine_time hf (i := ((p.getD a.1.toNat []).getD a.2.1.toNat 0).toNat) (by omega)
  have t2 := fine_time hf (i := ((p.getD b.1.toNat []).getD b.2.2.1.toNat 0).toNat) (by omega)
  unfold fstT lstT
  omega
 rcases h.one with ⟨a, rfl, ha⟩ | ⟨a, b, rfl, ha, hb⟩
 ·exact key a a ha ha
 ·exact key a b ha hb
theorem span_prog (h : DOk t y p d) (hf : fine t y = true) : g_duty_crew_span ((t, y, ()), p, r, ()) d = some (spD t p d) := by
 have hs := h.sp hf
 have hw : w64 (spD t p d) = spD t p d := w64_in (by omega) (by omega)
 unfold g_duty_crew_span
 rcases h.one with ⟨a, rfl, ha⟩ | ⟨a, b, rfl, ha, hb⟩
 ·have i0 : idx ([a] : List DutyPiece) 0 = some a := rfl
  have i1 : idx ([a] : List DutyPiece) (w64 (lenI [a] - 1)) = some a := rfl
  simp only [i0, i1, Option.bind_some, last_eq ha.i, first_eq ha.i]
  exact congrArg some hw
 ·have i0 : idx ([a, b] : List DutyPiece) 0 = some a := rfl
  have i1 : idx ([a, b] : List DutyPiece) (w64 (lenI [a, b] - 1)) = some b := rfl
  simp only [i0, i1, Option.bind_some, last_eq hb.i, first_eq ha.i]
  exact congrArg some hw
theorem span_ref (h : DOk t y p d) (hf : fine t y = true) : g_ref08_span t p d = some (spD t p d) := by
 have hs := h.sp hf
 have hw : w64 (spD t p d) = spD t p d := w64_in (by omega) (by omega)
 unfold g_ref08_span
 rcases h.one with ⟨a, rfl, ha⟩ | ⟨a, b, rfl, ha, hb⟩
 ·have i0 : idx ([a] : List DutyPiece) 0 = some a := rfl
  have i1 : idx ([a] : List DutyPiece) (w64 (lenI [a] - 1)) = some a := rfl
  simp only [i0, i1, Option.bind_some, ends_eq ha.i]
  exact congrArg some hw
 ·have i0 : idx ([a, b] : List DutyPiece) 0 = some a := rfl
  have i1 : idx ([a, b] : List DutyPiece) (w64 (lenI [a, b] - 1)) = some b := rfl
  simp only [i0, i1, Option.bind_some, ends_eq hb.i, ends_eq ha.i]
  exact congrArg some hw
theorem set_any (hd : ∀ q ∈ d.1, PcOk t y p q) (hl : d.1.length < 1000) (ht : t.length ≤ 62) (hrow : ∀ r ∈ p, r.length ≤ 80) : g_ref08_set p d = some (match setF 0 (d.1.flatMap (tsk p)) with | some s => ((s : Int), true) | none => (0, false)) := by
 apply Tot.eq
 unfold g_ref08_set
 refine Tot.bind (Q := fun v => v = setQ (setF 0 (d.1.flatMap (tsk p)))) (Tot.iter (fun v : Int × Int => ∃ (k : Nat) (c : Nat), v = ((c : Int), (k : Int)) ∧ k ≤ d.1.length ∧ c < 4611686018427387904 ∧ setF 0 (d.1.flatMap (tsk p)) = setF c ((d.1.drop k).flatMap (tsk p))) _ (fun v => (d.1.length - v.2).toNat) ⟨0, 0, rfl, by omega, by decide, rfl⟩ (by simp only [big]; omega) ?_) fun v hv => ?_
 ·rintro _ ⟨k, c, rfl, hk, hc, he⟩
  simp only []
  by_cases hkl : k < d.1.length
  ·have hq := hd _ (getD_memx (d := P0) hkl)
   have hdr : d.1.drop k = d.1.getD k P0 :: d.1.drop (k + 1) := by
    rw [getD_get hkl]; exact List.drop_eq_getElem_cons hkl
   have hw : w64 ((k : Int) + 1) = ((k + 1 : Nat) : Int) := by rw [w64_in (by omega) (by omega)]; omega
   simp only [decide_eq_true (show (k : Int) < lenI d.1 by rw [lenI_eq]; omega), cond_true, idx_natD P0 hkl, Option.bind_some, hw]
   generalize d.1.getD k P0 = q at *
   rw [hdr, List.flatMap_cons, setF_app] at he
   rw [set_row hq ht hrow hc, Option.bind_some]
   cases hs : setF c (tsk p q) with
   | none =>
    rw [hs] at he
    rw [he]
    exact Tot.some (show _ = _ from rfl)
   | some s =>
    rw [hs] at he
    refine Tot.some ⟨⟨k + 1, s, rfl, by omega, ?_, he⟩, by simp only []; omega⟩
    have hcs : ∀ (xs : List Int) (c : Nat), Sm xs → c < 4611686018427387904 → setF c xs = some s → s < 4611686018427387904 := by
     intro xs
     induction xs with
     | nil => intro c _ h1 h2; cases h2; exact h1
     | cons x xs ih =>
      intro c h0 h1 h2
      have hx := h0 x List.mem_cons_self
      unfold InR at hx
      rw [setF_cons] at h2
      split at h2
      ·cases h2
      ·exact ih _ (fun z hz => h0 z (List.mem_cons_of_mem _ hz)) (or_lt h1 (pow_lt (by omega))) h2
    exact hcs _ _ (tsk_sm hq ht) hc hs
  ·rw [decide_eq_false (show ¬ (k : Int) < lenI d.1 by rw [lenI_eq]; omega), cond_false]
   rw [List.drop_eq_nil_of_le (by omega)] at he
   rw [he]
   exact Tot.some (show _ = _ from rfl)
 ·rw [hv]
  cases setF 0 (d.1.flatMap (tsk p)) <;> exact Tot.some (show _ = _ from rfl)
theorem set_ref (hS : PlanS t y p) (h : DOk t y p d) (ht : t.length ≤ 62) (hrow : ∀ r ∈ p, r.length ≤ 80) : g_ref08_set p d = some (if dOk p d then (((dM p d : Nat) : Int), true) else (0, false)) := by
 have one : ∀ a, PcOk t y p a → setF 0 (tsk p a) = some (pM p a) := fun a ha => by
  rw [setF_eq (tsk_sm ha ht) (tsk_nd hS ha), Nat.zero_and, if_pos rfl, Nat.zero_or]; rfl
 rcases h.one with ⟨a, rfl, ha⟩ | ⟨a, b, rfl, ha, hb⟩
 ·rw [set_any (fun q hq => by rw [List.mem_singleton.1 hq]; exact ha) (by simp) ht hrow]
  simp only [List.flatMap_cons, List.flatMap_nil, List.append_nil, one a ha, dM_one]
  rfl
 ·rw [set_any (fun q hq => by
   rcases List.mem_cons.1 hq with rfl | hq
   ·exact ha
   ·rw [List.mem_singleton.1 hq]; exact hb) (by simp) ht hrow]
  simp only [List.flatMap_cons, List.flatMap_nil, List.append_nil, dM_two, setF_app, one a ha, Option.bind_some, setF_eq (tsk_sm hb ht) (tsk_nd hS hb)]
  unfold dOk
  simp only [decide_eq_true_eq]
  unfold pM
  by_cases e : mask 0 (tsk p a) &&& mask 0 (tsk p b) = 0
  ·rw [if_pos e, if_pos e]
  ·rw [if_neg e, if_neg e]
def g2 (t : List Task) (y : Yard) (p : List (List Int)) (r : WorkRules) (P : List DutyPiece) (a : DutyPiece) (k : Nat) : List duty_option :=
 if pM p a &&& pM p (P.getD k P0) = 0 then (if ok2 t y p r a (P.getD k P0) then [mkOp t p ([a, P.getD k P0], ())] else []) else []
def g1 (t : List Task) (y : Yard) (p : List (List Int)) (r : WorkRules) (P : List DutyPiece) (i : Nat) : List duty_option :=
 (if ok1 t y p r (P.getD i P0) then [mkOp t p ([P.getD i P0], ())] else []) ++ (List.range P.length).flatMap (g2 t y p r P (P.getD i P0))
theorem g2_len (P : List DutyPiece) (a : DutyPiece) (k : Nat) : (g2 t y p r P a k).length ≤ 1 := by
 unfold g2; split
 ·split <;> simp
 ·simp
theorem g1_len (P : List DutyPiece) (i : Nat) : (g1 t y p r P i).length ≤ P.length + 1 := by
 unfold g1
 have hfl := flat_len (g := g2 t y p r P (P.getD i P0)) (N := P.length) (B := 1) (fun j _ => g2_len P _ j)
 rw [List.length_append]
 have : (if ok1 t y p r (P.getD i P0) then [mkOp t p ([P.getD i P0], ())] else []).length ≤ 1 := by split <;> simp
 omega
theorem g1_all : (List.range (pcs p).length).flatMap (g1 t y p r (pcs p)) = (OL t y p r).map (mkOp t p) := by
 unfold OL LD lawf
 rw [List.filter_flatMap, List.map_flatMap]
 congr 1
 funext i
 unfold g1
 rw [List.filter_append, List.map_append, List.filter_flatMap, List.map_flatMap]
 congr 1
 ·split <;> rfl
 ·congr 1
  funext k
  unfold g2 two1
  generalize (pcs p).getD k P0 = b
  generalize (pcs p).getD i P0 = a
  by_cases e : pM p a &&& pM p b = 0
  ·rw [if_pos e]
   split
   ·rw [List.filter_cons_of_pos (by unfold dOk; simp [e])]; rfl
   ·rfl
  ·rw [if_neg e]
   split
   ·rw [List.filter_cons_of_neg (by unfold dOk; simp [e])]; rfl
   ·rfl
theorem opt2_one (hf : fine t y = true) (hr : rulesB r = true) (ha : PcOk t y p a) {s : Nat} (hs : s = pM p a) {L : List duty_option} (hL : L.length < 1000000000000) : g_duty_crew_options_2 (s : Int) [a] ((t, y, ()), p, r, ()) L = some (L ++ (if ok1 t y p r a then [mkOp t p ([a], ())] else [])) := by
 unfold g_duty_crew_options_2
 simp only [prog_one hf hr ha.i, Option.bind_some, span_prog (r := r) ⟨.inl ⟨a, rfl, ha⟩⟩ hf]
 have hb : (lenI (F1 t y p r a) == 0) = ok1 t y p r a := rfl
 rw [hb]
 cases ok1 t y p r a with
 | true =>
  rw [cond_true, appO_some (by simp only [List.length_singleton]; omega), if_pos rfl, hs]
  unfold mkOp
  rw [dM_one]
  rfl
 | false => simp
theorem opt2_two (hf : fine t y = true) (hr : rulesB r = true) (ha : PcOk t y p a) (hb : PcOk t y p b) {s : Nat} (hs : s = pM p a ||| pM p b) {L : List duty_option} (hL : L.length < 1000000000000) : g_duty_crew_options_2 (s : Int) [a, b] ((t, y, ()), p, r, ()) L = some (L ++ (if ok2 t y p r a b then [mkOp t p ([a, b], ())] else [])) := by
 unfold g_duty_crew_options_2
 simp only [prog_two hf hr ha.i hb.i, Option.bind_some, span_prog (r := r) ⟨.inr ⟨a, b, rfl, ha, hb⟩⟩ hf]
 have hb : (lenI (F2 t y p r a b) == 0) = ok2 t y p r a b := rfl
 rw [hb]
 cases ok2 t y p r a b with
 | true =>
  rw [cond_true, appO_some (by simp only [List.length_singleton]; omega), if_pos rfl, hs]
  unfold mkOp
  rw [dM_two]
  rfl
 | false => simp
theorem opts_loop (hf : fine t y = true) (hr : rulesB r = true) (hS : PlanS t y p) (ht : t.length ≤ 62) (hp : p.length ≤ 80) (hrow : ∀ r ∈ p, r.length ≤ 80) :
    iter (σ := (Int × (List duty_option))) (τ := ((List duty_option))) (fun s116 =>
cond ((decide (s116.1 < (lenI (pcs p))))) (Option.bind (idx (pcs p) s116.1) fun x122 =>
Option.bind (((fun x => g_duty_crew_options_1 x ((t, y, ()), p, r, ()))) x122) fun y125 =>
Option.bind (g_duty_crew_options_2 y125 ([x122]) ((t, y, ()), p, r, ()) s116.2) fun y126 =>
Option.bind (iter (σ := (Int × (List duty_option))) (τ := ((List duty_option))) (fun s152 =>
cond ((decide (s152.1 < (lenI (pcs p))))) (Option.bind (idx (pcs p) s152.1) fun x158 =>
Option.bind (((fun x => g_duty_crew_options_1 x ((t, y, ()), p, r, ()))) x122) fun y161 =>
Option.bind (((fun x => g_duty_crew_options_1 x ((t, y, ()), p, r, ()))) x158) fun y162 =>
cond (((bAnd .u64 y161 y162) == 0)) (Option.bind (((fun x => g_duty_crew_options_1 x ((t, y, ()), p, r, ()))) x122) fun y164 =>
Option.bind (((fun x => g_duty_crew_options_1 x ((t, y, ()), p, r, ()))) x158) fun y165 =>
Option.bind (g_duty_crew_options_2 ((bOr .u64 y164 y165)) ([x122, x158]) ((t, y, ()), p, r, ()) s152.2) fun y166 =>
some (.inl (((w64 (s152.1 + 1)), y166)))) (some (.inl (((w64 (s152.1 + 1)), s152.2))))) (some (.inr s152.2))) big ((0, y126))) fun t171 =>
some (.inl (((w64 (s116.1 + 1)), t171)))) (some (.inr s116.2))) big ((0, [])) = some ((OL t y p r).map (mkOp t p)) := by
 have hl := pcs_len hp hrow
 have hP : ∀ x ∈ pcs p, PcOk t y p x := fun x hx => mem_pcOk hS hx
 rw [← g1_all]
 generalize pcs p = P at *
 rw [iter_fold (s0 := ((0 : Int), ([] : List duty_option))) (fun k c => ((k : Int), c)) (fun k c => c ++ g1 t y p r P k) P.length (fun k c => c.length ≤ k * 512001) [] id rfl (by simp only [big]; omega) (by simp)]
 ·simp only [id]
  rw [fold_app (g1 t y p r P), List.nil_append]
 ·intro i c hi hc
  have hw : w64 ((i : Int) + 1) = ((i + 1 : Nat) : Int) := by rw [w64_in (by omega) (by omega)]; omega
  have hi2 : i * 512001 ≤ 512000 * 512001 := Nat.mul_le_mul_right _ (by omega)
  have ha := hP _ (getD_memx (d := P0) hi)
  have hgl := g1_len (t := t) (y := y) (p := p) (r := r) P i
  refine ⟨?_, by rw [List.length_append]; omega⟩
  simp only [decide_eq_true (show (i : Int) < lenI P by rw [lenI_eq]; omega), cond_true, idx_natD P0 hi, Option.bind_some, opt1_eq ha ht hrow, opt2_one hf hr ha rfl (show c.length < 1000000000000 by omega), hw]
  obtain ⟨c1, hc1⟩ : ∃ c1, c ++ (if ok1 t y p r (P.getD i P0) = true then [mkOp t p ([P.getD i P0], ())] else []) = c1 := ⟨_, rfl⟩
  have hcl : c1.length ≤ 512000 * 512001 + 1 := by
   rw [← hc1, List.length_append]
   have : (if ok1 t y p r (P.getD i P0) then [mkOp t p ([P.getD i P0], ())] else []).length ≤ 1 := by split <;> simp
   omega
  rw [hc1, iter_fold (s0 := ((0 : Int), c1)) (fun k c => ((k : Int), c)) (fun k c => c ++ g2 t y p r P (P.getD i P0) k) P.length (fun k c => c.length ≤ 512000 * 512001 + 1 + k) c1 id rfl (by simp only [big]; omega) hcl]
  ·simp only [id, Option.bind_some]
   rw [fold_app (g2 t y p r P (P.getD i P0)), ← hc1, List.append_assoc]
   rfl
  ·intro k c hk hc
   have hw : w64 ((k : Int) + 1) = ((k + 1 : Nat) : Int) := by rw [w64_in (by omega) (by omega)]; omega
   have hb := hP _ (getD_memx (d := P0) hk)
   have hgl := g2_len (t := t) (y := y) (p := p) (r := r) P (P.getD i P0) k
   refine ⟨?_, by rw [List.length_append]; omega⟩
   simp only [decide_eq_true (show (k : Int) < lenI P by rw [lenI_eq]; omega), cond_true, idx_natD P0 hk, Option.bind_some, opt1_eq hb ht hrow, bAnd_u (pM_lt ha ht) (Nat.lt_trans (pM_lt hb ht) (by decide)), bOr_u (pM_lt ha ht) (pM_lt hb ht), hw]
   have he : (((pM p (P.getD i P0) &&& pM p (P.getD k P0) : Nat) : Int) == 0) = decide (pM p (P.getD i P0) &&& pM p (P.getD k P0) = 0) := by
    generalize pM p (P.getD i P0) &&& pM p (P.getD k P0) = v
    by_cases q : v = 0
    ·subst q; rfl
    ·rw [decide_eq_false q, beq_eq_false_iff_ne]; omega
   rw [he]
   unfold g2
   by_cases e : pM p (P.getD i P0) &&& pM p (P.getD k P0) = 0
   ·rw [decide_eq_true e, cond_true, if_pos e, opt2_two hf hr ha hb rfl (by omega)]
    rfl
   ·rw [decide_eq_false e, cond_false, if_neg e, List.append_nil]
  ·intro c _
   simp only [decide_eq_false (show ¬ (P.length : Int) < lenI P by rw [lenI_eq]; omega), cond_false, id]
 ·intro c _
  simp only [decide_eq_false (show ¬ (P.length : Int) < lenI P by rw [lenI_eq]; omega), cond_false, id]
end
end Go.Ai.Sx

/- The duties: the list is in order, so sorting leaves it. -/
namespace Go.Ai.Sx
def plt (a b : DutyPiece) : Prop := a.1 < b.1 ∨ a.1 = b.1 ∧ (a.2.1 < b.2.1 ∨ a.2.1 = b.2.1 ∧ a.2.2.1 < b.2.2.1)
theorem pcs_sorted (p : List (List Int)) : (pcs p).Pairwise plt := by
 unfold pcs
 rw [List.pairwise_flatMap]
 refine ⟨fun i _ => ?_, List.pairwise_lt_range.imp fun {i j} h => ?_⟩
 ·unfold pcC
  rw [List.pairwise_flatMap]
  refine ⟨fun a _ => ?_, List.pairwise_lt_range.imp fun {a b} h => ?_⟩
  ·unfold pcR
   rw [List.pairwise_flatMap]
   refine ⟨fun d _ => List.pairwise_singleton _ _, List.pairwise_lt_range.imp fun {d e} h => ?_⟩
   intro x hx z hz
   rw [List.mem_singleton.1 hx, List.mem_singleton.1 hz]
   exact .inr ⟨rfl, .inr ⟨rfl, by simp only []; omega⟩⟩
  ·intro x hx z hz
   unfold pcR at hx hz
   obtain ⟨d, _, hx⟩ := List.mem_flatMap.1 hx
   obtain ⟨e, _, hz⟩ := List.mem_flatMap.1 hz
   rw [List.mem_singleton.1 hx, List.mem_singleton.1 hz]
   exact .inr ⟨rfl, .inl (by simp only []; omega)⟩
 ·intro x hx z hz
  unfold pcC pcR at hx hz
  obtain ⟨_, _, hx⟩ := List.mem_flatMap.1 hx
  obtain ⟨_, _, hz⟩ := List.mem_flatMap.1 hz
  obtain ⟨d, _, hx⟩ := List.mem_flatMap.1 hx
  obtain ⟨e, _, hz⟩ := List.mem_flatMap.1 hz
  rw [List.mem_singleton.1 hx, List.mem_singleton.1 hz]
  exact .inl (by simp only []; omega)
theorem cmp_eq (x y : Int) : g_cmp_Compare_int x y = some (if x < y then -1 else if x > y then 1 else 0) := by
 unfold g_cmp_Compare_int g_cmp_isNaN_int
 have e1 : (x != x) = false := by simp
 have e2 : (y != y) = false := by simp
 simp only [e1, e2, Option.bind_some, cond_false]
 by_cases h : x < y
 ·rw [decide_eq_true h, if_pos h]; rfl
 ·rw [decide_eq_false h, if_neg h]
  by_cases h2 : x > y
  ·rw [decide_eq_true h2, if_pos h2]; rfl
  ·rw [decide_eq_false h2, if_neg h2]; rfl
theorem or_hit {xs : List Int} {k : Nat} {v : Int} (hk : k < xs.length) (hl : xs.length < 100) (h0 : ∀ j, j < k → xs.getD j 0 = 0) (hv : xs.getD k 0 = v) (hn : v ≠ 0) : g_cmp_Or_int xs = some v := by
 unfold g_cmp_Or_int
 rw [iter_chain (s0 := (0 : Int)) (fun i => (i : Int)) k (.inr v) rfl (by simp only [big]; omega)]
 ·rfl
 ·intro i hi
  have hw : w64 ((i : Int) + 1) = ((i + 1 : Nat) : Int) := by rw [w64_in (by omega) (by omega)]; omega
  simp only [decide_eq_true (show (i : Int) < lenI xs by rw [lenI_eq]; omega), cond_true, idx_natD 0 (show i < xs.length by omega), Option.bind_some, h0 i hi, hw]
  rfl
 ·simp only [decide_eq_true (show (k : Int) < lenI xs by rw [lenI_eq]; omega), cond_true, idx_natD 0 hk, Option.bind_some, hv]
  rw [show (v != 0) = true by simp [hn]]
  rfl
theorem or_none {xs : List Int} (hl : xs.length < 100) (h0 : ∀ j, j < xs.length → xs.getD j 0 = 0) : g_cmp_Or_int xs = some 0 := by
 unfold g_cmp_Or_int
 rw [iter_chain (s0 := (0 : Int)) (fun i => (i : Int)) xs.length (.inl ()) rfl (by simp only [big]; omega)]
 ·rfl
 ·intro i hi
  have hw : w64 ((i : Int) + 1) = ((i + 1 : Nat) : Int) := by rw [w64_in (by omega) (by omega)]; omega
  simp only [decide_eq_true (show (i : Int) < lenI xs by rw [lenI_eq]; omega), cond_true, idx_natD 0 hi, Option.bind_some, h0 i hi, hw]
  rfl
 ·simp only [decide_eq_false (show ¬ (xs.length : Int) < lenI xs by rw [lenI_eq]; omega), cond_false]
theorem pieced_gt {a b : DutyPiece} (h : plt b a) : g_duty_pieced a b = some 1 := by
  unfold g_duty_pieced
  simp only [cmp_eq, Option.bind_some]
  rcases h with h | ⟨h1, h | ⟨h2, h⟩⟩
  · rw [if_neg (show ¬ a.1 < b.1 by omega), if_pos (show a.1 > b.1 by omega)]
    rw [or_hit (k := 0) (v := 1) (by simp) (by simp) (fun j hj => by omega) rfl (by decide)]
    rfl
  · rw [if_neg (show ¬ a.1 < b.1 by omega), if_neg (show ¬ a.1 > b.1 by omega), if_neg (show ¬ a.2.1 < b.2.1 by omega), if_pos (show a.2.1 > b.2.1 by omega)]
    rw [or_hit (k := 1) (v := 1) (by simp) (by simp) (fun j hj => by have : j = 0 := by omega
                                                                     subst this; rfl) rfl (by decide)]
    rfl
  · rw [if_neg (show ¬ a.1 < b.1 by omega), if_neg (show ¬ a.1 > b.1 by omega), if_neg (show ¬ a.2.1 < b.2.1 by omega), if_neg (show ¬ a.2.1 > b.2.1 by omega), if_neg (show ¬ a.2.2.1 < b.2.2.1 by omega), if_pos (show a.2.2.1 > b.2.2.1 by omega)]
    rw [or_hit (k := 2) (v := 1) (by simp) (by simp) (fun j hj => by
      have : j = 0 ∨ j = 1 := by omega
      rcases this with rfl | rfl <;> rfl) rfl (by decide)]
    rfl
theorem pieced_self (a : DutyPiece) : g_duty_pieced a a = some 0 := by
 unfold g_duty_pieced
 simp only [cmp_eq, Option.bind_some, Int.lt_irrefl, gt_iff_lt, if_false]
 rw [or_none (by simp) (fun j hj => by
  have : j = 0 ∨ j = 1 ∨ j = 2 := by simp only [List.length_cons, List.length_nil] at hj; omega
  rcases this with rfl | rfl | rfl <;> rfl)]
 rfl
inductive RD : Duty → Duty → Prop
 | fst (a a' : DutyPiece) (l l' : List DutyPiece) : plt a a' → RD (a :: l, ()) (a' :: l', ())
 | one (a b : DutyPiece) : RD ([a], ()) ([a, b], ())
 | two (a b b' : DutyPiece) : plt b b' → RD ([a, b], ()) ([a, b'], ())
theorem rd_cmp {t : List Task} {p : List (List Int)} {d e : Duty} (h : RD d e) : ∃ v, g_duty_crew_options_3 (mkOp t p e) (mkOp t p d) = some v ∧ decide (v < 0) = false := by
  refine ⟨1, ?_, rfl⟩
  unfold g_duty_crew_options_3
  cases h with
  | fst a a' l l' h =>
    have i0 : idx (mkOp t p (a' :: l', ())).1.1 0 = some a' := rfl
    have i1 : idx (mkOp t p (a :: l, ())).1.1 0 = some a := rfl
    simp only [i0, i1, Option.bind_some, pieced_gt h, cmp_eq]
    rw [or_hit (k := 0) (v := 1) (by simp) (by simp) (fun j hj => by omega) rfl (by decide)]
    rfl
  | one a b =>
    have i0 : idx (mkOp t p ([a, b], ())).1.1 0 = some a := rfl
    have i1 : idx (mkOp t p ([a], ())).1.1 0 = some a := rfl
    have l0 : lenI (mkOp t p ([a, b], ())).1.1 = 2 := rfl
    have l1 : lenI (mkOp t p ([a], ())).1.1 = 1 := rfl
    simp only [i0, i1, l0, l1, Option.bind_some, pieced_self, cmp_eq]
    rw [or_hit (k := 1) (v := 1) (by simp) (by simp) (fun j hj => by have : j = 0 := by omega
                                                                     subst this; rfl) rfl (by decide)]
    rfl
  | two a b b' h =>
    have i0 : idx (mkOp t p ([a, b'], ())).1.1 0 = some a := rfl
    have i1 : idx (mkOp t p ([a, b], ())).1.1 0 = some a := rfl
    have i2 : idx (mkOp t p ([a, b'], ())).1.1 1 = some b' := rfl
    have i3 : idx (mkOp t p ([a, b], ())).1.1 1 = some b := rfl
    have l0 : lenI (mkOp t p ([a, b'], ())).1.1 = 2 := rfl
    have l1 : lenI (mkOp t p ([a, b], ())).1.1 = 2 := rfl
    simp only [i0, i1, i2, i3, l0, l1, Option.bind_some, pieced_self, cmp_eq]
    rw [or_none (by simp) (fun j hj => by
      have : j = 0 ∨ j = 1 := by simp only [List.length_cons, List.length_nil] at hj; omega
      rcases this with rfl | rfl <;> rfl)]
    simp only [Option.bind_some, pieced_gt h]
    rfl
theorem lawf_sorted {P : List DutyPiece} (hP : P.Pairwise plt) (o1 : DutyPiece → Bool) (o2 : DutyPiece → DutyPiece → Bool) : (lawf P o1 o2).Pairwise RD := by
 have hlt : ∀ {i j : Nat}, i < j → j < P.length → plt (P.getD i P0) (P.getD j P0) := fun {i j} h hj => by
  rw [getD_get hj, getD_get (show i < P.length by omega)]
  exact List.pairwise_iff_getElem.1 hP i j (by omega) hj h
 have hr : (List.range P.length).Pairwise fun i j => i < j ∧ j < P.length := by
  refine List.Pairwise.imp_of_mem (fun {a b} ha hb h => ⟨h, List.mem_range.1 hb⟩) List.pairwise_lt_range
 unfold lawf
 rw [List.pairwise_flatMap]
 refine ⟨fun i hi => ?_, hr.imp fun {i j} h => ?_⟩
 ·rw [List.pairwise_append]
  refine ⟨by split <;> simp, ?_, fun x hx z hz => ?_⟩
  ·rw [List.pairwise_flatMap]
   refine ⟨fun k _ => by unfold two1; split <;> simp, hr.imp fun {k k'} h => ?_⟩
   intro x hx z hz
   unfold two1 at hx hz
   split at hx
   ·split at hz
    ·rw [List.mem_singleton.1 hx, List.mem_singleton.1 hz]
     exact RD.two _ _ _ (hlt h.1 h.2)
    ·cases hz
   ·cases hx
  ·obtain ⟨k, _, hz⟩ := List.mem_flatMap.1 hz
   unfold two1 at hz
   split at hx
   ·split at hz
    ·rw [List.mem_singleton.1 hx, List.mem_singleton.1 hz]
     exact RD.one _ _
    ·cases hz
   ·cases hx
 ·have hhd : ∀ i x, x ∈ (if o1 (P.getD i P0) then [(([P.getD i P0], ()) : Duty)] else []) ++ (List.range P.length).flatMap (two1 P o2 (P.getD i P0)) → ∃ l, x = (P.getD i P0 :: l, ()) := fun i x hx => by
   rcases List.mem_append.1 hx with hx | hx
   ·split at hx
    ·exact ⟨[], List.mem_singleton.1 hx⟩
    ·cases hx
   ·obtain ⟨k, _, hx⟩ := List.mem_flatMap.1 hx
    unfold two1 at hx
    split at hx
    ·exact ⟨_, List.mem_singleton.1 hx⟩
    ·cases hx
  intro x hx z hz
  obtain ⟨l, rfl⟩ := hhd i x hx
  obtain ⟨l', rfl⟩ := hhd j z hz
  exact RD.fst _ _ _ _ (hlt h.1 h.2)
section
variable {t : List Task} {y : Yard} {p : List (List Int)} {r : WorkRules}
theorem LD_len (hp : p.length ≤ 80) (hrow : ∀ r ∈ p, r.length ≤ 80) : (LD t y p r).length ≤ 512000 * 512001 := by
 have hl := pcs_len hp hrow
 unfold LD lawf
 refine Nat.le_trans (flat_len (B := 512001) fun i _ => ?_) (Nat.mul_le_mul_right _ hl)
 have hfl := flat_len (g := two1 (pcs p) (ok2 t y p r) ((pcs p).getD i P0)) (N := (pcs p).length) (B := 1) (fun j _ => two1_len _ _ _ j)
 rw [List.length_append]
 have : (if ok1 t y p r ((pcs p).getD i P0) = true then [(([(pcs p).getD i P0], ()) : Duty)] else []).length ≤ 1 := by split <;> simp
 omega
theorem OL_len (hp : p.length ≤ 80) (hrow : ∀ r ∈ p, r.length ≤ 80) : (OL t y p r).length ≤ 512000 * 512001 := Nat.le_trans (List.length_filter_le _ _) (LD_len hp hrow)
theorem OL_ord : Ord ((OL t y p r).map (mkOp t p)) (fun x => g_duty_crew_options_3 x.1 x.2) := by
 have h : ((OL t y p r).map (mkOp t p)).Pairwise fun x z => ∃ v, g_duty_crew_options_3 z x = some v ∧ decide (v < 0) = false := by
  rw [List.pairwise_map]
  unfold OL LD
  exact ((lawf_sorted (pcs_sorted p) _ _).filter _).imp fun h => rd_cmp h
 intro i j h0 hij hj
 generalize (OL t y p r).map (mkOp t p) = L at *
 obtain ⟨v, h1, h2⟩ := List.pairwise_iff_getElem.1 h i.toNat j.toNat (by omega) (by omega) (by omega)
 exact ⟨_, _, v, idx_int h0 (by omega), idx_int (by omega) hj, h1, h2⟩
theorem options_eq (hf : fine t y = true) (hr : rulesB r = true) (hS : PlanS t y p) (ht : t.length ≤ 62) (hp : p.length ≤ 80) (hrow : ∀ r ∈ p, r.length ≤ 80) : g_duty_crew_options ((t, y, ()), p, r, ()) = some ((OL t y p r).map (mkOp t p)) := by
 unfold g_duty_crew_options
 simp only [pieces_eq hp hrow, Option.bind_some]
 rw [opts_loop hf hr hS ht hp hrow, Option.bind_some, ordered_eq OL_ord (by rw [List.length_map]; have := OL_len (t := t) (y := y) (r := r) hp hrow; omega)]
 rfl
end
end Go.Ai.Sx

/- The duties: the program's table. -/
namespace Go.Ai.Sx
section
variable {α : Type} {st : α → Nat} {sp : α → Int} {os : List α}
theorem tok_ex (hne : ∀ o ∈ os, st o ≠ 0) (S : Nat) : ∃ r, TOk st sp os S r := by
 classical
 induction S using Nat.strongRecOn with
 | ind S ih =>
  by_cases h0 : S = 0
  ·subst h0; exact ⟨_, tok_zero hne⟩
  ·let T : Nat → Option (Int × Int) := fun S' => if h : ∃ r, TOk st sp os S' r then h.choose else none
   have hT : ∀ S', S' < S → TOk st sp os S' (T S') := fun S' h => by
    have he := ih S' h
    show TOk st sp os S' (if h : ∃ r, TOk st sp os S' r then h.choose else none)
    rw [dif_pos he]
    exact he.choose_spec
   exact ⟨_, fold_best (cn := fun o => decide (sd (st o) S = 0)) hT hne (fun o _ h => sub_sd.1 (of_decide_eq_true h)) fun k m hc => by
    obtain ⟨o, h1, h2, h3⟩ := hc.uncons h0
    exact ⟨o, h1, decide_eq_true (sub_sd.2 h2), h3⟩⟩
noncomputable def tab (st : α → Nat) (sp : α → Int) (os : List α) (S : Nat) : Option (Int × Int) := by
 classical exact if h : ∃ r, TOk st sp os S r then h.choose else none
theorem tab_ok (hne : ∀ o ∈ os, st o ≠ 0) (S : Nat) : TOk st sp os S (tab st sp os S) := by
 unfold tab
 rw [dif_pos (tok_ex hne S)]
 exact (tok_ex hne S).choose_spec
theorem cov_bound (hne : ∀ o ∈ os, st o ≠ 0) (hsp : ∀ o ∈ os, -200000 ≤ sp o ∧ sp o ≤ 200000) {S k : Nat} {m : Int} (h : Cov st sp os S k m) : k ≤ S ∧ -200000 * (k : Int) ≤ m ∧ m ≤ 200000 * k := by
 induction h with
 | nil => omega
 | cons o S k m ho hs hc ih =>
  have h1 := sd_lt hs (hne o ho)
  have h2 := hsp o ho
  omega
theorem tab_bound (hne : ∀ o ∈ os, st o ≠ 0) (hsp : ∀ o ∈ os, -200000 ≤ sp o ∧ sp o ≤ 200000) {S : Nat} {c : Int × Int} (h : tab st sp os S = some c) : 0 ≤ c.1 ∧ c.1 ≤ S ∧ -200000 * c.1 ≤ c.2 ∧ c.2 ≤ 200000 * c.1 := by
 have h1 := tab_ok (sp := sp) hne S
 rw [h] at h1
 obtain ⟨k, e, hb⟩ := h1
 have := cov_bound hne hsp hb.1
 omega
theorem tab_zero (hne : ∀ o ∈ os, st o ≠ 0) : tab st sp os 0 = some (0, 0) := (tab_ok hne 0).eq (tok_zero hne)
def cnL (st : α → Nat) (S i : Nat) (o : α) : Bool := (st o).testBit i && decide (sd (st o) S = 0)
def cnS (st : α → Nat) (S : Nat) (o : α) : Bool := decide (sd (st o) S = 0)
theorem tab_low (hne : ∀ o ∈ os, st o ≠ 0) {S i : Nat} (hi : S.testBit i = true) : tab st sp os S = os.foldl (stp st sp (cnL st S i) (tab st sp os) S) none := by
 refine (tab_ok hne S).eq (fold_best (fun S' _ => tab_ok hne S') hne (fun o _ h => ?_) fun k m hc => ?_)
 ·unfold cnL at h
  rw [Bool.and_eq_true] at h
  exact sub_sd.1 (of_decide_eq_true h.2)
 ·obtain ⟨o, h1, h2, h3, h4⟩ := hc.pick i hi
  exact ⟨o, h1, by unfold cnL; rw [h2, decide_eq_true (sub_sd.2 h3)]; rfl, h4⟩
theorem tab_any (hne : ∀ o ∈ os, st o ≠ 0) {S : Nat} (h0 : S ≠ 0) : tab st sp os S = os.foldl (stp st sp (cnS st S) (tab st sp os) S) none := by
 refine (tab_ok hne S).eq (fold_best (fun S' _ => tab_ok hne S') hne (fun o _ h => sub_sd.1 (of_decide_eq_true (p := sd (st o) S = 0) h)) fun k m hc => ?_)
 obtain ⟨o, h1, h2, h3⟩ := hc.uncons h0
 exact ⟨o, h1, (decide_eq_true (sub_sd.2 h2) : decide (sd (st o) S = 0) = true), h3⟩
theorem stp_bound {cn : α → Bool} {T : Nat → Option (Int × Int)} {S B : Nat} (hT : ∀ S' c, S' ≤ S → T S' = some c → 0 ≤ c.1 ∧ c.1 ≤ B ∧ -200000 * (B : Int) ≤ c.2 ∧ c.2 ≤ 200000 * B) (hsp : ∀ o ∈ os, -200000 ≤ sp o ∧ sp o ≤ 200000) : ∀ (l : List α), (∀ o ∈ l, o ∈ os) → ∀ acc : Option (Int × Int), (∀ c : Int × Int, acc = some c → 0 ≤ c.1 ∧ c.1 ≤ B + 1 ∧ -200000 * (B + 1 : Int) ≤ c.2 ∧ c.2 ≤ 200000 * (B + 1)) → ∀ c, l.foldl (stp st sp cn T S) acc = some c → 0 ≤ c.1 ∧ c.1 ≤ B + 1 ∧ -200000 * (B + 1 : Int) ≤ c.2 ∧ c.2 ≤ 200000 * (B + 1)
 | [], _, acc, ha, c, h => ha c h
 | o :: l, hl, acc, ha, c, h => by
  refine stp_bound hT hsp l (fun x hx => hl x (List.mem_cons_of_mem _ hx)) _ (fun c' hc' => ?_) c h
  unfold stp at hc'
  split at hc'
  ·cases hd : cnd st sp T S o with
   | none => rw [hd] at hc'; exact ha c' hc'
   | some d =>
    rw [hd] at hc'
    unfold cnd at hd
    obtain ⟨e, he, hd⟩ := Option.map_eq_some_iff.1 hd
    have h1 := hT _ _ (sd_le _ _) he
    have h2 := hsp o (hl o List.mem_cons_self)
    have h3 : 0 ≤ d.1 ∧ d.1 ≤ B + 1 ∧ -200000 * (B + 1 : Int) ≤ d.2 ∧ d.2 ≤ 200000 * (B + 1) := by
     rw [← hd]; simp only []; omega
    unfold better at hc'
    cases acc with
    | none => cases hc'; exact h3
    | some a =>
     simp only [] at hc'
     split at hc'
     ·cases hc'; exact h3
     ·cases hc'; exact ha _ rfl
  ·exact ha c' hc'
end
theorem mget_mset {B : Type} (m : List (Int × B)) (k : Int) (v : B) (x : Int) : mget (mset m k v) x = if x = k then some v else mget m x := by
 induction m with
 | nil => rfl
 | cons a m ih =>
  obtain ⟨j, w⟩ := a
  unfold mset
  by_cases e : k = j
  ·subst e
   rw [if_pos rfl]
   unfold mget
   by_cases e2 : x = k
   ·rw [if_pos e2, if_pos e2]
   ·rw [if_neg e2, if_neg e2, if_neg e2]
  ·rw [if_neg e]
   unfold mget
   by_cases e2 : x = j
   ·rw [if_pos e2, if_neg (fun q => e (q.symm.trans e2)), if_pos e2]
   ·rw [if_neg e2, if_neg e2, ih]
def enc (v : Option (Int × Int)) : Option duty_cost := v.map fun c => (c.1, c.2, ())
section
variable {t : List Task} {y : Yard} {p : List (List Int)} {r : WorkRules}
structure MI (T : Nat → Option (Int × Int)) (s : Nat) (acc : Option (Int × Int)) (m : List (Int × duty_cost)) : Prop where
 lo : ∀ S' : Nat, S' < s → mget m (S' : Int) = enc (T S')
 hi : ∀ S' : Nat, s < S' → mget m (S' : Int) = none
 at' : mget m (s : Int) = enc acc
theorem MI.set {T : Nat → Option (Int × Int)} {s : Nat} {acc : Option (Int × Int)} {m : List (Int × duty_cost)} (h : MI T s acc m) (c : Int × Int) : MI T s (some c) (mset m (s : Int) (c.1, c.2, ())) :=
 ⟨fun S' hs => by rw [mget_mset, if_neg (by omega)]; exact h.lo S' hs, fun S' hs => by rw [mget_mset, if_neg (by omega)]; exact h.hi S' hs, by rw [mget_mset, if_pos rfl]; rfl⟩
theorem tab_row (hne : ∀ o ∈ OL t y p r, dM p o ≠ 0) (hlt : ∀ o ∈ OL t y p r, dM p o < 4611686018427387904) (hsp : ∀ o ∈ OL t y p r, -200000 ≤ spD t p o ∧ spD t p o ≤ 200000) (hl : (OL t y p r).length ≤ 1000000000000) {s : Nat} (h0 : 0 < s) (hs : s ≤ 1000000) {m : List (Int × duty_cost)} (hm : MI (tab (dM p) (spD t p) (OL t y p r)) s none m) :
    Tot (fun m' => MI (tab (dM p) (spD t p) (OL t y p r)) s (tab (dM p) (spD t p) (OL t y p r) s) m') (iter (σ := (Int × (List (Int × duty_cost)))) (τ := ((List (Int × duty_cost)))) (fun s251 =>
cond ((decide (s251.1 < (lenI ((OL t y p r).map (mkOp t p)))))) (Option.bind (idx ((OL t y p r).map (mkOp t p)) s251.1) fun x254 =>
cond (((s : Int) == 0)) (some (.inl (((w64 (s251.1 + 1)), s251.2)))) (cond (((bAnd .u64 x254.2.1 ((bAnd .u64 (s : Int) ((IntKind.u64.wrap (0 - (s : Int))))))) == 0)) (some (.inl (((w64 (s251.1 + 1)), s251.2)))) (cond (((bAndNot .u64 x254.2.1 (s : Int)) != 0)) (some (.inl (((w64 (s251.1 + 1)), s251.2)))) (cond ((!((mget s251.2 ((bAndNot .u64 (s : Int) x254.2.1))).isSome))) (some (.inl (((w64 (s251.1 + 1)), s251.2)))) (cond ((!((mget s251.2 (s : Int)).isSome))) (some (.inl (((w64 (s251.1 + 1)), (mset s251.2 (s : Int) ((((w64 ((((mget s251.2 ((bAndNot .u64 (s : Int) x254.2.1))).getD (0, 0, ()))).1 + 1)), (w64 ((((mget s251.2 ((bAndNot .u64 (s : Int) x254.2.1))).getD (0, 0, ()))).2.1 + x254.2.2.1)), ()) : duty_cost))))))) (cond ((decide (((((w64 ((((mget s251.2 ((bAndNot .u64 (s : Int) x254.2.1))).getD (0, 0, ()))).1 + 1)), (w64 ((((mget s251.2 ((bAndNot .u64 (s : Int) x254.2.1))).getD (0, 0, ()))).2.1 + x254.2.2.1)), ()) : duty_cost)).1 < (((mget s251.2 (s : Int)).getD (0, 0, ()))).1))) (some (.inl (((w64 (s251.1 + 1)), (mset s251.2 (s : Int) ((((w64 ((((mget s251.2 ((bAndNot .u64 (s : Int) x254.2.1))).getD (0, 0, ()))).1 + 1)), (w64 ((((mget s251.2 ((bAndNot .u64 (s : Int) x254.2.1))).getD (0, 0, ()))).2.1 + x254.2.2.1)), ()) : duty_cost))))))) (cond ((((((w64 ((((mget s251.2 ((bAndNot .u64 (s : Int) x254.2.1))).getD (0, 0, ()))).1 + 1)), (w64 ((((mget s251.2 ((bAndNot .u64 (s : Int) x254.2.1))).getD (0, 0, ()))).2.1 + x254.2.2.1)), ()) : duty_cost)).1 == (((mget s251.2 (s : Int)).getD (0, 0, ()))).1)) (cond ((decide (((((w64 ((((mget s251.2 ((bAndNot .u64 (s : Int) x254.2.1))).getD (0, 0, ()))).1 + 1)), (w64 ((((mget s251.2 ((bAndNot .u64 (s : Int) x254.2.1))).getD (0, 0, ()))).2.1 + x254.2.2.1)), ()) : duty_cost)).2.1 < (((mget s251.2 (s : Int)).getD (0, 0, ()))).2.1))) (some (.inl (((w64 (s251.1 + 1)), (mset s251.2 (s : Int) ((((w64 ((((mget s251.2 ((bAndNot .u64 (s : Int) x254.2.1))).getD (0, 0, ()))).1 + 1)), (w64 ((((mget s251.2 ((bAndNot .u64 (s : Int) x254.2.1))).getD (0, 0, ()))).2.1 + x254.2.2.1)), ()) : duty_cost))))))) (some (.inl (((w64 (s251.1 + 1)), s251.2))))) (some (.inl (((w64 (s251.1 + 1)), s251.2))))))))))) (some (.inr s251.2))) big ((0, m))) := by
 have hT := tab_ok (st := dM p) (sp := spD t p) hne
 have hTb : ∀ S c, tab (dM p) (spD t p) (OL t y p r) S = some c → 0 ≤ c.1 ∧ c.1 ≤ S ∧ -200000 * c.1 ≤ c.2 ∧ c.2 ≤ 200000 * c.1 := fun S c h => tab_bound hne hsp h
 obtain ⟨i, hi, hlow, hile⟩ := low_u h0 (show s < 4611686018427387904 by omega)
 rw [tab_low (sp := spD t p) hne hi]
 generalize tab (dM p) (spD t p) (OL t y p r) = T at *
 generalize OL t y p r = os at *
 refine Tot.iter (fun v : Int × List (Int × duty_cost) => ∃ k : Nat, k ≤ os.length ∧ v.1 = k ∧ MI T s ((os.take k).foldl (stp (dM p) (spD t p) (cnL (dM p) s i) T s) none) v.2) _ (fun v => (os.length - v.1).toNat) ⟨0, by omega, rfl, hm⟩ (by simp only [big]; omega) ?_
 rintro ⟨_, m⟩ ⟨k, hk, rfl, hM⟩
 simp only [] at hM
 simp only [hlow]
 by_cases hkl : k < os.length
 ·have hw : w64 ((k : Int) + 1) = ((k + 1 : Nat) : Int) := by rw [w64_in (by omega) (by omega)]; omega
  have hx : idx (os.map (mkOp t p)) (k : Int) = some (mkOp t p os[k]) := by
   rw [idx_nat, List.getElem?_map, List.getElem?_eq_getElem hkl]; rfl
  have hmem : os[k] ∈ os := List.getElem_mem hkl
  have htk : os.take (k + 1) = os.take k ++ [os[k]] := by rw [List.take_add_one, List.getElem?_eq_getElem hkl]; rfl
  have hacc := stp_bound (st := dM p) (sp := spD t p) (os := os) (cn := cnL (dM p) s i) (T := T) (S := s) (B := 1000000) (fun S' c h1 h2 => by have := hTb S' c h2; omega) hsp (os.take k) (fun x hx => List.mem_of_mem_take hx) none (fun c h => by cases h)
  obtain ⟨acc, hae⟩ : ∃ acc, (os.take k).foldl (stp (dM p) (spD t p) (cnL (dM p) s i) T s) none = acc := ⟨_, rfl⟩
  rw [hae] at hM hacc
  rw [decide_eq_true (show (k : Int) < lenI (os.map (mkOp t p)) by rw [lenI_eq, List.length_map]; omega), cond_true, hx, Option.bind_some, hw]
  obtain ⟨o, hoe⟩ : ∃ o, os[k] = o := ⟨_, rfl⟩
  rw [hoe] at hmem htk ⊢
  have ho := hlt o hmem
  have hso := hsp o hmem
  have goal : ∀ acc' m', stp (dM p) (spD t p) (cnL (dM p) s i) T s acc o = acc' → MI T s acc' m' → Tot (StepT (fun v : Int × List (Int × duty_cost) => ∃ k : Nat, k ≤ os.length ∧ v.1 = k ∧ MI T s ((os.take k).foldl (stp (dM p) (spD t p) (cnL (dM p) s i) T s) none) v.2) (fun m' => MI T s (os.foldl (stp (dM p) (spD t p) (cnL (dM p) s i) T s) none) m') (fun v => (os.length - v.1).toNat) ((k : Int), m)) (some (.inl (((k + 1 : Nat) : Int), m'))) := by
   intro acc' m' he hM'
   refine Tot.some ⟨⟨k + 1, by omega, rfl, ?_⟩, by simp only []; omega⟩
   rw [htk, List.foldl_append, hae]
   show MI T s (stp (dM p) (spD t p) (cnL (dM p) s i) T s acc o) m'
   rw [he]; exact hM'
  have hz : ∀ v : Nat, (((v : Nat) : Int) == 0) = decide (v = 0) := fun v => by
   by_cases q : v = 0
   ·subst q; rfl
   ·rw [decide_eq_false q, beq_eq_false_iff_ne]; omega
  have hz' : ∀ v : Nat, (((v : Nat) : Int) != 0) = !decide (v = 0) := fun v => by rw [← hz]; rfl
  have e0 : ((s : Int) == 0) = false := by rw [hz, decide_eq_false (by omega)]
  have q1 : (mkOp t p o).2.1 = ((dM p o : Nat) : Int) := rfl
  have q2 : (mkOp t p o).2.2.1 = spD t p o := rfl
  simp only [e0, cond_false, q1, q2, bAnd_u ho (show 2 ^ i < 18446744073709551616 by omega), bAndNot_u ho (show s < 4611686018427387904 by omega), bAndNot_u (show s < 4611686018427387904 by omega) ho, hz, hz']
  cases hb : (dM p o).testBit i with
  | false =>
   rw [decide_eq_true (and_pow.2 hb), cond_true]
   exact goal acc m (by unfold stp cnL; rw [hb]; simp) hM
  | true =>
   rw [decide_eq_false (show ¬ dM p o &&& 2 ^ i = 0 from fun q => by rw [and_pow.1 q] at hb; cases hb), cond_false]
   by_cases hs' : sd (dM p o) s = 0
   ·rw [decide_eq_true hs', Bool.not_true, cond_false]
    have hcn : cnL (dM p) s i o = true := by unfold cnL; rw [hb, decide_eq_true hs']; rfl
    have hlt' := sd_lt (sub_sd.1 hs') (hne o hmem)
    rw [hM.lo _ hlt', hM.at']
    cases hTd : T (sd s (dM p o)) with
    | none =>
     exact goal acc m (by unfold stp cnd; rw [if_pos hcn, hTd]; rfl) hM
    | some d =>
     have hdb := hTb _ _ hTd
     have w1 : w64 (d.1 + 1) = d.1 + 1 := w64_in (by omega) (by omega)
     have w2 : w64 (d.2 + spD t p o) = d.2 + spD t p o := w64_in (by omega) (by omega)
     have x1 : enc (some d) = some (d.1, d.2, ()) := rfl
     have hst : stp (dM p) (spD t p) (cnL (dM p) s i) T s acc o = better acc (d.1 + 1, d.2 + spD t p o) := by
      unfold stp cnd
      rw [if_pos hcn, hTd]
      rfl
     simp only [x1, Option.isSome_some, Bool.not_true, cond_false, Option.getD_some, w1, w2]
     cases acc with
     | none => exact goal _ _ hst (hM.set _)
     | some a =>
      have x2 : enc (some a) = some (a.1, a.2, ()) := rfl
      simp only [x2, Option.isSome_some, Bool.not_true, cond_false, Option.getD_some]
      unfold better at hst
      simp only [] at hst
      by_cases c1 : d.1 + 1 < a.1
      ·rw [decide_eq_true c1, cond_true]
       rw [if_pos (.inl c1)] at hst
       exact goal _ _ hst (hM.set _)
      ·rw [decide_eq_false c1, cond_false]
       by_cases c2 : d.1 + 1 = a.1
       ·rw [show (d.1 + 1 == a.1) = true from beq_iff_eq.2 c2, cond_true]
        by_cases c3 : d.2 + spD t p o < a.2
        ·rw [decide_eq_true c3, cond_true]
         rw [if_pos (.inr ⟨c2, c3⟩)] at hst
         exact goal _ _ hst (hM.set _)
        ·rw [decide_eq_false c3, cond_false]
         rw [if_neg (by omega)] at hst
         exact goal _ _ hst hM
       ·rw [show (d.1 + 1 == a.1) = false from beq_eq_false_iff_ne.2 c2, cond_false]
        rw [if_neg (by omega)] at hst
        exact goal _ _ hst hM
   ·rw [decide_eq_false hs', Bool.not_false, cond_true]
    exact goal acc m (by unfold stp cnL; rw [decide_eq_false hs']; simp) hM
 ·rw [decide_eq_false (show ¬ (k : Int) < lenI (os.map (mkOp t p)) by rw [lenI_eq, List.length_map]; omega), cond_false]
  rw [List.take_of_length_le (by omega)] at hM
  exact Tot.some hM
end
end Go.Ai.Sx

/- The duties: the program's plan is read from the table. -/
namespace Go.Ai.Sx
section
variable {t : List Task} {y : Yard} {p : List (List Int)} {r : WorkRules}
structure OsOk (p : List (List Int)) (sp : Duty → Int) (os : List Duty) : Prop where
 ne : ∀ o ∈ os, dM p o ≠ 0
 lt : ∀ o ∈ os, dM p o < 4611686018427387904
 sp : ∀ o ∈ os, -200000 ≤ sp o ∧ sp o ≤ 200000
 len : os.length ≤ 1000000000000
theorem OL_osok (hf : fine t y = true) (hS : PlanS t y p) (ht : t.length ≤ 62) (hp : p.length ≤ 80) (hrow : ∀ r ∈ p, r.length ≤ 80) : OsOk p (spD t p) (OL t y p r) := by
 have hd : ∀ o ∈ OL t y p r, DOk t y p o := fun o ho => LD_ok hS (List.mem_filter.1 ho).1
 exact ⟨fun o ho => (hd o ho).ne ht, fun o ho => (hd o ho).lt ht, fun o ho => (hd o ho).sp hf, by have := OL_len (t := t) (y := y) (r := r) hp hrow; omega⟩
noncomputable def TT (t : List Task) (y : Yard) (p : List (List Int)) (r : WorkRules) : Nat → Option (Int × Int) := tab (dM p) (spD t p) (OL t y p r)
theorem tab_row0 (hl : (OL t y p r).length ≤ 1000000000000) {m : List (Int × duty_cost)} :
    iter (σ := (Int × (List (Int × duty_cost)))) (τ := ((List (Int × duty_cost)))) (fun s251 =>
cond ((decide (s251.1 < (lenI ((OL t y p r).map (mkOp t p)))))) (Option.bind (idx ((OL t y p r).map (mkOp t p)) s251.1) fun x254 =>
cond (((0 : Int) == 0)) (some (.inl (((w64 (s251.1 + 1)), s251.2)))) (cond (((bAnd .u64 x254.2.1 ((bAnd .u64 (0 : Int) ((IntKind.u64.wrap (0 - (0 : Int))))))) == 0)) (some (.inl (((w64 (s251.1 + 1)), s251.2)))) (cond (((bAndNot .u64 x254.2.1 (0 : Int)) != 0)) (some (.inl (((w64 (s251.1 + 1)), s251.2)))) (cond ((!((mget s251.2 ((bAndNot .u64 (0 : Int) x254.2.1))).isSome))) (some (.inl (((w64 (s251.1 + 1)), s251.2)))) (cond ((!((mget s251.2 (0 : Int)).isSome))) (some (.inl (((w64 (s251.1 + 1)), (mset s251.2 (0 : Int) ((((w64 ((((mget s251.2 ((bAndNot .u64 (0 : Int) x254.2.1))).getD (0, 0, ()))).1 + 1)), (w64 ((((mget s251.2 ((bAndNot .u64 (0 : Int) x254.2.1))).getD (0, 0, ()))).2.1 + x254.2.2.1)), ()) : duty_cost))))))) (cond ((decide (((((w64 ((((mget s251.2 ((bAndNot .u64 (0 : Int) x254.2.1))).getD (0, 0, ()))).1 + 1)), (w64 ((((mget s251.2 ((bAndNot .u64 (0 : Int) x254.2.1))).getD (0, 0, ()))).2.1 + x254.2.2.1)), ()) : duty_cost)).1 < (((mget s251.2 (0 : Int)).getD (0, 0, ()))).1))) (some (.inl (((w64 (s251.1 + 1)), (mset s251.2 (0 : Int) ((((w64 ((((mget s251.2 ((bAndNot .u64 (0 : Int) x254.2.1))).getD (0, 0, ()))).1 + 1)), (w64 ((((mget s251.2 ((bAndNot .u64 (0 : Int) x254.2.1))).getD (0, 0, ()))).2.1 + x254.2.2.1)), ()) : duty_cost))))))) (cond ((((((w64 ((((mget s251.2 ((bAndNot .u64 (0 : Int) x254.2.1))).getD (0, 0, ()))).1 + 1)), (w64 ((((mget s251.2 ((bAndNot .u64 (0 : Int) x254.2.1))).getD (0, 0, ()))).2.1 + x254.2.2.1)), ()) : duty_cost)).1 == (((mget s251.2 (0 : Int)).getD (0, 0, ()))).1)) (cond ((decide (((((w64 ((((mget s251.2 ((bAndNot .u64 (0 : Int) x254.2.1))).getD (0, 0, ()))).1 + 1)), (w64 ((((mget s251.2 ((bAndNot .u64 (0 : Int) x254.2.1))).getD (0, 0, ()))).2.1 + x254.2.2.1)), ()) : duty_cost)).2.1 < (((mget s251.2 (0 : Int)).getD (0, 0, ()))).2.1))) (some (.inl (((w64 (s251.1 + 1)), (mset s251.2 (0 : Int) ((((w64 ((((mget s251.2 ((bAndNot .u64 (0 : Int) x254.2.1))).getD (0, 0, ()))).1 + 1)), (w64 ((((mget s251.2 ((bAndNot .u64 (0 : Int) x254.2.1))).getD (0, 0, ()))).2.1 + x254.2.2.1)), ()) : duty_cost))))))) (some (.inl (((w64 (s251.1 + 1)), s251.2))))) (some (.inl (((w64 (s251.1 + 1)), s251.2))))))))))) (some (.inr s251.2))) big ((0, m)) = some m := by
 generalize OL t y p r = os at *
 rw [iter_fold (s0 := ((0 : Int), m)) (fun k c => ((k : Int), c)) (fun _ c => c) os.length (fun _ _ => True) m id rfl (by simp only [big]; omega) trivial]
 ·simp only [id]
  congr 1
  generalize List.range os.length = l
  induction l with
  | nil => rfl
  | cons a l ih => exact ih
 ·intro k c hk _
  have hw : w64 ((k : Int) + 1) = ((k + 1 : Nat) : Int) := by rw [w64_in (by omega) (by omega)]; omega
  have hx : idx (os.map (mkOp t p)) (k : Int) = some (mkOp t p os[k]) := by
   rw [idx_nat, List.getElem?_map, List.getElem?_eq_getElem hk]; rfl
  refine ⟨?_, trivial⟩
  simp only [decide_eq_true (show (k : Int) < lenI (os.map (mkOp t p)) by rw [lenI_eq, List.length_map]; omega), cond_true, hx, Option.bind_some, hw]
  rfl
 ·intro c _
  simp only [decide_eq_false (show ¬ (os.length : Int) < lenI (os.map (mkOp t p)) by rw [lenI_eq, List.length_map]; omega), cond_false, id]
theorem tab_loop (hO : OsOk p (spD t p) (OL t y p r)) {N : Nat} (hN : 1 ≤ N ∧ N ≤ 100000) :
    Tot (fun m' : List (Int × duty_cost) => ∀ S' : Nat, S' < N → mget m' (S' : Int) = enc (TT t y p r S')) (iter (σ := (Int × (List (Int × duty_cost)))) (τ := ((List (Int × duty_cost)))) (fun s192 =>
cond ((decide (s192.1 < (N : Int)))) (Option.bind (iter (σ := (Int × (List (Int × duty_cost)))) (τ := ((List (Int × duty_cost)))) (fun s251 =>
cond ((decide (s251.1 < (lenI ((OL t y p r).map (mkOp t p)))))) (Option.bind (idx ((OL t y p r).map (mkOp t p)) s251.1) fun x254 =>
cond ((s192.1 == 0)) (some (.inl (((w64 (s251.1 + 1)), s251.2)))) (cond (((bAnd .u64 x254.2.1 ((bAnd .u64 s192.1 ((IntKind.u64.wrap (0 - s192.1)))))) == 0)) (some (.inl (((w64 (s251.1 + 1)), s251.2)))) (cond (((bAndNot .u64 x254.2.1 s192.1) != 0)) (some (.inl (((w64 (s251.1 + 1)), s251.2)))) (cond ((!((mget s251.2 ((bAndNot .u64 s192.1 x254.2.1))).isSome))) (some (.inl (((w64 (s251.1 + 1)), s251.2)))) (cond ((!((mget s251.2 s192.1).isSome))) (some (.inl (((w64 (s251.1 + 1)), (mset s251.2 s192.1 ((((w64 ((((mget s251.2 ((bAndNot .u64 s192.1 x254.2.1))).getD (0, 0, ()))).1 + 1)), (w64 ((((mget s251.2 ((bAndNot .u64 s192.1 x254.2.1))).getD (0, 0, ()))).2.1 + x254.2.2.1)), ()) : duty_cost))))))) (cond ((decide (((((w64 ((((mget s251.2 ((bAndNot .u64 s192.1 x254.2.1))).getD (0, 0, ()))).1 + 1)), (w64 ((((mget s251.2 ((bAndNot .u64 s192.1 x254.2.1))).getD (0, 0, ()))).2.1 + x254.2.2.1)), ()) : duty_cost)).1 < (((mget s251.2 s192.1).getD (0, 0, ()))).1))) (some (.inl (((w64 (s251.1 + 1)), (mset s251.2 s192.1 ((((w64 ((((mget s251.2 ((bAndNot .u64 s192.1 x254.2.1))).getD (0, 0, ()))).1 + 1)), (w64 ((((mget s251.2 ((bAndNot .u64 s192.1 x254.2.1))).getD (0, 0, ()))).2.1 + x254.2.2.1)), ()) : duty_cost))))))) (cond ((((((w64 ((((mget s251.2 ((bAndNot .u64 s192.1 x254.2.1))).getD (0, 0, ()))).1 + 1)), (w64 ((((mget s251.2 ((bAndNot .u64 s192.1 x254.2.1))).getD (0, 0, ()))).2.1 + x254.2.2.1)), ()) : duty_cost)).1 == (((mget s251.2 s192.1).getD (0, 0, ()))).1)) (cond ((decide (((((w64 ((((mget s251.2 ((bAndNot .u64 s192.1 x254.2.1))).getD (0, 0, ()))).1 + 1)), (w64 ((((mget s251.2 ((bAndNot .u64 s192.1 x254.2.1))).getD (0, 0, ()))).2.1 + x254.2.2.1)), ()) : duty_cost)).2.1 < (((mget s251.2 s192.1).getD (0, 0, ()))).2.1))) (some (.inl (((w64 (s251.1 + 1)), (mset s251.2 s192.1 ((((w64 ((((mget s251.2 ((bAndNot .u64 s192.1 x254.2.1))).getD (0, 0, ()))).1 + 1)), (w64 ((((mget s251.2 ((bAndNot .u64 s192.1 x254.2.1))).getD (0, 0, ()))).2.1 + x254.2.2.1)), ()) : duty_cost))))))) (some (.inl (((w64 (s251.1 + 1)), s251.2))))) (some (.inl (((w64 (s251.1 + 1)), s251.2))))))))))) (some (.inr s251.2))) big ((0, s192.2))) fun t281 =>
some (.inl (((IntKind.u64.wrap (s192.1 + 1)), t281)))) (some (.inr s192.2))) big ((0, (mset (([] : (List (Int × duty_cost)))) 0 (((0, 0, ()) : duty_cost)))))) := by
 refine Tot.iter (fun v : Int × List (Int × duty_cost) => ∃ s : Nat, v.1 = s ∧ s ≤ N ∧ ∀ S' : Nat, mget v.2 (S' : Int) = if S' < max s 1 then enc (TT t y p r S') else none) _ (fun v => (N - v.1).toNat) ⟨0, rfl, by omega, fun S' => ?_⟩ (by simp only [big]; omega) ?_
 ·simp only [mget_mset]
  by_cases e : S' = 0
  ·subst e
   unfold TT
   rw [tab_zero hO.ne]
   rfl
  ·rw [if_neg (by omega), if_neg (by omega)]
   rfl
 rintro ⟨_, m⟩ ⟨s, rfl, hs, hm⟩
 simp only [] at hm
 simp only []
 by_cases hsN : s < N
 ·have hw : IntKind.u64.wrap ((s : Int) + 1) = ((s + 1 : Nat) : Int) := by rw [wrap_u (by omega)]; omega
  rw [decide_eq_true (show (s : Int) < N by omega), cond_true, hw]
  by_cases h0 : s = 0
  ·subst h0
   have := tab_row0 (t := t) (y := y) (p := p) (r := r) hO.len (m := m)
   simp only [Int.natCast_zero] at this ⊢
   rw [this, Option.bind_some]
   exact Tot.some ⟨⟨1, rfl, by omega, hm⟩, by simp only []; omega⟩
  ·have hM : MI (TT t y p r) s none m := ⟨fun S' h => by rw [hm, if_pos (by omega)], fun S' h => by rw [hm, if_neg (by omega)], by rw [hm, if_neg (by omega)]; rfl⟩
   refine (tab_row hO.ne hO.lt hO.sp hO.len (by omega) (by omega) hM).bind fun m' hM' => ?_
   refine Tot.some ⟨⟨s + 1, rfl, by omega, fun S' => ?_⟩, by simp only []; omega⟩
   rcases Nat.lt_trichotomy S' s with h | h | h
   ·rw [if_pos (by omega)]; exact hM'.lo S' h
   ·subst h; rw [if_pos (by omega)]; exact hM'.at'
   ·rw [if_neg (by omega)]; exact hM'.hi S' h
 ·rw [decide_eq_false (show ¬ (s : Int) < N by omega), cond_false]
  refine Tot.some (show ∀ S' : Nat, _ → _ from fun S' h => ?_)
  rw [hm, if_pos (by omega)]
def Nxt' (T : Nat → Option (Int × Int)) (os : List Duty) (st : Duty → Nat) (sp : Duty → Int) (out : List Duty) (S : Nat) : (List Duty × Int × Bool × duty_cost × Int × Int × Int × Int × Int × Int × duty_cost × Bool × Int × Int) ⊕ (List Duty × Int × Int) → Prop
 | .inl b => ∃ o d, os.find? (qual st sp T S) = some o ∧ T (sd S (st o)) = some d ∧ b.1 = out ++ [o] ∧ b.2.1 = ((sd S (st o) : Nat) : Int) ∧ b.2.2.2.2.2.2.2.2.2.2.2.2.1 = d.1 ∧ b.2.2.2.2.2.2.2.2.2.2.2.2.2 = d.2
 | .inr _ => False
theorem nxt_mk {T : Nat → Option (Int × Int)} {os : List Duty} {st : Duty → Nat} {sp : Duty → Int} {out : List Duty} {S : Nat} {b : List Duty × Int × Bool × duty_cost × Int × Int × Int × Int × Int × Int × duty_cost × Bool × Int × Int} (o : Duty) (d : Int × Int) (h1 : os.find? (qual st sp T S) = some o) (h2 : T (sd S (st o)) = some d) (h3 : b.1 = out ++ [o]) (h4 : b.2.1 = ((sd S (st o) : Nat) : Int)) (h5 : b.2.2.2.2.2.2.2.2.2.2.2.2.1 = d.1) (h6 : b.2.2.2.2.2.2.2.2.2.2.2.2.2 = d.2) : Nxt' T os st sp out S (.inl b) := by
 unfold Nxt'
 exact ⟨o, d, h1, h2, h3, h4, h5, h6⟩
theorem read_row (hO : OsOk p (spD t p) (OL t y p r)) {N : Nat} (hN : N ≤ 100000) {m : List (Int × duty_cost)} (hm : ∀ S' : Nat, S' < N → mget m (S' : Int) = enc (TT t y p r S')) {S : Nat} (hS : S < N) (h0 : S ≠ 0) {c : Int × Int} (hc : TT t y p r S = some c) {out : List Duty} (ho : out.length ≤ 100000) :
    Tot (Nxt' (TT t y p r) (OL t y p r) (dM p) (spD t p) out S) (iter (σ := ((List Duty) × Int × Int × Int × Int)) (τ := ((List Duty) × Int × Bool × duty_cost × Int × Int × Int × Int × Int × Int × duty_cost × Bool × Int × Int) ⊕ ((List Duty) × Int × Int)) (fun s464 =>
cond ((decide (s464.2.2.1 < (lenI ((OL t y p r).map (mkOp t p)))))) (Option.bind (idx ((OL t y p r).map (mkOp t p)) s464.2.2.1) fun x471 =>
cond (((bAndNot .u64 x471.2.1 s464.2.1) == 0)) (cond (((mget m ((bAndNot .u64 s464.2.1 x471.2.1))).isSome)) (cond ((((mget m ((bAndNot .u64 s464.2.1 x471.2.1))).getD (0, 0, ())) == (((w64 (s464.2.2.2.1 - 1)), (w64 (s464.2.2.2.2 - x471.2.2.1)), ()) : duty_cost))) (Option.bind (appO 24 s464.1 ([x471.1])) fun x481 =>
some (.inr ((.inl ((x481, (bAndNot .u64 s464.2.1 x471.2.1), ((mget m ((bAndNot .u64 s464.2.1 x471.2.1))).isSome), ((mget m ((bAndNot .u64 s464.2.1 x471.2.1))).getD (0, 0, ())), s464.2.2.2.1, (w64 (s464.2.2.2.1 - 1)), s464.2.2.2.2, x471.2.2.1, x471.2.2.1, (w64 (s464.2.2.2.2 - x471.2.2.1)), (((w64 (s464.2.2.2.1 - 1)), (w64 (s464.2.2.2.2 - x471.2.2.1)), ()) : duty_cost), (((mget m ((bAndNot .u64 s464.2.1 x471.2.1))).getD (0, 0, ())) == (((w64 (s464.2.2.2.1 - 1)), (w64 (s464.2.2.2.2 - x471.2.2.1)), ()) : duty_cost)), (((mget m ((bAndNot .u64 s464.2.1 x471.2.1))).getD (0, 0, ()))).1, (((mget m ((bAndNot .u64 s464.2.1 x471.2.1))).getD (0, 0, ()))).2.1)))))) (some (.inl ((s464.1, s464.2.1, (w64 (s464.2.2.1 + 1)), s464.2.2.2.1, s464.2.2.2.2))))) (some (.inl ((s464.1, s464.2.1, (w64 (s464.2.2.1 + 1)), s464.2.2.2.1, s464.2.2.2.2))))) (some (.inl ((s464.1, s464.2.1, (w64 (s464.2.2.1 + 1)), s464.2.2.2.1, s464.2.2.2.2))))) (some (.inr ((.inr ((s464.1, s464.2.2.2.1, s464.2.2.2.2))))))) big ((out, (S : Int), 0, c.1, c.2))) := by
  have hT := tab_ok (st := dM p) (sp := spD t p) hO.ne
  have hTb : ∀ S c, TT t y p r S = some c → 0 ≤ c.1 ∧ c.1 ≤ S ∧ -200000 * c.1 ≤ c.2 ∧ c.2 ≤ 200000 * c.1 := fun S c h => tab_bound hO.ne hO.sp h
  obtain ⟨oq, hoq1, hoq2⟩ := qual_ex (st := dM p) (sp := spD t p) (T := TT t y p r) (S := S) (fun S' _ => hT S') h0 hc
  have hcb := hTb _ _ hc
  generalize TT t y p r = T at *
  have hlt := hO.lt
  have hsp := hO.sp
  have hlen := hO.len
  have hne := hO.ne
  generalize OL t y p r = os at *
  refine Tot.iter (fun v : List Duty × Int × Int × Int × Int => ∃ k : Nat, k ≤ os.length ∧ v = (out, (S : Int), (k : Int), c.1, c.2) ∧ ∀ o ∈ os.take k, qual (dM p) (spD t p) T S o = false) _ (fun v => (os.length - v.2.2.1).toNat) ⟨0, by omega, rfl, by simp⟩ (by simp only [big]; omega) ?_
  rintro _ ⟨k, hk, rfl, hq⟩
  simp only []
  by_cases hkl : k < os.length
  · have hw : w64 ((k : Int) + 1) = ((k + 1 : Nat) : Int) := by rw [w64_in (by omega) (by omega)]; omega
    have hx : idx (os.map (mkOp t p)) (k : Int) = some (mkOp t p os[k]) := by
      rw [idx_nat, List.getElem?_map, List.getElem?_eq_getElem hkl]; rfl
    have hmem : os[k] ∈ os := List.getElem_mem hkl
    have htk : os.take (k + 1) = os.take k ++ [os[k]] := by rw [List.take_add_one, List.getElem?_eq_getElem hkl]; rfl
    have hspl : os = os.take k ++ os[k] :: os.drop (k + 1) := by
      conv => lhs; rw [← List.take_append_drop k os, List.drop_eq_getElem_cons hkl]
    rw [decide_eq_true (show (k : Int) < lenI (os.map (mkOp t p)) by rw [lenI_eq, List.length_map]; omega), cond_true, hx, Option.bind_some, hw]
    obtain ⟨o, hoe⟩ : ∃ o, os[k] = o := ⟨_, rfl⟩
    rw [hoe] at hmem htk hspl ⊢
    have hol := hlt o hmem
    have hso := hsp o hmem
    have q1 : (mkOp t p o).2.1 = ((dM p o : Nat) : Int) := rfl
    have q2 : (mkOp t p o).2.2.1 = spD t p o := rfl
    have q3 : (mkOp t p o).1 = o := rfl
    have hz : ∀ v : Nat, (((v : Nat) : Int) == 0) = decide (v = 0) := fun v => by
      by_cases q : v = 0
      · subst q; rfl
      · rw [decide_eq_false q, beq_eq_false_iff_ne]; omega
    have hle := sd_le S (dM p o)
    have w1 : w64 (c.1 - 1) = c.1 - 1 := w64_in (by omega) (by omega)
    have w2 : w64 (c.2 - spD t p o) = c.2 - spD t p o := w64_in (by omega) (by omega)
    simp only [q1, q2, q3, bAndNot_u hol (show S < 4611686018427387904 by omega), bAndNot_u (show S < 4611686018427387904 by omega) hol, hz, hm _ (show sd S (dM p o) < N by omega), w1, w2]
    have skip : qual (dM p) (spD t p) T S o = false → Tot (StepT (fun v : List Duty × Int × Int × Int × Int => ∃ k : Nat, k ≤ os.length ∧ v = (out, (S : Int), (k : Int), c.1, c.2) ∧ ∀ o ∈ os.take k, qual (dM p) (spD t p) T S o = false) (Nxt' T os (dM p) (spD t p) out S) (fun v => (os.length - v.2.2.1).toNat) (out, (S : Int), (k : Int), c.1, c.2)) (some (.inl (out, (S : Int), ((k + 1 : Nat) : Int), c.1, c.2))) := fun hf => by
      refine Tot.some ⟨⟨k + 1, by omega, rfl, fun x hx => ?_⟩, by simp only []; omega⟩
      rw [htk] at hx
      rcases List.mem_append.1 hx with hx | hx
      · exact hq x hx
      · rw [List.mem_singleton.1 hx]; exact hf
    have hqv : qual (dM p) (spD t p) T S o = (decide (sd (dM p o) S = 0) && match T (sd S (dM p o)), some c with
        | some a, some b => decide (a.1 + 1 = b.1) && decide (a.2 + spD t p o = b.2)
        | _, _ => false) := by unfold qual; rw [hc]; rfl
    cases hs' : decide (sd (dM p o) S = 0) with
    | false =>
      rw [cond_false]
      exact skip (by rw [hqv, hs']; rfl)
    | true =>
      rw [cond_true]
      cases hTd : T (sd S (dM p o)) with
      | none =>
        exact skip (by rw [hqv, hTd]; simp)
      | some d =>
        have hdb := hTb _ _ hTd
        have x1 : enc (some d) = some (d.1, d.2, ()) := rfl
        have hbe : (((d.1, d.2, ()) : duty_cost) == (c.1 - 1, c.2 - spD t p o, ())) = (decide (d.1 + 1 = c.1) && decide (d.2 + spD t p o = c.2)) := by
          rw [Bool.eq_iff_iff, beq_iff_eq, Bool.and_eq_true, decide_eq_true_eq, decide_eq_true_eq, Prod.mk.injEq, Prod.mk.injEq]
          constructor
          · rintro ⟨h1, h2, _⟩; omega
          · rintro ⟨h1, h2⟩; exact ⟨by omega, by omega, rfl⟩
        simp only [x1, Option.isSome_some, cond_true, Option.getD_some, hbe]
        rw [hTd, hs'] at hqv
        simp only [Bool.true_and] at hqv
        rw [← hqv]
        cases hqo : qual (dM p) (spD t p) T S o with
        | false =>
          rw [cond_false]
          exact skip hqo
        | true =>
          rw [cond_true, appO_some (by rw [List.length_singleton]; omega), Option.bind_some]
          refine Tot.some (nxt_mk o d ?_ hTd rfl rfl rfl rfl)
          rw [hspl, List.find?_append, List.find?_eq_none.2 (fun x hx => by rw [hq x hx]; simp), Option.none_or, List.find?_cons_of_pos hqo]
  · exfalso
    rw [List.take_of_length_le (by omega)] at hq
    rw [hq oq hoq1] at hoq2
    cases hoq2
noncomputable def PL (t : List Task) (y : Yard) (p : List (List Int)) (r : WorkRules) (N : Nat) : List Duty := rb (dM p) (spD t p) (OL t y p r) (TT t y p r) N (N - 1)
theorem read_loop (hO : OsOk p (spD t p) (OL t y p r)) {N : Nat} (hN : 1 ≤ N ∧ N ≤ 100000) {m : List (Int × duty_cost)} (hm : ∀ S' : Nat, S' < N → mget m (S' : Int) = enc (TT t y p r S')) {c : Int × Int} (hc : TT t y p r (N - 1) = some c) :
    iter (σ := ((List Duty) × Int × Int × Int)) (τ := ((List Duty))) (fun s425 =>
cond ((s425.2.1 != 0)) (Option.bind (iter (σ := ((List Duty) × Int × Int × Int × Int)) (τ := ((List Duty) × Int × Bool × duty_cost × Int × Int × Int × Int × Int × Int × duty_cost × Bool × Int × Int) ⊕ ((List Duty) × Int × Int)) (fun s464 =>
cond ((decide (s464.2.2.1 < (lenI ((OL t y p r).map (mkOp t p)))))) (Option.bind (idx ((OL t y p r).map (mkOp t p)) s464.2.2.1) fun x471 =>
cond (((bAndNot .u64 x471.2.1 s464.2.1) == 0)) (cond (((mget m ((bAndNot .u64 s464.2.1 x471.2.1))).isSome)) (cond ((((mget m ((bAndNot .u64 s464.2.1 x471.2.1))).getD (0, 0, ())) == (((w64 (s464.2.2.2.1 - 1)), (w64 (s464.2.2.2.2 - x471.2.2.1)), ()) : duty_cost))) (Option.bind (appO 24 s464.1 ([x471.1])) fun x481 =>
some (.inr ((.inl ((x481, (bAndNot .u64 s464.2.1 x471.2.1), ((mget m ((bAndNot .u64 s464.2.1 x471.2.1))).isSome), ((mget m ((bAndNot .u64 s464.2.1 x471.2.1))).getD (0, 0, ())), s464.2.2.2.1, (w64 (s464.2.2.2.1 - 1)), s464.2.2.2.2, x471.2.2.1, x471.2.2.1, (w64 (s464.2.2.2.2 - x471.2.2.1)), (((w64 (s464.2.2.2.1 - 1)), (w64 (s464.2.2.2.2 - x471.2.2.1)), ()) : duty_cost), (((mget m ((bAndNot .u64 s464.2.1 x471.2.1))).getD (0, 0, ())) == (((w64 (s464.2.2.2.1 - 1)), (w64 (s464.2.2.2.2 - x471.2.2.1)), ()) : duty_cost)), (((mget m ((bAndNot .u64 s464.2.1 x471.2.1))).getD (0, 0, ()))).1, (((mget m ((bAndNot .u64 s464.2.1 x471.2.1))).getD (0, 0, ()))).2.1)))))) (some (.inl ((s464.1, s464.2.1, (w64 (s464.2.2.1 + 1)), s464.2.2.2.1, s464.2.2.2.2))))) (some (.inl ((s464.1, s464.2.1, (w64 (s464.2.2.1 + 1)), s464.2.2.2.1, s464.2.2.2.2))))) (some (.inl ((s464.1, s464.2.1, (w64 (s464.2.2.1 + 1)), s464.2.2.2.1, s464.2.2.2.2))))) (some (.inr ((.inr ((s464.1, s464.2.2.2.1, s464.2.2.2.2))))))) big ((s425.1, s425.2.1, 0, s425.2.2.1, s425.2.2.2))) fun t490 =>
alt (fun b492 => some (.inl ((b492.1, b492.2.1, b492.2.2.2.2.2.2.2.2.2.2.2.2.1, b492.2.2.2.2.2.2.2.2.2.2.2.2.2)))) (fun b493 => some (.inr b493.1)) t490) (some (.inr s425.1))) big ([], ((N - 1 : Nat) : Int), c.1, c.2) = some (PL t y p r N) := by
 have hT := tab_ok (st := dM p) (sp := spD t p) hO.ne
 apply Tot.eq
 refine Tot.iter (fun v : List Duty × Int × Int × Int => ∃ S f : Nat, ∃ c, v.2 = ((S : Int), c.1, c.2) ∧ S ≤ f ∧ S < N ∧ TT t y p r S = some c ∧ v.1 ++ rb (dM p) (spD t p) (OL t y p r) (TT t y p r) f S = PL t y p r N ∧ v.1.length + S < N) _ (fun v => v.2.1.toNat) ⟨N - 1, N, c, rfl, by omega, by omega, hc, rfl, by simp only [List.length_nil]; omega⟩ (by simp only [big]; omega) ?_
 rintro ⟨out, _⟩ ⟨S, f, c, rfl, h1, h2, h3, h4, h5⟩
 simp only [] at h4 h5
 simp only []
 by_cases h0 : S = 0
 ·subst h0
  have : rb (dM p) (spD t p) (OL t y p r) (TT t y p r) f 0 = [] := by cases f <;> rfl
  rw [this, List.append_nil] at h4
  exact Tot.some h4
 ·have e : (((S : Nat) : Int) != 0) = true := by rw [bne_iff_ne]; omega
  rw [e, cond_true]
  refine (read_row hO hN.2 hm h2 h0 h3 (by omega)).bind fun b hb => ?_
  cases b with
  | inr b => exact hb.elim
  | inl b =>
   obtain ⟨o, d, g1, g2, g3, g4, g5, g6⟩ := hb
   have hmem := List.mem_of_find?_eq_some g1
   have hqu := List.find?_some g1
   have hlt := sd_lt (qual_iff.1 hqu).1 (hO.ne o hmem)
   obtain ⟨f, rfl⟩ : ∃ f', f = f' + 1 := ⟨f - 1, by omega⟩
   have hrb : rb (dM p) (spD t p) (OL t y p r) (TT t y p r) (f + 1) S = o :: rb (dM p) (spD t p) (OL t y p r) (TT t y p r) f (sd S (dM p o)) := by
    rw [rb, if_neg h0, g1]
   rw [hrb] at h4
   simp only [alt_inl]
   refine Tot.some ⟨⟨sd S (dM p o), f, d, ?_, by omega, by omega, g2, ?_, ?_⟩, ?_⟩
   ·simp only [g4, g5, g6]
   ·simp only [g3]
    rw [List.append_assoc]
    exact h4
   ·simp only [g3, List.length_append, List.length_singleton]; omega
   ·simp only [g4]; omega
end
end Go.Ai.Sx

/- The duties: the specification's table. -/
namespace Go.Ai.Sx
theorem getD_setN {A : Type} {l : List A} {a b : Nat} {v d : A} (ha : a < l.length) : (l.set a v).getD b d = if a = b then v else l.getD b d := by
 unfold List.getD
 rw [List.getElem?_set]
 by_cases e : a = b
 ·subst e; rw [if_pos rfl, if_pos rfl, if_pos ha]; rfl
 ·rw [if_neg e, if_neg e]
def Fv (few sums : List Int) (S : Nat) : Option (Int × Int) → Prop
 | none => few.getD S 0 = -1
 | some c => few.getD S 0 = c.1 ∧ sums.getD S 0 = c.2
structure RI (T : Nat → Option (Int × Int)) (N s : Nat) (acc : Option (Int × Int)) (sums few : List Int) : Prop where
 fl : few.length = N
 sl : sums.length = N
 lo : ∀ S', S' < s → Fv few sums S' (T S')
 at' : Fv few sums s acc
theorem Fv.other {few sums : List Int} {S s : Nat} {v : Option (Int × Int)} (h : Fv few sums S v) (hne : S ≠ s) (hf : s < few.length) (hs : s < sums.length) (x z : Int) : Fv (few.set s x) (sums.set s z) S v := by
 cases v with
 | none =>
  unfold Fv at h ⊢
  rw [getD_setN hf, if_neg (fun q => hne q.symm)]; exact h
 | some c =>
  unfold Fv at h ⊢
  rw [getD_setN hf, getD_setN hs, if_neg (fun q => hne q.symm), if_neg (fun q => hne q.symm)]; exact h
theorem RI.set {T : Nat → Option (Int × Int)} {N s : Nat} {acc : Option (Int × Int)} {sums few : List Int} (h : RI T N s acc sums few) (hs : s < N) (c : Int × Int) : RI T N s (some c) (sums.set s c.2) (few.set s c.1) := by
 have h1 := h.fl
 have h2 := h.sl
 refine ⟨by rw [List.length_set]; exact h1, by rw [List.length_set]; exact h2, fun S' hS => (h.lo S' hS).other (by omega) (by omega) (by omega) _ _, ?_⟩
 unfold Fv
 rw [getD_setN (by omega), getD_setN (by omega), if_pos rfl, if_pos rfl]
 exact ⟨rfl, rfl⟩
section
variable {t : List Task} {y : Yard} {p : List (List Int)} {r : WorkRules}
theorem ref_row (hf : fine t y = true) (hS : PlanS t y p) (ht : t.length ≤ 62) (hp : p.length ≤ 80) (hrow : ∀ r ∈ p, r.length ≤ 80) {N s : Nat} (h0 : 0 < s) (hs : s < N) (hN : N ≤ 100000) {sums few : List Int} (hm : RI (TT t y p r) N s none sums few) :
    Tot (fun v : List Int × List Int => RI (TT t y p r) N s (TT t y p r s) v.1 v.2) (iter (σ := (Int × (List Int) × (List Int))) (τ := ((List Int) × (List Int))) (fun s348 =>
cond ((decide (s348.1 < (lenI (LD t y p r))))) (Option.bind (idx (LD t y p r) s348.1) fun x351 =>
Option.bind (g_ref08_set p x351) fun y352 =>
cond ((!y352.2)) (some (.inl (((w64 (s348.1 + 1)), s348.2.1, s348.2.2)))) (cond (((bAnd .i64 y352.1 (s : Int)) != y352.1)) (some (.inl (((w64 (s348.1 + 1)), s348.2.1, s348.2.2)))) (Option.bind (idx s348.2.2 ((bAndNot .i64 (s : Int) y352.1))) fun x360 =>
cond ((decide (x360 < 0))) (some (.inl (((w64 (s348.1 + 1)), s348.2.1, s348.2.2)))) (Option.bind (idx s348.2.2 ((bAndNot .i64 (s : Int) y352.1))) fun x362 =>
Option.bind (idx s348.2.1 ((bAndNot .i64 (s : Int) y352.1))) fun x363 =>
Option.bind (idx (LD t y p r) s348.1) fun x364 =>
Option.bind (g_ref08_span t p x364) fun y365 =>
Option.bind (idx s348.2.2 (s : Int)) fun x373 =>
cond ((decide (x373 < 0))) (Option.bind (idx s348.2.2 (s : Int)) fun x376 =>
Option.bind (idx s348.2.1 (s : Int)) fun x377 =>
some (.inl (((w64 (s348.1 + 1)), (s348.2.1).set (Int.toNat (s : Int)) ((w64 (x363 + y365))), (s348.2.2).set (Int.toNat (s : Int)) ((w64 (x362 + 1))))))) (Option.bind (idx s348.2.2 (s : Int)) fun x378 =>
cond ((decide ((w64 (x362 + 1)) < x378))) (Option.bind (idx s348.2.2 (s : Int)) fun x381 =>
Option.bind (idx s348.2.1 (s : Int)) fun x382 =>
some (.inl (((w64 (s348.1 + 1)), (s348.2.1).set (Int.toNat (s : Int)) ((w64 (x363 + y365))), (s348.2.2).set (Int.toNat (s : Int)) ((w64 (x362 + 1))))))) (Option.bind (idx s348.2.2 (s : Int)) fun x383 =>
cond (((w64 (x362 + 1)) == x383)) (Option.bind (idx s348.2.1 (s : Int)) fun x385 =>
cond ((decide ((w64 (x363 + y365)) < x385))) (Option.bind (idx s348.2.2 (s : Int)) fun x387 =>
Option.bind (idx s348.2.1 (s : Int)) fun x388 =>
some (.inl (((w64 (s348.1 + 1)), (s348.2.1).set (Int.toNat (s : Int)) ((w64 (x363 + y365))), (s348.2.2).set (Int.toNat (s : Int)) ((w64 (x362 + 1))))))) (some (.inl (((w64 (s348.1 + 1)), s348.2.1, s348.2.2))))) (some (.inl (((w64 (s348.1 + 1)), s348.2.1, s348.2.2)))))))))) (some (.inr (((s348.2.1, s348.2.2)))))) big ((0, sums, few))) := by
 have hO : OsOk p (spD t p) (OL t y p r) := OL_osok hf hS ht hp hrow
 have hTb : ∀ S c, TT t y p r S = some c → 0 ≤ c.1 ∧ c.1 ≤ S ∧ -200000 * c.1 ≤ c.2 ∧ c.2 ≤ 200000 * c.1 := fun S c h => tab_bound hO.ne hO.sp h
 have hfin : TT t y p r s = ((LD t y p r).filter (dOk p)).foldl (stp (dM p) (spD t p) (cnS (dM p) s) (TT t y p r) s) none := tab_any (sp := spD t p) hO.ne (by omega)
 have hD : ∀ d ∈ LD t y p r, DOk t y p d := fun d hd => LD_ok hS hd
 have hLl := LD_len (t := t) (y := y) (r := r) hp hrow
 have hne := hO.ne
 have hsp := hO.sp
 unfold OL at hne hsp
 generalize TT t y p r = T at *
 generalize LD t y p r = L at *
 refine Tot.iter (fun v : Int × List Int × List Int => ∃ k : Nat, k ≤ L.length ∧ v.1 = k ∧ RI T N s (((L.take k).filter (dOk p)).foldl (stp (dM p) (spD t p) (cnS (dM p) s) T s) none) v.2.1 v.2.2) _ (fun v => (L.length - v.1).toNat) ⟨0, by omega, rfl, hm⟩ (by simp only [big]; omega) ?_
 rintro ⟨_, sums, few⟩ ⟨k, hk, rfl, hM⟩
 simp only [] at hM
 simp only []
 by_cases hkl : k < L.length
 ·have hw : w64 ((k : Int) + 1) = ((k + 1 : Nat) : Int) := by rw [w64_in (by omega) (by omega)]; omega
  have hmem : L[k] ∈ L := List.getElem_mem hkl
  have htk : L.take (k + 1) = L.take k ++ [L[k]] := by rw [List.take_add_one, List.getElem?_eq_getElem hkl]; rfl
  have hacc := stp_bound (st := dM p) (sp := spD t p) (os := L.filter (dOk p)) (cn := cnS (dM p) s) (T := T) (S := s) (B := 1000000) (fun S' c h1 h2 => by have := hTb S' c h2; omega) hsp ((L.take k).filter (dOk p)) (fun x hx => by
   have := List.mem_filter.1 hx
   exact List.mem_filter.2 ⟨List.mem_of_mem_take this.1, this.2⟩) none (fun c h => by cases h)
  obtain ⟨acc, hae⟩ : ∃ acc, ((L.take k).filter (dOk p)).foldl (stp (dM p) (spD t p) (cnS (dM p) s) T s) none = acc := ⟨_, rfl⟩
  rw [hae] at hM hacc
  have hx : idx L (k : Int) = some L[k] := idx_some hkl
  obtain ⟨o, hoe⟩ : ∃ o, L[k] = o := ⟨_, rfl⟩
  rw [hoe] at hmem htk hx
  have hdo := hD o hmem
  have ho := hdo.lt ht
  have hso := hdo.sp hf
  have hfl := hM.fl
  have hsl := hM.sl
  have goal : ∀ acc' sums' few', (if dOk p o then stp (dM p) (spD t p) (cnS (dM p) s) T s acc o else acc) = acc' → RI T N s acc' sums' few' → Tot (StepT (fun v : Int × List Int × List Int => ∃ k : Nat, k ≤ L.length ∧ v.1 = k ∧ RI T N s (((L.take k).filter (dOk p)).foldl (stp (dM p) (spD t p) (cnS (dM p) s) T s) none) v.2.1 v.2.2) (fun v : List Int × List Int => RI T N s (T s) v.1 v.2) (fun v => (L.length - v.1).toNat) ((k : Int), sums, few)) (some (.inl (((k + 1 : Nat) : Int), sums', few'))) := by
   intro acc' sums' few' he hM'
   refine Tot.some ⟨⟨k + 1, by omega, rfl, ?_⟩, by simp only []; omega⟩
   have : ((L.take (k + 1)).filter (dOk p)).foldl (stp (dM p) (spD t p) (cnS (dM p) s) T s) none = acc' := by
    rw [htk, List.filter_append, List.foldl_append, hae, ← he]
    cases hdk : dOk p o with
    | true => rw [List.filter_cons_of_pos hdk]; rfl
    | false => rw [List.filter_cons_of_neg (by simp [hdk])]; rfl
   rw [this]; exact hM'
  simp only [decide_eq_true (show (k : Int) < lenI L by rw [lenI_eq]; omega), cond_true, hx, Option.bind_some, hw, set_ref hS hdo ht hrow, span_ref hdo hf]
  cases hdk : dOk p o with
  | false =>
   rw [if_neg (by simp)]
   simp only [Bool.not_false, cond_true]
   exact goal acc sums few (by rw [hdk]; rfl) hM
  | true =>
   rw [if_pos rfl]
   rw [hdk, if_pos rfl] at goal
   have hmo : o ∈ L.filter (dOk p) := List.mem_filter.2 ⟨hmem, hdk⟩
   have hsN : s < 4611686018427387904 := by omega
   have hbe : ((((dM p o &&& s : Nat) : Int)) != ((dM p o : Nat) : Int)) = !decide (sd (dM p o) s = 0) := by
    by_cases q : sd (dM p o) s = 0
    ·rw [decide_eq_true q, sub_and.2 (sub_sd.1 q)]; simp
    ·rw [decide_eq_false q, Bool.not_false, bne_iff_ne]
     intro e
     exact q (sub_sd.2 (sub_and.1 (by omega)))
   simp only [Bool.not_true, cond_false, bAnd_i ho hsN, bAndNot_i hsN ho, hbe]
   by_cases hs' : sd (dM p o) s = 0
   ·rw [decide_eq_true hs', Bool.not_true, cond_false]
    have hcn : cnS (dM p) s o = true := by unfold cnS; rw [decide_eq_true hs']
    have hlt' := sd_lt (sub_sd.1 hs') (hne o hmo)
    have hv := hM.lo _ hlt'
    have hat := hM.at'
    simp only [idx_natD (l := few) 0 (show sd s (dM p o) < few.length by omega), idx_natD (l := sums) 0 (show sd s (dM p o) < sums.length by omega), idx_natD (l := few) 0 (show s < few.length by omega), idx_natD (l := sums) 0 (show s < sums.length by omega), Option.bind_some]
    cases hTd : T (sd s (dM p o)) with
    | none =>
     rw [hTd] at hv
     unfold Fv at hv
     rw [hv, decide_eq_true (show (-1 : Int) < 0 by decide), cond_true]
     exact goal acc sums few (by unfold stp cnd; rw [if_pos hcn, hTd]; rfl) hM
    | some d =>
     have hdb := hTb _ _ hTd
     rw [hTd] at hv
     unfold Fv at hv
     have w1 : w64 (d.1 + 1) = d.1 + 1 := w64_in (by omega) (by omega)
     have w2 : w64 (d.2 + spD t p o) = d.2 + spD t p o := w64_in (by omega) (by omega)
     have hst : stp (dM p) (spD t p) (cnS (dM p) s) T s acc o = better acc (d.1 + 1, d.2 + spD t p o) := by
      unfold stp cnd
      rw [if_pos hcn, hTd]
      rfl
     simp only [hv.1, hv.2, decide_eq_false (show ¬ d.1 < 0 by omega), cond_false, w1, w2, Int.toNat_natCast]
     cases acc with
     | none =>
      unfold Fv at hat
      rw [hat, decide_eq_true (show (-1 : Int) < 0 by decide), cond_true]
      exact goal _ _ _ hst (hM.set hs _)
     | some a =>
      have hab := hacc a rfl
      unfold Fv at hat
      unfold better at hst
      simp only [] at hst
      rw [hat.1, hat.2, decide_eq_false (show ¬ a.1 < 0 by omega), cond_false]
      by_cases c1 : d.1 + 1 < a.1
      ·rw [decide_eq_true c1, cond_true]
       rw [if_pos (.inl c1)] at hst
       exact goal _ _ _ hst (hM.set hs _)
      ·rw [decide_eq_false c1, cond_false]
       by_cases c2 : d.1 + 1 = a.1
       ·rw [show (d.1 + 1 == a.1) = true from beq_iff_eq.2 c2, cond_true]
        by_cases c3 : d.2 + spD t p o < a.2
        ·rw [decide_eq_true c3, cond_true]
         rw [if_pos (.inr ⟨c2, c3⟩)] at hst
         exact goal _ _ _ hst (hM.set hs _)
        ·rw [decide_eq_false c3, cond_false]
         rw [if_neg (by omega)] at hst
         exact goal _ _ _ hst hM
       ·rw [show (d.1 + 1 == a.1) = false from beq_eq_false_iff_ne.2 c2, cond_false]
        rw [if_neg (by omega)] at hst
        exact goal _ _ _ hst hM
   ·rw [decide_eq_false hs', Bool.not_false, cond_true]
    exact goal acc sums few (by unfold stp cnS; rw [decide_eq_false hs']; simp) hM
 ·rw [decide_eq_false (show ¬ (k : Int) < lenI L by rw [lenI_eq]; omega), cond_false]
  rw [List.take_of_length_le (by omega), ← hfin] at hM
  exact Tot.some hM
theorem ref_tab (hf : fine t y = true) (hS : PlanS t y p) (ht : t.length ≤ 62) (hp : p.length ≤ 80) (hrow : ∀ r ∈ p, r.length ≤ 80) {N : Nat} (hN : 1 ≤ N ∧ N ≤ 100000) :
    Tot (fun v : List Int × List Int => v.2.length = N ∧ v.1.length = N ∧ ∀ S', S' < N → Fv v.2 v.1 S' (TT t y p r S')) (iter (σ := (Int × (List Int) × (List Int))) (τ := ((List Int) × (List Int))) (fun s264 =>
cond ((decide (s264.1 < (N : Int)))) (Option.bind (idx s264.2.2 s264.1) fun x267 =>
Option.bind (iter (σ := (Int × (List Int) × (List Int))) (τ := ((List Int) × (List Int))) (fun s348 =>
cond ((decide (s348.1 < (lenI (LD t y p r))))) (Option.bind (idx (LD t y p r) s348.1) fun x351 =>
Option.bind (g_ref08_set p x351) fun y352 =>
cond ((!y352.2)) (some (.inl (((w64 (s348.1 + 1)), s348.2.1, s348.2.2)))) (cond (((bAnd .i64 y352.1 s264.1) != y352.1)) (some (.inl (((w64 (s348.1 + 1)), s348.2.1, s348.2.2)))) (Option.bind (idx s348.2.2 ((bAndNot .i64 s264.1 y352.1))) fun x360 =>
cond ((decide (x360 < 0))) (some (.inl (((w64 (s348.1 + 1)), s348.2.1, s348.2.2)))) (Option.bind (idx s348.2.2 ((bAndNot .i64 s264.1 y352.1))) fun x362 =>
Option.bind (idx s348.2.1 ((bAndNot .i64 s264.1 y352.1))) fun x363 =>
Option.bind (idx (LD t y p r) s348.1) fun x364 =>
Option.bind (g_ref08_span t p x364) fun y365 =>
Option.bind (idx s348.2.2 s264.1) fun x373 =>
cond ((decide (x373 < 0))) (Option.bind (idx s348.2.2 s264.1) fun x376 =>
Option.bind (idx s348.2.1 s264.1) fun x377 =>
some (.inl (((w64 (s348.1 + 1)), (s348.2.1).set (Int.toNat s264.1) ((w64 (x363 + y365))), (s348.2.2).set (Int.toNat s264.1) ((w64 (x362 + 1))))))) (Option.bind (idx s348.2.2 s264.1) fun x378 =>
cond ((decide ((w64 (x362 + 1)) < x378))) (Option.bind (idx s348.2.2 s264.1) fun x381 =>
Option.bind (idx s348.2.1 s264.1) fun x382 =>
some (.inl (((w64 (s348.1 + 1)), (s348.2.1).set (Int.toNat s264.1) ((w64 (x363 + y365))), (s348.2.2).set (Int.toNat s264.1) ((w64 (x362 + 1))))))) (Option.bind (idx s348.2.2 s264.1) fun x383 =>
cond (((w64 (x362 + 1)) == x383)) (Option.bind (idx s348.2.1 s264.1) fun x385 =>
cond ((decide ((w64 (x363 + y365)) < x385))) (Option.bind (idx s348.2.2 s264.1) fun x387 =>
Option.bind (idx s348.2.1 s264.1) fun x388 =>
some (.inl (((w64 (s348.1 + 1)), (s348.2.1).set (Int.toNat s264.1) ((w64 (x363 + y365))), (s348.2.2).set (Int.toNat s264.1) ((w64 (x362 + 1))))))) (some (.inl (((w64 (s348.1 + 1)), s348.2.1, s348.2.2))))) (some (.inl (((w64 (s348.1 + 1)), s348.2.1, s348.2.2)))))))))) (some (.inr (((s348.2.1, s348.2.2)))))) big ((0, s264.2.1, (s264.2.2).set (Int.toNat s264.1) ((-1))))) fun t390 =>
some (.inl (((w64 (s264.1 + 1)), t390.1, t390.2)))) (some (.inr (((s264.2.1, s264.2.2)))))) big ((1, List.replicate N 0, List.replicate N 0))) := by
 have hO : OsOk p (spD t p) (OL t y p r) := OL_osok hf hS ht hp hrow
 refine Tot.iter (fun v : Int × List Int × List Int => ∃ s : Nat, v.1 = s ∧ 1 ≤ s ∧ s ≤ N ∧ v.2.2.length = N ∧ v.2.1.length = N ∧ ∀ S', S' < s → Fv v.2.2 v.2.1 S' (TT t y p r S')) _ (fun v => (N - v.1).toNat) ⟨1, rfl, by omega, by omega, by simp, by simp, fun S' h => ?_⟩ (by simp only [big]; omega) ?_
 ·have : S' = 0 := by omega
  subst this
  unfold TT
  rw [tab_zero hO.ne]
  unfold Fv
  simp only [getD_get (show 0 < (List.replicate N (0 : Int)).length by rw [List.length_replicate]; omega), List.getElem_replicate]
  exact ⟨trivial, trivial⟩
 rintro ⟨_, sums, few⟩ ⟨s, rfl, h1, hs, hfl, hsl, hm⟩
 simp only [] at hfl hsl hm
 simp only []
 by_cases hsN : s < N
 ·have hw : w64 ((s : Int) + 1) = ((s + 1 : Nat) : Int) := by rw [w64_in (by omega) (by omega)]; omega
  rw [decide_eq_true (show (s : Int) < N by omega), cond_true, hw, idx_natD (l := few) 0 (by omega), Option.bind_some, Int.toNat_natCast]
  have hM : RI (TT t y p r) N s none sums (few.set s (-1)) := ⟨by rw [List.length_set]; exact hfl, hsl, fun S' h => by
   have h2 := (hm S' h).other (s := s) (by omega) (by omega) (by omega) (-1) (sums.getD s 0)
   have h3 : sums.set s (sums.getD s 0) = sums := by
    rw [getD_get (by omega)]; exact List.set_getElem_self _
   rw [h3] at h2
   exact h2, by unfold Fv; rw [getD_setN (by omega), if_pos rfl]⟩
  refine (ref_row hf hS ht hp hrow h1 hsN hN.2 hM).bind fun v hv => ?_
  refine Tot.some ⟨⟨s + 1, rfl, by omega, by omega, hv.fl, hv.sl, fun S' h => ?_⟩, by simp only []; omega⟩
  by_cases e : S' = s
  ·subst e; exact hv.at'
  ·exact hv.lo S' (by omega)
 ·rw [decide_eq_false (show ¬ (s : Int) < N by omega), cond_false]
  refine Tot.some (show _ ∧ _ ∧ ∀ S', _ → _ from ⟨hfl, hsl, fun S' h => hm S' (by omega)⟩)
end
end Go.Ai.Sx

/- The duties: the specification's plan is read from its table: the same plan. -/
namespace Go.Ai.Sx
def NoQ (T : Nat → Option (Int × Int)) (p : List (List Int)) (sp : Duty → Int) (S : Nat) (l : List Duty) : Prop := ∀ d ∈ l, dOk p d = true → qual (dM p) sp T S d = false
section
variable {t : List Task} {y : Yard} {p : List (List Int)} {r : WorkRules}
theorem ref_read_row (hf : fine t y = true) (hS : PlanS t y p) (ht : t.length ≤ 62) (hp : p.length ≤ 80) (hrow : ∀ r ∈ p, r.length ≤ 80) {N S : Nat} (h0 : S ≠ 0) (hs : S < N) (hN : N ≤ 100000) {sums few : List Int} (hfl : few.length = N) (hsl : sums.length = N) (hm : ∀ S', S' < N → Fv few sums S' (TT t y p r S')) {c : Int × Int} (hc : TT t y p r S = some c) {out : List Duty} (ho : out.length ≤ 100000) {fr : Nat} (hfr : fr ≤ (LD t y p r).length) (hno : NoQ (TT t y p r) p (spD t p) S ((LD t y p r).take fr)) :
    Tot (fun v : List Duty × Int × Int => ∃ o d, ∃ k : Nat, v = (out ++ [o], ((sd S (dM p o) : Nat) : Int), (k : Int)) ∧ k ≤ (LD t y p r).length ∧ NoQ (TT t y p r) p (spD t p) S ((LD t y p r).take k) ∧ (OL t y p r).find? (qual (dM p) (spD t p) (TT t y p r) S) = some o ∧ TT t y p r (sd S (dM p o)) = some d) (iter (σ := ((List Duty) × Int × Int × Int)) (τ := ((List Duty) × Int × Int)) (fun s519 =>
cond ((decide (s519.2.2.2 < (lenI (LD t y p r))))) (Option.bind (idx (LD t y p r) s519.2.2.2) fun x525 =>
Option.bind (g_ref08_set p x525) fun y526 =>
cond ((!y526.2)) (some (.inl ((s519.1, s519.2.1, s519.2.2.1, (w64 (s519.2.2.2 + 1)))))) (cond (((bAnd .i64 y526.1 s519.2.1) != y526.1)) (some (.inl ((s519.1, s519.2.1, s519.2.2.1, (w64 (s519.2.2.2 + 1)))))) (Option.bind (idx few ((bAndNot .i64 s519.2.1 y526.1))) fun x536 =>
cond ((decide (x536 < 0))) (some (.inl ((s519.1, s519.2.1, s519.2.2.1, (w64 (s519.2.2.2 + 1)))))) (Option.bind (idx few ((bAndNot .i64 s519.2.1 y526.1))) fun x546 =>
Option.bind (idx few s519.2.1) fun x547 =>
cond (((w64 (x546 + 1)) == x547)) (Option.bind (idx sums ((bAndNot .i64 s519.2.1 y526.1))) fun x549 =>
Option.bind (idx (LD t y p r) s519.2.2.2) fun x550 =>
Option.bind (g_ref08_span t p x550) fun y551 =>
Option.bind (idx sums s519.2.1) fun x552 =>
cond (((w64 (x549 + y551)) == x552)) (Option.bind (idx (LD t y p r) s519.2.2.2) fun x554 =>
Option.bind (appO 24 s519.1 ([x554])) fun x555 =>
some (.inr (((x555, (bAndNot .i64 s519.2.1 y526.1), s519.2.2.2))))) (some (.inl ((s519.1, s519.2.1, s519.2.2.1, (w64 (s519.2.2.2 + 1))))))) (some (.inl ((s519.1, s519.2.1, s519.2.2.1, (w64 (s519.2.2.2 + 1)))))))))) (some (.inr (((s519.1, s519.2.1, s519.2.2.1)))))) big ((out, (S : Int), (fr : Int), (fr : Int)))) := by
  have hO : OsOk p (spD t p) (OL t y p r) := OL_osok hf hS ht hp hrow
  have hT := tab_ok (st := dM p) (sp := spD t p) hO.ne
  have hTb : ∀ S c, TT t y p r S = some c → 0 ≤ c.1 ∧ c.1 ≤ S ∧ -200000 * c.1 ≤ c.2 ∧ c.2 ≤ 200000 * c.1 := fun S c h => tab_bound hO.ne hO.sp h
  obtain ⟨oq, hoq1, hoq2⟩ := qual_ex (st := dM p) (sp := spD t p) (T := TT t y p r) (S := S) (fun S' _ => hT S') h0 hc
  have hcb := hTb _ _ hc
  have hD : ∀ d ∈ LD t y p r, DOk t y p d := fun d hd => LD_ok hS hd
  have hLl := LD_len (t := t) (y := y) (r := r) hp hrow
  unfold OL at hoq1 ⊢
  clear hT hO
  generalize TT t y p r = T at *
  generalize LD t y p r = L at *
  refine Tot.iter (fun v : List Duty × Int × Int × Int => ∃ k : Nat, k ≤ L.length ∧ v = (out, (S : Int), (fr : Int), (k : Int)) ∧ NoQ T p (spD t p) S (L.take k)) _ (fun v => (L.length - v.2.2.2).toNat) ⟨fr, hfr, rfl, hno⟩ (by simp only [big]; omega) ?_
  rintro _ ⟨k, hk, rfl, hq⟩
  simp only []
  by_cases hkl : k < L.length
  · have hw : w64 ((k : Int) + 1) = ((k + 1 : Nat) : Int) := by rw [w64_in (by omega) (by omega)]; omega
    have hmem : L[k] ∈ L := List.getElem_mem hkl
    have htk : L.take (k + 1) = L.take k ++ [L[k]] := by rw [List.take_add_one, List.getElem?_eq_getElem hkl]; rfl
    have hspl : L = L.take k ++ L[k] :: L.drop (k + 1) := by
      conv => lhs; rw [← List.take_append_drop k L, List.drop_eq_getElem_cons hkl]
    have hx : idx L (k : Int) = some L[k] := idx_some hkl
    obtain ⟨o, hoe⟩ : ∃ o, L[k] = o := ⟨_, rfl⟩
    rw [hoe] at hmem htk hx hspl
    have hdo := hD o hmem
    have hol := hdo.lt ht
    have hso := hdo.sp hf
    have hle := sd_le S (dM p o)
    have skip : (dOk p o = true → qual (dM p) (spD t p) T S o = false) → Tot (StepT (fun v : List Duty × Int × Int × Int => ∃ k : Nat, k ≤ L.length ∧ v = (out, (S : Int), (fr : Int), (k : Int)) ∧ NoQ T p (spD t p) S (L.take k)) (fun v : List Duty × Int × Int => ∃ o d, ∃ k : Nat, v = (out ++ [o], ((sd S (dM p o) : Nat) : Int), (k : Int)) ∧ k ≤ L.length ∧ NoQ T p (spD t p) S (L.take k) ∧ (L.filter (dOk p)).find? (qual (dM p) (spD t p) T S) = some o ∧ T (sd S (dM p o)) = some d) (fun v => (L.length - v.2.2.2).toNat) (out, (S : Int), (fr : Int), (k : Int))) (some (.inl (out, (S : Int), (fr : Int), ((k + 1 : Nat) : Int)))) := fun hf => by
      refine Tot.some ⟨⟨k + 1, by omega, rfl, fun x hx hd => ?_⟩, by simp only []; omega⟩
      rw [htk] at hx
      rcases List.mem_append.1 hx with hx | hx
      · exact hq x hx hd
      · rw [List.mem_singleton.1 hx] at hd ⊢; exact hf hd
    have hqv : qual (dM p) (spD t p) T S o = (decide (sd (dM p o) S = 0) && match T (sd S (dM p o)), some c with
        | some a, some b => decide (a.1 + 1 = b.1) && decide (a.2 + spD t p o = b.2)
        | _, _ => false) := by unfold qual; rw [hc]; rfl
    simp only [decide_eq_true (show (k : Int) < lenI L by rw [lenI_eq]; omega), cond_true, hx, Option.bind_some, hw, set_ref hS hdo ht hrow, span_ref hdo hf]
    cases hdk : dOk p o with
    | false =>
      rw [if_neg (by simp)]
      simp only [Bool.not_false, cond_true]
      exact skip (fun h => by rw [hdk] at h; cases h)
    | true =>
      rw [if_pos rfl]
      have hsN : S < 4611686018427387904 := by omega
      have hbe : ((((dM p o &&& S : Nat) : Int)) != ((dM p o : Nat) : Int)) = !decide (sd (dM p o) S = 0) := by
        by_cases q : sd (dM p o) S = 0
        · rw [decide_eq_true q, sub_and.2 (sub_sd.1 q)]; simp
        · rw [decide_eq_false q, Bool.not_false, bne_iff_ne]
          intro e
          exact q (sub_sd.2 (sub_and.1 (by omega)))
      have hSv := hm S hs
      rw [hc] at hSv
      unfold Fv at hSv
      have hRv := hm (sd S (dM p o)) (by omega)
      simp only [Bool.not_true, cond_false, bAnd_i hol hsN, bAndNot_i hsN hol, hbe, idx_natD (l := few) 0 (show sd S (dM p o) < few.length by omega), idx_natD (l := sums) 0 (show sd S (dM p o) < sums.length by omega), idx_natD (l := few) 0 (show S < few.length by omega), idx_natD (l := sums) 0 (show S < sums.length by omega), Option.bind_some, hSv.1, hSv.2]
      cases hs' : decide (sd (dM p o) S = 0) with
      | false =>
        rw [Bool.not_false, cond_true]
        exact skip (fun _ => by rw [hqv, hs']; rfl)
      | true =>
        rw [Bool.not_true, cond_false]
        cases hTd : T (sd S (dM p o)) with
        | none =>
          rw [hTd] at hRv
          unfold Fv at hRv
          rw [hRv, decide_eq_true (show (-1 : Int) < 0 by decide), cond_true]
          exact skip (fun _ => by rw [hqv, hTd]; simp)
        | some d =>
          have hdb := hTb _ _ hTd
          rw [hTd] at hRv
          unfold Fv at hRv
          have w1 : w64 (d.1 + 1) = d.1 + 1 := w64_in (by omega) (by omega)
          have w2 : w64 (d.2 + spD t p o) = d.2 + spD t p o := w64_in (by omega) (by omega)
          rw [hTd, hs'] at hqv
          simp only [Bool.true_and] at hqv
          simp only [hRv.1, hRv.2, decide_eq_false (show ¬ d.1 < 0 by omega), cond_false, w1, w2]
          by_cases c1 : d.1 + 1 = c.1
          · rw [show (d.1 + 1 == c.1) = true from beq_iff_eq.2 c1, cond_true]
            by_cases c2 : d.2 + spD t p o = c.2
            · rw [show (d.2 + spD t p o == c.2) = true from beq_iff_eq.2 c2, cond_true, appO_some (by rw [List.length_singleton]; omega), Option.bind_some]
              have hqo : qual (dM p) (spD t p) T S o = true := by rw [hqv, decide_eq_true c1, decide_eq_true c2]; rfl
              refine Tot.some (show ∃ o' d', ∃ k' : Nat, _ from ⟨o, d, k, rfl, hk, hq, ?_, hTd⟩)
              rw [hspl, List.filter_append, List.filter_cons_of_pos hdk, List.find?_append, List.find?_eq_none.2 (fun x hx => by
                have := List.mem_filter.1 hx
                rw [hq x this.1 this.2]; simp), Option.none_or, List.find?_cons_of_pos hqo]
            · rw [show (d.2 + spD t p o == c.2) = false from beq_eq_false_iff_ne.2 c2, cond_false]
              exact skip (fun _ => by rw [hqv, decide_eq_false c2, Bool.and_false])
          · rw [show (d.1 + 1 == c.1) = false from beq_eq_false_iff_ne.2 c1, cond_false]
            exact skip (fun _ => by rw [hqv, decide_eq_false c1, Bool.false_and])
  · exfalso
    rw [List.take_of_length_le (by omega)] at hq
    have := List.mem_filter.1 hoq1
    rw [hq oq this.1 this.2] at hoq2
    cases hoq2
theorem ref_read (hf : fine t y = true) (hS : PlanS t y p) (ht : t.length ≤ 62) (hp : p.length ≤ 80) (hrow : ∀ r ∈ p, r.length ≤ 80) {N : Nat} (hN : 1 ≤ N ∧ N ≤ 100000) {sums few : List Int} (hfl : few.length = N) (hsl : sums.length = N) (hm : ∀ S', S' < N → Fv few sums S' (TT t y p r S')) {c : Int × Int} (hc : TT t y p r (N - 1) = some c) :
    iter (σ := ((List Duty) × Int × Int)) (τ := ((List Duty))) (fun s480 =>
cond ((decide (s480.2.1 > 0))) (Option.bind (iter (σ := ((List Duty) × Int × Int × Int)) (τ := ((List Duty) × Int × Int)) (fun s519 =>
cond ((decide (s519.2.2.2 < (lenI (LD t y p r))))) (Option.bind (idx (LD t y p r) s519.2.2.2) fun x525 =>
Option.bind (g_ref08_set p x525) fun y526 =>
cond ((!y526.2)) (some (.inl ((s519.1, s519.2.1, s519.2.2.1, (w64 (s519.2.2.2 + 1)))))) (cond (((bAnd .i64 y526.1 s519.2.1) != y526.1)) (some (.inl ((s519.1, s519.2.1, s519.2.2.1, (w64 (s519.2.2.2 + 1)))))) (Option.bind (idx few ((bAndNot .i64 s519.2.1 y526.1))) fun x536 =>
cond ((decide (x536 < 0))) (some (.inl ((s519.1, s519.2.1, s519.2.2.1, (w64 (s519.2.2.2 + 1)))))) (Option.bind (idx few ((bAndNot .i64 s519.2.1 y526.1))) fun x546 =>
Option.bind (idx few s519.2.1) fun x547 =>
cond (((w64 (x546 + 1)) == x547)) (Option.bind (idx sums ((bAndNot .i64 s519.2.1 y526.1))) fun x549 =>
Option.bind (idx (LD t y p r) s519.2.2.2) fun x550 =>
Option.bind (g_ref08_span t p x550) fun y551 =>
Option.bind (idx sums s519.2.1) fun x552 =>
cond (((w64 (x549 + y551)) == x552)) (Option.bind (idx (LD t y p r) s519.2.2.2) fun x554 =>
Option.bind (appO 24 s519.1 ([x554])) fun x555 =>
some (.inr (((x555, (bAndNot .i64 s519.2.1 y526.1), s519.2.2.2))))) (some (.inl ((s519.1, s519.2.1, s519.2.2.1, (w64 (s519.2.2.2 + 1))))))) (some (.inl ((s519.1, s519.2.1, s519.2.2.1, (w64 (s519.2.2.2 + 1)))))))))) (some (.inr (((s519.1, s519.2.1, s519.2.2.1)))))) big ((s480.1, s480.2.1, s480.2.2, s480.2.2))) fun t562 =>
some (.inl ((t562.1, t562.2.1, t562.2.2)))) (some (.inr s480.1))) big ([], ((N - 1 : Nat) : Int), 0) = some (PL t y p r N) := by
 have hO : OsOk p (spD t p) (OL t y p r) := OL_osok hf hS ht hp hrow
 have hT := tab_ok (st := dM p) (sp := spD t p) hO.ne
 apply Tot.eq
 refine Tot.iter (fun v : List Duty × Int × Int => ∃ S f fr : Nat, ∃ c, v.2 = ((S : Int), (fr : Int)) ∧ S ≤ f ∧ S < N ∧ TT t y p r S = some c ∧ v.1 ++ rb (dM p) (spD t p) (OL t y p r) (TT t y p r) f S = PL t y p r N ∧ v.1.length + S < N ∧ fr ≤ (LD t y p r).length ∧ NoQ (TT t y p r) p (spD t p) S ((LD t y p r).take fr)) _ (fun v => v.2.1.toNat) ⟨N - 1, N, 0, c, rfl, by omega, by omega, hc, rfl, by simp only [List.length_nil]; omega, by omega, fun d hd => by simp at hd⟩ (by simp only [big]; omega) ?_
 rintro ⟨out, _⟩ ⟨S, f, fr, c, rfl, h1, h2, h3, h4, h5, h6, h7⟩
 simp only [] at h4 h5
 simp only []
 by_cases h0 : S = 0
 ·subst h0
  have : rb (dM p) (spD t p) (OL t y p r) (TT t y p r) f 0 = [] := by cases f <;> rfl
  rw [this, List.append_nil] at h4
  exact Tot.some h4
 ·rw [decide_eq_true (show (S : Int) > 0 by omega), cond_true]
  refine (ref_read_row hf hS ht hp hrow h0 h2 hN.2 hfl hsl hm h3 (by omega) h6 h7).bind fun b hb => ?_
  obtain ⟨o, d, k, rfl, g1, g2, g3, g4⟩ := hb
  have hmem := List.mem_of_find?_eq_some g3
  have hqu := List.find?_some g3
  have hlt := sd_lt (qual_iff.1 hqu).1 (hO.ne o hmem)
  obtain ⟨f, rfl⟩ : ∃ f', f = f' + 1 := ⟨f - 1, by omega⟩
  have hrb : rb (dM p) (spD t p) (OL t y p r) (TT t y p r) (f + 1) S = o :: rb (dM p) (spD t p) (OL t y p r) (TT t y p r) f (sd S (dM p o)) := by
   rw [rb, if_neg h0, g3]
  rw [hrb] at h4
  refine Tot.some ⟨⟨sd S (dM p o), f, k, d, rfl, by omega, by omega, g4, ?_, ?_, g1, fun x hx hdx => ?_⟩, ?_⟩
  ·simp only []
   rw [List.append_assoc]
   exact h4
  ·simp only [List.length_append, List.length_singleton]; omega
  ·cases hq2 : qual (dM p) (spD t p) (TT t y p r) (sd S (dM p o)) x with
   | false => rfl
   | true =>
    have hxo : x ∈ OL t y p r := List.mem_filter.2 ⟨List.mem_of_mem_take hx, hdx⟩
    have := qual_back (fun S' _ => hT S') hmem hxo hqu hq2
    have h8 := g2 x hx hdx
    unfold TT at h8
    rw [this] at h8
    cases h8
  ·simp only []; omega
end
end Go.Ai.Sx

/- The duties: the plan of duties; the law. -/
namespace Go.Ai.Sx
section
variable {α : Type} {st : α → Nat} {sp : α → Int} {os : List α} {T : Nat → Option (Int × Int)}
theorem rb_mem : ∀ {f S : Nat} {o : α}, o ∈ rb st sp os T f S → o ∈ os
 | 0, _, _, h => by cases h
 | f + 1, S, o, h => by
  rw [rb] at h
  split at h
  ·cases h
  ·split at h
   ·cases h
   ·rename_i x hx
    rcases List.mem_cons.1 h with rfl | h
    ·exact List.mem_of_find?_eq_some hx
    ·exact rb_mem h
theorem rb_len : ∀ {f S : Nat}, (rb st sp os T f S).length ≤ f
 | 0, _ => Nat.le_refl 0
 | f + 1, S => by
  rw [rb]
  split
  ·simp
  ·split
   ·simp
   ·rw [List.length_cons]
    exact Nat.succ_le_succ rb_len
end
theorem pieces_self {d : Duty} (hd : d.1.length < 1000) : g_ref08_Pieces d d = some true := by
 unfold g_ref08_Pieces
 have h0 : (lenI d.1 != lenI d.1) = false := by simp
 rw [h0, cond_false, iter_all d.1.length (fun _ => true) false (by simp only [big]; omega)]
 ·have : (List.range d.1.length).all (fun _ => true) = true := by simp
  rw [this]; rfl
 ·intro i hi
  have hw : w64 ((i : Int) + 1) = i + 1 := w64_in (by omega) (by omega)
  have e2 : ∀ x : DutyPiece, (x != x) = false := fun x => by simp
  simp only [decide_eq_true (show (i : Int) < lenI d.1 by rw [lenI_eq]; omega), cond_true, idx_natD P0 hi, Option.bind_some, e2, cond_false, hw, if_true]
 ·simp only [decide_eq_false (show ¬ (d.1.length : Int) < lenI d.1 by rw [lenI_eq]; omega), cond_false]
theorem plans_self {l : List Duty} (hl : l.length < 1000000) (hd : ∀ d ∈ l, d.1.length < 1000) : g_ref08_Plans l l = some true := by
 unfold g_ref08_Plans
 have h0 : (lenI l != lenI l) = false := by simp
 rw [h0, cond_false, iter_all l.length (fun _ => true) false (by simp only [big]; omega)]
 ·have : (List.range l.length).all (fun _ => true) = true := by simp
  rw [this]; rfl
 ·intro i hi
  have hw : w64 ((i : Int) + 1) = i + 1 := w64_in (by omega) (by omega)
  simp only [decide_eq_true (show (i : Int) < lenI l by rw [lenI_eq]; omega), cond_true, idx_natD (([], ()) : Duty) hi, Option.bind_some, pieces_self (hd _ (getD_memx hi)), Bool.not_true, cond_false, hw, if_true]
 ·simp only [decide_eq_false (show ¬ (l.length : Int) < lenI l by rw [lenI_eq]; omega), cond_false]
section
variable {t : List Task} {y : Yard} {p : List (List Int)} {r : WorkRules}
theorem PL_ok (hS : PlanS t y p) {N : Nat} : (PL t y p r N).length ≤ N ∧ ∀ d ∈ PL t y p r N, d ∈ OL t y p r ∧ d.1.length ≤ 2 := by
 refine ⟨rb_len, fun d hd => ?_⟩
 have h := rb_mem hd
 refine ⟨h, ?_⟩
 rcases (LD_ok hS (List.mem_filter.1 h).1).one with ⟨a, rfl, _⟩ | ⟨a, b, rfl, _, _⟩ <;> simp
theorem pow14 {n : Nat} (h : n ≤ 14) : 1 ≤ 2 ^ n ∧ 2 ^ n ≤ 16384 := ⟨Nat.one_le_two_pow, Nat.pow_le_pow_right (n := 2) (by omega) h⟩
theorem duties_prog (hf : fine t y = true) (hr : rulesB r = true) (hS : PlanS t y p) (ht : t.length ≤ 14) (hp : p.length ≤ 80) (hrow : ∀ r ∈ p, r.length ≤ 80) (hcr : g_duty_crewed t y p r = some (some ((t, y, ()), p, r, ()), true)) :
    g_duty_Duties t y p r = some (match TT t y p r (2 ^ t.length - 1) with | none => ([], 4) | some _ => (PL t y p r (2 ^ t.length), 0)) := by
  have hO : OsOk p (spD t p) (OL t y p r) := OL_osok hf hS (by omega) hp hrow
  have hs : shlO .u64 1 (lenI t) = some ((2 ^ t.length : Nat) : Int) := shl_u (x := t.length) (by omega)
  have hN := pow14 ht
  unfold g_duty_Duties
  simp only [hcr, Option.bind_some, Bool.not_true, cond_false, decide_eq_false (show ¬ lenI t > 14 by rw [lenI_eq]; omega), options_eq hf hr hS (show t.length ≤ 62 by omega) hp hrow, hs]
  generalize 2 ^ t.length = N at *
  have w1 : IntKind.u64.wrap ((N : Int) - 1) = ((N - 1 : Nat) : Int) := by rw [wrap_u (by omega)]; omega
  have w2 : IntKind.u64.wrap (((N - 1 : Nat) : Int) + 1) = (N : Int) := by rw [wrap_u (by omega)]; omega
  simp only [w1, w2]
  obtain ⟨m, hm1, hm2⟩ := tab_loop hO (N := N) (by omega)
  rw [hm1, Option.bind_some, hm2 _ (show N - 1 < N by omega)]
  cases hc : TT t y p r (N - 1) with
  | none => simp only [show enc none = none from rfl, Option.isSome_none, Bool.not_false, cond_true]
  | some c =>
    have hrd := read_loop hO (N := N) (by omega) hm2 hc
    have x1 : enc (some c) = some (c.1, c.2, ()) := rfl
    simp only [x1, Option.isSome_some, Bool.not_true, cond_false, Option.getD_some]
    rw [hrd]
    rfl
theorem duties_ref (hf : fine t y = true) (hr : rulesB r = true) (hS : PlanS t y p) (ht : t.length ≤ 14) (hp : p.length ≤ 80) (hrow : ∀ r ∈ p, r.length ≤ 80) :
    g_ref08_Duties t y p r = some (match TT t y p r (2 ^ t.length - 1) with | none => ([], false) | some _ => (PL t y p r (2 ^ t.length), true)) := by
  have hO : OsOk p (spD t p) (OL t y p r) := OL_osok hf hS (by omega) hp hrow
  have hs := shl_i (x := t.length) (by omega)
  have hN := pow14 ht
  have hLD : lawf (pcs p) (ok1 t y p r) (ok2 t y p r) = LD t y p r := rfl
  unfold g_ref08_Duties
  simp only [lawful_eq hf hr hS hp hrow, Option.bind_some, hLD]
  rw [show lenI t = (t.length : Int) from rfl, hs]
  generalize 2 ^ t.length = N at *
  have hmk : mkO 8 (N : Int) (0 : Int) = some (List.replicate N 0) := by rw [mkO_some (by omega)]; simp
  have w1 : w64 ((N : Int) - 1) = ((N - 1 : Nat) : Int) := by rw [w64_in (by omega) (by omega)]; omega
  simp only [hmk, Option.bind_some, w1]
  obtain ⟨⟨sums, few⟩, hm1, hm2, hm3, hm4⟩ := ref_tab (r := r) hf hS (show t.length ≤ 62 by omega) hp hrow (N := N) (by omega)
  simp only [] at hm2 hm3 hm4
  rw [hm1, Option.bind_some]
  simp only []
  rw [idx_natD (l := few) 0 (by omega), Option.bind_some]
  have hv := hm4 (N - 1) (by omega)
  cases hc : TT t y p r (N - 1) with
  | none =>
    rw [hc] at hv
    unfold Fv at hv
    rw [hv]
    rfl
  | some c =>
    have hcb := tab_bound (st := dM p) (sp := spD t p) hO.ne hO.sp hc
    rw [hc] at hv
    unfold Fv at hv
    rw [hv.1, decide_eq_false (show ¬ c.1 < 0 by omega), cond_false]
    have hrd := ref_read hf hS (show t.length ≤ 62 by omega) hp hrow (N := N) (by omega) hm2 hm3 hm4 hc
    rw [hrd]
    rfl
end
theorem rules_both {t : List Task} {y : Yard} {p : List (List Int)} {r : WorkRules} {b : Bool} (e3 : (Option.bind (g_ref08_Fine t y) fun y23 => cond (!y23) (some true) (Option.bind (g_ref08_Plan t y p) fun y25 => cond (!y25) (some true) (Option.bind (g_ref08_Rules r) fun y27 => cond (!y27) (some true) (some false)))) = some (!b)) : (Option.bind (g_ref08_Fine t y) fun y19 => cond (!y19) (some true) (Option.bind (g_ref08_Plan t y p) fun y21 => cond (!y21) (some true) (Option.bind (g_ref08_Rules r) fun y23 => some (!y23)))) = some (!b) := by
 revert e3
 cases g_ref08_Fine t y with
 | none => intro h; cases h
 | some b1 =>
  cases b1 with
  | false => intro h; exact h
  | true =>
   simp only [Option.bind_some]
   cases g_ref08_Plan t y p with
   | none => intro h; cases h
   | some b1 =>
    cases b1 with
    | false => intro h; exact h
    | true =>
     simp only [Option.bind_some, rules_ref]
     cases rulesB r <;> exact fun h => h
theorem plan_true {t : List Task} {y : Yard} {p : List (List Int)} {r : WorkRules} (hF : Few t y) (hf : fine t y = true) (hp : p.length ≤ 80) (hrow : ∀ r ∈ p, r.length ≤ 80) (e3 : (Option.bind (g_ref08_Fine t y) fun y23 => cond (!y23) (some true) (Option.bind (g_ref08_Plan t y p) fun y25 => cond (!y25) (some true) (Option.bind (g_ref08_Rules r) fun y27 => cond (!y27) (some true) (some false)))) = some (!true)) : PlanS t y p := by
 refine plan_seen hF hf hp hrow ?_
 obtain ⟨b, k1, k2, k3⟩ := plan_eq hF hf hp hrow
 revert e3
 rw [fine_eq t y hF, hf, k2, rules_ref, k1]
 cases b
 ·intro h; cases h
 ·intro _; rfl
theorem law_plans (t : List Task) (y : Yard) (p : List (List Int)) (r : WorkRules) (hpb : p.length ≤ 9223372036854775807) : g_law08_DutyPlans t y p r = some true := by
 unfold g_law08_DutyPlans
 simp only [known_true, Option.bind_some]
 obtain ⟨q, hq, hfew⟩ := few_eq t y 20
 obtain ⟨q2, hq2, hpl⟩ := plans_eq p hpb
 simp only [hq, hq2, Option.bind_some]
 cases q with
 | false => rfl
 | true =>
  obtain ⟨h1, h2, h3, h4⟩ := hfew rfl
  have hF : Few t y := ⟨by omega, h1, h2, h3⟩
  simp only [Bool.not_true, cond_false]
  by_cases hmid : 7 < t.length ∧ t.length ≤ 14
  ·rw [decide_eq_true (show lenI t > 7 by rw [lenI_eq]; omega), decide_eq_true (show lenI t ≤ 14 by rw [lenI_eq]; omega)]
   rfl
  ·have hc7 : (cond (decide (lenI t > 7)) (cond (decide (lenI t ≤ 14)) (some true) (some (!q2))) (some (!q2)) : Option Bool) = some (!q2) := by
    by_cases h7 : t.length > 7
    ·rw [decide_eq_true (show lenI t > 7 by rw [lenI_eq]; omega), decide_eq_false (show ¬ lenI t ≤ 14 by rw [lenI_eq]; omega)]
     rfl
    ·rw [decide_eq_false (show ¬ lenI t > 7 by rw [lenI_eq]; omega)]
     rfl
   rw [hc7]
   cases q2 with
   | false => rfl
   | true =>
    obtain ⟨hp, hrow⟩ := hpl rfl
    obtain ⟨b, e1, e2, e3⟩ := crewed_eq (r := r) hF hp hrow
    simp only [Bool.not_true, Option.bind_some, cond_false]
    rw [rules_both e3]
    cases b with
    | false =>
     have : g_duty_Duties t y p r = some ([], 2) := by
      unfold g_duty_Duties
      rw [e1]; rfl
     rw [this]; rfl
    | true =>
     obtain ⟨hf, hr, hok⟩ := e2 rfl
     have hS := plan_true hF hf hp hrow e3
     simp only [if_true] at e1
     by_cases h14 : t.length > 14
     ·have : g_duty_Duties t y p r = some ([], 3) := by
       unfold g_duty_Duties
       rw [e1, Option.bind_some, decide_eq_true (show lenI t > 14 by rw [lenI_eq]; omega)]
       rfl
      rw [this]
      simp only [Option.bind_some, Bool.not_true, cond_false, decide_eq_true (show lenI t > 14 by rw [lenI_eq]; omega), cond_true]
      rfl
     ·rw [duties_prog hf hr hS (by omega) hp hrow e1, duties_ref hf hr hS (by omega) hp hrow]
      simp only [Option.bind_some, Bool.not_true, cond_false, decide_eq_false (show ¬ lenI t > 14 by rw [lenI_eq]; omega)]
      cases TT t y p r (2 ^ t.length - 1) with
      | none => rfl
      | some c =>
       obtain ⟨g1, g2⟩ := PL_ok (t := t) (y := y) (p := p) (r := r) hS (N := 2 ^ t.length)
       have hN := pow14 (n := t.length) (by omega)
       simp only [plans_self (l := PL t y p r (2 ^ t.length)) (by omega) (fun d hd => by have := (g2 d hd).2; omega)]
       rfl
end Go.Ai.Sx
