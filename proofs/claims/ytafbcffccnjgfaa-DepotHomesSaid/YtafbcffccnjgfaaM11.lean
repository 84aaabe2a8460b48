/- Functions that other seats' statements reach: plain Lean alone, for the plain lemmas that name them. -/
import Derived.Test.YtafbcffccnjgfaaDatC
import Derived.Test.YtafbcffccnjgfaaM10
namespace Go.Ai.Sx
def g_ref08_Rules (w_0 : WorkRules) : Option (Bool) :=
Option.bind (Option.bind (g_ref08_in w_0.1 0 200000) fun y13 =>
cond (y13) (Option.bind (g_ref08_in w_0.2.1 0 200000) fun y15 =>
cond (y15) (Option.bind (g_ref08_in w_0.2.2.1 0 200000) fun y17 =>
cond (y17) (Option.bind (g_ref08_in w_0.2.2.2.1 0 200000) fun y19 =>
cond (y19) (Option.bind (g_ref08_in w_0.2.2.2.2.1 0 200000) fun y21 =>
cond (y21) (Option.bind (g_ref08_in w_0.2.2.2.2.2.1 0 200000) fun y23 =>
some y23) (some false)) (some false)) (some false)) (some false)) (some false)) fun c12 =>
some c12
def g_ref08_ends (tasks_0 : (List Task)) (cars_1 : (List (List Int))) (x_2 : DutyPiece) : Option (Task × Task) :=
Option.bind (idx cars_1 x_2.1) fun x5 =>
Option.bind (idx x5 x_2.2.1) fun x6 =>
Option.bind (idx tasks_0 x6) fun x7 =>
Option.bind (idx cars_1 x_2.1) fun x8 =>
Option.bind (idx x8 x_2.2.2.1) fun x9 =>
Option.bind (idx tasks_0 x9) fun x10 =>
some ((x7, x10))
def g_ref08_Faults (p_0 : (List Task)) (p_1 : Yard) (p_2 : (List (List Int))) (p_3 : WorkRules) (p_4 : Duty) : Option ((List Int)) :=
Option.bind (iter (σ := (Bool × Bool × Int × Int)) (τ := (Bool × Bool × Int)) (fun s53 =>
cond ((decide (s53.2.2.2 < (lenI p_4.1)))) (Option.bind (idx p_4.1 s53.2.2.2) fun x56 =>
Option.bind (g_ref08_ends p_0 p_2 x56) fun y59 =>
cond (s53.1) (cond (s53.2.1) (some (.inl ((true, true, (w64 ((w64 (s53.2.2.1 + y59.2.2.2.2.1)) - y59.1.2.2.1)), (w64 (s53.2.2.2 + 1)))))) (cond ((decide (x56.2.1 > 0))) (Option.bind (idx p_1.2.2.1 y59.1.1) fun x78 =>
cond ((!x78)) (some (.inl ((true, true, (w64 ((w64 (s53.2.2.1 + y59.2.2.2.2.1)) - y59.1.2.2.1)), (w64 (s53.2.2.2 + 1)))))) (Option.bind (idx p_2 x56.1) fun x80 =>
cond ((decide (x56.2.2.1 < (w64 ((lenI x80) - 1))))) (Option.bind (idx p_1.2.2.1 y59.2.2.1) fun x82 =>
some (.inl ((true, (!x82), (w64 ((w64 (s53.2.2.1 + y59.2.2.2.2.1)) - y59.1.2.2.1)), (w64 (s53.2.2.2 + 1)))))) (some (.inl ((true, false, (w64 ((w64 (s53.2.2.1 + y59.2.2.2.2.1)) - y59.1.2.2.1)), (w64 (s53.2.2.2 + 1)))))))) (Option.bind (idx p_2 x56.1) fun x83 =>
cond ((decide (x56.2.2.1 < (w64 ((lenI x83) - 1))))) (Option.bind (idx p_1.2.2.1 y59.2.2.1) fun x85 =>
some (.inl ((true, (!x85), (w64 ((w64 (s53.2.2.1 + y59.2.2.2.2.1)) - y59.1.2.2.1)), (w64 (s53.2.2.2 + 1)))))) (some (.inl ((true, false, (w64 ((w64 (s53.2.2.1 + y59.2.2.2.2.1)) - y59.1.2.2.1)), (w64 (s53.2.2.2 + 1))))))))) (cond (s53.2.1) (some (.inl (((decide ((w64 (y59.2.2.2.2.1 - y59.1.2.2.1)) > p_3.1)), true, (w64 ((w64 (s53.2.2.1 + y59.2.2.2.2.1)) - y59.1.2.2.1)), (w64 (s53.2.2.2 + 1)))))) (cond ((decide (x56.2.1 > 0))) (Option.bind (idx p_1.2.2.1 y59.1.1) fun x98 =>
cond ((!x98)) (some (.inl (((decide ((w64 (y59.2.2.2.2.1 - y59.1.2.2.1)) > p_3.1)), true, (w64 ((w64 (s53.2.2.1 + y59.2.2.2.2.1)) - y59.1.2.2.1)), (w64 (s53.2.2.2 + 1)))))) (Option.bind (idx p_2 x56.1) fun x100 =>
cond ((decide (x56.2.2.1 < (w64 ((lenI x100) - 1))))) (Option.bind (idx p_1.2.2.1 y59.2.2.1) fun x102 =>
some (.inl (((decide ((w64 (y59.2.2.2.2.1 - y59.1.2.2.1)) > p_3.1)), (!x102), (w64 ((w64 (s53.2.2.1 + y59.2.2.2.2.1)) - y59.1.2.2.1)), (w64 (s53.2.2.2 + 1)))))) (some (.inl (((decide ((w64 (y59.2.2.2.2.1 - y59.1.2.2.1)) > p_3.1)), false, (w64 ((w64 (s53.2.2.1 + y59.2.2.2.2.1)) - y59.1.2.2.1)), (w64 (s53.2.2.2 + 1)))))))) (Option.bind (idx p_2 x56.1) fun x103 =>
cond ((decide (x56.2.2.1 < (w64 ((lenI x103) - 1))))) (Option.bind (idx p_1.2.2.1 y59.2.2.1) fun x105 =>
some (.inl (((decide ((w64 (y59.2.2.2.2.1 - y59.1.2.2.1)) > p_3.1)), (!x105), (w64 ((w64 (s53.2.2.1 + y59.2.2.2.2.1)) - y59.1.2.2.1)), (w64 (s53.2.2.2 + 1)))))) (some (.inl (((decide ((w64 (y59.2.2.2.2.1 - y59.1.2.2.1)) > p_3.1)), false, (w64 ((w64 (s53.2.2.1 + y59.2.2.2.2.1)) - y59.1.2.2.1)), (w64 (s53.2.2.2 + 1)))))))))) (some (.inr (((s53.1, s53.2.1, s53.2.2.1)))))) big ((false, false, (w64 (p_3.2.2.2.2.1 + p_3.2.2.2.2.2.1)), 0))) fun t106 =>
cond (t106.1) (Option.bind (appO 8 ([]) ([1])) fun x110 =>
cond (t106.2.1) (Option.bind (appO 8 x110 ([2])) fun x113 =>
Option.bind (idx p_4.1 0) fun x115 =>
Option.bind (g_ref08_ends p_0 p_2 x115) fun y116 =>
cond (((lenI p_4.1) == 2)) (Option.bind (idx p_4.1 1) fun x122 =>
Option.bind (g_ref08_ends p_0 p_2 x122) fun y123 =>
Option.bind (idx p_1.1 y116.2.2.1) fun x128 =>
Option.bind (idx x128 y123.1.1) fun x129 =>
Option.bind (cond ((decide (y123.1.2.2.1 < y116.2.2.2.2.1))) (some true) (some ((decide (x129 < 0))))) fun c131 =>
cond (c131) (Option.bind (appO 8 x113 ([3])) fun x134 =>
cond ((decide ((w64 ((w64 ((w64 (y123.2.2.2.2.1 - y116.1.2.2.1)) + p_3.2.2.2.2.1)) + p_3.2.2.2.2.2.1)) > p_3.2.1))) (Option.bind (appO 8 x134 ([5])) fun x137 =>
cond ((decide (t106.2.2 > p_3.2.2.1))) (Option.bind (appO 8 x137 ([6])) fun x140 =>
some x140) (some x137)) (cond ((decide (t106.2.2 > p_3.2.2.1))) (Option.bind (appO 8 x134 ([6])) fun x143 =>
some x143) (some x134))) (cond ((decide ((w64 (y123.1.2.2.1 - y116.2.2.2.2.1)) < (w64 (p_3.2.2.2.1 + x129))))) (Option.bind (appO 8 x113 ([4])) fun x146 =>
cond ((decide ((w64 ((w64 ((w64 (y123.2.2.2.2.1 - y116.1.2.2.1)) + p_3.2.2.2.2.1)) + p_3.2.2.2.2.2.1)) > p_3.2.1))) (Option.bind (appO 8 x146 ([5])) fun x149 =>
cond ((decide (t106.2.2 > p_3.2.2.1))) (Option.bind (appO 8 x149 ([6])) fun x152 =>
some x152) (some x149)) (cond ((decide (t106.2.2 > p_3.2.2.1))) (Option.bind (appO 8 x146 ([6])) fun x155 =>
some x155) (some x146))) (cond ((decide ((w64 ((w64 ((w64 (y123.2.2.2.2.1 - y116.1.2.2.1)) + p_3.2.2.2.2.1)) + p_3.2.2.2.2.2.1)) > p_3.2.1))) (Option.bind (appO 8 x113 ([5])) fun x158 =>
cond ((decide (t106.2.2 > p_3.2.2.1))) (Option.bind (appO 8 x158 ([6])) fun x161 =>
some x161) (some x158)) (cond ((decide (t106.2.2 > p_3.2.2.1))) (Option.bind (appO 8 x113 ([6])) fun x164 =>
some x164) (some x113))))) (cond ((decide ((w64 ((w64 ((w64 (y116.2.2.2.2.1 - y116.1.2.2.1)) + p_3.2.2.2.2.1)) + p_3.2.2.2.2.2.1)) > p_3.2.1))) (Option.bind (appO 8 x113 ([5])) fun x167 =>
cond ((decide (t106.2.2 > p_3.2.2.1))) (Option.bind (appO 8 x167 ([6])) fun x170 =>
some x170) (some x167)) (cond ((decide (t106.2.2 > p_3.2.2.1))) (Option.bind (appO 8 x113 ([6])) fun x173 =>
some x173) (some x113)))) (Option.bind (idx p_4.1 0) fun x175 =>
Option.bind (g_ref08_ends p_0 p_2 x175) fun y176 =>
cond (((lenI p_4.1) == 2)) (Option.bind (idx p_4.1 1) fun x182 =>
Option.bind (g_ref08_ends p_0 p_2 x182) fun y183 =>
Option.bind (idx p_1.1 y176.2.2.1) fun x188 =>
Option.bind (idx x188 y183.1.1) fun x189 =>
Option.bind (cond ((decide (y183.1.2.2.1 < y176.2.2.2.2.1))) (some true) (some ((decide (x189 < 0))))) fun c191 =>
cond (c191) (Option.bind (appO 8 x110 ([3])) fun x194 =>
cond ((decide ((w64 ((w64 ((w64 (y183.2.2.2.2.1 - y176.1.2.2.1)) + p_3.2.2.2.2.1)) + p_3.2.2.2.2.2.1)) > p_3.2.1))) (Option.bind (appO 8 x194 ([5])) fun x197 =>
cond ((decide (t106.2.2 > p_3.2.2.1))) (Option.bind (appO 8 x197 ([6])) fun x200 =>
some x200) (some x197)) (cond ((decide (t106.2.2 > p_3.2.2.1))) (Option.bind (appO 8 x194 ([6])) fun x203 =>
some x203) (some x194))) (cond ((decide ((w64 (y183.1.2.2.1 - y176.2.2.2.2.1)) < (w64 (p_3.2.2.2.1 + x189))))) (Option.bind (appO 8 x110 ([4])) fun x206 =>
cond ((decide ((w64 ((w64 ((w64 (y183.2.2.2.2.1 - y176.1.2.2.1)) + p_3.2.2.2.2.1)) + p_3.2.2.2.2.2.1)) > p_3.2.1))) (Option.bind (appO 8 x206 ([5])) fun x209 =>
cond ((decide (t106.2.2 > p_3.2.2.1))) (Option.bind (appO 8 x209 ([6])) fun x212 =>
some x212) (some x209)) (cond ((decide (t106.2.2 > p_3.2.2.1))) (Option.bind (appO 8 x206 ([6])) fun x215 =>
some x215) (some x206))) (cond ((decide ((w64 ((w64 ((w64 (y183.2.2.2.2.1 - y176.1.2.2.1)) + p_3.2.2.2.2.1)) + p_3.2.2.2.2.2.1)) > p_3.2.1))) (Option.bind (appO 8 x110 ([5])) fun x218 =>
cond ((decide (t106.2.2 > p_3.2.2.1))) (Option.bind (appO 8 x218 ([6])) fun x221 =>
some x221) (some x218)) (cond ((decide (t106.2.2 > p_3.2.2.1))) (Option.bind (appO 8 x110 ([6])) fun x224 =>
some x224) (some x110))))) (cond ((decide ((w64 ((w64 ((w64 (y176.2.2.2.2.1 - y176.1.2.2.1)) + p_3.2.2.2.2.1)) + p_3.2.2.2.2.2.1)) > p_3.2.1))) (Option.bind (appO 8 x110 ([5])) fun x227 =>
cond ((decide (t106.2.2 > p_3.2.2.1))) (Option.bind (appO 8 x227 ([6])) fun x230 =>
some x230) (some x227)) (cond ((decide (t106.2.2 > p_3.2.2.1))) (Option.bind (appO 8 x110 ([6])) fun x233 =>
some x233) (some x110))))) (cond (t106.2.1) (Option.bind (appO 8 ([]) ([2])) fun x236 =>
Option.bind (idx p_4.1 0) fun x238 =>
Option.bind (g_ref08_ends p_0 p_2 x238) fun y239 =>
cond (((lenI p_4.1) == 2)) (Option.bind (idx p_4.1 1) fun x245 =>
Option.bind (g_ref08_ends p_0 p_2 x245) fun y246 =>
Option.bind (idx p_1.1 y239.2.2.1) fun x251 =>
Option.bind (idx x251 y246.1.1) fun x252 =>
Option.bind (cond ((decide (y246.1.2.2.1 < y239.2.2.2.2.1))) (some true) (some ((decide (x252 < 0))))) fun c254 =>
cond (c254) (Option.bind (appO 8 x236 ([3])) fun x257 =>
cond ((decide ((w64 ((w64 ((w64 (y246.2.2.2.2.1 - y239.1.2.2.1)) + p_3.2.2.2.2.1)) + p_3.2.2.2.2.2.1)) > p_3.2.1))) (Option.bind (appO 8 x257 ([5])) fun x260 =>
cond ((decide (t106.2.2 > p_3.2.2.1))) (Option.bind (appO 8 x260 ([6])) fun x263 =>
some x263) (some x260)) (cond ((decide (t106.2.2 > p_3.2.2.1))) (Option.bind (appO 8 x257 ([6])) fun x266 =>
some x266) (some x257))) (cond ((decide ((w64 (y246.1.2.2.1 - y239.2.2.2.2.1)) < (w64 (p_3.2.2.2.1 + x252))))) (Option.bind (appO 8 x236 ([4])) fun x269 =>
cond ((decide ((w64 ((w64 ((w64 (y246.2.2.2.2.1 - y239.1.2.2.1)) + p_3.2.2.2.2.1)) + p_3.2.2.2.2.2.1)) > p_3.2.1))) (Option.bind (appO 8 x269 ([5])) fun x272 =>
cond ((decide (t106.2.2 > p_3.2.2.1))) (Option.bind (appO 8 x272 ([6])) fun x275 =>
some x275) (some x272)) (cond ((decide (t106.2.2 > p_3.2.2.1))) (Option.bind (appO 8 x269 ([6])) fun x278 =>
some x278) (some x269))) (cond ((decide ((w64 ((w64 ((w64 (y246.2.2.2.2.1 - y239.1.2.2.1)) + p_3.2.2.2.2.1)) + p_3.2.2.2.2.2.1)) > p_3.2.1))) (Option.bind (appO 8 x236 ([5])) fun x281 =>
cond ((decide (t106.2.2 > p_3.2.2.1))) (Option.bind (appO 8 x281 ([6])) fun x284 =>
some x284) (some x281)) (cond ((decide (t106.2.2 > p_3.2.2.1))) (Option.bind (appO 8 x236 ([6])) fun x287 =>
some x287) (some x236))))) (cond ((decide ((w64 ((w64 ((w64 (y239.2.2.2.2.1 - y239.1.2.2.1)) + p_3.2.2.2.2.1)) + p_3.2.2.2.2.2.1)) > p_3.2.1))) (Option.bind (appO 8 x236 ([5])) fun x290 =>
cond ((decide (t106.2.2 > p_3.2.2.1))) (Option.bind (appO 8 x290 ([6])) fun x293 =>
some x293) (some x290)) (cond ((decide (t106.2.2 > p_3.2.2.1))) (Option.bind (appO 8 x236 ([6])) fun x296 =>
some x296) (some x236)))) (Option.bind (idx p_4.1 0) fun x298 =>
Option.bind (g_ref08_ends p_0 p_2 x298) fun y299 =>
cond (((lenI p_4.1) == 2)) (Option.bind (idx p_4.1 1) fun x305 =>
Option.bind (g_ref08_ends p_0 p_2 x305) fun y306 =>
Option.bind (idx p_1.1 y299.2.2.1) fun x311 =>
Option.bind (idx x311 y306.1.1) fun x312 =>
Option.bind (cond ((decide (y306.1.2.2.1 < y299.2.2.2.2.1))) (some true) (some ((decide (x312 < 0))))) fun c314 =>
cond (c314) (Option.bind (appO 8 ([]) ([3])) fun x317 =>
cond ((decide ((w64 ((w64 ((w64 (y306.2.2.2.2.1 - y299.1.2.2.1)) + p_3.2.2.2.2.1)) + p_3.2.2.2.2.2.1)) > p_3.2.1))) (Option.bind (appO 8 x317 ([5])) fun x320 =>
cond ((decide (t106.2.2 > p_3.2.2.1))) (Option.bind (appO 8 x320 ([6])) fun x323 =>
some x323) (some x320)) (cond ((decide (t106.2.2 > p_3.2.2.1))) (Option.bind (appO 8 x317 ([6])) fun x326 =>
some x326) (some x317))) (cond ((decide ((w64 (y306.1.2.2.1 - y299.2.2.2.2.1)) < (w64 (p_3.2.2.2.1 + x312))))) (Option.bind (appO 8 ([]) ([4])) fun x329 =>
cond ((decide ((w64 ((w64 ((w64 (y306.2.2.2.2.1 - y299.1.2.2.1)) + p_3.2.2.2.2.1)) + p_3.2.2.2.2.2.1)) > p_3.2.1))) (Option.bind (appO 8 x329 ([5])) fun x332 =>
cond ((decide (t106.2.2 > p_3.2.2.1))) (Option.bind (appO 8 x332 ([6])) fun x335 =>
some x335) (some x332)) (cond ((decide (t106.2.2 > p_3.2.2.1))) (Option.bind (appO 8 x329 ([6])) fun x338 =>
some x338) (some x329))) (cond ((decide ((w64 ((w64 ((w64 (y306.2.2.2.2.1 - y299.1.2.2.1)) + p_3.2.2.2.2.1)) + p_3.2.2.2.2.2.1)) > p_3.2.1))) (Option.bind (appO 8 ([]) ([5])) fun x341 =>
cond ((decide (t106.2.2 > p_3.2.2.1))) (Option.bind (appO 8 x341 ([6])) fun x344 =>
some x344) (some x341)) (cond ((decide (t106.2.2 > p_3.2.2.1))) (Option.bind (appO 8 ([]) ([6])) fun x347 =>
some x347) (some ([])))))) (cond ((decide ((w64 ((w64 ((w64 (y299.2.2.2.2.1 - y299.1.2.2.1)) + p_3.2.2.2.2.1)) + p_3.2.2.2.2.2.1)) > p_3.2.1))) (Option.bind (appO 8 ([]) ([5])) fun x350 =>
cond ((decide (t106.2.2 > p_3.2.2.1))) (Option.bind (appO 8 x350 ([6])) fun x353 =>
some x353) (some x350)) (cond ((decide (t106.2.2 > p_3.2.2.1))) (Option.bind (appO 8 ([]) ([6])) fun x356 =>
some x356) (some ([]))))))
end Go.Ai.Sx

/- The depot: lists that prove how many tracks are needed. -/
namespace Go.Ai.Sx
theorem within_eq (n a b : Int) : g_depot_within n a b = some (decide (a ≤ n) && decide (n ≤ b)) := by
 unfold g_depot_within
 by_cases h : a ≤ n <;> simp [h]
theorem in_eq (n a b : Int) : g_ref09_in n a b = some (decide (a ≤ n) && decide (n ≤ b)) := by
 unfold g_ref09_in
 by_cases h : a ≤ n <;> simp [h]
def wayB (l : List Int) (through : Bool) (i j : Int) : Bool := if through then decide (l.getD j.toNat 0 < l.getD i.toNat 0) else decide (l.getD i.toNat 0 < l.getD j.toNat 0)
end Go.Ai.Sx

/- The depot: assignments to tracks, and the longest lists of cars in each other's way. -/
namespace Go.Ai.Sx
section
variable {W : Nat → Nat → Bool} {n : Nat}
end
def rl {A : Type} (n : Nat) (f : Nat → A) : List A := (List.range n).map f
theorem rl_len {A : Type} (n : Nat) (f : Nat → A) : (rl n f).length = n := by simp [rl]
theorem rl_get {A : Type} {n : Nat} {f : Nat → A} {i : Nat} : (rl n f)[i]? = if i < n then some (f i) else none := by
 by_cases h : i < n <;> simp [rl, h]
end Go.Ai.Sx

/- The depot: what the function Assign and the specification come to. -/
namespace Go.Ai.Sx
def casts (p : List Nat) : List Int := p.map fun (i : Nat) => (i : Int)
end Go.Ai.Sx

/- The depot: the specification's assignment and proof. -/
namespace Go.Ai.Sx
theorem same_self (a : List Int) (h : a.length < 4611686018427387904) : g_ref09_Same a a = some true := by
 unfold g_ref09_Same
 rw [show (lenI a != lenI a) = false by simp, cond_false, iter_search a.length (fun _ => none) (lt_big h)]
 ·rw [show (List.range a.length).findSome? (fun _ => (none : Option Bool)) = none from List.findSome?_eq_none_iff.2 (fun _ _ => rfl)]
  rfl
 ·intro i hi
  have e1 : decide ((i : Int) < lenI a) = true := decide_eq_true (by simp only [lenI_eq]; omega)
  have hw : w64 ((i : Int) + 1) = (i : Int) + 1 := w64_in (by omega) (by omega)
  simp [e1, idx_some hi, hw]
 ·have e1 : decide ((a.length : Int) < lenI a) = false := decide_eq_false (by simp only [lenI_eq]; omega)
  simp [e1]
end Go.Ai.Sx

/- The depot: no assignment uses fewer tracks, and an order read backward needs as many. -/
namespace Go.Ai.Sx
section
variable {W : Nat → Nat → Bool} {n : Nat}
end
end Go.Ai.Sx

/- The depot: orders of jobs, and what they come to. -/
namespace Go.Ai.Sx
def kids (n : Nat) (o : List Nat) : List (List Nat) := ((List.range n).filter fun i => !o.contains i).map fun i => o ++ [i]
def ext (n : Nat) : Nat → List Nat → List (List Nat)
 | 0, o => [o]
 | k + 1, o => (kids n o).flatMap (ext n k)
end Go.Ai.Sx

/- The depot: the best order of jobs. -/
namespace Go.Ai.Sx
end Go.Ai.Sx

/- The depot: how late orders of jobs are, and the laws of washing. -/
namespace Go.Ai.Sx
end Go.Ai.Sx

/- The depot: the laws of washing. -/
namespace Go.Ai.Sx
end Go.Ai.Sx

/- The depot: nights and plans as defined. -/
namespace Go.Ai.Sx
def trk0 : StableTrack := (0, false, ())
def car0 : StableCar := (0, 0, 0, 0, ())
def lev0 : StableLeave := (0, 0, ())
def inB (a b n : Int) : Bool := decide (a ≤ n) && decide (n ≤ b)
def carB (c : List StableCar) (i : Nat) : Bool :=
 inB 0 100 (c.getD i car0).1 && (inB 1 10000000 (c.getD i car0).2.1 && (inB 0 200000 (c.getD i car0).2.2.1 && (inB 0 200000 (c.getD i car0).2.2.2.1 && (decide (i = 0) || !decide ((c.getD i car0).2.2.1 < (c.getD (i - 1) car0).2.2.1)))))
def leaveB (l : List StableLeave) (i : Nat) : Bool :=
 inB 0 100 (l.getD i lev0).1 && (inB 0 200000 (l.getD i lev0).2.1 && (decide (i = 0) || !decide ((l.getD i lev0).2.1 < (l.getD (i - 1) lev0).2.1)))
def nightB (t : List StableTrack) (c : List StableCar) (l : List StableLeave) : Bool :=
 inB 1 5 (t.length : Int) && decide (c.length = l.length) && decide (c.length ≤ 9) && (List.range t.length).all (fun i => inB 0 10000000 (t.getD i trk0).1) && (List.range c.length).all (carB c) && (List.range l.length).all (leaveB l)
end Go.Ai.Sx

/- The depot: which plans are plans of a night. -/
namespace Go.Ai.Sx
def takesB (c : List StableCar) (l : List StableLeave) (p : StablePlan) (i : Nat) : Bool :=
 decide ((c.getD i car0).1 = (l.getD (p.2.1.getD i 0).toNat lev0).1) && (decide ((c.getD i car0).2.2.1 ≤ (l.getD (p.2.1.getD i 0).toNat lev0).2.1) && decide ((l.getD (p.2.1.getD i 0).toNat lev0).2.1 ≤ (c.getD i car0).2.2.2.1))
def pre (c : List StableCar) (p : StablePlan) : Nat → Int → Int
 | 0, _ => 0
 | i + 1, t => pre c p i t + (if p.1.getD i 0 = t then (c.getD i car0).2.1 else 0)
def fitB (t : List StableTrack) (c : List StableCar) (p : StablePlan) (i : Nat) : Bool := !decide ((t.getD (p.1.getD i 0).toNat trk0).1 < pre c p (i + 1) (p.1.getD i 0))
def quietB (c : List StableCar) (l : List StableLeave) : Bool := decide (c.length = 0) || decide ((c.getD (c.length - 1) car0).2.2.1 ≤ (l.getD 0 lev0).2.1)
structure PlanOk (t : List StableTrack) (c : List StableCar) (l : List StableLeave) (p : StablePlan) : Prop where
 l1 : p.1.length = c.length
 l2 : p.2.1.length = c.length
 quiet : quietB c l = true
 tr : ∀ i, i < c.length → 0 ≤ p.1.getD i 0 ∧ p.1.getD i 0 < (t.length : Int)
 lv : ∀ x ∈ p.2.1, 0 ≤ x ∧ x < (c.length : Int)
 nd : p.2.1.Nodup
 takes : ∀ i, i < c.length → takesB c l p i = true
 fit : ∀ i, i < c.length → fitB t c p i = true
structure NightOk (t : List StableTrack) (c : List StableCar) (l : List StableLeave) : Prop where
 t1 : 1 ≤ t.length
 t5 : t.length ≤ 5
 cl : c.length = l.length
 c9 : c.length ≤ 9
 len : ∀ i, i < c.length → 1 ≤ (c.getD i car0).2.1 ∧ (c.getD i car0).2.1 ≤ 10000000
section
variable {t : List StableTrack} {c : List StableCar} {l : List StableLeave} {p : StablePlan}
end
end Go.Ai.Sx

/- The depot: the specification's moves of shunting. -/
namespace Go.Ai.Sx
def cnt (f : Nat → Bool) : Nat → Nat
 | 0 => 0
 | i + 1 => cnt f i + (if f i then 1 else 0)
def sumN (g : Nat → Nat) : Nat → Nat
 | 0 => 0
 | j + 1 => sumN g j + g j
def thr (t : List StableTrack) (p : StablePlan) (i : Nat) : Bool := (t.getD (p.1.getD i 0).toNat trk0).2.1
def conf (t : List StableTrack) (p : StablePlan) (i j : Nat) : Bool := decide (p.1.getD i 0 = p.1.getD j 0) && wayB p.2.1 (thr t p i) i j
def pairs (t : List StableTrack) (p : StablePlan) (n : Nat) : Nat := sumN (fun j => cnt (fun i => conf t p i j) j) n
section
variable {t : List StableTrack} {c : List StableCar} {l : List StableLeave} {p : StablePlan}
end
end Go.Ai.Sx

/- The depot: who is moved aside, departure by departure. -/
namespace Go.Ai.Sx
section
variable {t : List StableTrack} {c : List StableCar} {l : List StableLeave} {p : StablePlan}
end
end Go.Ai.Sx

/- The depot: the moves of a plan, and how it is played. -/
namespace Go.Ai.Sx
section
variable {t : List StableTrack} {c : List StableCar} {l : List StableLeave} {p : StablePlan}
end
end Go.Ai.Sx

/- The depot: plans played, and the law of moves. -/
namespace Go.Ai.Sx
section
variable {t : List StableTrack} {c : List StableCar} {l : List StableLeave} {p : StablePlan}
end
end Go.Ai.Sx
