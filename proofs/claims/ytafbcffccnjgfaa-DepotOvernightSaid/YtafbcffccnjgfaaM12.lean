/- Functions that other seats' statements reach: plain Lean alone,for the plain lemmas that name them. -/
import Derived.Test.YtafbcffccnjgfaaDatC
import Derived.Test.YtafbcffccnjgfaaM11
namespace Go.Ai.Sx
def zd8 (w_0:WorkRules):Option (Bool) :=
Option.bind (Option.bind (zd2 w_0.1 0 200000) fun y13 =>
cond (y13) (Option.bind (zd2 w_0.2.1 0 200000) fun y15 =>
cond (y15) (Option.bind (zd2 w_0.2.2.1 0 200000) fun y17 =>
cond (y17) (Option.bind (zd2 w_0.2.2.2.1 0 200000) fun y19 =>
cond (y19) (Option.bind (zd2 w_0.2.2.2.2.1 0 200000) fun y21 =>
cond (y21) (Option.bind (zd2 w_0.2.2.2.2.2.1 0 200000) fun y23 =>
some y23) (some false)) (some false)) (some false)) (some false)) (some false)) fun c12 =>
some c12
def zy2 (tasks_0:(List Task)) (cars_1:(List (List Int))) (x_2:DutyPiece):Option (Task × Task) :=
Option.bind (idx cars_1 x_2.1) fun x5 =>
Option.bind (idx x5 x_2.2.1) fun x6 =>
Option.bind (idx tasks_0 x6) fun x7 =>
Option.bind (idx cars_1 x_2.1) fun x8 =>
Option.bind (idx x8 x_2.2.2.1) fun x9 =>
Option.bind (idx tasks_0 x9) fun x10 =>
some ((x7,x10))
def zl4 (p_0:(List Task)) (p_1:Yard) (p_2:(List (List Int))) (p_3:WorkRules) (p_4:Duty):Option ((List Int)) :=
Option.bind (iter (σ := (Bool × Bool × Int × Int)) (τ := (Bool × Bool × Int)) (fun s53 =>
cond ((decide (s53.2.2.2 < (lenI p_4.1)))) (Option.bind (idx p_4.1 s53.2.2.2) fun x56 =>
Option.bind (zy2 p_0 p_2 x56) fun y59 =>
cond (s53.1) (cond (s53.2.1) (some (.inl ((true,true,(w64 ((w64 (s53.2.2.1 + y59.2.2.2.2.1)) - y59.1.2.2.1)),(w64 (s53.2.2.2 + 1)))))) (cond ((decide (x56.2.1 > 0))) (Option.bind (idx p_1.2.2.1 y59.1.1) fun x78 =>
cond ((!x78)) (some (.inl ((true,true,(w64 ((w64 (s53.2.2.1 + y59.2.2.2.2.1)) - y59.1.2.2.1)),(w64 (s53.2.2.2 + 1)))))) (Option.bind (idx p_2 x56.1) fun x80 =>
cond ((decide (x56.2.2.1 < (w64 ((lenI x80) - 1))))) (Option.bind (idx p_1.2.2.1 y59.2.2.1) fun x82 =>
some (.inl ((true,(!x82),(w64 ((w64 (s53.2.2.1 + y59.2.2.2.2.1)) - y59.1.2.2.1)),(w64 (s53.2.2.2 + 1)))))) (some (.inl ((true,false,(w64 ((w64 (s53.2.2.1 + y59.2.2.2.2.1)) - y59.1.2.2.1)),(w64 (s53.2.2.2 + 1)))))))) (Option.bind (idx p_2 x56.1) fun x83 =>
cond ((decide (x56.2.2.1 < (w64 ((lenI x83) - 1))))) (Option.bind (idx p_1.2.2.1 y59.2.2.1) fun x85 =>
some (.inl ((true,(!x85),(w64 ((w64 (s53.2.2.1 + y59.2.2.2.2.1)) - y59.1.2.2.1)),(w64 (s53.2.2.2 + 1)))))) (some (.inl ((true,false,(w64 ((w64 (s53.2.2.1 + y59.2.2.2.2.1)) - y59.1.2.2.1)),(w64 (s53.2.2.2 + 1))))))))) (cond (s53.2.1) (some (.inl (((decide ((w64 (y59.2.2.2.2.1 - y59.1.2.2.1)) > p_3.1)),true,(w64 ((w64 (s53.2.2.1 + y59.2.2.2.2.1)) - y59.1.2.2.1)),(w64 (s53.2.2.2 + 1)))))) (cond ((decide (x56.2.1 > 0))) (Option.bind (idx p_1.2.2.1 y59.1.1) fun x98 =>
cond ((!x98)) (some (.inl (((decide ((w64 (y59.2.2.2.2.1 - y59.1.2.2.1)) > p_3.1)),true,(w64 ((w64 (s53.2.2.1 + y59.2.2.2.2.1)) - y59.1.2.2.1)),(w64 (s53.2.2.2 + 1)))))) (Option.bind (idx p_2 x56.1) fun x100 =>
cond ((decide (x56.2.2.1 < (w64 ((lenI x100) - 1))))) (Option.bind (idx p_1.2.2.1 y59.2.2.1) fun x102 =>
some (.inl (((decide ((w64 (y59.2.2.2.2.1 - y59.1.2.2.1)) > p_3.1)),(!x102),(w64 ((w64 (s53.2.2.1 + y59.2.2.2.2.1)) - y59.1.2.2.1)),(w64 (s53.2.2.2 + 1)))))) (some (.inl (((decide ((w64 (y59.2.2.2.2.1 - y59.1.2.2.1)) > p_3.1)),false,(w64 ((w64 (s53.2.2.1 + y59.2.2.2.2.1)) - y59.1.2.2.1)),(w64 (s53.2.2.2 + 1)))))))) (Option.bind (idx p_2 x56.1) fun x103 =>
cond ((decide (x56.2.2.1 < (w64 ((lenI x103) - 1))))) (Option.bind (idx p_1.2.2.1 y59.2.2.1) fun x105 =>
some (.inl (((decide ((w64 (y59.2.2.2.2.1 - y59.1.2.2.1)) > p_3.1)),(!x105),(w64 ((w64 (s53.2.2.1 + y59.2.2.2.2.1)) - y59.1.2.2.1)),(w64 (s53.2.2.2 + 1)))))) (some (.inl (((decide ((w64 (y59.2.2.2.2.1 - y59.1.2.2.1)) > p_3.1)),false,(w64 ((w64 (s53.2.2.1 + y59.2.2.2.2.1)) - y59.1.2.2.1)),(w64 (s53.2.2.2 + 1)))))))))) (some (.inr (((s53.1,s53.2.1,s53.2.2.1)))))) big ((false,false,(w64 (p_3.2.2.2.2.1 + p_3.2.2.2.2.2.1)),0))) fun t106 =>
cond (t106.1) (Option.bind (appO 8 ([]) ([1])) fun x110 =>
cond (t106.2.1) (Option.bind (appO 8 x110 ([2])) fun x113 =>
Option.bind (idx p_4.1 0) fun x115 =>
Option.bind (zy2 p_0 p_2 x115) fun y116 =>
cond (((lenI p_4.1) == 2)) (Option.bind (idx p_4.1 1) fun x122 =>
Option.bind (zy2 p_0 p_2 x122) fun y123 =>
Option.bind (idx p_1.1 y116.2.2.1) fun x128 =>
Option.bind (idx x128 y123.1.1) fun x129 =>
Option.bind (cond ((decide (y123.1.2.2.1 < y116.2.2.2.2.1))) (some true) (some ((decide (x129 < 0))))) fun c131 =>
cond (c131) (Option.bind (appO 8 x113 ([3])) fun x134 =>
cond ((decide ((w64 ((w64 ((w64 (y123.2.2.2.2.1 - y116.1.2.2.1)) + p_3.2.2.2.2.1)) + p_3.2.2.2.2.2.1)) > p_3.2.1))) (Option.bind (appO 8 x134 ([5])) fun x137 =>
cond ((decide (t106.2.2 > p_3.2.2.1))) (Option.bind (appO 8 x137 ([6])) fun x140 =>
some x140) (some x137)) (cond ((decide (t106.2.2 > p_3.2.2.1))) (Option.bind (appO 8 x134 ([6])) fun x143 =>
some x143) (some x134))) (cond ((decide ((w64 (y123.1.2.2.1 - y116.2.2.2.2.1)) < (w64 (p_3.2.2.2.1 + x129))))) (Option.bind (appO 8 x113 ([4])) fun x146 =>
cond ((decide ((w64 ((w64 ((w64 (y123.2.2.2.2.1 - y116.1.2.2.1)) + p_3.2.2.2.2.1)) + p_3.2.2.2.2.2.1)) > p_3.2.1))) (Option.bind (appO 8 x146 ([5])) fun x149 =>
cond ((decide (t106.2.2 > p_3.2.2.1))) (Option.bind (appO 8 x149 ([6])) fun x152 =>
some x152) (some x149)) (cond ((decide (t106.2.2 > p_3.2.2.1))) (Option.bind (appO 8 x146 ([6])) fun x155 =>
some x155) (some x146))) (cond ((decide ((w64 ((w64 ((w64 (y123.2.2.2.2.1 - y116.1.2.2.1)) + p_3.2.2.2.2.1)) + p_3.2.2.2.2.2.1)) > p_3.2.1))) (Option.bind (appO 8 x113 ([5])) fun x158 =>
cond ((decide (t106.2.2 > p_3.2.2.1))) (Option.bind (appO 8 x158 ([6])) fun x161 =>
some x161) (some x158)) (cond ((decide (t106.2.2 > p_3.2.2.1))) (Option.bind (appO 8 x113 ([6])) fun x164 =>
some x164) (some x113))))) (cond ((decide ((w64 ((w64 ((w64 (y116.2.2.2.2.1 - y116.1.2.2.1)) + p_3.2.2.2.2.1)) + p_3.2.2.2.2.2.1)) > p_3.2.1))) (Option.bind (appO 8 x113 ([5])) fun x167 =>
cond ((decide (t106.2.2 > p_3.2.2.1))) (Option.bind (appO 8 x167 ([6])) fun x170 =>
some x170) (some x167)) (cond ((decide (t106.2.2 > p_3.2.2.1))) (Option.bind (appO 8 x113 ([6])) fun x173 =>
some x173) (some x113)))) (Option.bind (idx p_4.1 0) fun x175 =>
Option.bind (zy2 p_0 p_2 x175) fun y176 =>
cond (((lenI p_4.1) == 2)) (Option.bind (idx p_4.1 1) fun x182 =>
Option.bind (zy2 p_0 p_2 x182) fun y183 =>
Option.bind (idx p_1.1 y176.2.2.1) fun x188 =>
Option.bind (idx x188 y183.1.1) fun x189 =>
Option.bind (cond ((decide (y183.1.2.2.1 < y176.2.2.2.2.1))) (some true) (some ((decide (x189 < 0))))) fun c191 =>
cond (c191) (Option.bind (appO 8 x110 ([3])) fun x194 =>
cond ((decide ((w64 ((w64 ((w64 (y183.2.2.2.2.1 - y176.1.2.2.1)) + p_3.2.2.2.2.1)) + p_3.2.2.2.2.2.1)) > p_3.2.1))) (Option.bind (appO 8 x194 ([5])) fun x197 =>
cond ((decide (t106.2.2 > p_3.2.2.1))) (Option.bind (appO 8 x197 ([6])) fun x200 =>
some x200) (some x197)) (cond ((decide (t106.2.2 > p_3.2.2.1))) (Option.bind (appO 8 x194 ([6])) fun x203 =>
some x203) (some x194))) (cond ((decide ((w64 (y183.1.2.2.1 - y176.2.2.2.2.1)) < (w64 (p_3.2.2.2.1 + x189))))) (Option.bind (appO 8 x110 ([4])) fun x206 =>
cond ((decide ((w64 ((w64 ((w64 (y183.2.2.2.2.1 - y176.1.2.2.1)) + p_3.2.2.2.2.1)) + p_3.2.2.2.2.2.1)) > p_3.2.1))) (Option.bind (appO 8 x206 ([5])) fun x209 =>
cond ((decide (t106.2.2 > p_3.2.2.1))) (Option.bind (appO 8 x209 ([6])) fun x212 =>
some x212) (some x209)) (cond ((decide (t106.2.2 > p_3.2.2.1))) (Option.bind (appO 8 x206 ([6])) fun x215 =>
some x215) (some x206))) (cond ((decide ((w64 ((w64 ((w64 (y183.2.2.2.2.1 - y176.1.2.2.1)) + p_3.2.2.2.2.1)) + p_3.2.2.2.2.2.1)) > p_3.2.1))) (Option.bind (appO 8 x110 ([5])) fun x218 =>
cond ((decide (t106.2.2 > p_3.2.2.1))) (Option.bind (appO 8 x218 ([6])) fun x221 =>
some x221) (some x218)) (cond ((decide (t106.2.2 > p_3.2.2.1))) (Option.bind (appO 8 x110 ([6])) fun x224 =>
some x224) (some x110))))) (cond ((decide ((w64 ((w64 ((w64 (y176.2.2.2.2.1 - y176.1.2.2.1)) + p_3.2.2.2.2.1)) + p_3.2.2.2.2.2.1)) > p_3.2.1))) (Option.bind (appO 8 x110 ([5])) fun x227 =>
cond ((decide (t106.2.2 > p_3.2.2.1))) (Option.bind (appO 8 x227 ([6])) fun x230 =>
some x230) (some x227)) (cond ((decide (t106.2.2 > p_3.2.2.1))) (Option.bind (appO 8 x110 ([6])) fun x233 =>
some x233) (some x110))))) (cond (t106.2.1) (Option.bind (appO 8 ([]) ([2])) fun x236 =>
Option.bind (idx p_4.1 0) fun x238 =>
Option.bind (zy2 p_0 p_2 x238) fun y239 =>
cond (((lenI p_4.1) == 2)) (Option.bind (idx p_4.1 1) fun x245 =>
Option.bind (zy2 p_0 p_2 x245) fun y246 =>
Option.bind (idx p_1.1 y239.2.2.1) fun x251 =>
Option.bind (idx x251 y246.1.1) fun x252 =>
Option.bind (cond ((decide (y246.1.2.2.1 < y239.2.2.2.2.1))) (some true) (some ((decide (x252 < 0))))) fun c254 =>
cond (c254) (Option.bind (appO 8 x236 ([3])) fun x257 =>
cond ((decide ((w64 ((w64 ((w64 (y246.2.2.2.2.1 - y239.1.2.2.1)) + p_3.2.2.2.2.1)) + p_3.2.2.2.2.2.1)) > p_3.2.1))) (Option.bind (appO 8 x257 ([5])) fun x260 =>
cond ((decide (t106.2.2 > p_3.2.2.1))) (Option.bind (appO 8 x260 ([6])) fun x263 =>
some x263) (some x260)) (cond ((decide (t106.2.2 > p_3.2.2.1))) (Option.bind (appO 8 x257 ([6])) fun x266 =>
some x266) (some x257))) (cond ((decide ((w64 (y246.1.2.2.1 - y239.2.2.2.2.1)) < (w64 (p_3.2.2.2.1 + x252))))) (Option.bind (appO 8 x236 ([4])) fun x269 =>
cond ((decide ((w64 ((w64 ((w64 (y246.2.2.2.2.1 - y239.1.2.2.1)) + p_3.2.2.2.2.1)) + p_3.2.2.2.2.2.1)) > p_3.2.1))) (Option.bind (appO 8 x269 ([5])) fun x272 =>
cond ((decide (t106.2.2 > p_3.2.2.1))) (Option.bind (appO 8 x272 ([6])) fun x275 =>
some x275) (some x272)) (cond ((decide (t106.2.2 > p_3.2.2.1))) (Option.bind (appO 8 x269 ([6])) fun x278 =>
some x278) (some x269))) (cond ((decide ((w64 ((w64 ((w64 (y246.2.2.2.2.1 - y239.1.2.2.1)) + p_3.2.2.2.2.1)) + p_3.2.2.2.2.2.1)) > p_3.2.1))) (Option.bind (appO 8 x236 ([5])) fun x281 =>
cond ((decide (t106.2.2 > p_3.2.2.1))) (Option.bind (appO 8 x281 ([6])) fun x284 =>
some x284) (some x281)) (cond ((decide (t106.2.2 > p_3.2.2.1))) (Option.bind (appO 8 x236 ([6])) fun x287 =>
some x287) (some x236))))) (cond ((decide ((w64 ((w64 ((w64 (y239.2.2.2.2.1 - y239.1.2.2.1)) + p_3.2.2.2.2.1)) + p_3.2.2.2.2.2.1)) > p_3.2.1))) (Option.bind (appO 8 x236 ([5])) fun x290 =>
cond ((decide (t106.2.2 > p_3.2.2.1))) (Option.bind (appO 8 x290 ([6])) fun x293 =>
some x293) (some x290)) (cond ((decide (t106.2.2 > p_3.2.2.1))) (Option.bind (appO 8 x236 ([6])) fun x296 =>
some x296) (some x236)))) (Option.bind (idx p_4.1 0) fun x298 =>
Option.bind (zy2 p_0 p_2 x298) fun y299 =>
cond (((lenI p_4.1) == 2)) (Option.bind (idx p_4.1 1) fun x305 =>
Option.bind (zy2 p_0 p_2 x305) fun y306 =>
Option.bind (idx p_1.1 y299.2.2.1) fun x311 =>
Option.bind (idx x311 y306.1.1) fun x312 =>
Option.bind (cond ((decide (y306.1.2.2.1 < y299.2.2.2.2.1))) (some true) (some ((decide (x312 < 0))))) fun c314 =>
cond (c314) (Option.bind (appO 8 ([]) ([3])) fun x317 =>
cond ((decide ((w64 ((w64 ((w64 (y306.2.2.2.2.1 - y299.1.2.2.1)) + p_3.2.2.2.2.1)) + p_3.2.2.2.2.2.1)) > p_3.2.1))) (Option.bind (appO 8 x317 ([5])) fun x320 =>
cond ((decide (t106.2.2 > p_3.2.2.1))) (Option.bind (appO 8 x320 ([6])) fun x323 =>
some x323) (some x320)) (cond ((decide (t106.2.2 > p_3.2.2.1))) (Option.bind (appO 8 x317 ([6])) fun x326 =>
some x326) (some x317))) (cond ((decide ((w64 (y306.1.2.2.1 - y299.2.2.2.2.1)) < (w64 (p_3.2.2.2.1 + x312))))) (Option.bind (appO 8 ([]) ([4])) fun x329 =>
cond ((decide ((w64 ((w64 ((w64 (y306.2.2.2.2.1 - y299.1.2.2.1)) + p_3.2.2.2.2.1)) + p_3.2.2.2.2.2.1)) > p_3.2.1))) (Option.bind (appO 8 x329 ([5])) fun x332 =>
cond ((decide (t106.2.2 > p_3.2.2.1))) (Option.bind (appO 8 x332 ([6])) fun x335 =>
some x335) (some x332)) (cond ((decide (t106.2.2 > p_3.2.2.1))) (Option.bind (appO 8 x329 ([6])) fun x338 =>
some x338) (some x329))) (cond ((decide ((w64 ((w64 ((w64 (y306.2.2.2.2.1 - y299.1.2.2.1)) + p_3.2.2.2.2.1)) + p_3.2.2.2.2.2.1)) > p_3.2.1))) (Option.bind (appO 8 ([]) ([5])) fun x341 =>
cond ((decide (t106.2.2 > p_3.2.2.1))) (Option.bind (appO 8 x341 ([6])) fun x344 =>
some x344) (some x341)) (cond ((decide (t106.2.2 > p_3.2.2.1))) (Option.bind (appO 8 ([]) ([6])) fun x347 =>
some x347) (some ([])))))) (cond ((decide ((w64 ((w64 ((w64 (y299.2.2.2.2.1 - y299.1.2.2.1)) + p_3.2.2.2.2.1)) + p_3.2.2.2.2.2.1)) > p_3.2.1))) (Option.bind (appO 8 ([]) ([5])) fun x350 =>
cond ((decide (t106.2.2 > p_3.2.2.1))) (Option.bind (appO 8 x350 ([6])) fun x353 =>
some x353) (some x350)) (cond ((decide (t106.2.2 > p_3.2.2.1))) (Option.bind (appO 8 ([]) ([6])) fun x356 =>
some x356) (some ([]))))))
end Go.Ai.Sx

/- The depot: lists that prove how many tracks are needed. -/
namespace Go.Ai.Sx
theorem within_eq (n a b:Int):zi1 n a b = some (decide (a ≤ n) && decide (n ≤ b)) := by
 unfold zi1
 by_cases h:a ≤ n <;> simp [h]
def wayB (l:List Int) (through:Bool) (i j:Int):Bool := if through then decide (l.getD j.toNat 0 < l.getD i.toNat 0) else decide (l.getD i.toNat 0 < l.getD j.toNat 0)
end Go.Ai.Sx

/- The depot: assignments to tracks,and the longest lists of cars in each other's way. -/
namespace Go.Ai.Sx
section
variable {W:Nat → Nat → Bool} {n:Nat}
end
def rl {A:Type} (n:Nat) (f:Nat → A):List A := (List.range n).map f
theorem zj9 {A:Type} (n:Nat) (f:Nat → A):(rl n f).length = n := by simp [rl]
theorem zc20 {A:Type} {n:Nat} {f:Nat → A} {i:Nat} (h:i < n):idx (rl n f) (i:Int) = some (f i) := by
 rw [zr9]; simp [rl,h]
theorem zk9 {A:Type} {n:Nat} {f:Nat → A} {i:Nat}:(rl n f)[i]? = if i < n then some (f i) else none := by
 by_cases h:i < n <;> simp [rl,h]
theorem zp12 {A:Type} {n:Nat} {f g:Nat → A} (h:∀ i,i < n → f i = g i):rl n f = rl n g := List.map_congr_left fun i hi => h i (List.mem_range.1 hi)
theorem zh27 {A:Type} {n:Nat} {f:Nat → A} {i:Nat} {v:A}:(rl n f).set i v = rl n fun x => if x = i then v else f x := by
 apply List.ext_getElem?
 intro x
 rw [List.getElem?_set,zk9,zj9,zk9]
 by_cases q:i = x
 ·subst q
  by_cases h:i < n <;> simp [h]
 ·rw [if_neg q]
  by_cases h:x < n
  ·rw [if_pos h,if_pos h,if_neg (fun e => q e.symm)]
  ·rw [if_neg h,if_neg h]
theorem zb35 {A:Type} (n:Nat) (x:A):List.replicate n x = rl n fun _ => x := by
 apply List.ext_getElem?
 intro i
 rw [zk9,List.getElem?_replicate]
end Go.Ai.Sx

/- The depot: what the function Assign and the specification come to. -/
namespace Go.Ai.Sx
def casts (p:List Nat):List Int := p.map fun (i:Nat) => (i:Int)
theorem zx1 (p:List Nat):(casts p).length = p.length := by simp [casts]
end Go.Ai.Sx

/- The depot: the specification's assignment and proof. -/
namespace Go.Ai.Sx
end Go.Ai.Sx

/- The depot: no assignment uses fewer tracks,and an order read backward needs as many. -/
namespace Go.Ai.Sx
section
variable {W:Nat → Nat → Bool} {n:Nat}
end
end Go.Ai.Sx

/- The depot: orders of jobs,and what they come to. -/
namespace Go.Ai.Sx
theorem zz30 {A:Type} {xs:List A} {p:A → Option Bool} {q:A → Bool} (hl:xs.length < 4611686018427387904) (hp:∀ x ∈ xs,p x = some (q x)):∃ r:Int,(Option.bind (iter (σ := (Int)) (τ := Unit ⊕ (Int)) (fun s5 =>
cond ((decide (s5 < (lenI xs)))) (Option.bind (idx xs s5) fun x8 =>
Option.bind (p x8) fun y9 =>
cond (y9) (some (.inr ((.inr s5)))) (some (.inl ((w64 (s5 + 1)))))) (some (.inr ((.inl (())))))) big 0) fun t11 =>
alt (fun _ => some ((-1))) (fun b14 => some b14) t11) = some r ∧ decide (r ≥ 0) = xs.any q := by
 rw [zw6 xs.length (fun i => if h:i < xs.length then (if q xs[i] then some (i:Int) else none) else none) (Nat.lt_trans hl (by decide))]
 ·simp only [Option.bind_some]
  cases hf:(List.range xs.length).findSome? (fun i => if h:i < xs.length then (if q xs[i] then some (i:Int) else none) else none) with
  | none =>
   refine ⟨_,rfl, ?_⟩
   rw [List.findSome?_eq_none_iff] at hf
   simp only [show decide ((-1:Int) ≥ 0) = false from rfl]
   symm
   rw [List.any_eq_false]
   intro x hx
   obtain ⟨i,hi,rfl⟩ := List.getElem_of_mem hx
   have := hf i (by simpa using hi)
   rw [dif_pos hi] at this
   intro hq
   rw [if_pos hq] at this
   cases this
  | some r =>
   refine ⟨r,rfl, ?_⟩
   obtain ⟨i,hi,h2⟩ := List.exists_of_findSome?_eq_some hf
   simp only [List.mem_range] at hi
   rw [dif_pos hi] at h2
   split at h2
   ·cases h2
    rename_i hq
    rw [decide_eq_true (by omega)]
    symm
    exact List.any_eq_true.2 ⟨_,List.getElem_mem hi,hq⟩
   ·cases h2
 ·intro i hi
  have hw2:w64 ((i:Int) + 1) = i + 1 := zn (by omega) (by omega)
  have:decide ((i:Int) < lenI xs) = true := by simp only [zh]; exact decide_eq_true (by omega)
  simp only [this,cond_true,ze9 hi,Option.bind_some,hp _ (List.getElem_mem hi),hw2,dif_pos hi]
  cases q xs[i] <;> rfl
 ·have:decide ((xs.length:Int) < lenI xs) = false := by simp only [zh]; exact decide_eq_false (by omega)
  simp only [this,cond_false]
theorem contains_eq {xs:List Int} {v:Int} (hl:xs.length < 4611686018427387904):zl xs v = some (xs.any fun x => v == x) := by
 unfold zl zf3
 obtain ⟨r,h1,h2⟩ := zz30 (xs := xs) (p := fun x => some (v == x)) (q := fun x => v == x) hl (fun _ _ => rfl)
 have h1:(Option.bind (iter (σ := (Int)) (τ := Unit ⊕ (Int)) (fun s4 =>
cond ((decide (s4 < (lenI xs)))) (Option.bind (idx xs s4) fun x7 =>
cond ((v == x7)) (some (.inr ((.inr s4)))) (some (.inl ((w64 (s4 + 1)))))) (some (.inr ((.inl (())))))) big 0) fun t9 =>
alt (fun b11 => some ((-1))) (fun b12 => some b12) t9) = some r := h1
 rw [h1,Option.bind_some,h2]
theorem zi27 (o:List Nat) (i:Nat):(casts o).any (fun x => (i:Int) == x) = o.contains i := by
 rw [Bool.eq_iff_iff,List.any_eq_true,List.contains_iff_mem]
 constructor
 ·rintro ⟨x,hx,h⟩
  obtain ⟨y,hy,rfl⟩ := List.mem_map.1 hx
  have:(i:Int) = y := by simpa using h
  rw [show i = y by omega]; exact hy
 ·intro h
  exact ⟨(i:Int),List.mem_map.2 ⟨i,h,rfl⟩,by simp⟩
def kids (n:Nat) (o:List Nat):List (List Nat) := ((List.range n).filter fun i => !o.contains i).map fun i => o ++ [i]
def ext (n:Nat):Nat → List Nat → List (List Nat)
 | 0,o => [o]
 | k + 1,o => (kids n o).flatMap (ext n k)
theorem zd20 (i:Nat) (o:List Nat):kids (i + 1) o = kids i o ++ (if o.contains i then [] else [o ++ [i]]) := by
  unfold kids
  rw [List.range_succ,List.filter_append,List.map_append]
  cases h:o.contains i with
  | true => have:i ∈ o := List.contains_iff_mem.1 h; simp [this]
  | false =>
      have:i ∉ o := fun q => by rw [List.contains_iff_mem.2 q] at h; cases h
      simp [this]
theorem zl10 (o:List Nat) (i:Nat):casts o ++ [(i:Int)] = casts (o ++ [i]) := by simp [casts]
theorem zy17 {n:Nat} {o p:List Nat} (h:p ∈ kids n o):∃ i,i < n ∧ i ∉ o ∧ p = o ++ [i] := by
 obtain ⟨i,hi,rfl⟩ := List.mem_map.1 h
 obtain ⟨h1,h2⟩ := List.mem_filter.1 hi
 exact ⟨i,List.mem_range.1 h1,by simpa using h2,rfl⟩
theorem zj27 {n:Nat}:∀ {k:Nat} {o p:List Nat},p ∈ ext n k o → (∀ x ∈ o,x < n) → o.Nodup → p.length = o.length + k ∧ (∀ x ∈ p,x < n) ∧ p.Nodup
 | 0,o,p,h,h1,h2 => by
  simp only [ext,List.mem_singleton] at h
  subst h
  exact ⟨rfl,h1,h2⟩
 | k + 1,o,p,h,h1,h2 => by
  simp only [ext,List.mem_flatMap] at h
  obtain ⟨q,hq,hp⟩ := h
  obtain ⟨i,i1,i2,rfl⟩ := zy17 hq
  obtain ⟨p1,p2,p3⟩ := zj27 hp (fun x hx => by
   rcases List.mem_append.1 hx with hx | hx
   ·exact h1 x hx
   ·rw [List.mem_singleton.1 hx]; exact i1) (by
   rw [List.nodup_append]
   exact ⟨h2,by simp,fun a ha b hb e => by rw [List.mem_singleton.1 hb] at e; subst e; exact i2 ha⟩)
  refine ⟨?_,p2,p3⟩
  rw [p1]; simp; omega
theorem zk27 {n:Nat}:∀ {r o:List Nat},(o ++ r).Nodup → (∀ x ∈ r,x < n) → o ++ r ∈ ext n r.length o
 | [],o,_,_ => by simp [ext]
 | x :: r,o,h,h1 => by
  have e:o ++ x :: r = (o ++ [x]) ++ r := by simp
  rw [e] at h ⊢
  have := zk27 h (fun y hy => h1 y (List.mem_cons_of_mem _ hy))
  simp only [List.length_cons,ext,List.mem_flatMap]
  refine ⟨o ++ [x],List.mem_map.2 ⟨x,List.mem_filter.2 ⟨List.mem_range.2 (h1 x (List.mem_cons_self ..)), ?_⟩,rfl⟩,this⟩
  have h3 := (List.nodup_append.1 h).1
  rw [List.nodup_append] at h3
  have:x ∉ o := fun hx => h3.2.2 x hx x (List.mem_singleton.2 rfl) rfl
  simpa using this
end Go.Ai.Sx

/- The depot: the best order of jobs. -/
namespace Go.Ai.Sx
end Go.Ai.Sx

/- The depot: how late orders of jobs are,and the laws of washing. -/
namespace Go.Ai.Sx
end Go.Ai.Sx

/- The depot: the laws of washing. -/
namespace Go.Ai.Sx
end Go.Ai.Sx

/- The depot: nights and plans as defined. -/
namespace Go.Ai.Sx
def trk0:StableTrack := (0,false,())
def car0:StableCar := (0,0,0,0,())
def lev0:StableLeave := (0,0,())
def inB (a b n:Int):Bool := decide (a ≤ n) && decide (n ≤ b)
def carB (c:List StableCar) (i:Nat):Bool :=
 inB 0 100 (c.getD i car0).1 && (inB 1 10000000 (c.getD i car0).2.1 && (inB 0 200000 (c.getD i car0).2.2.1 && (inB 0 200000 (c.getD i car0).2.2.2.1 && (decide (i = 0) || !decide ((c.getD i car0).2.2.1 < (c.getD (i - 1) car0).2.2.1)))))
def leaveB (l:List StableLeave) (i:Nat):Bool :=
 inB 0 100 (l.getD i lev0).1 && (inB 0 200000 (l.getD i lev0).2.1 && (decide (i = 0) || !decide ((l.getD i lev0).2.1 < (l.getD (i - 1) lev0).2.1)))
def nightB (t:List StableTrack) (c:List StableCar) (l:List StableLeave):Bool :=
 inB 1 5 (t.length:Int) && decide (c.length = l.length) && decide (c.length ≤ 9) && (List.range t.length).all (fun i => inB 0 10000000 (t.getD i trk0).1) && (List.range c.length).all (carB c) && (List.range l.length).all (leaveB l)
theorem za31 (t:List StableTrack) (c:List StableCar) (l:List StableLeave) (ht:t.length ≤ 12) (hc:c.length ≤ 12) (hl:l.length ≤ 12):zr3 (t,c,l,()) = some (nightB t c l) := by
 unfold zr3
 simp only [within_eq,Option.bind_some]
 unfold nightB
 rw [show (decide (1 ≤ lenI t) && decide (lenI t ≤ 5)) = inB 1 5 (t.length:Int) from rfl]
 cases inB 1 5 (t.length:Int) with
 | false => simp
 | true =>
  simp only [Bool.not_true,cond_false,Bool.true_and]
  by_cases h1:c.length = l.length
  ·rw [show (lenI c != lenI l) = false by simp [zh,h1],cond_false,decide_eq_true h1]
   by_cases h2:c.length ≤ 9
   ·rw [show decide (lenI c > 9) = false from decide_eq_false (by simp only [zh]; omega),Option.bind_some,cond_false,decide_eq_true h2]
    simp only [Bool.true_and]
    rw [zl6 t.length (fun i => inB 0 10000000 (t.getD i trk0).1) false (by simp only [big]; omega)]
    ·cases (List.range t.length).all (fun i => inB 0 10000000 (t.getD i trk0).1) with
     | false => simp [zy5]
     | true =>
      simp only [if_true,Option.bind_some,zg5,Bool.true_and]
      rw [zl6 c.length (carB c) false (by simp only [big]; omega)]
      ·cases (List.range c.length).all (carB c) with
       | false => simp [zy5]
       | true =>
        simp only [if_true,Option.bind_some,zg5,Bool.true_and]
        rw [zl6 l.length (leaveB l) false (by simp only [big]; omega)]
        ·cases (List.range l.length).all (leaveB l) <;> simp [zg5,zy5]
        ·intro i hi
         have hw:w64 ((i:Int) + 1) = i + 1 := zn (by omega) (by omega)
         simp only [show decide ((i:Int) < lenI l) = true from decide_eq_true (by simp only [zh]; omega),cond_true,zp1 lev0 hi,Option.bind_some,hw]
         unfold leaveB inB
         by_cases h0:i = 0
         ·subst h0
          simp only [show decide (((0:Nat):Int) > 0) = false by decide,cond_false]
          cases decide (0 ≤ (l.getD 0 lev0).1) <;> cases decide ((l.getD 0 lev0).1 ≤ 100) <;> cases decide (0 ≤ (l.getD 0 lev0).2.1) <;> cases decide ((l.getD 0 lev0).2.1 ≤ 200000) <;> simp
         ·have hw2:w64 ((i:Int) - 1) = ((i - 1:Nat):Int) := by rw [zn (by omega) (by omega)]; omega
          simp only [show decide ((i:Int) > 0) = true from decide_eq_true (by omega),cond_true,hw2,zp1 lev0 (show i - 1 < l.length by omega),Option.bind_some,show decide (i = 0) = false from decide_eq_false h0,Bool.false_or]
          cases decide (0 ≤ (l.getD i lev0).1) <;> cases decide ((l.getD i lev0).1 ≤ 100) <;> cases decide (0 ≤ (l.getD i lev0).2.1) <;> cases decide ((l.getD i lev0).2.1 ≤ 200000) <;> cases decide ((l.getD i lev0).2.1 < (l.getD (i - 1) lev0).2.1) <;> rfl
        ·simp only [show decide ((l.length:Int) < lenI l) = false from decide_eq_false (by simp only [zh]; omega),cond_false]
      ·intro i hi
       have hw:w64 ((i:Int) + 1) = i + 1 := zn (by omega) (by omega)
       simp only [show decide ((i:Int) < lenI c) = true from decide_eq_true (by simp only [zh]; omega),cond_true,zp1 car0 hi,Option.bind_some,hw]
       unfold carB inB
       by_cases h0:i = 0
       ·subst h0
        simp only [show decide (((0:Nat):Int) > 0) = false by decide,cond_false,decide_true,Bool.true_or,Bool.and_true]
        cases decide (0 ≤ (c.getD 0 car0).1) && decide ((c.getD 0 car0).1 ≤ 100) <;> cases decide (1 ≤ (c.getD 0 car0).2.1) && decide ((c.getD 0 car0).2.1 ≤ 10000000) <;> cases decide (0 ≤ (c.getD 0 car0).2.2.1) && decide ((c.getD 0 car0).2.2.1 ≤ 200000) <;> cases decide (0 ≤ (c.getD 0 car0).2.2.2.1) && decide ((c.getD 0 car0).2.2.2.1 ≤ 200000) <;> rfl
       ·have hw2:w64 ((i:Int) - 1) = ((i - 1:Nat):Int) := by rw [zn (by omega) (by omega)]; omega
        simp only [show decide ((i:Int) > 0) = true from decide_eq_true (by omega),cond_true,hw2,zp1 car0 (show i - 1 < c.length by omega),Option.bind_some,show decide (i = 0) = false from decide_eq_false h0,Bool.false_or]
        cases decide (0 ≤ (c.getD i car0).1) && decide ((c.getD i car0).1 ≤ 100) <;> cases decide (1 ≤ (c.getD i car0).2.1) && decide ((c.getD i car0).2.1 ≤ 10000000) <;> cases decide (0 ≤ (c.getD i car0).2.2.1) && decide ((c.getD i car0).2.2.1 ≤ 200000) <;> cases decide (0 ≤ (c.getD i car0).2.2.2.1) && decide ((c.getD i car0).2.2.2.1 ≤ 200000) <;> cases decide ((c.getD i car0).2.2.1 < (c.getD (i - 1) car0).2.2.1) <;> rfl
      ·simp only [show decide ((c.length:Int) < lenI c) = false from decide_eq_false (by simp only [zh]; omega),cond_false]
    ·intro i hi
     have hw:w64 ((i:Int) + 1) = i + 1 := zn (by omega) (by omega)
     simp only [show decide ((i:Int) < lenI t) = true from decide_eq_true (by simp only [zh]; omega),cond_true,zp1 trk0 hi,Option.bind_some,hw]
     unfold inB
     cases decide (0 ≤ (t.getD i trk0).1) && decide ((t.getD i trk0).1 ≤ 10000000) <;> rfl
    ·simp only [show decide ((t.length:Int) < lenI t) = false from decide_eq_false (by simp only [zh]; omega),cond_false]
   ·rw [show decide (lenI c > 9) = true from decide_eq_true (by simp only [zh]; omega),Option.bind_some,cond_true,decide_eq_false h2]
    simp
  ·rw [show (lenI c != lenI l) = true by simp [zh]; omega,cond_true,Option.bind_some,cond_true,decide_eq_false h1]
   simp
end Go.Ai.Sx

/- The depot: which plans are plans of a night. -/
namespace Go.Ai.Sx
def takesB (c:List StableCar) (l:List StableLeave) (p:StablePlan) (i:Nat):Bool :=
 decide ((c.getD i car0).1 = (l.getD (p.2.1.getD i 0).toNat lev0).1) && (decide ((c.getD i car0).2.2.1 ≤ (l.getD (p.2.1.getD i 0).toNat lev0).2.1) && decide ((l.getD (p.2.1.getD i 0).toNat lev0).2.1 ≤ (c.getD i car0).2.2.2.1))
def pre (c:List StableCar) (p:StablePlan):Nat → Int → Int
 | 0,_ => 0
 | i + 1,t => pre c p i t + (if p.1.getD i 0 = t then (c.getD i car0).2.1 else 0)
def fitB (t:List StableTrack) (c:List StableCar) (p:StablePlan) (i:Nat):Bool := !decide ((t.getD (p.1.getD i 0).toNat trk0).1 < pre c p (i + 1) (p.1.getD i 0))
def quietB (c:List StableCar) (l:List StableLeave):Bool := decide (c.length = 0) || decide ((c.getD (c.length - 1) car0).2.2.1 ≤ (l.getD 0 lev0).2.1)
structure PlanOk (t:List StableTrack) (c:List StableCar) (l:List StableLeave) (p:StablePlan):Prop where
 l1:p.1.length = c.length
 l2:p.2.1.length = c.length
 quiet:quietB c l = true
 tr:∀ i,i < c.length → 0 ≤ p.1.getD i 0 ∧ p.1.getD i 0 < (t.length:Int)
 lv:∀ x ∈ p.2.1,0 ≤ x ∧ x < (c.length:Int)
 nd:p.2.1.Nodup
 takes:∀ i,i < c.length → takesB c l p i = true
 fit:∀ i,i < c.length → fitB t c p i = true
structure NightOk (t:List StableTrack) (c:List StableCar) (l:List StableLeave):Prop where
 t1:1 ≤ t.length
 t5:t.length ≤ 5
 cl:c.length = l.length
 c9:c.length ≤ 9
 len:∀ i,i < c.length → 1 ≤ (c.getD i car0).2.1 ∧ (c.getD i car0).2.1 ≤ 10000000
theorem zz17 {t:List StableTrack} {c:List StableCar} {l:List StableLeave} (h:nightB t c l = true):NightOk t c l := by
 unfold nightB at h
 simp only [Bool.and_eq_true,decide_eq_true_eq] at h
 obtain ⟨⟨⟨⟨⟨h1,h2⟩,h3⟩,h4⟩,h5⟩,h6⟩ := h
 unfold inB at h1
 simp only [Bool.and_eq_true,decide_eq_true_eq] at h1
 refine ⟨by omega,by omega,h2,h3,fun i hi => ?_⟩
 rw [List.all_eq_true] at h5
 have := h5 i (List.mem_range.2 hi)
 unfold carB inB at this
 simp only [Bool.and_eq_true,decide_eq_true_eq] at this
 exact this.2.1
section
variable {t:List StableTrack} {c:List StableCar} {l:List StableLeave} {p:StablePlan}
theorem zo32 (hn:NightOk t c l):∀ i,i ≤ c.length → ∀ x,0 ≤ pre c p i x ∧ pre c p i x ≤ 10000000 * (i:Int)
 | 0,_,x => by simp [pre]
 | i + 1,hi,x => by
  have h1 := zo32 hn i (by omega) x
  have h2 := hn.len i (by omega)
  simp only [pre]
  split <;> omega
theorem zb31 (hn:NightOk t c l):zs3 (t,c,l,()) = some (quietB c l) := by
 unfold zs3 quietB
 simp only []
 by_cases h:c.length = 0
 ·rw [show (lenI c == 0) = true by simp [zh,h],cond_true,Option.bind_some,decide_eq_true h]; rfl
 ·have h9 := hn.c9
  rw [show (lenI c == 0) = false by rw [zh]; exact beq_false_of_ne (by omega),cond_false,show w64 (lenI c - 1) = ((c.length - 1:Nat):Int) by rw [zh,zn (by omega) (by omega)]; omega]
  rw [zp1 car0 (by omega),Option.bind_some,show (0:Int) = ((0:Nat):Int) from rfl,zp1 lev0 (by have := hn.cl; omega),Option.bind_some,Option.bind_some,decide_eq_false h,Bool.false_or]
def preL (t:List StableTrack) (c:List StableCar) (p:StablePlan) (i:Nat):List Int := rl t.length fun x => pre c p i (x:Int)
theorem zc31 (hn:NightOk t c l) {i:Nat} (hi:i < c.length) (htr:0 ≤ p.1.getD i 0 ∧ p.1.getD i 0 < (t.length:Int)) :
    idx (preL t c p i) (p.1.getD i 0) = some (pre c p i (p.1.getD i 0)) ∧
    w64 (pre c p i (p.1.getD i 0) + (c.getD i car0).2.1) = pre c p (i + 1) (p.1.getD i 0) ∧
    (preL t c p i).set (p.1.getD i 0).toNat (pre c p (i + 1) (p.1.getD i 0)) = preL t c p (i + 1) ∧
    idx (preL t c p (i + 1)) (p.1.getD i 0) = some (pre c p (i + 1) (p.1.getD i 0)) ∧
    idx t (p.1.getD i 0) = some (t.getD (p.1.getD i 0).toNat trk0) := by
  have h9 := hn.c9
  have hp := zo32 (p := p) hn i (by omega) (p.1.getD i 0)
  have hl := hn.len i hi
  generalize hx:p.1.getD i 0 = x at *
  obtain ⟨k,rfl⟩:∃ k:Nat,x = k := ⟨x.toNat,by omega⟩
  have hk:k < t.length := by omega
  have hs:pre c p (i + 1) (k:Int) = pre c p i (k:Int) + (c.getD i car0).2.1 := by simp only [pre,hx,if_pos]
  refine ⟨by unfold preL; rw [zc20 hk],by rw [hs,zn (by omega) (by omega)], ?_,by unfold preL; rw [zc20 hk],zj htr.1 htr.2⟩
  unfold preL
  rw [Int.toNat_natCast,zh27]
  refine zp12 fun y hy => ?_
  by_cases q:y = k
  · rw [if_pos q,q]
  · rw [if_neg q]
    simp only [pre,hx]
    rw [if_neg (by omega)]; omega
end
end Go.Ai.Sx

/- The depot: the specification's moves of shunting. -/
namespace Go.Ai.Sx
def cnt (f:Nat → Bool):Nat → Nat
 | 0 => 0
 | i + 1 => cnt f i + (if f i then 1 else 0)
def sumN (g:Nat → Nat):Nat → Nat
 | 0 => 0
 | j + 1 => sumN g j + g j
theorem ze20 (f:Nat → Bool):∀ i,cnt f i ≤ i
 | 0 => by simp [cnt]
 | i + 1 => by have := ze20 f i; simp only [cnt]; split <;> omega
theorem zl27 {g:Nat → Nat} {m:Nat}:∀ {j:Nat},(∀ i,i < j → g i ≤ m) → sumN g j ≤ j * m
 | 0,_ => by simp [sumN]
 | j + 1,h => by
  have h1 := zl27 (j := j) (fun i hi => h i (by omega))
  have h2 := h j (by omega)
  simp only [sumN,Nat.add_mul]; omega
def thr (t:List StableTrack) (p:StablePlan) (i:Nat):Bool := (t.getD (p.1.getD i 0).toNat trk0).2.1
def conf (t:List StableTrack) (p:StablePlan) (i j:Nat):Bool := decide (p.1.getD i 0 = p.1.getD j 0) && wayB p.2.1 (thr t p i) i j
def pairs (t:List StableTrack) (p:StablePlan) (n:Nat):Nat := sumN (fun j => cnt (fun i => conf t p i j) j) n
section
variable {t:List StableTrack} {c:List StableCar} {l:List StableLeave} {p:StablePlan}
end
end Go.Ai.Sx

/- The depot: who is moved aside,departure by departure. -/
namespace Go.Ai.Sx
theorem zz37 {A:Type} (n:Nat) (f:Nat → A):(rl n f).reverse = rl n fun x => f (n - 1 - x) := by
 apply List.ext_getElem?
 intro i
 by_cases h:i < n
 ·rw [List.getElem?_reverse (by rw [zj9]; exact h),zk9,zk9,zj9,if_pos (by omega),if_pos h]
 ·rw [List.getElem?_eq_none (by rw [List.length_reverse,zj9]; omega),zk9,if_neg h]
theorem zc35 (xs:List Int):xs = rl xs.length fun x => xs.getD x 0 := by
 apply List.ext_getElem?
 intro i
 rw [zk9]
 by_cases h:i < xs.length
 ·rw [if_pos h,List.getElem?_eq_getElem h]; simp [List.getD,h]
 ·rw [if_neg h,List.getElem?_eq_none (by omega)]
theorem zm21 (xs:List Int) (hl:xs.length ≤ 1000):zl2 xs = some xs.reverse := by
 refine Tot.eq ?_
 unfold zl2
 generalize hn:xs.length = n at *
 have hx:xs = rl n fun x => xs.getD x 0 := by rw [← hn]; exact zc35 xs
 generalize hf:(fun x => xs.getD x 0) = f at hx
 rw [hx,zz37,zh,zj9]
 refine Tot.bind (Q := fun q => q = rl n fun x => f (n - 1 - x)) ?_ (fun q hq => by subst hq; exact Tot.some rfl)
 refine Tot.iter (fun s => ∃ i:Nat,i ≤ n ∧ 2 * i ≤ n + 1 ∧ s = ((i:Int),(n:Int) - 1 - i,rl n fun x => if x < i ∨ n - 1 - i < x ∨ (n < i + 1 + x) then f (n - 1 - x) else f x)) _ (fun s => n + 1 - s.1.toNat) ⟨0,by omega,by omega, ?_⟩ (by simp only [big]; omega) ?_
 ·rw [zn (by omega) (by omega)]
  refine Prod.ext rfl (Prod.ext (by simp) ?_)
  refine zp12 fun x hx => ?_
  rw [if_neg (by omega)]
 rintro _ ⟨i,hi,h2,rfl⟩
 by_cases hij:(i:Int) < (n:Int) - 1 - i
 ·have hw1:w64 ((i:Int) + 1) = ((i + 1:Nat):Int) := by rw [zn (by omega) (by omega)]; rfl
  have hw2:w64 ((n:Int) - 1 - i - 1) = (n:Int) - 1 - ((i + 1:Nat):Int) := by rw [zn (by omega) (by omega)]; omega
  have ej:(n:Int) - 1 - i = ((n - 1 - i:Nat):Int) := by omega
  simp only [decide_eq_true hij,cond_true,hw1,hw2]
  rw [ej,zc20 (by omega),Option.bind_some,zc20 (by omega),Option.bind_some,Option.bind_some,if_neg (by omega),if_neg (by omega),Int.toNat_natCast,Int.toNat_natCast,zh27,zc20 (by omega),Option.bind_some,zh27]
  refine Tot.some ⟨⟨i + 1,by omega,by omega, ?_⟩,by simp only [Int.toNat_natCast]; omega⟩
  refine Prod.ext rfl (Prod.ext rfl ?_)
  refine zp12 fun x hx => ?_
  by_cases q1:x = n - 1 - i
  ·rw [if_pos q1,if_pos (by omega),q1]; congr 1; omega
  ·rw [if_neg q1]
   by_cases q2:x = i
   ·rw [if_pos q2,if_pos (by omega),q2]
   ·rw [if_neg q2]
    by_cases q3:x < i ∨ n - 1 - i < x ∨ n < i + 1 + x
    ·rw [if_pos q3,if_pos (by omega)]
    ·rw [if_neg q3,if_neg (by omega)]
 ·simp only [decide_eq_false hij,cond_false]
  refine Tot.some ?_
  show rl n _ = rl n _
  refine zp12 fun x hx => ?_
  by_cases q3:x < i ∨ n - 1 - i < x ∨ n < i + 1 + x
  ·rw [if_pos q3]
  ·rw [if_neg q3]; congr 1; omega
section
variable {t:List StableTrack} {c:List StableCar} {l:List StableLeave} {p:StablePlan}
def lvN (p:StablePlan) (i:Nat):Nat := (p.2.1.getD i 0).toNat
def cf (p:StablePlan) (k:Nat):Nat := p.2.1.findIdx fun x => decide ((k:Int) = x)
theorem ze14 (ho:PlanOk t c l p) {i:Nat} (hi:i < c.length):lvN p i < c.length ∧ p.2.1.getD i 0 = (lvN p i:Int) := by
 have l2 := ho.l2
 have hi2:i < p.2.1.length := by omega
 have := ho.lv (p.2.1.getD i 0) (by simp [List.getD,hi2])
 unfold lvN
 omega
theorem za18 (ho:PlanOk t c l p) {i j:Nat} (hi:i < c.length) (hj:j < c.length) (h:lvN p i = lvN p j):i = j := by
 have l2 := ho.l2
 have h1 := (ze14 ho hi).2
 have h2 := (ze14 ho hj).2
 have e:p.2.1[i]'(by omega) = p.2.1[j]'(by omega) := by
  have a1:p.2.1.getD i 0 = p.2.1[i]'(by omega) := by simp [List.getD,show i < p.2.1.length by omega]
  have a2:p.2.1.getD j 0 = p.2.1[j]'(by omega) := by simp [List.getD,show j < p.2.1.length by omega]
  rw [← a1,← a2,h1,h2,h]
 have hp := List.pairwise_iff_getElem.1 ho.nd
 rcases Nat.lt_trichotomy i j with q | q | q
 ·exact absurd e (hp i j (by omega) (by omega) q)
 ·exact q
 ·exact absurd e.symm (hp j i (by omega) (by omega) q)
theorem za38 (ho:PlanOk t c l p) {k:Nat} (hk:k < c.length):(k:Int) ∈ p.2.1 := by
 have l2 := ho.l2
 apply Classical.byContradiction
 intro hno
 have hR:((List.range c.length).map fun (i:Nat) => (i:Int)).length = c.length := by simp
 have hmem:(k:Int) ∈ (List.range c.length).map fun (i:Nat) => (i:Int) := List.mem_map.2 ⟨k,List.mem_range.2 hk,rfl⟩
 have := List.Nodup.length_le_of_subset ho.nd (l₂ := ((List.range c.length).map fun (i:Nat) => (i:Int)).erase (k:Int)) (fun x hx => by
  have h1 := ho.lv x hx
  have hne:x ≠ (k:Int) := fun e => by subst e; exact hno hx
  exact (List.mem_erase_of_ne hne).2 (List.mem_map.2 ⟨x.toNat,List.mem_range.2 (by omega),by omega⟩))
 rw [List.length_erase_of_mem hmem,hR] at this
 omega
theorem cf_ok (ho:PlanOk t c l p) {k:Nat} (hk:k < c.length):cf p k < c.length ∧ lvN p (cf p k) = k := by
 have l2 := ho.l2
 have h1:cf p k < p.2.1.length := List.findIdx_lt_length_of_exists ⟨(k:Int),za38 ho hk,by simp⟩
 have h2 := List.findIdx_getElem (w := h1)
 have h2:(k:Int) = p.2.1[cf p k] := of_decide_eq_true h2
 refine ⟨by omega, ?_⟩
 unfold lvN
 rw [show p.2.1.getD (cf p k) 0 = p.2.1[cf p k] by simp [List.getD,h1],← h2]
 omega
def onB (p:StablePlan) (car k i:Nat):Bool := decide (p.1.getD i 0 = p.1.getD car 0) && !decide (lvN p i < k)
theorem zd31 {n a:Nat} (h:a < n):List.range n = List.range a ++ a :: (List.range (n - (a + 1))).map fun d => a + 1 + d := by
 have e:n = a + 1 + (n - (a + 1)) := by omega
 conv => lhs; rw [e]
 rw [List.range_add,List.range_succ]
 simp
end
end Go.Ai.Sx

/- The depot: the moves of a plan,and how it is played. -/
namespace Go.Ai.Sx
section
variable {t:List StableTrack} {c:List StableCar} {l:List StableLeave} {p:StablePlan}
theorem zv4 {f g:Nat → Nat}:∀ {n:Nat},(∀ i,i < n → f i = g i) → sumN f n = sumN g n
 | 0,_ => rfl
 | n + 1,h => by simp only [sumN]; rw [zv4 (fun i hi => h i (by omega)),h n (by omega)]
theorem zm10 (f g:Nat → Nat):∀ n,sumN (fun i => f i + g i) n = sumN f n + sumN g n
 | 0 => rfl
 | n + 1 => by simp only [sumN,zm10 f g n]; omega
theorem zn10:∀ n,sumN (fun _ => 0) n = 0
 | 0 => rfl
 | n + 1 => by simp only [sumN,zn10 n]
theorem zf20 (f:Nat → Nat → Nat) (m:Nat):∀ n,sumN (fun i => sumN (fun j => f i j) m) n = sumN (fun j => sumN (fun i => f i j) n) m
 | 0 => by simp only [sumN]; exact (zn10 m).symm
 | n + 1 => by simp only [sumN,zf20 f m n]; rw [zm10]
theorem zs9 {f:Nat → Nat} {x:Nat}:∀ {n:Nat},x < n → (∀ i,i < n → i ≠ x → f i = 0) → sumN f n = f x
 | 0,h,_ => by omega
 | n + 1,h,hz => by
  simp only [sumN]
  by_cases q:x = n
  ·subst q
   rw [zv4 (g := fun _ => 0) (fun i hi => hz i (by omega) (by omega)),zn10]; omega
  ·rw [zs9 (by omega) (fun i hi hne => hz i (by omega) hne),hz n (by omega) (fun e => q e.symm)]; omega
theorem zm27 (f:Nat → Bool):∀ n,cnt f n = sumN (fun i => if f i then 1 else 0) n
 | 0 => rfl
 | n + 1 => by simp only [cnt,sumN,zm27 f n]
theorem zq16 (f:Nat → Bool):∀ n,((List.range n).filter f).length = cnt f n
 | 0 => rfl
 | n + 1 => by
  rw [List.range_succ,List.filter_append,List.length_append,zq16 f n]
  simp only [cnt]
  cases h:f n <;> simp [h]
theorem zf14 (f:Nat → Bool) (a:Nat):∀ n,(((List.range n).map fun d => a + d).filter f).length = cnt (fun d => f (a + d)) n
 | 0 => rfl
 | n + 1 => by
  rw [List.range_succ,List.map_append,List.filter_append,List.length_append,zf14 f a n]
  simp only [cnt]
  by_cases h:f (a + n) = true <;> simp [h]
theorem zg20 (f:Nat → Nat → Bool):∀ n,sumN (fun i => cnt (fun d => f i (i + 1 + d)) (n - (i + 1))) n = sumN (fun j => cnt (fun i => f i j) j) n
 | 0 => rfl
 | n + 1 => by
  have h1:sumN (fun i => cnt (fun d => f i (i + 1 + d)) (n + 1 - (i + 1))) n = sumN (fun i => cnt (fun d => f i (i + 1 + d)) (n - (i + 1)) + (if f i n then 1 else 0)) n := zv4 fun i hi => by
   rw [show n + 1 - (i + 1) = (n - (i + 1)) + 1 by omega]
   have e:i + 1 + (n - (i + 1)) = n := by omega
   simp only [cnt,e]
  simp only [sumN]
  rw [h1,zm10,zg20 f n,← zm27 (fun i => f i n) n]
  simp [cnt]
theorem zd35 (ho:PlanOk t c l p) {i j:Nat} (hi:i < c.length) (hj:j < c.length):conf t p i j = (decide (p.1.getD i 0 = p.1.getD j 0) && (if thr t p i then decide (lvN p j < lvN p i) else decide (lvN p i < lvN p j))) := by
 unfold conf wayB
 rw [Int.toNat_natCast,Int.toNat_natCast,(ze14 ho hi).2,(ze14 ho hj).2]
 congr 1
 cases thr t p i
 ·simp only [Bool.false_eq_true,if_false]
  by_cases q:lvN p i < lvN p j
  ·rw [decide_eq_true q,decide_eq_true (by omega)]
  ·rw [decide_eq_false q,decide_eq_false (by omega)]
 ·simp only [if_true]
  by_cases q:lvN p j < lvN p i
  ·rw [decide_eq_true q,decide_eq_true (by omega)]
  ·rw [decide_eq_false q,decide_eq_false (by omega)]
theorem zb5 {f g:Nat → Bool}:∀ {n:Nat},(∀ i,i < n → f i = g i) → cnt f n = cnt g n
 | 0,_ => rfl
 | n + 1,h => by simp only [cnt]; rw [zb5 (fun i hi => h i (by omega)),h n (by omega)]
theorem zo10:∀ n,cnt (fun _ => false) n = 0
 | 0 => rfl
 | n + 1 => by simp only [cnt,zo10 n]; rfl
theorem zp32 {f g:Nat → Bool}:∀ {n:Nat},(∀ i,i < n → f i = true → g i = false) → cnt f n + cnt g n = cnt (fun i => f i || g i) n
 | 0,_ => rfl
 | n + 1,h => by
  have h1 := zp32 (f := f) (g := g) (n := n) (fun i hi => h i (by omega))
  have h2 := h n (by omega)
  simp only [cnt]
  by_cases hf:f n = true
  ·rw [if_pos hf,if_neg (by rw [h2 hf]; simp),if_pos (by rw [hf]; rfl)]; omega
  ·rw [if_neg hf]
   have hf':f n = false := by simpa using hf
   by_cases hg:g n = true
   ·rw [if_pos hg,if_pos (by rw [hg]; simp)]; omega
   ·rw [if_neg hg,if_neg (by rw [hf']; simpa using hg)]; omega
def gS (t:List StableTrack) (n:Nat) (p:StablePlan) (x:Nat):Nat :=
 if thr t p x then cnt (fun i => onB p x (lvN p x) i) x else cnt (fun d => onB p x (lvN p x) (x + 1 + d)) (n - (x + 1))
theorem zb38 (ho:PlanOk t c l p) (G:Nat → Nat):sumN (fun k => G (cf p k)) c.length = sumN G c.length := by
 have h1:sumN (fun k => G (cf p k)) c.length = sumN (fun k => sumN (fun x => if lvN p x = k then G x else 0) c.length) c.length := zv4 fun k hk => by
  obtain ⟨a,b⟩ := cf_ok ho hk
  rw [zs9 a (fun i hi hne => if_neg (fun e => hne (za18 ho hi a (by rw [e,b])))),if_pos b]
 rw [h1,zf20]
 refine zv4 fun x hx => ?_
 rw [zs9 (ze14 ho hx).1 (fun k hk hne => if_neg (fun e => hne e.symm)),if_pos rfl]
theorem zn22 {i j:Nat} (h:p.1.getD i 0 = p.1.getD j 0):thr t p i = thr t p j := by unfold thr; rw [h]
theorem zn27 (ho:PlanOk t c l p):sumN (gS t c.length p) c.length = pairs t p c.length := by
 let fT:Nat → Nat → Bool := fun i j => thr t p j && (decide (p.1.getD i 0 = p.1.getD j 0) && decide (lvN p j < lvN p i))
 let fD:Nat → Nat → Bool := fun i j => !thr t p i && (decide (p.1.getD i 0 = p.1.getD j 0) && decide (lvN p i < lvN p j))
 have h1:sumN (gS t c.length p) c.length = sumN (fun x => cnt (fun i => fT i x) x + cnt (fun d => fD x (x + 1 + d)) (c.length - (x + 1))) c.length := zv4 fun x hx => by
  unfold gS
  cases hth:thr t p x with
  | true =>
   simp only [if_true]
   rw [show cnt (fun d => fD x (x + 1 + d)) (c.length - (x + 1)) = 0 from by
    rw [zb5 (g := fun _ => false) (fun i hi => by show (!thr t p x && _) = false; rw [hth]; rfl),zo10]]
   rw [Nat.add_zero]
   refine zb5 fun i hi => ?_
   show (decide (p.1.getD i 0 = p.1.getD x 0) && !decide (lvN p i < lvN p x)) = (thr t p x && (decide (p.1.getD i 0 = p.1.getD x 0) && decide (lvN p x < lvN p i)))
   rw [hth,Bool.true_and]
   congr 1
   have hne:lvN p i ≠ lvN p x := fun e => by have := za18 ho (show i < c.length by omega) hx e; omega
   by_cases q:lvN p i < lvN p x
   ·rw [decide_eq_true q,decide_eq_false (by omega)]; rfl
   ·rw [decide_eq_false q,decide_eq_true (by omega)]; rfl
  | false =>
   simp only [Bool.false_eq_true,if_false]
   rw [show cnt (fun i => fT i x) x = 0 from by
    rw [zb5 (g := fun _ => false) (fun i hi => by show (thr t p x && _) = false; rw [hth]; rfl),zo10]]
   rw [Nat.zero_add]
   refine zb5 fun d hd => ?_
   show (decide (p.1.getD (x + 1 + d) 0 = p.1.getD x 0) && !decide (lvN p (x + 1 + d) < lvN p x)) = (!thr t p x && (decide (p.1.getD x 0 = p.1.getD (x + 1 + d) 0) && decide (lvN p x < lvN p (x + 1 + d))))
   rw [hth,Bool.not_false,Bool.true_and]
   have hne:lvN p (x + 1 + d) ≠ lvN p x := fun e => by have := za18 ho (show x + 1 + d < c.length by omega) hx e; omega
   have e1:decide (p.1.getD (x + 1 + d) 0 = p.1.getD x 0) = decide (p.1.getD x 0 = p.1.getD (x + 1 + d) 0) := decide_eq_decide.2 ⟨Eq.symm,Eq.symm⟩
   rw [e1]
   congr 1
   by_cases q:lvN p (x + 1 + d) < lvN p x
   ·rw [decide_eq_true q,decide_eq_false (by omega)]; rfl
   ·rw [decide_eq_false q,decide_eq_true (by omega)]; rfl
 rw [h1,zm10,zg20 fD,← zm10]
 unfold pairs
 refine zv4 fun j hj => ?_
 rw [zp32]
 ·refine zb5 fun i hi => ?_
  show (thr t p j && (decide (p.1.getD i 0 = p.1.getD j 0) && decide (lvN p j < lvN p i)) || (!thr t p i && (decide (p.1.getD i 0 = p.1.getD j 0) && decide (lvN p i < lvN p j)))) = conf t p i j
  rw [zd35 ho (by omega) hj]
  by_cases q:p.1.getD i 0 = p.1.getD j 0
  ·rw [decide_eq_true q,← zn22 (t := t) q]
   cases thr t p i <;> simp
  ·rw [decide_eq_false q]; simp
 ·intro i hi h
  show (!thr t p i && _) = false
  have h:(thr t p j && (decide (p.1.getD i 0 = p.1.getD j 0) && decide (lvN p j < lvN p i))) = true := h
  simp only [Bool.and_eq_true,decide_eq_true_eq] at h
  rw [zn22 (t := t) h.2.1,h.1]; rfl
end
end Go.Ai.Sx

/- The depot: plans played,and the law of moves. -/
namespace Go.Ai.Sx
section
variable {t:List StableTrack} {c:List StableCar} {l:List StableLeave} {p:StablePlan}
end
end Go.Ai.Sx
