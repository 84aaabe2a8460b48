/- Sets as bits,in both kinds of whole numbers. -/
import Derived.Test.YtafbcffccnjgfaaM11
namespace Go.Ai.Sx
theorem ofN (n:Nat):BitVec.ofInt 64 (n:Int) = BitVec.ofNat 64 n := by simp
theorem zc38 {a b:Nat} (ha:a < 4611686018427387904):a &&& b < 4611686018427387904 := Nat.lt_of_le_of_lt Nat.and_le_left ha
theorem or_lt {a b:Nat} (ha:a < 4611686018427387904) (hb:b < 4611686018427387904):a ||| b < 4611686018427387904 := Nat.or_lt_two_pow (n := 62) ha hb
theorem ze35 {a b:Nat} (ha:a < 4611686018427387904) (hb:b < 18446744073709551616):(BitVec.ofInt 64 (a:Int) &&& BitVec.ofInt 64 (b:Int)).toNat = a &&& b := by
 rw [ofN,ofN,BitVec.toNat_and,BitVec.toNat_ofNat,BitVec.toNat_ofNat,Nat.mod_eq_of_lt (Nat.lt_trans ha (by decide)),Nat.mod_eq_of_lt hb]
theorem zd38 {a b:Nat} (ha:a < 4611686018427387904) (hb:b < 4611686018427387904):(BitVec.ofInt 64 (a:Int) ||| BitVec.ofInt 64 (b:Int)).toNat = a ||| b := by
 rw [ofN,ofN,BitVec.toNat_or,BitVec.toNat_ofNat,BitVec.toNat_ofNat,Nat.mod_eq_of_lt (Nat.lt_trans ha (by decide)),Nat.mod_eq_of_lt (Nat.lt_trans hb (by decide))]
theorem ze38 {a b:Nat} (ha:a < 4611686018427387904) (hb:b < 4611686018427387904):bAnd .i64 (a:Int) (b:Int) = ((a &&& b:Nat):Int) := by
 show w64 ((BitVec.ofInt 64 (a:Int) &&& BitVec.ofInt 64 (b:Int)).toNat:Int) = _
 rw [ze35 ha (by omega),zn (by omega) (by have := zc38 (b := b) ha; omega)]
theorem bOr_i {a b:Nat} (ha:a < 4611686018427387904) (hb:b < 4611686018427387904):bOr .i64 (a:Int) (b:Int) = ((a ||| b:Nat):Int) := by
 show w64 ((BitVec.ofInt 64 (a:Int) ||| BitVec.ofInt 64 (b:Int)).toNat:Int) = _
 rw [zd38 ha hb,zn (by omega) (by have := or_lt ha hb; omega)]
theorem zq32 {x:Nat} (h:x < 62):2 ^ x < 4611686018427387904 := by
 have := Nat.pow_lt_pow_right (a := 2) (by omega) h
 exact this
theorem shl_i {x:Nat} (h:x < 62):shlO .i64 1 (x:Int) = some ((2 ^ x:Nat):Int) := by
 unfold shlO
 have hp := zq32 h
 rw [if_pos (by omega),Int.toNat_natCast,show min x IntKind.i64.bits = x from Nat.min_eq_left (by show x ≤ 64; omega),Int.one_mul]
 have:((2:Int) ^ x) = ((2 ^ x:Nat):Int) := by simp
 rw [this]
 generalize 2 ^ x = P at hp ⊢
 congr 1
 exact zn (by omega) (by omega)
theorem bit_i {S x:Nat} (hS:S < 4611686018427387904) (h:x < 62):∃ v,shrO .i64 (S:Int) (x:Int) = some v ∧ (bAnd .i64 v 1 == 1) = S.testBit x := by
 refine ⟨((S >>> x:Nat):Int), ?_, ?_⟩
 ·unfold shrO
  rw [if_pos (by omega),Int.toNat_natCast,show min x IntKind.i64.bits = x from Nat.min_eq_left (by show x ≤ 64; omega),Int.fdiv_eq_ediv_of_nonneg _ (Int.pow_nonneg (by decide)),Nat.shiftRight_eq_div_pow]
  have:((2:Int) ^ x) = ((2 ^ x:Nat):Int) := by simp
  rw [this]
  rfl
 ·have hs:S >>> x < 4611686018427387904 := Nat.lt_of_le_of_lt (by rw [Nat.shiftRight_eq_div_pow]; exact Nat.div_le_self _ _) hS
  rw [show (1:Int) = ((1:Nat):Int) from rfl,ze38 hs (by omega)]
  rw [Nat.testBit]
  have hle:S >>> x &&& 1 ≤ 1 := Nat.and_le_right
  have hcm:1 &&& S >>> x = S >>> x &&& 1 := Nat.and_comm _ _
  rw [hcm]
  generalize S >>> x &&& 1 = v at *
  have:v = 0 ∨ v = 1 := by omega
  rcases this with rfl | rfl <;> rfl
end Go.Ai.Sx
