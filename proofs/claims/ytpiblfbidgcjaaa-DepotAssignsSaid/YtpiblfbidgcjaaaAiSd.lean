/- Plain functions that printed texts use. -/
import Derived.Test.YtpiblfbidgcjaaaAiSr
namespace Go.Ai.Sx
abbrev w64 (n : Int) : Int := IntKind.i64.wrap n
abbrev bAnd (k : IntKind) (a b : Int) : Int := k.wrap ((BitVec.ofInt k.bits a &&& BitVec.ofInt k.bits b).toNat)
abbrev bOr (k : IntKind) (a b : Int) : Int := k.wrap ((BitVec.ofInt k.bits a ||| BitVec.ofInt k.bits b).toNat)
abbrev bXor (k : IntKind) (a b : Int) : Int := k.wrap ((BitVec.ofInt k.bits a ^^^ BitVec.ofInt k.bits b).toNat)
abbrev bAndNot (k : IntKind) (a b : Int) : Int := k.wrap ((BitVec.ofInt k.bits a &&& ~~~ (BitVec.ofInt k.bits b)).toNat)

theorem okn {z : Store} : okAll z [] [] := by simp only [okAll]
theorem okint {z : Store} {k : IntKind} {es : List TE} {vs : List AVal} (h : okAll z es vs) : okAll z (.val (rInt k) 0 :: es) (.int k 0 :: vs) := by
  simp only [okAll, TE.ok]
  exact ⟨_, _, rfl, tv_int_mk (by cases k <;> decide) (by cases k <;> decide), h⟩
theorem okbool {z : Store} {es : List TE} {vs : List AVal} (h : okAll z es vs) : okAll z (.val rBool false :: es) (.bool false :: vs) := by
  simp only [okAll, TE.ok]
  exact ⟨_, _, rfl, tv_bool_mk, h⟩
theorem oknil {A : Type} {R : Rep A} {z : Store} {es : List TE} {vs : List AVal} (h : okAll z es vs) : okAll z (.val (rSlice R) [] :: es) (.nilslice :: vs) := by
  simp only [okAll, TE.ok]
  exact ⟨_, _, rfl, tv_slice_mk row_nil, h⟩
theorem okraw {z : Store} {v : AVal} {es : List TE} {vs : List AVal} (h : okAll z es vs) : okAll z (.raw v :: es) (v :: vs) := by
  simp only [okAll, TE.ok]
  exact ⟨_, _, rfl, rfl, h⟩
end Go.Ai.Sx
