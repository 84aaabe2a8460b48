/- What the rows of this seat ask, of the abstract interpreter. -/
import Derived.Test.YtpiblfbidgcjaaaAiTl
import Derived.Test.YtpiblfbidgcjaaaFactC
import Derived.Test.YtpiblfbidgcjaaaRows
import Derived.WalkKit
import Derived.ProofKit
namespace Go.Ai.TabYtpiblfbidgcjaaa
open Go Go.Ai Go.Ai.Sx Go.Proofs Go.Proofs.Ytpiblfbidgcjaaa

theorem own : ownKnob Try.prog.godebug = none := by kernel_rfl
theorem laidOut : laidOutB Try.prog = true := by kernel_rfl
theorem begun : decide (Try.prog.globals.size < (begin Try.prog (fun _ _ => 0) default).world.heap.size) = true := by kernel_rfl

theorem notEmpty {W : World} (h : W.ShapedOpen Try.prog) : 0 < W.heap.size := by
  obtain ⟨o, _, ho, _⟩ := h.2 Try.prog.globals.size (Nat.le_refl _) (of_decide_eq_true begun)
  have := (Array.getElem?_eq_some_iff.1 ho).1
  omega

theorem o3 : Opens Try.prog 3 (rInt .i64) := opens_int Try.underlying3 (by kernel_rfl)
theorem o4 : Opens Try.prog 4 rBool := opens_bool Try.underlying4 (by kernel_rfl)
theorem o22 : Opens Try.prog 22 (rSlice (rInt .i64)) := opens_slice Try.underlying22 (by kernel_rfl) o3 (by decide)
end Go.Ai.TabYtpiblfbidgcjaaa
