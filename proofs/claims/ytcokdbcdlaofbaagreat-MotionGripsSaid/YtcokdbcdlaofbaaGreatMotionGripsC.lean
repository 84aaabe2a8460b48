/- The statement MotionGrips holds, for every input; no condition. -/
import Derived.Test.YtcokdbcdlaofbaaGreatM11
import Derived.Test.YtcokdbcdlaofbaaGreatM15
import Derived.Test.YtcokdbcdlaofbaaGreatWalkMotionGripsC
set_option linter.unusedSimpArgs false
set_option linter.unusedVariables false
set_option linter.unusedSectionVars false
namespace Go.Proofs.YtcokdbcdlaofbaaGreat
open Go Go.Ai Go.Ai.Sx Go.Ai.TabYtcokdbcdlaofbaaGreat

def aMotionGrips : ARep (Train × Int × Int × Int × Int × Int × Unit) := aCons rTrain (aCons (rInt .i64) (aCons (rInt .i64) (aCons (rInt .i64) (aCons (rInt .i64) (aCons (rInt .i64) aNil)))))
theorem oaMotionGrips : OpensA Tryz.prog [24, 3, 3, 3, 3, 3] aMotionGrips := opensA_cons o24 (by kernel_rfl) (opensA_cons o3 (by kernel_rfl) (opensA_cons o3 (by kernel_rfl) (opensA_cons o3 (by kernel_rfl) (opensA_cons o3 (by kernel_rfl) (opensA_cons o3 (by kernel_rfl) opensA_nil)))))

theorem lessIn {z : Store} {vs : List AVal} {x : Train × Int × Int × Int × Int × Int × Unit} (h : aMotionGrips.rel z vs x) : x.2.2.1 ≤ 9223372036854775807 := by
 obtain ⟨_, _, _, _, _, _, _, _, _, _, _, h1, _⟩ := h
 exact (tv_int_range h1).2

set_option maxRecDepth 100000 in
theorem grips_holds : Rows.MotionGripsSaid :=
 OpenClaim.holds_of_wide 7 Tryz.f7 rfl rfl rfl rfl rfl rfl rfl ⟨rfl, rfl, rfl, rfl, rfl⟩ rfl rfl rfl rfl rfl (by kernel_rfl) Tryz.func7 (by kernel_rfl)
  (of_decide_eq_true (by kernel_rfl)) (by unfold Func.isWrapper; first | (rw [if_pos (by decide +kernel)]; kernel_rfl) | (rw [if_neg (by decide +kernel)]; exact ⟨rfl, rfl⟩))
  (fun os started H enc _ => by
   show ReturnsInHanded {} Tryz.checked os 7 .any (Rows.motionGripsSpec.pre6 enc Tryz.prog Tryz.f7 Rows.motionGripsRow.domain false) (Rows.motionGripsSpec.post enc Tryz.prog Tryz.f7 false true false false)
   refine returnsInHanded_of_change_shaped (C := Tryz.checked) own started (by kernel_rfl) Tryz.func7
    (ChangeSpec.witness6 (enc := enc) (C := Tryz.checked) false ⟨#[], #[.agg #[.int .i64 0, .int .i64 0, .int .i64 0, .int .i64 0, .int .i64 0, .int .i64 0, .int .i64 0, .int .i64 0, .int .i64 0, .slice none 0 0], .int .i64 0, .int .i64 0, .int .i64 0, .int .i64 0, .int .i64 0], []⟩ 7 (by kernel_rfl) (by kernel_rfl) (by kernel_rfl) (by kernel_rfl)) ?_
   intro W base args ds gs before hval hW _ _ hsh _
   exact law_contract (C := Tryz.checked) ktab_ok laidOut rfl (tb := 4) (by kernel_rfl) Tryz.underlying4 (by rw [Tryz.params7]; decide +kernel) (fun H ds hd => by
    match ds, hd with
    | [_, _, _, _, _, _], _ => rfl) (by rw [Tryz.params7]; exact oaMotionGrips)
    (law_run (S := aMotionGrips) (aok_cons (aok_cons (aok_cons (aok_cons (aok_cons (aok_cons aok_nil)))))) (fun z vs x hx => i7.ok _ (law_grips known3 x.1 x.2.1 x.2.2.1 x.2.2.2.1 x.2.2.2.2.1 x.2.2.2.2.2.1 (lessIn hx)))) (notEmpty hsh) hval hW)
end Go.Proofs.YtcokdbcdlaofbaaGreat
