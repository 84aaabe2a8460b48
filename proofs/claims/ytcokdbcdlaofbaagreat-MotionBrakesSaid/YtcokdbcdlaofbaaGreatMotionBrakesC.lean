/- The statement MotionBrakes holds, for every input; no condition. -/
import Derived.Test.YtcokdbcdlaofbaaGreatM11
import Derived.Test.YtcokdbcdlaofbaaGreatM15
import Derived.Test.YtcokdbcdlaofbaaGreatWalkMotionBrakesC
set_option linter.unusedSimpArgs false
set_option linter.unusedVariables false
set_option linter.unusedSectionVars false
namespace Go.Proofs.YtcokdbcdlaofbaaGreat
open Go Go.Ai Go.Ai.Sx Go.Ai.TabYtcokdbcdlaofbaaGreat

def aMotionBrakes : ARep (Train × MotionState × Int × Int × Unit) := aCons rTrain (aCons rMotionState (aCons (rInt .i64) (aCons (rInt .i64) aNil)))
theorem oaMotionBrakes : OpensA Tryz.prog [24, 26, 3, 3] aMotionBrakes := opensA_cons o24 (by kernel_rfl) (opensA_cons o26 (by kernel_rfl) (opensA_cons o3 (by kernel_rfl) (opensA_cons o3 (by kernel_rfl) opensA_nil)))

set_option maxRecDepth 100000 in
theorem brakes_holds : Rows.MotionBrakesSaid :=
 OpenClaim.holds_of_wide 4 Tryz.f4 rfl rfl rfl rfl rfl rfl rfl ⟨rfl, rfl, rfl, rfl, rfl⟩ rfl rfl rfl rfl rfl (by kernel_rfl) Tryz.func4 (by kernel_rfl)
  (of_decide_eq_true (by kernel_rfl)) (by unfold Func.isWrapper; first | (rw [if_pos (by decide +kernel)]; kernel_rfl) | (rw [if_neg (by decide +kernel)]; exact ⟨rfl, rfl⟩))
  (fun os started H enc _ => by
   show ReturnsInHanded {} Tryz.checked os 4 .any (Rows.motionBrakesSpec.pre6 enc Tryz.prog Tryz.f4 Rows.motionBrakesRow.domain false) (Rows.motionBrakesSpec.post enc Tryz.prog Tryz.f4 false true false false)
   refine returnsInHanded_of_change_shaped (C := Tryz.checked) own started (by kernel_rfl) Tryz.func4
    (ChangeSpec.witness6 (enc := enc) (C := Tryz.checked) false ⟨#[], #[.agg #[.int .i64 0, .int .i64 0, .int .i64 0, .int .i64 0, .int .i64 0, .int .i64 0, .int .i64 0, .int .i64 0, .int .i64 0, .slice none 0 0], .agg #[.int .i64 0, .int .i64 0], .int .i64 0, .int .i64 0], []⟩ 4 (by kernel_rfl) (by kernel_rfl) (by kernel_rfl) (by kernel_rfl)) ?_
   intro W base args ds gs before hval hW _ _ hsh _
   exact law_contract (C := Tryz.checked) ktab_ok laidOut rfl (tb := 4) (by kernel_rfl) Tryz.underlying4 (by rw [Tryz.params4]; decide +kernel) (fun H ds hd => by
    match ds, hd with
    | [_, _, _, _], _ => rfl) (by rw [Tryz.params4]; exact oaMotionBrakes)
    (law_run (S := aMotionBrakes) (aok_cons (aok_cons (aok_cons (aok_cons aok_nil)))) (fun z vs x _ => i4.ok _ (law_brakes known3 x.1 x.2.1 x.2.2.1 x.2.2.2.1))) (notEmpty hsh) hval hW)
end Go.Proofs.YtcokdbcdlaofbaaGreat
