/- The statement MotionStops holds, for every input; no condition. -/
import Derived.Test.YtcokdbcdlaofbaaGreatM11
import Derived.Test.YtcokdbcdlaofbaaGreatM15
import Derived.Test.YtcokdbcdlaofbaaGreatWalkMotionStopsC
set_option linter.unusedSimpArgs false
set_option linter.unusedVariables false
set_option linter.unusedSectionVars false
namespace Go.Proofs.YtcokdbcdlaofbaaGreat
open Go Go.Ai Go.Ai.Sx Go.Ai.TabYtcokdbcdlaofbaaGreat

def aMotionStops : ARep (Train × Int × Int × Int × Unit) := aCons rTrain (aCons (rInt .i64) (aCons (rInt .i64) (aCons (rInt .i64) aNil)))
theorem oaMotionStops : OpensA Tryz.prog [24, 3, 3, 3] aMotionStops := opensA_cons o24 (by kernel_rfl) (opensA_cons o3 (by kernel_rfl) (opensA_cons o3 (by kernel_rfl) (opensA_cons o3 (by kernel_rfl) opensA_nil)))

set_option maxRecDepth 100000 in
theorem stops_holds : Rows.MotionStopsSaid :=
 OpenClaim.holds_of_wide 6 Tryz.f6 rfl rfl rfl rfl rfl rfl rfl ⟨rfl, rfl, rfl, rfl, rfl⟩ rfl rfl rfl rfl rfl (by kernel_rfl) Tryz.func6 (by kernel_rfl)
  (of_decide_eq_true (by kernel_rfl)) (by unfold Func.isWrapper; first | (rw [if_pos (by decide +kernel)]; kernel_rfl) | (rw [if_neg (by decide +kernel)]; exact ⟨rfl, rfl⟩))
  (fun os started H enc _ => by
   show ReturnsInHanded {} Tryz.checked os 6 .any (Rows.motionStopsSpec.pre6 enc Tryz.prog Tryz.f6 Rows.motionStopsRow.domain false) (Rows.motionStopsSpec.post enc Tryz.prog Tryz.f6 false true false false)
   refine returnsInHanded_of_change_shaped (C := Tryz.checked) own started (by kernel_rfl) Tryz.func6
    (ChangeSpec.witness6 (enc := enc) (C := Tryz.checked) false ⟨#[], #[.agg #[.int .i64 0, .int .i64 0, .int .i64 0, .int .i64 0, .int .i64 0, .int .i64 0, .int .i64 0, .int .i64 0, .int .i64 0, .slice none 0 0], .int .i64 0, .int .i64 0, .int .i64 0], []⟩ 6 (by kernel_rfl) (by kernel_rfl) (by kernel_rfl) (by kernel_rfl)) ?_
   intro W base args ds gs before hval hW _ _ hsh _
   exact law_contract (C := Tryz.checked) ktab_ok laidOut rfl (tb := 4) (by kernel_rfl) Tryz.underlying4 (by rw [Tryz.params6]; decide +kernel) (fun H ds hd => by
    match ds, hd with
    | [_, _, _, _], _ => rfl) (by rw [Tryz.params6]; exact oaMotionStops)
    (law_run (S := aMotionStops) (aok_cons (aok_cons (aok_cons (aok_cons aok_nil)))) (fun z vs x _ => i6.ok _ (law_stops known3 x.1 x.2.1 x.2.2.1 x.2.2.2.1))) (notEmpty hsh) hval hW)
end Go.Proofs.YtcokdbcdlaofbaaGreat
