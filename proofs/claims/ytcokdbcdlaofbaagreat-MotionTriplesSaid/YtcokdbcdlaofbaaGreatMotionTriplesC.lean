/- The statement MotionTriples holds, for every input; no condition. -/
import Derived.Test.YtcokdbcdlaofbaaGreatM11
import Derived.Test.YtcokdbcdlaofbaaGreatMotL1C
import Derived.Test.YtcokdbcdlaofbaaGreatWalkMotionTriplesC
set_option linter.unusedSimpArgs false
set_option linter.unusedVariables false
set_option linter.unusedSectionVars false
namespace Go.Proofs.YtcokdbcdlaofbaaGreat
open Go Go.Ai Go.Ai.Sx Go.Ai.TabYtcokdbcdlaofbaaGreat

def aMotionTriples : ARep (Train × Train × Train × Unit) := aCons rTrain (aCons rTrain (aCons rTrain aNil))
theorem oaMotionTriples : OpensA Tryz.prog [24, 24, 24] aMotionTriples := opensA_cons o24 (by kernel_rfl) (opensA_cons o24 (by kernel_rfl) (opensA_cons o24 (by kernel_rfl) opensA_nil))

set_option maxRecDepth 100000 in
theorem triples_holds : Rows.MotionTriplesSaid :=
 OpenClaim.holds_of_wide 11 Tryz.f11 rfl rfl rfl rfl rfl rfl rfl ⟨rfl, rfl, rfl, rfl, rfl⟩ rfl rfl rfl rfl rfl (by kernel_rfl) Tryz.func11 (by kernel_rfl)
  (of_decide_eq_true (by kernel_rfl)) (by unfold Func.isWrapper; first | (rw [if_pos (by decide +kernel)]; kernel_rfl) | (rw [if_neg (by decide +kernel)]; exact ⟨rfl, rfl⟩))
  (fun os started H enc _ => by
   show ReturnsInHanded {} Tryz.checked os 11 .any (Rows.motionTriplesSpec.pre6 enc Tryz.prog Tryz.f11 Rows.motionTriplesRow.domain false) (Rows.motionTriplesSpec.post enc Tryz.prog Tryz.f11 false true false false)
   refine returnsInHanded_of_change_shaped (C := Tryz.checked) own started (by kernel_rfl) Tryz.func11
    (ChangeSpec.witness6 (enc := enc) (C := Tryz.checked) false ⟨#[], #[.agg #[.int .i64 0, .int .i64 0, .int .i64 0, .int .i64 0, .int .i64 0, .int .i64 0, .int .i64 0, .int .i64 0, .int .i64 0, .slice none 0 0], .agg #[.int .i64 0, .int .i64 0, .int .i64 0, .int .i64 0, .int .i64 0, .int .i64 0, .int .i64 0, .int .i64 0, .int .i64 0, .slice none 0 0], .agg #[.int .i64 0, .int .i64 0, .int .i64 0, .int .i64 0, .int .i64 0, .int .i64 0, .int .i64 0, .int .i64 0, .int .i64 0, .slice none 0 0]], []⟩ 11 (by kernel_rfl) (by kernel_rfl) (by kernel_rfl) (by kernel_rfl)) ?_
   intro W base args ds gs before hval hW _ _ hsh _
   exact law_contract (C := Tryz.checked) ktab_ok laidOut rfl (tb := 4) (by kernel_rfl) Tryz.underlying4 (by rw [Tryz.params11]; decide +kernel) (fun H ds hd => by
    match ds, hd with
    | [_, _, _], _ => rfl) (by rw [Tryz.params11]; exact oaMotionTriples)
    (law_run (S := aMotionTriples) (aok_cons (aok_cons (aok_cons aok_nil))) (fun z vs x _ => i11.ok _ (law_triples known3 x.1 x.2.1 x.2.2.1))) (notEmpty hsh) hval hW)
end Go.Proofs.YtcokdbcdlaofbaaGreat
