/- The statement MotionBalances holds, for every input; no condition. -/
import Derived.Test.YtcokdbcdlaofbaaGreatM11
import Derived.Test.YtcokdbcdlaofbaaGreatM15
import Derived.Test.YtcokdbcdlaofbaaGreatWalkMotionBalancesC
set_option linter.unusedSimpArgs false
set_option linter.unusedVariables false
set_option linter.unusedSectionVars false
namespace Go.Proofs.YtcokdbcdlaofbaaGreat
open Go Go.Ai Go.Ai.Sx Go.Ai.TabYtcokdbcdlaofbaaGreat

def aMotionBalances : ARep (Train × MotionState × Int × Int × Int × Int × Unit) := aCons rTrain (aCons rMotionState (aCons (rInt .i64) (aCons (rInt .i64) (aCons (rInt .i64) (aCons (rInt .i64) aNil)))))
theorem oaMotionBalances : OpensA Tryz.prog [24, 26, 3, 3, 3, 3] aMotionBalances := opensA_cons o24 (by kernel_rfl) (opensA_cons o26 (by kernel_rfl) (opensA_cons o3 (by kernel_rfl) (opensA_cons o3 (by kernel_rfl) (opensA_cons o3 (by kernel_rfl) (opensA_cons o3 (by kernel_rfl) opensA_nil)))))

set_option maxRecDepth 100000 in
theorem balances_holds : Rows.MotionBalancesSaid :=
 OpenClaim.holds_of_wide 3 Tryz.f3 rfl rfl rfl rfl rfl rfl rfl ⟨rfl, rfl, rfl, rfl, rfl⟩ rfl rfl rfl rfl rfl (by kernel_rfl) Tryz.func3 (by kernel_rfl)
  (of_decide_eq_true (by kernel_rfl)) (by unfold Func.isWrapper; first | (rw [if_pos (by decide +kernel)]; kernel_rfl) | (rw [if_neg (by decide +kernel)]; exact ⟨rfl, rfl⟩))
  (fun os started H enc _ => by
   show ReturnsInHanded {} Tryz.checked os 3 .any (Rows.motionBalancesSpec.pre6 enc Tryz.prog Tryz.f3 Rows.motionBalancesRow.domain false) (Rows.motionBalancesSpec.post enc Tryz.prog Tryz.f3 false true false false)
   refine returnsInHanded_of_change_shaped (C := Tryz.checked) own started (by kernel_rfl) Tryz.func3
    (ChangeSpec.witness6 (enc := enc) (C := Tryz.checked) false ⟨#[], #[.agg #[.int .i64 0, .int .i64 0, .int .i64 0, .int .i64 0, .int .i64 0, .int .i64 0, .int .i64 0, .int .i64 0, .int .i64 0, .slice none 0 0], .agg #[.int .i64 0, .int .i64 0], .int .i64 0, .int .i64 0, .int .i64 0, .int .i64 0], []⟩ 3 (by kernel_rfl) (by kernel_rfl) (by kernel_rfl) (by kernel_rfl)) ?_
   intro W base args ds gs before hval hW _ _ hsh _
   exact law_contract (C := Tryz.checked) ktab_ok laidOut rfl (tb := 4) (by kernel_rfl) Tryz.underlying4 (by rw [Tryz.params3]; decide +kernel) (fun H ds hd => by
    match ds, hd with
    | [_, _, _, _, _, _], _ => rfl) (by rw [Tryz.params3]; exact oaMotionBalances)
    (law_run (S := aMotionBalances) (aok_cons (aok_cons (aok_cons (aok_cons (aok_cons (aok_cons aok_nil)))))) (fun z vs x _ => i3.ok _ (law_balances known3 x.1 x.2.1 x.2.2.1 x.2.2.2.1 x.2.2.2.2.1 x.2.2.2.2.2.1))) (notEmpty hsh) hval hW)
end Go.Proofs.YtcokdbcdlaofbaaGreat
