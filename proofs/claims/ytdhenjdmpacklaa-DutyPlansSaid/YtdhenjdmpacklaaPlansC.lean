/- The statement DutyPlans: the plan of duties is the specification's, for every input; no condition. -/
import Derived.Test.YtdhenjdmpacklaaM7
import Derived.Test.YtdhenjdmpacklaaM10
import Derived.Test.YtdhenjdmpacklaaWalkDutyPlansC
import Derived.Test.YtdhenjdmpacklaaM5
namespace Go.Proofs.Ytdhenjdmpacklaa
open Go Go.Ai Go.Ai.Sx Go.Ai.TabYtdhenjdmpacklaa

def aPlans : ARep (List Task × Yard × List (List Int) × WorkRules × Unit) := aCons (rSlice rTask) (aCons rYard (aCons (rSlice (rSlice (rInt .i64))) (aCons rWorkRules aNil)))
theorem oPlans : OpensA Try.prog [22, 26, 23, 42] aPlans := opensA_cons o22 (by kernel_rfl) (opensA_cons o26 (by kernel_rfl) (opensA_cons o23 (by kernel_rfl) (opensA_cons o42 (by kernel_rfl) opensA_nil)))
theorem plansIn {z : Store} {vs : List AVal} {x : List Task × Yard × List (List Int) × WorkRules × Unit} (h : aPlans.rel z vs x) : x.2.2.1.length ≤ 9223372036854775807 := by
 obtain ⟨_, _, _, _, _, _, _, _, _, _, _, h1, _⟩ := h
 exact (tv_slice h1).1

set_option maxRecDepth 100000 in
theorem plans_holds : Rows.DutyPlansSaid :=
 OpenClaim.holds_of_wide 5 Try.f5 rfl rfl rfl rfl rfl rfl rfl ⟨rfl, rfl, rfl, rfl, rfl⟩ rfl rfl rfl rfl rfl (by kernel_rfl) Try.func5 (by kernel_rfl)
  (of_decide_eq_true (by kernel_rfl)) (by unfold Func.isWrapper; first | (rw [if_pos (by decide +kernel)]; kernel_rfl) | (rw [if_neg (by decide +kernel)]; exact ⟨rfl, rfl⟩))
  (fun os started H enc _ => by
   show ReturnsInHanded {} Try.checked os 5 .any (Rows.dutyPlansSpec.pre6 enc Try.prog Try.f5 Rows.dutyPlansRow.domain false) (Rows.dutyPlansSpec.post enc Try.prog Try.f5 false true false false)
   refine returnsInHanded_of_change_shaped (C := Try.checked) own started (by kernel_rfl) Try.func5
    (ChangeSpec.witness6 (enc := enc) (C := Try.checked) false ⟨#[], #[.slice none 0 0, .agg #[.slice none 0 0, .int .i64 0, .slice none 0 0], .slice none 0 0, .agg #[.int .i64 0, .int .i64 0, .int .i64 0, .int .i64 0, .int .i64 0, .int .i64 0]], []⟩ 5 (by kernel_rfl) (by kernel_rfl) (by kernel_rfl) (by kernel_rfl)) ?_
   intro W base args ds gs before hval hW _ _ hsh _
   exact law_contract (C := Try.checked) ktab_ok laidOut rfl (tb := 4) (by kernel_rfl) Try.underlying4 (by rw [Try.params5]; decide +kernel) (fun H ds hd => by
    match ds, hd with
    | [_, _, _, _], _ => rfl) (by rw [Try.params5]; exact oPlans)
    (law_run (S := aPlans) (aok_cons (aok_cons (aok_cons (aok_cons aok_nil)))) (fun z vs x hx => i5.ok _ (law_plans x.1 x.2.1 x.2.2.1 x.2.2.2.1 (plansIn hx)))) (notEmpty hsh) hval hW)
end Go.Proofs.Ytdhenjdmpacklaa
