/- The statement DutyFaults: which rules a duty breaks is the specification's, for every input; no condition. -/
import Derived.Test.YtdhenjdmpacklaaM5
import Derived.Test.YtdhenjdmpacklaaM7
import Derived.Test.YtdhenjdmpacklaaWalkDutyFaultsC
import Derived.Test.YtdhenjdmpacklaaM3
namespace Go.Proofs.Ytdhenjdmpacklaa
open Go Go.Ai Go.Ai.Sx Go.Ai.TabYtdhenjdmpacklaa

def aFaults : ARep (List Task × Yard × List (List Int) × WorkRules × Duty × Unit) := aCons (rSlice rTask) (aCons rYard (aCons (rSlice (rSlice (rInt .i64))) (aCons rWorkRules (aCons rDuty aNil))))
theorem oFaults : OpensA Try.prog [22, 26, 23, 42, 62] aFaults := opensA_cons o22 (by kernel_rfl) (opensA_cons o26 (by kernel_rfl) (opensA_cons o23 (by kernel_rfl) (opensA_cons o42 (by kernel_rfl) (opensA_cons o62 (by kernel_rfl) opensA_nil))))
theorem plansIn {z : Store} {vs : List AVal} {x : List Task × Yard × List (List Int) × WorkRules × Duty × Unit} (h : aFaults.rel z vs x) : x.2.2.1.length ≤ 9223372036854775807 := by
  obtain ⟨_, _, _, _, _, _, _, _, _, _, _, h1, _⟩ := h
  exact (tv_slice h1).1

set_option maxRecDepth 100000 in
theorem faults_holds : Rows.DutyFaultsSaid :=
  OpenClaim.holds_of_wide 8 Try.f8 rfl rfl rfl rfl rfl rfl rfl ⟨rfl, rfl, rfl, rfl, rfl⟩ rfl rfl rfl rfl rfl (by kernel_rfl) Try.func8 (by kernel_rfl)
    (of_decide_eq_true (by kernel_rfl)) (by unfold Func.isWrapper; first | (rw [if_pos (by decide +kernel)]; kernel_rfl) | (rw [if_neg (by decide +kernel)]; exact ⟨rfl, rfl⟩))
    (fun os started H enc _ => by
      show ReturnsInHanded {} Try.checked os 8 .any (Rows.dutyFaultsSpec.pre6 enc Try.prog Try.f8 Rows.dutyFaultsRow.domain false) (Rows.dutyFaultsSpec.post enc Try.prog Try.f8 false true false false)
      refine returnsInHanded_of_change_shaped (C := Try.checked) own started (by kernel_rfl) Try.func8
        (ChangeSpec.witness6 (enc := enc) (C := Try.checked) false ⟨#[], #[.slice none 0 0, .agg #[.slice none 0 0, .int .i64 0, .slice none 0 0], .slice none 0 0, .agg #[.int .i64 0, .int .i64 0, .int .i64 0, .int .i64 0, .int .i64 0, .int .i64 0], .agg #[.slice none 0 0]], []⟩ 8 (by kernel_rfl) (by kernel_rfl) (by kernel_rfl) (by kernel_rfl)) ?_
      intro W base args ds gs before hval hW _ _ hsh _
      exact law_contract (C := Try.checked) ktab_ok laidOut rfl (tb := 4) (by kernel_rfl) Try.underlying4 (by rw [Try.params8]; decide +kernel) (fun H ds hd => by
        match ds, hd with
        | [_, _, _, _, _], _ => rfl) (by rw [Try.params8]; exact oFaults)
        (law_run (S := aFaults) (aok_cons (aok_cons (aok_cons (aok_cons (aok_cons aok_nil))))) (fun z vs x hx => g_law08_DutyFaults_ok (law_faults x.1 x.2.1 x.2.2.1 x.2.2.2.1 x.2.2.2.2.1 (plansIn hx)))) (notEmpty hsh) hval hW)
end Go.Proofs.Ytdhenjdmpacklaa
