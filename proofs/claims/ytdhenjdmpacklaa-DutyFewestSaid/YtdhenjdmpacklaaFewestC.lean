/- The statement DutyFewest: the plan of cars is one with the fewest cars and its proof holds, for every input; no condition. -/
import Derived.Test.YtdhenjdmpacklaaM6
import Derived.Test.YtdhenjdmpacklaaM8
import Derived.Test.YtdhenjdmpacklaaWalkDutyFewestC
import Derived.Test.YtdhenjdmpacklaaM4
namespace Go.Proofs.Ytdhenjdmpacklaa
open Go Go.Ai Go.Ai.Sx Go.Ai.TabYtdhenjdmpacklaa

def aFewest : ARep (List Task × Yard × List (List Int) × Int × DutyProof × Unit) := aCons (rSlice rTask) (aCons rYard (aCons (rSlice (rSlice (rInt .i64))) (aCons (rInt .i64) (aCons rDutyProof aNil))))
theorem oFewest : OpensA Try.prog [22, 26, 23, 3, 31] aFewest := opensA_cons o22 (by kernel_rfl) (opensA_cons o26 (by kernel_rfl) (opensA_cons o23 (by kernel_rfl) (opensA_cons o3 (by kernel_rfl) (opensA_cons o31 (by kernel_rfl) opensA_nil))))
theorem carsIn {z : Store} {vs : List AVal} {x : List Task × Yard × List (List Int) × Int × DutyProof × Unit} (h : aFewest.rel z vs x) : x.2.2.2.1 ≤ 9223372036854775807 := by
 obtain ⟨_, _, _, _, _, _, _, _, _, _, _, _, _, _, _, h1, _⟩ := h
 exact (tv_int_range h1).2

set_option maxRecDepth 100000 in
theorem fewest_holds : Rows.DutyFewestSaid :=
 OpenClaim.holds_of_wide 11 Try.f11 rfl rfl rfl rfl rfl rfl rfl ⟨rfl, rfl, rfl, rfl, rfl⟩ rfl rfl rfl rfl rfl (by kernel_rfl) Try.func11 (by kernel_rfl)
  (of_decide_eq_true (by kernel_rfl)) (by unfold Func.isWrapper; first | (rw [if_pos (by decide +kernel)]; kernel_rfl) | (rw [if_neg (by decide +kernel)]; exact ⟨rfl, rfl⟩))
  (fun os started H enc _ => by
   show ReturnsInHanded {} Try.checked os 11 .any (Rows.dutyFewestSpec.pre6 enc Try.prog Try.f11 Rows.dutyFewestRow.domain false) (Rows.dutyFewestSpec.post enc Try.prog Try.f11 false true false false)
   refine returnsInHanded_of_change_shaped (C := Try.checked) own started (by kernel_rfl) Try.func11
    (ChangeSpec.witness6 (enc := enc) (C := Try.checked) false ⟨#[], #[.slice none 0 0, .agg #[.slice none 0 0, .int .i64 0, .slice none 0 0], .slice none 0 0, .int .i64 0, .agg #[.slice none 0 0, .slice none 0 0]], []⟩ 11 (by kernel_rfl) (by kernel_rfl) (by kernel_rfl) (by kernel_rfl)) ?_
   intro W base args ds gs before hval hW _ _ hsh _
   exact law_contract (C := Try.checked) ktab_ok laidOut rfl (tb := 4) (by kernel_rfl) Try.underlying4 (by rw [Try.params11]; decide +kernel) (fun H ds hd => by
    match ds, hd with
    | [_, _, _, _, _], _ => rfl) (by rw [Try.params11]; exact oFewest)
    (law_run (S := aFewest) (aok_cons (aok_cons (aok_cons (aok_cons (aok_cons aok_nil))))) (fun z vs x hx => g_law08_DutyFewest_ok (law_fewest08 x.1 x.2.1 x.2.2.1 x.2.2.2.1 x.2.2.2.2.1 (carsIn hx)))) (notEmpty hsh) hval hW)
end Go.Proofs.Ytdhenjdmpacklaa
