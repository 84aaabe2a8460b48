/- The statement DutyCars: the plan of cars and its proof are the specification's, for every input; no condition. -/
import Derived.Test.YtdhenjdmpacklaaM6
import Derived.Test.YtdhenjdmpacklaaM8
import Derived.Test.YtdhenjdmpacklaaM9
import Derived.Test.YtdhenjdmpacklaaM4
namespace Go.Proofs.Ytdhenjdmpacklaa
open Go Go.Ai Go.Ai.Sx Go.Ai.TabYtdhenjdmpacklaa

def aCars : ARep (List Task × Yard × Unit) := aCons (rSlice rTask) (aCons rYard aNil)
theorem oCars : OpensA Try.prog [22, 26] aCars := opensA_cons o22 (by kernel_rfl) (opensA_cons o26 (by kernel_rfl) opensA_nil)

set_option maxRecDepth 100000 in
theorem cars_holds : Rows.DutyCarsSaid :=
 OpenClaim.holds_of_wide 3 Try.f3 rfl rfl rfl rfl rfl rfl rfl ⟨rfl, rfl, rfl, rfl, rfl⟩ rfl rfl rfl rfl rfl (by kernel_rfl) Try.func3 (by kernel_rfl)
  (of_decide_eq_true (by kernel_rfl)) (by unfold Func.isWrapper; first | (rw [if_pos (by decide +kernel)]; kernel_rfl) | (rw [if_neg (by decide +kernel)]; exact ⟨rfl, rfl⟩))
  (fun os started H enc _ => by
   show ReturnsInHanded {} Try.checked os 3 .any (Rows.dutyCarsSpec.pre6 enc Try.prog Try.f3 Rows.dutyCarsRow.domain false) (Rows.dutyCarsSpec.post enc Try.prog Try.f3 false true false false)
   refine returnsInHanded_of_change_shaped (C := Try.checked) own started (by kernel_rfl) Try.func3
    (ChangeSpec.witness6 (enc := enc) (C := Try.checked) false ⟨#[], #[.slice none 0 0, .agg #[.slice none 0 0, .int .i64 0, .slice none 0 0]], []⟩ 3 (by kernel_rfl) (by kernel_rfl) (by kernel_rfl) (by kernel_rfl)) ?_
   intro W base args ds gs before hval hW _ _ hsh _
   exact law_contract (C := Try.checked) ktab_ok laidOut rfl (tb := 4) (by kernel_rfl) Try.underlying4 (by rw [Try.params3]; decide +kernel) (fun H ds hd => by
    match ds, hd with
    | [_, _], _ => rfl) (by rw [Try.params3]; exact oCars)
    (law_run (S := aCars) (aok_cons (aok_cons aok_nil)) (fun z vs x _ => i3.ok _ (law_cars08 x.1 x.2.1))) (notEmpty hsh) hval hW)
end Go.Proofs.Ytdhenjdmpacklaa
