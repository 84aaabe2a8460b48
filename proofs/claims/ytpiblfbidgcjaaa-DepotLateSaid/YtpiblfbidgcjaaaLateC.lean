/- The statement DepotLate: the lateness of any order is the specification's, and no order is less late than the best one, for every input; no condition. -/
import Derived.Test.YtpiblfbidgcjaaaM4
import Derived.Test.YtpiblfbidgcjaaaM6
import Derived.Test.YtpiblfbidgcjaaaWalkDepotLateC
namespace Go.Proofs.Ytpiblfbidgcjaaa
open Go Go.Ai Go.Ai.Sx Go.Ai.TabYtpiblfbidgcjaaa

def aLate : ARep (List WashJob × List Int × Unit) := aCons (rSlice rWashJob) (aCons (rSlice (rInt .i64)) aNil)
theorem oLate : OpensA Try.prog [49, 22] aLate := opensA_cons o49 (by kernel_rfl) (opensA_cons o22 (by kernel_rfl) opensA_nil)

set_option maxRecDepth 100000 in
theorem late_holds : Rows.DepotLateSaid :=
  OpenClaim.holds_of_wide 7 Try.f7 rfl rfl rfl rfl rfl rfl rfl ⟨rfl, rfl, rfl, rfl, rfl⟩ rfl rfl rfl rfl rfl (by kernel_rfl) Try.func7 (by kernel_rfl)
    (of_decide_eq_true (by kernel_rfl)) (by unfold Func.isWrapper; first | (rw [if_pos (by decide +kernel)]; kernel_rfl) | (rw [if_neg (by decide +kernel)]; exact ⟨rfl, rfl⟩))
    (fun os started H enc _ => by
      show ReturnsInHanded {} Try.checked os 7 .any (Rows.depotLateSpec.pre6 enc Try.prog Try.f7 Rows.depotLateRow.domain false) (Rows.depotLateSpec.post enc Try.prog Try.f7 false true false false)
      refine returnsInHanded_of_change_shaped (C := Try.checked) own started (by kernel_rfl) Try.func7
        (ChangeSpec.witness6 (enc := enc) (C := Try.checked) false ⟨#[], #[.slice none 0 0, .slice none 0 0], []⟩ 7 (by kernel_rfl) (by kernel_rfl) (by kernel_rfl) (by kernel_rfl)) ?_
      intro W base args ds gs before hval hW _ _ hsh _
      exact law_contract (C := Try.checked) ktab_ok laidOut rfl (tb := 4) (by kernel_rfl) Try.underlying4 (by rw [Try.params7]; decide +kernel) (fun H ds hd => by
        match ds, hd with
        | [_, _], _ => rfl) (by rw [Try.params7]; exact oLate)
        (law_run (S := aLate) (aok_cons (aok_cons aok_nil)) (fun z vs x _ => g_law09_DepotLate_ok (law_late x.1 x.2.1))) (notEmpty hsh) hval hW)
end Go.Proofs.Ytpiblfbidgcjaaa
