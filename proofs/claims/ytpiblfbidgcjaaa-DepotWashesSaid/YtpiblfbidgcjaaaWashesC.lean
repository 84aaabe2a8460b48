/- The statement DepotWashes: the depot's order of washing is the specification's best one, or the error, for every input; no condition. -/
import Derived.Test.YtpiblfbidgcjaaaM4
import Derived.Test.YtpiblfbidgcjaaaM6
import Derived.Test.YtpiblfbidgcjaaaWalkDepotWashesC
namespace Go.Proofs.Ytpiblfbidgcjaaa
open Go Go.Ai Go.Ai.Sx Go.Ai.TabYtpiblfbidgcjaaa

def aWashes : ARep (List WashJob × Unit) := aCons (rSlice rWashJob) aNil
theorem oWashes : OpensA Try.prog [49] aWashes := opensA_cons o49 (by kernel_rfl) opensA_nil

set_option maxRecDepth 100000 in
theorem washes_holds : Rows.DepotWashesSaid :=
  OpenClaim.holds_of_wide 6 Try.f6 rfl rfl rfl rfl rfl rfl rfl ⟨rfl, rfl, rfl, rfl, rfl⟩ rfl rfl rfl rfl rfl (by kernel_rfl) Try.func6 (by kernel_rfl)
    (of_decide_eq_true (by kernel_rfl)) (by unfold Func.isWrapper; first | (rw [if_pos (by decide +kernel)]; kernel_rfl) | (rw [if_neg (by decide +kernel)]; exact ⟨rfl, rfl⟩))
    (fun os started H enc _ => by
      show ReturnsInHanded {} Try.checked os 6 .any (Rows.depotWashesSpec.pre6 enc Try.prog Try.f6 Rows.depotWashesRow.domain false) (Rows.depotWashesSpec.post enc Try.prog Try.f6 false true false false)
      refine returnsInHanded_of_change_shaped (C := Try.checked) own started (by kernel_rfl) Try.func6
        (ChangeSpec.witness6 (enc := enc) (C := Try.checked) false ⟨#[], #[.slice none 0 0], []⟩ 6 (by kernel_rfl) (by kernel_rfl) (by kernel_rfl) (by kernel_rfl)) ?_
      intro W base args ds gs before hval hW _ _ hsh _
      exact law_contract (C := Try.checked) ktab_ok laidOut rfl (tb := 4) (by kernel_rfl) Try.underlying4 (by rw [Try.params6]; decide +kernel) (fun H ds hd => by
        match ds, hd with
        | [_], _ => rfl) (by rw [Try.params6]; exact oWashes)
        (law_run (S := aWashes) (aok_cons aok_nil) (fun z vs x _ => g_law09_DepotWashes_ok (law_washes x.1))) (notEmpty hsh) hval hW)
end Go.Proofs.Ytpiblfbidgcjaaa
