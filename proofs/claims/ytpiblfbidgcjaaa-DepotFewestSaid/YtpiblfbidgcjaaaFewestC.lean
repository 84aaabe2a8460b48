/- The statement DepotFewest: no assignment uses fewer tracks than the depot's, no list proves more, and an order read backward needs as many, for every input; no condition. -/
import Derived.Test.YtpiblfbidgcjaaaM4
import Derived.Test.YtpiblfbidgcjaaaM6
import Derived.Test.YtpiblfbidgcjaaaWalkDepotFewestC
namespace Go.Proofs.Ytpiblfbidgcjaaa
open Go Go.Ai Go.Ai.Sx Go.Ai.TabYtpiblfbidgcjaaa

def aFewest : ARep (List Int × Bool × List Int × Int × List Int × Unit) := aCons (rSlice (rInt .i64)) (aCons rBool (aCons (rSlice (rInt .i64)) (aCons (rInt .i64) (aCons (rSlice (rInt .i64)) aNil))))
theorem oFewest : OpensA Try.prog [22, 4, 22, 3, 22] aFewest := opensA_cons o22 (by kernel_rfl) (opensA_cons o4 (by kernel_rfl) (opensA_cons o22 (by kernel_rfl) (opensA_cons o3 (by kernel_rfl) (opensA_cons o22 (by kernel_rfl) opensA_nil))))

set_option maxRecDepth 100000 in
theorem fewest_holds : Rows.DepotFewestSaid :=
  OpenClaim.holds_of_wide 9 Try.f9 rfl rfl rfl rfl rfl rfl rfl ⟨rfl, rfl, rfl, rfl, rfl⟩ rfl rfl rfl rfl rfl (by kernel_rfl) Try.func9 (by kernel_rfl)
    (of_decide_eq_true (by kernel_rfl)) (by unfold Func.isWrapper; first | (rw [if_pos (by decide +kernel)]; kernel_rfl) | (rw [if_neg (by decide +kernel)]; exact ⟨rfl, rfl⟩))
    (fun os started H enc _ => by
      show ReturnsInHanded {} Try.checked os 9 .any (Rows.depotFewestSpec.pre6 enc Try.prog Try.f9 Rows.depotFewestRow.domain false) (Rows.depotFewestSpec.post enc Try.prog Try.f9 false true false false)
      refine returnsInHanded_of_change_shaped (C := Try.checked) own started (by kernel_rfl) Try.func9
        (ChangeSpec.witness6 (enc := enc) (C := Try.checked) false ⟨#[], #[.slice none 0 0, .bool false, .slice none 0 0, .int .i64 0, .slice none 0 0], []⟩ 9 (by kernel_rfl) (by kernel_rfl) (by kernel_rfl) (by kernel_rfl)) ?_
      intro W base args ds gs before hval hW _ _ hsh _
      exact law_contract (C := Try.checked) ktab_ok laidOut rfl (tb := 4) (by kernel_rfl) Try.underlying4 (by rw [Try.params9]; decide +kernel) (fun H ds hd => by
        match ds, hd with
        | [_, _, _, _, _], _ => rfl) (by rw [Try.params9]; exact oFewest)
        (law_run (S := aFewest) (aok_cons (aok_cons (aok_cons (aok_cons (aok_cons aok_nil))))) (fun z vs x _ => g_law09_DepotFewest_ok (law_fewest x.1 x.2.1 x.2.2.1 x.2.2.2.1 x.2.2.2.2.1))) (notEmpty hsh) hval hW)
end Go.Proofs.Ytpiblfbidgcjaaa
