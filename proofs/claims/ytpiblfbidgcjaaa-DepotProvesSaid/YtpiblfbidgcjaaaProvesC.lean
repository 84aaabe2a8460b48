/- The statement DepotProves: the depot's function Proves answers as the specification's, for every input; no condition. -/
import Derived.Test.YtpiblfbidgcjaaaLawAC
import Derived.Test.YtpiblfbidgcjaaaDepotP1
import Derived.Test.YtpiblfbidgcjaaaWalkDepotProvesC
namespace Go.Proofs.Ytpiblfbidgcjaaa
open Go Go.Ai Go.Ai.Sx Go.Ai.TabYtpiblfbidgcjaaa

def aProves : ARep (List Int × Bool × Int × List Int × Unit) := aCons (rSlice (rInt .i64)) (aCons rBool (aCons (rInt .i64) (aCons (rSlice (rInt .i64)) aNil)))
theorem oProves : OpensA Try.prog [22, 4, 3, 22] aProves := opensA_cons o22 (by kernel_rfl) (opensA_cons o4 (by kernel_rfl) (opensA_cons o3 (by kernel_rfl) (opensA_cons o22 (by kernel_rfl) opensA_nil)))

set_option maxRecDepth 100000 in
theorem proves_holds : Rows.DepotProvesSaid :=
  OpenClaim.holds_of_wide 8 Try.f8 rfl rfl rfl rfl rfl rfl rfl ⟨rfl, rfl, rfl, rfl, rfl⟩ rfl rfl rfl rfl rfl (by kernel_rfl) Try.func8 (by kernel_rfl)
    (of_decide_eq_true (by kernel_rfl)) (by unfold Func.isWrapper; first | (rw [if_pos (by decide +kernel)]; kernel_rfl) | (rw [if_neg (by decide +kernel)]; exact ⟨rfl, rfl⟩))
    (fun os started H enc _ => by
      show ReturnsInHanded {} Try.checked os 8 .any (Rows.depotProvesSpec.pre6 enc Try.prog Try.f8 Rows.depotProvesRow.domain false) (Rows.depotProvesSpec.post enc Try.prog Try.f8 false true false false)
      refine returnsInHanded_of_change_shaped (C := Try.checked) own started (by kernel_rfl) Try.func8
        (ChangeSpec.witness6 (enc := enc) (C := Try.checked) false ⟨#[], #[.slice none 0 0, .bool false, .int .i64 0, .slice none 0 0], []⟩ 8 (by kernel_rfl) (by kernel_rfl) (by kernel_rfl) (by kernel_rfl)) ?_
      intro W base args ds gs before hval hW _ _ hsh _
      exact law_contract (C := Try.checked) ktab_ok laidOut rfl (tb := 4) (by kernel_rfl) Try.underlying4 (by rw [Try.params8]; decide +kernel) (fun H ds hd => by
        match ds, hd with
        | [_, _, _, _], _ => rfl) (by rw [Try.params8]; exact oProves)
        (law_run (S := aProves) (aok_cons (aok_cons (aok_cons (aok_cons aok_nil)))) (fun z vs x _ => g_law09_DepotProves_ok (law_proves x.1 x.2.1 x.2.2.1 x.2.2.2.1))) (notEmpty hsh) hval hW)
end Go.Proofs.Ytpiblfbidgcjaaa
