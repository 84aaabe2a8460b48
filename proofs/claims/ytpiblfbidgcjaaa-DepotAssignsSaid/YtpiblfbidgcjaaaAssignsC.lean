/- The statement DepotAssigns: the depot's function Assign answers the specification's assignment and proof, or the error, for every input; no condition. -/
import Derived.Test.YtpiblfbidgcjaaaLawAC
import Derived.Test.YtpiblfbidgcjaaaDepotP4
import Derived.Test.YtpiblfbidgcjaaaWalkDepotAssignsC
namespace Go.Proofs.Ytpiblfbidgcjaaa
open Go Go.Ai Go.Ai.Sx Go.Ai.TabYtpiblfbidgcjaaa

def aAssigns : ARep (List Int × Bool × Unit) := aCons (rSlice (rInt .i64)) (aCons rBool aNil)
theorem oAssigns : OpensA Try.prog [22, 4] aAssigns := opensA_cons o22 (by kernel_rfl) (opensA_cons o4 (by kernel_rfl) opensA_nil)

set_option maxRecDepth 100000 in
theorem assigns_holds : Rows.DepotAssignsSaid :=
  OpenClaim.holds_of_wide 3 Try.f3 rfl rfl rfl rfl rfl rfl rfl ⟨rfl, rfl, rfl, rfl, rfl⟩ rfl rfl rfl rfl rfl (by kernel_rfl) Try.func3 (by kernel_rfl)
    (of_decide_eq_true (by kernel_rfl)) (by unfold Func.isWrapper; first | (rw [if_pos (by decide +kernel)]; kernel_rfl) | (rw [if_neg (by decide +kernel)]; exact ⟨rfl, rfl⟩))
    (fun os started H enc _ => by
      show ReturnsInHanded {} Try.checked os 3 .any (Rows.depotAssignsSpec.pre6 enc Try.prog Try.f3 Rows.depotAssignsRow.domain false) (Rows.depotAssignsSpec.post enc Try.prog Try.f3 false true false false)
      refine returnsInHanded_of_change_shaped (C := Try.checked) own started (by kernel_rfl) Try.func3
        (ChangeSpec.witness6 (enc := enc) (C := Try.checked) false ⟨#[], #[.slice none 0 0, .bool false], []⟩ 3 (by kernel_rfl) (by kernel_rfl) (by kernel_rfl) (by kernel_rfl)) ?_
      intro W base args ds gs before hval hW _ _ hsh _
      exact law_contract (C := Try.checked) ktab_ok laidOut rfl (tb := 4) (by kernel_rfl) Try.underlying4 (by rw [Try.params3]; decide +kernel) (fun H ds hd => by
        match ds, hd with
        | [_, _], _ => rfl) (by rw [Try.params3]; exact oAssigns)
        (law_run (S := aAssigns) (aok_cons (aok_cons aok_nil)) (fun z vs x _ => g_law09_DepotAssigns_ok (law_assigns x.1 x.2.1))) (notEmpty hsh) hval hW)
end Go.Proofs.Ytpiblfbidgcjaaa
