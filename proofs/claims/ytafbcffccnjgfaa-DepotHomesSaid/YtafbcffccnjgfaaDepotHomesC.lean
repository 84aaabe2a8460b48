/- The statement DepotHomes holds, for every input; no condition. -/
import Derived.Test.YtafbcffccnjgfaaM9
import Derived.Test.YtafbcffccnjgfaaM14
import Derived.Test.YtafbcffccnjgfaaWalkDepotHomesC
namespace Go.Proofs.Ytafbcffccnjgfaa
open Go Go.Ai Go.Ai.Sx Go.Ai.TabYtafbcffccnjgfaa

def aDepotHomes : ARep ((List Task) × Yard × (List (List Int)) × (List Int) × (List Int) × Int × Unit) := aCons (rSlice rTask) (aCons rYard (aCons (rSlice (rSlice (rInt .i64))) (aCons (rSlice (rInt .i64)) (aCons (rSlice (rInt .i64)) (aCons (rInt .i64) aNil)))))
theorem oaDepotHomes : OpensA Try.prog [22, 26, 23, 27, 27, 3] aDepotHomes := opensA_cons o22 (by kernel_rfl) (opensA_cons o26 (by kernel_rfl) (opensA_cons o23 (by kernel_rfl) (opensA_cons o27 (by kernel_rfl) (opensA_cons o27 (by kernel_rfl) (opensA_cons o3 (by kernel_rfl) opensA_nil)))))

set_option maxRecDepth 100000 in
theorem homes_holds : Rows.DepotHomesSaid :=
 OpenClaim.holds_of_wide 3 Try.f3 rfl rfl rfl rfl rfl rfl rfl ⟨rfl, rfl, rfl, rfl, rfl⟩ rfl rfl rfl rfl rfl (by kernel_rfl) Try.func3 (by kernel_rfl)
  (of_decide_eq_true (by kernel_rfl)) (by unfold Func.isWrapper; first | (rw [if_pos (by decide +kernel)]; kernel_rfl) | (rw [if_neg (by decide +kernel)]; exact ⟨rfl, rfl⟩))
  (fun os started H enc _ => by
   show ReturnsInHanded {} Try.checked os 3 .any (Rows.depotHomesSpec.pre6 enc Try.prog Try.f3 Rows.depotHomesRow.domain false) (Rows.depotHomesSpec.post enc Try.prog Try.f3 false true false false)
   refine returnsInHanded_of_change_shaped (C := Try.checked) own started (by kernel_rfl) Try.func3
    (ChangeSpec.witness6 (enc := enc) (C := Try.checked) false ⟨#[], #[.slice none 0 0, .agg #[.slice none 0 0, .int .i64 0, .slice none 0 0], .slice none 0 0, .slice none 0 0, .slice none 0 0, .int .i64 0], []⟩ 3 (by kernel_rfl) (by kernel_rfl) (by kernel_rfl) (by kernel_rfl)) ?_
   intro W base args ds gs before hval hW _ _ hsh _
   exact law_contract (C := Try.checked) ktab_ok laidOut rfl (tb := 4) (by kernel_rfl) Try.underlying4 (by rw [Try.params3]; decide +kernel) (fun H ds hd => by
    match ds, hd with
    | [_, _, _, _, _, _], _ => rfl) (by rw [Try.params3]; exact oaDepotHomes)
    (law_run (S := aDepotHomes) (aok_cons (aok_cons (aok_cons (aok_cons (aok_cons (aok_cons aok_nil)))))) (fun z vs x _ => i3.ok _ (law_homes x.1 x.2.1 x.2.2.1 x.2.2.2.1 x.2.2.2.2.1 x.2.2.2.2.2.1))) (notEmpty hsh) hval hW)
end Go.Proofs.Ytafbcffccnjgfaa
