/- The statement DepotLeast holds, for every input; no condition. -/
import Derived.Test.YtpiblfbidgcjaaaM10
import Derived.Test.YtpiblfbidgcjaaaM14
import Derived.Test.YtpiblfbidgcjaaaWalkDepotLeastC
namespace Go.Proofs.Ytpiblfbidgcjaaa
open Go Go.Ai Go.Ai.Sx Go.Ai.TabYtpiblfbidgcjaaa

def aDepotLeast : ARep ((List StableTrack) × (List StableCar) × (List StableLeave) × StablePlan × StableTrack × Int × Unit) := aCons (rSlice rStableTrack) (aCons (rSlice rStableCar) (aCons (rSlice rStableLeave) (aCons rStablePlan (aCons rStableTrack (aCons (rInt .i64) aNil)))))
theorem oaDepotLeast : OpensA Try.prog [31, 32, 33, 36, 48, 3] aDepotLeast := opensA_cons o31 (by kernel_rfl) (opensA_cons o32 (by kernel_rfl) (opensA_cons o33 (by kernel_rfl) (opensA_cons o36 (by kernel_rfl) (opensA_cons o48 (by kernel_rfl) (opensA_cons o3 (by kernel_rfl) opensA_nil)))))

set_option maxRecDepth 100000 in
theorem least_holds : Rows.DepotLeastSaid :=
 OpenClaim.holds_of_wide 11 Try.f11 rfl rfl rfl rfl rfl rfl rfl ⟨rfl, rfl, rfl, rfl, rfl⟩ rfl rfl rfl rfl rfl (by kernel_rfl) Try.func11 (by kernel_rfl)
  (of_decide_eq_true (by kernel_rfl)) (by unfold Func.isWrapper; first | (rw [if_pos (by decide +kernel)]; kernel_rfl) | (rw [if_neg (by decide +kernel)]; exact ⟨rfl, rfl⟩))
  (fun os started H enc _ => by
   show ReturnsInHanded {} Try.checked os 11 .any (Rows.depotLeastSpec.pre6 enc Try.prog Try.f11 Rows.depotLeastRow.domain false) (Rows.depotLeastSpec.post enc Try.prog Try.f11 false true false false)
   refine returnsInHanded_of_change_shaped (C := Try.checked) own started (by kernel_rfl) Try.func11
    (ChangeSpec.witness6 (enc := enc) (C := Try.checked) false ⟨#[], #[.slice none 0 0, .slice none 0 0, .slice none 0 0, .agg #[.slice none 0 0, .slice none 0 0, .int .i64 0], .agg #[.int .i64 0, .bool false], .int .i64 0], []⟩ 11 (by kernel_rfl) (by kernel_rfl) (by kernel_rfl) (by kernel_rfl)) ?_
   intro W base args ds gs before hval hW _ _ hsh _
   exact law_contract (C := Try.checked) ktab_ok laidOut rfl (tb := 4) (by kernel_rfl) Try.underlying4 (by rw [Try.params11]; decide +kernel) (fun H ds hd => by
    match ds, hd with
    | [_, _, _, _, _, _], _ => rfl) (by rw [Try.params11]; exact oaDepotLeast)
    (law_run (S := aDepotLeast) (aok_cons (aok_cons (aok_cons (aok_cons (aok_cons (aok_cons aok_nil)))))) (fun z vs x _ => i11.ok _ (law_least x.1 x.2.1 x.2.2.1 x.2.2.2.1 x.2.2.2.2.1 x.2.2.2.2.2.1))) (notEmpty hsh) hval hW)
end Go.Proofs.Ytpiblfbidgcjaaa
