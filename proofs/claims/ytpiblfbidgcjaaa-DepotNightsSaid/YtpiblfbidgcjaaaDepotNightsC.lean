/- The statement DepotNights holds, for every input; no condition. -/
import Derived.Test.YtpiblfbidgcjaaaM10
import Derived.Test.YtpiblfbidgcjaaaM14
import Derived.Test.YtpiblfbidgcjaaaWalkDepotNightsC
namespace Go.Proofs.Ytpiblfbidgcjaaa
open Go Go.Ai Go.Ai.Sx Go.Ai.TabYtpiblfbidgcjaaa

def aDepotNights : ARep ((List StableTrack) × (List StableCar) × (List StableLeave) × Unit) := aCons (rSlice rStableTrack) (aCons (rSlice rStableCar) (aCons (rSlice rStableLeave) aNil))
theorem oaDepotNights : OpensA Try.prog [31, 32, 33] aDepotNights := opensA_cons o31 (by kernel_rfl) (opensA_cons o32 (by kernel_rfl) (opensA_cons o33 (by kernel_rfl) opensA_nil))

set_option maxRecDepth 100000 in
theorem nights_holds : Rows.DepotNightsSaid :=
 OpenClaim.holds_of_wide 4 Try.f4 rfl rfl rfl rfl rfl rfl rfl ⟨rfl, rfl, rfl, rfl, rfl⟩ rfl rfl rfl rfl rfl (by kernel_rfl) Try.func4 (by kernel_rfl)
  (of_decide_eq_true (by kernel_rfl)) (by unfold Func.isWrapper; first | (rw [if_pos (by decide +kernel)]; kernel_rfl) | (rw [if_neg (by decide +kernel)]; exact ⟨rfl, rfl⟩))
  (fun os started H enc _ => by
   show ReturnsInHanded {} Try.checked os 4 .any (Rows.depotNightsSpec.pre6 enc Try.prog Try.f4 Rows.depotNightsRow.domain false) (Rows.depotNightsSpec.post enc Try.prog Try.f4 false true false false)
   refine returnsInHanded_of_change_shaped (C := Try.checked) own started (by kernel_rfl) Try.func4
    (ChangeSpec.witness6 (enc := enc) (C := Try.checked) false ⟨#[], #[.slice none 0 0, .slice none 0 0, .slice none 0 0], []⟩ 4 (by kernel_rfl) (by kernel_rfl) (by kernel_rfl) (by kernel_rfl)) ?_
   intro W base args ds gs before hval hW _ _ hsh _
   exact law_contract (C := Try.checked) ktab_ok laidOut rfl (tb := 4) (by kernel_rfl) Try.underlying4 (by rw [Try.params4]; decide +kernel) (fun H ds hd => by
    match ds, hd with
    | [_, _, _], _ => rfl) (by rw [Try.params4]; exact oaDepotNights)
    (law_run (S := aDepotNights) (aok_cons (aok_cons (aok_cons aok_nil))) (fun z vs x _ => i4.ok _ (law_nights x.1 x.2.1 x.2.2.1))) (notEmpty hsh) hval hW)
end Go.Proofs.Ytpiblfbidgcjaaa
