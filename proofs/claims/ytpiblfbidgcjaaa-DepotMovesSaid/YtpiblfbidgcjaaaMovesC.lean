/- The statement DepotMoves: which plans are plans of a night, their moves of shunting, and how they are played, are as the specification says, for every input; no condition. -/
import Derived.Test.YtpiblfbidgcjaaaM4
import Derived.Test.YtpiblfbidgcjaaaM7
import Derived.Test.YtpiblfbidgcjaaaWalkDepotMovesC
namespace Go.Proofs.Ytpiblfbidgcjaaa
open Go Go.Ai Go.Ai.Sx Go.Ai.TabYtpiblfbidgcjaaa

def aMoves : ARep (List StableTrack × List StableCar × List StableLeave × StablePlan × Unit) := aCons (rSlice rStableTrack) (aCons (rSlice rStableCar) (aCons (rSlice rStableLeave) (aCons rStablePlan aNil)))
theorem oMoves : OpensA Try.prog [31, 32, 33, 36] aMoves := opensA_cons o31 (by kernel_rfl) (opensA_cons o32 (by kernel_rfl) (opensA_cons o33 (by kernel_rfl) (opensA_cons o36 (by kernel_rfl) opensA_nil)))

set_option maxRecDepth 100000 in
theorem moves_holds : Rows.DepotMovesSaid :=
  OpenClaim.holds_of_wide 10 Try.f10 rfl rfl rfl rfl rfl rfl rfl ⟨rfl, rfl, rfl, rfl, rfl⟩ rfl rfl rfl rfl rfl (by kernel_rfl) Try.func10 (by kernel_rfl)
    (of_decide_eq_true (by kernel_rfl)) (by unfold Func.isWrapper; first | (rw [if_pos (by decide +kernel)]; kernel_rfl) | (rw [if_neg (by decide +kernel)]; exact ⟨rfl, rfl⟩))
    (fun os started H enc _ => by
      show ReturnsInHanded {} Try.checked os 10 .any (Rows.depotMovesSpec.pre6 enc Try.prog Try.f10 Rows.depotMovesRow.domain false) (Rows.depotMovesSpec.post enc Try.prog Try.f10 false true false false)
      refine returnsInHanded_of_change_shaped (C := Try.checked) own started (by kernel_rfl) Try.func10
        (ChangeSpec.witness6 (enc := enc) (C := Try.checked) false ⟨#[], #[.slice none 0 0, .slice none 0 0, .slice none 0 0, .agg #[.slice none 0 0, .slice none 0 0, .int .i64 0]], []⟩ 10 (by kernel_rfl) (by kernel_rfl) (by kernel_rfl) (by kernel_rfl)) ?_
      intro W base args ds gs before hval hW _ _ hsh _
      exact law_contract (C := Try.checked) ktab_ok laidOut rfl (tb := 4) (by kernel_rfl) Try.underlying4 (by rw [Try.params10]; decide +kernel) (fun H ds hd => by
        match ds, hd with
        | [_, _, _, _], _ => rfl) (by rw [Try.params10]; exact oMoves)
        (law_run (S := aMoves) (aok_cons (aok_cons (aok_cons (aok_cons aok_nil)))) (fun z vs x _ => g_law09_DepotMoves_ok (law_moves x.1 x.2.1 x.2.2.1 x.2.2.2.1))) (notEmpty hsh) hval hW)
end Go.Proofs.Ytpiblfbidgcjaaa
