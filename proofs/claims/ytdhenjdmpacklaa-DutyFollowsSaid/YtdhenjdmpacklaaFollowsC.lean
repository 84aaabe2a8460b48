/- The statement DutyFollows: which tasks and yards are as defined and which task can follow which is the specification's, for every input; no condition. -/
import Derived.Test.YtdhenjdmpacklaaM3
import Derived.Test.YtdhenjdmpacklaaM5
import Derived.Test.YtdhenjdmpacklaaM8
namespace Go.Proofs.Ytdhenjdmpacklaa
open Go Go.Ai Go.Ai.Sx Go.Ai.TabYtdhenjdmpacklaa

def aFollows : ARep (List Task × Yard × Int × Int × Unit) := aCons (rSlice rTask) (aCons rYard (aCons (rInt .i64) (aCons (rInt .i64) aNil)))
theorem oFollows : OpensA Try.prog [22, 26, 3, 3] aFollows := opensA_cons o22 (by kernel_rfl) (opensA_cons o26 (by kernel_rfl) (opensA_cons o3 (by kernel_rfl) (opensA_cons o3 (by kernel_rfl) opensA_nil)))

set_option maxRecDepth 100000 in
theorem follows_holds : Rows.DutyFollowsSaid :=
  OpenClaim.holds_of_wide 7 Try.f7 rfl rfl rfl rfl rfl rfl rfl ⟨rfl, rfl, rfl, rfl, rfl⟩ rfl rfl rfl rfl rfl (by kernel_rfl) Try.func7 (by kernel_rfl)
    (of_decide_eq_true (by kernel_rfl)) (by unfold Func.isWrapper; first | (rw [if_pos (by decide +kernel)]; kernel_rfl) | (rw [if_neg (by decide +kernel)]; exact ⟨rfl, rfl⟩))
    (fun os started H enc _ => by
      show ReturnsInHanded {} Try.checked os 7 .any (Rows.dutyFollowsSpec.pre6 enc Try.prog Try.f7 Rows.dutyFollowsRow.domain false) (Rows.dutyFollowsSpec.post enc Try.prog Try.f7 false true false false)
      refine returnsInHanded_of_change_shaped (C := Try.checked) own started (by kernel_rfl) Try.func7
        (ChangeSpec.witness6 (enc := enc) (C := Try.checked) false ⟨#[], #[.slice none 0 0, .agg #[.slice none 0 0, .int .i64 0, .slice none 0 0], .int .i64 0, .int .i64 0], []⟩ 7 (by kernel_rfl) (by kernel_rfl) (by kernel_rfl) (by kernel_rfl)) ?_
      intro W base args ds gs before hval hW _ _ hsh _
      exact law_contract (C := Try.checked) ktab_ok laidOut rfl (tb := 4) (by kernel_rfl) Try.underlying4 (by rw [Try.params7]; decide +kernel) (fun H ds hd => by
        match ds, hd with
        | [_, _, _, _], _ => rfl) (by rw [Try.params7]; exact oFollows)
        (law_run (S := aFollows) (aok_cons (aok_cons (aok_cons (aok_cons aok_nil)))) (fun z vs x _ => g_law08_DutyFollows_ok (law_follows x.1 x.2.1 x.2.2.1 x.2.2.2.1))) (notEmpty hsh) hval hW)
end Go.Proofs.Ytdhenjdmpacklaa
