/- The statement DutyShorter: a shorter turn or a task less needs no more cars, and a task more at most one more, for every input; no condition. -/
import Derived.Test.YtdhenjdmpacklaaM5
import Derived.Test.YtdhenjdmpacklaaM7
import Derived.Test.YtdhenjdmpacklaaM9
import Derived.Test.YtdhenjdmpacklaaM3
namespace Go.Proofs.Ytdhenjdmpacklaa
open Go Go.Ai Go.Ai.Sx Go.Ai.TabYtdhenjdmpacklaa

def aShorter : ARep (List Task × Yard × Int × Unit) := aCons (rSlice rTask) (aCons rYard (aCons (rInt .i64) aNil))
theorem oShorter : OpensA Try.prog [22, 26, 3] aShorter := opensA_cons o22 (by kernel_rfl) (opensA_cons o26 (by kernel_rfl) (opensA_cons o3 (by kernel_rfl) opensA_nil))

set_option maxRecDepth 100000 in
theorem shorter_holds : Rows.DutyShorterSaid :=
 OpenClaim.holds_of_wide 4 Try.f4 rfl rfl rfl rfl rfl rfl rfl ⟨rfl, rfl, rfl, rfl, rfl⟩ rfl rfl rfl rfl rfl (by kernel_rfl) Try.func4 (by kernel_rfl)
  (of_decide_eq_true (by kernel_rfl)) (by unfold Func.isWrapper; first | (rw [if_pos (by decide +kernel)]; kernel_rfl) | (rw [if_neg (by decide +kernel)]; exact ⟨rfl, rfl⟩))
  (fun os started H enc _ => by
   show ReturnsInHanded {} Try.checked os 4 .any (Rows.dutyShorterSpec.pre6 enc Try.prog Try.f4 Rows.dutyShorterRow.domain false) (Rows.dutyShorterSpec.post enc Try.prog Try.f4 false true false false)
   refine returnsInHanded_of_change_shaped (C := Try.checked) own started (by kernel_rfl) Try.func4
    (ChangeSpec.witness6 (enc := enc) (C := Try.checked) false ⟨#[], #[.slice none 0 0, .agg #[.slice none 0 0, .int .i64 0, .slice none 0 0], .int .i64 0], []⟩ 4 (by kernel_rfl) (by kernel_rfl) (by kernel_rfl) (by kernel_rfl)) ?_
   intro W base args ds gs before hval hW _ _ hsh _
   exact law_contract (C := Try.checked) ktab_ok laidOut rfl (tb := 4) (by kernel_rfl) Try.underlying4 (by rw [Try.params4]; decide +kernel) (fun H ds hd => by
    match ds, hd with
    | [_, _, _], _ => rfl) (by rw [Try.params4]; exact oShorter)
    (law_run (S := aShorter) (aok_cons (aok_cons (aok_cons aok_nil))) (fun z vs x _ => g_law08_DutyShorter_ok (law_shorter08 x.1 x.2.1 x.2.2.1))) (notEmpty hsh) hval hW)
end Go.Proofs.Ytdhenjdmpacklaa
