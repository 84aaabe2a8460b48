/- The statement DepotOvernight holds,for every input; no condition. -/
import Derived.Test.YtafbcffccnjgfaaM10
import Derived.Test.YtafbcffccnjgfaaM16
import Derived.Test.YtafbcffccnjgfaaWalkDepotOvernightC
namespace Go.Proofs.Ytafbcffccnjgfaa
open Go Go.Ai Go.Ai.Sx Go.Ai.TabYtafbcffccnjgfaa

def aDepotOvernight:ARep ((List Task) × Yard × Int × Int × Unit) := aCons (rSlice rTask) (aCons rYard (aCons (rInt .i64) (aCons (rInt .i64) aNil)))
theorem oaDepotOvernight:OpensA Try.prog [22,26,3,3] aDepotOvernight := zc8 o22 (by kernel_rfl) (zc8 o26 (by kernel_rfl) (zc8 o3 (by kernel_rfl) (zc8 o3 (by kernel_rfl) zw23)))

set_option maxRecDepth 100000 in
theorem overnight_holds:Rows.DepotOvernightSaid :=
 OpenClaim.holds_of_wide 4 Try.f4 rfl rfl rfl rfl rfl rfl rfl ⟨rfl,rfl,rfl,rfl,rfl⟩ rfl rfl rfl rfl rfl (by kernel_rfl) Try.func4 (by kernel_rfl)
  (of_decide_eq_true (by kernel_rfl)) (by unfold Func.isWrapper; first | (rw [if_pos (by decide +kernel)]; kernel_rfl) | (rw [if_neg (by decide +kernel)]; exact ⟨rfl,rfl⟩))
  (fun os started H enc _ => by
   show ReturnsInHanded {} Try.checked os 4 .any (Rows.depotOvernightSpec.pre6 enc Try.prog Try.f4 Rows.depotOvernightRow.domain false) (Rows.depotOvernightSpec.post enc Try.prog Try.f4 false true false false)
   refine returnsInHanded_of_change_shaped (C := Try.checked) own started (by kernel_rfl) Try.func4
    (ChangeSpec.witness6 (enc := enc) (C := Try.checked) false ⟨#[],#[.slice none 0 0,.agg #[.slice none 0 0,.int .i64 0,.slice none 0 0],.int .i64 0,.int .i64 0],[]⟩ 4 (by kernel_rfl) (by kernel_rfl) (by kernel_rfl) (by kernel_rfl)) ?_
   intro W base args ds gs before hval hW _ _ hsh _
   exact zx19 (C := Try.checked) zg34 laidOut rfl (tb := 4) (by kernel_rfl) Try.underlying4 (by rw [Try.params4]; decide +kernel) (fun H ds hd => by
    match ds,hd with
    | [_,_,_,_],_ => rfl) (by rw [Try.params4]; exact oaDepotOvernight)
    (zf34 (S := aDepotOvernight) (zo12 (zo12 (zo12 (zo12 ze34)))) (fun z vs x _ => i4.ok _ (zq18 x.1 x.2.1 x.2.2.1 x.2.2.2.1))) (notEmpty hsh) hval hW)
end Go.Proofs.Ytafbcffccnjgfaa
