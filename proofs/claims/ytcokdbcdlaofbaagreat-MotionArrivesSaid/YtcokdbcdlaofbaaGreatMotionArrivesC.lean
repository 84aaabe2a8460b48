/- The statement MotionArrives holds,for every input; no condition. -/
import Derived.Test.YtcokdbcdlaofbaaGreatQ11
import Derived.Test.YtcokdbcdlaofbaaGreatMotTC
import Derived.Test.YtcokdbcdlaofbaaGreatWalkMotionArrivesC
set_option linter.unusedSimpArgs false
set_option linter.unusedVariables false
set_option linter.unusedSectionVars false
namespace Go.Proofs.YtcokdbcdlaofbaaGreat
open Go Go.Ai Go.Ai.Sx Go.Ai.TabYtcokdbcdlaofbaaGreat

def aMotionArrives:ARep (Plan × (List AMove) × Train × Int × (List Int) × Int × Unit):=aCons rPlan (aCons (rSlice rAMove) (aCons rTrain (aCons (rInt .i64) (aCons (rSlice (rInt .i64)) (aCons (rInt .i64) aNil)))))
theorem oaMotionArrives:OpensA Tryz.prog [48,49,24,3,22,3] aMotionArrives:=zf4 o48 (by kernel_rfl) (zf4 o49 (by kernel_rfl) (zf4 o24 (by kernel_rfl) (zf4 o3 (by kernel_rfl) (zf4 o22 (by kernel_rfl) (zf4 o3 (by kernel_rfl) zb18)))))

set_option maxRecDepth 100000 in
theorem arrives_holds:Rows.MotionArrivesSaid :=
 OpenClaim.holds_of_wide 8 Tryz.f8 rfl rfl rfl rfl rfl rfl rfl ⟨rfl,rfl,rfl,rfl,rfl⟩ rfl rfl rfl rfl rfl (by kernel_rfl) Tryz.func8 (by kernel_rfl)
  (of_decide_eq_true (by kernel_rfl)) (by unfold Func.isWrapper; first | (rw [if_pos (by decide +kernel)]; kernel_rfl) | (rw [if_neg (by decide +kernel)]; exact ⟨rfl,rfl⟩))
  (fun os started H enc _=>by
   show ReturnsInHanded {} Tryz.checked os 8 .any (Rows.motionArrivesSpec.pre6 enc Tryz.prog Tryz.f8 Rows.motionArrivesRow.domain false) (Rows.motionArrivesSpec.post enc Tryz.prog Tryz.f8 false true false false)
   refine returnsInHanded_of_change_shaped (C:=Tryz.checked) own started (by kernel_rfl) Tryz.func8
    (ChangeSpec.witness6 (enc:=enc) (C:=Tryz.checked) false ⟨#[],#[.agg #[.slice none 0 0,.slice none 0 0],.slice none 0 0,.agg #[.int .i64 0,.int .i64 0,.int .i64 0,.int .i64 0,.int .i64 0,.int .i64 0,.int .i64 0,.int .i64 0,.int .i64 0,.slice none 0 0],.int .i64 0,.slice none 0 0,.int .i64 0],[]⟩ 8 (by kernel_rfl) (by kernel_rfl) (by kernel_rfl) (by kernel_rfl)) ?_
   intro W base args ds gs before hval hW _ _ hsh _
   exact zc14 (C:=Tryz.checked) zw29 laidOut rfl (tb:=4) (by kernel_rfl) Tryz.underlying4 (by rw [Tryz.params8]; decide +kernel) (fun H ds hd=>by
    match ds,hd with
    | [_,_,_,_,_,_],_=>rfl) (by rw [Tryz.params8]; exact oaMotionArrives)
    (zs29 (S:=aMotionArrives) (zk7 (zk7 (zk7 (zk7 (zk7 (zk7 zr29)))))) (fun z vs x hx=>i8.ok _ (zb24 known3 x.1 x.2.1 x.2.2.1 x.2.2.2.1 x.2.2.2.2.1 x.2.2.2.2.2.1))) (notEmpty hsh) hval hW)
end Go.Proofs.YtcokdbcdlaofbaaGreat
