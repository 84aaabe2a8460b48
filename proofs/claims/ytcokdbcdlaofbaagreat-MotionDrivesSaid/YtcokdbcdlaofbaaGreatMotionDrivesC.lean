/- The statement MotionDrives holds,for every input; no condition. -/
import Derived.Test.YtcokdbcdlaofbaaGreatQ11
import Derived.Test.YtcokdbcdlaofbaaGreatQ17
import Derived.Test.YtcokdbcdlaofbaaGreatWalkMotionDrivesC
set_option linter.unusedSimpArgs false
set_option linter.unusedVariables false
set_option linter.unusedSectionVars false
namespace Go.Proofs.YtcokdbcdlaofbaaGreat
open Go Go.Ai Go.Ai.Sx Go.Ai.TabYtcokdbcdlaofbaaGreat

def aMotionDrives:ARep (Plan × (List AMove) × Train × Int × (List Int) × Unit):=aCons rPlan (aCons (rSlice rAMove) (aCons rTrain (aCons (rInt .i64) (aCons (rSlice (rInt .i64)) aNil))))
theorem oaMotionDrives:OpensA Tryz.prog [48,49,24,3,22] aMotionDrives:=zf4 o48 (by kernel_rfl) (zf4 o49 (by kernel_rfl) (zf4 o24 (by kernel_rfl) (zf4 o3 (by kernel_rfl) (zf4 o22 (by kernel_rfl) zb18))))

set_option maxRecDepth 100000 in
theorem drives_holds:Rows.MotionDrivesSaid :=
 OpenClaim.holds_of_wide 12 Tryz.f12 rfl rfl rfl rfl rfl rfl rfl ⟨rfl,rfl,rfl,rfl,rfl⟩ rfl rfl rfl rfl rfl (by kernel_rfl) Tryz.func12 (by kernel_rfl)
  (of_decide_eq_true (by kernel_rfl)) (by unfold Func.isWrapper; first | (rw [if_pos (by decide +kernel)]; kernel_rfl) | (rw [if_neg (by decide +kernel)]; exact ⟨rfl,rfl⟩))
  (fun os started H enc _=>by
   show ReturnsInHanded {} Tryz.checked os 12 .any (Rows.motionDrivesSpec.pre6 enc Tryz.prog Tryz.f12 Rows.motionDrivesRow.domain false) (Rows.motionDrivesSpec.post enc Tryz.prog Tryz.f12 false true false false)
   refine returnsInHanded_of_change_shaped (C:=Tryz.checked) own started (by kernel_rfl) Tryz.func12
    (ChangeSpec.witness6 (enc:=enc) (C:=Tryz.checked) false ⟨#[],#[.agg #[.slice none 0 0,.slice none 0 0],.slice none 0 0,.agg #[.int .i64 0,.int .i64 0,.int .i64 0,.int .i64 0,.int .i64 0,.int .i64 0,.int .i64 0,.int .i64 0,.int .i64 0,.slice none 0 0],.int .i64 0,.slice none 0 0],[]⟩ 12 (by kernel_rfl) (by kernel_rfl) (by kernel_rfl) (by kernel_rfl)) ?_
   intro W base args ds gs before hval hW _ _ hsh _
   exact zc14 (C:=Tryz.checked) zw29 laidOut rfl (tb:=4) (by kernel_rfl) Tryz.underlying4 (by rw [Tryz.params12]; decide +kernel) (fun H ds hd=>by
    match ds,hd with
    | [_,_,_,_,_],_=>rfl) (by rw [Tryz.params12]; exact oaMotionDrives)
    (zs29 (S:=aMotionDrives) (zk7 (zk7 (zk7 (zk7 (zk7 zr29))))) (fun z vs x hx=>i12.ok _ (zq27 known3 x.1 x.2.1 x.2.2.1 x.2.2.2.1 x.2.2.2.2.1))) (notEmpty hsh) hval hW)
end Go.Proofs.YtcokdbcdlaofbaaGreat
