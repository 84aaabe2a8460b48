/- The statement ServiceTries holds,for every input; no condition. -/
import Derived.Test.YtppebpagcocogaaGreatU11
import Derived.Test.YtppebpagcocogaaGreatD5ServZ5C
import Derived.Test.YtppebpagcocogaaGreatWalkServiceTriesC
set_option linter.unusedSimpArgs false
set_option linter.unusedVariables false
set_option linter.unusedSectionVars false
namespace Go.Proofs.YtppebpagcocogaaGreat
open Go Go.Ai Go.Ai.Sx Go.Ai.TabYtppebpagcocogaaGreat
def zh9:zqT (Int×Unit):=zka (zj .i64) zyW
theorem zkR:zkb Tryz.prog [3] zh9:=zcN o3 (by kernel_rfl) ziC
set_option maxRecDepth 100000 in
theorem zAQ:(Rows.serviceTriesRow.inPlace==Tryz.prog.inPlace 9)=true:=by kernel_rfl
set_option maxRecDepth 100000 in
theorem zAR:(Rows.serviceTriesRow.unfollowed==Tryz.prog.unfollowed 9)=true:=by kernel_rfl
set_option maxRecDepth 100000 in
theorem zAS:(Rows.serviceTriesRow.recurses==Tryz.prog.recurses 9)=true:=by kernel_rfl
set_option maxRecDepth 100000 in
theorem zAT:(Rows.serviceTriesRow.named==Tryz.prog.varsNamed 9)=true:=by kernel_rfl
set_option maxRecDepth 100000 in
theorem zAU:(Rows.serviceTriesRow.loops==(Tryz.f9.params.toList++Rows.serviceTriesSpec.plain.varTypes Tryz.prog).any (Tryz.prog.loopsFrom ·))=true:=by kernel_rfl
set_option maxRecDepth 100000 in
theorem zAV:Rows.serviceTriesRow.wf (OpenSpec.ofChange Rows.serviceTriesSpec)=true:=by kernel_rfl
set_option maxRecDepth 100000 in
theorem zAW:Tryz.f9.params.all (Tryz.prog.readableRec ·)=true:=by kernel_rfl
set_option maxRecDepth 100000 in
theorem zAX:(Rows.serviceTriesRow.maps==(Tryz.f9.params.toList++Rows.serviceTriesSpec.plain.varTypes Tryz.prog).any (Tryz.prog.mapsRec ·))=true:=by kernel_rfl
set_option maxRecDepth 100000 in
theorem zAY:(Rows.serviceTriesRow.ifaces==(Tryz.f9.params.toList++Rows.serviceTriesSpec.plain.varTypes Tryz.prog).any (Tryz.prog.ifacesRec ·))=true:=by kernel_rfl
set_option maxRecDepth 100000 in
theorem zyd:joinedFacts Tryz.prog 9 Tryz.f9 Rows.serviceTriesSpec Rows.serviceTriesRow=true:=by
 unfold joinedFacts;exact (zb9 (zb9 (zb9 (zb9 (zb9 (zb9 (zb9 (zb9 (zb9 (zb9 (zb9 (zb9 (zb9 (zb9 (zb9 (zb9 (zb9 (zb9 (zb9 (zb9 (zb9 (zb9 (zb9 (zb9 (zb9 (zb9 (zb9 (zb9 (zb9 (zb9 (zb9 zAV ziH) zsa) zAW) (by kernel_rfl)) rfl) zoM) rfl) zoN) zAQ) zAR) zAS) zAT) zAX) zAY) (by kernel_rfl)) zAU) (by kernel_rfl)) (by kernel_rfl)) (by kernel_rfl)) (by kernel_rfl)) (by kernel_rfl)) zoO) rfl) zoP) zoQ) zsb) zsc) (by kernel_rfl)) (by kernel_rfl)) (by kernel_rfl)) (by kernel_rfl))
set_option maxRecDepth 100000 in
theorem tries_holds:Rows.ServiceTriesSaid:=
 OpenClaim.holds_of_wide 9 Tryz.f9 rfl rfl rfl rfl rfl rfl rfl ⟨rfl,rfl,rfl,rfl,rfl⟩ rfl rfl rfl rfl rfl (by kernel_rfl) Tryz.func9 zyd
  (of_decide_eq_true (by kernel_rfl)) (by unfold Func.isWrapper; first | (rw [if_pos (by decide +kernel)]; kernel_rfl) | (rw [if_neg (by decide +kernel)]; exact ⟨rfl,rfl⟩))
  (λos started H enc _=>by
   show ReturnsInHanded {} Tryz.checked os 9 .any (Rows.serviceTriesSpec.pre6 enc Tryz.prog Tryz.f9 Rows.serviceTriesRow.domain false) (Rows.serviceTriesSpec.post enc Tryz.prog Tryz.f9 false true false false);refine returnsInHanded_of_change_shaped (C:=Tryz.checked) own started (by kernel_rfl) Tryz.func9
    (ChangeSpec.witness6 (enc:=enc) (C:=Tryz.checked) false ⟨#[],#[.int .i64 0],[]⟩ 9 (by kernel_rfl) (by kernel_rfl) (by kernel_rfl) (by kernel_rfl)) ?_
   intro W base args ds gs before hval hW _ _ hsh _;exact zgG (C:=Tryz.checked) zoG ziH rfl (tb:=4) (by kernel_rfl) Tryz.underlying4 (by rw [Tryz.params9]; decide +kernel) (λH ds hd=>by
    match ds,hd with
    | [_],_=>rfl) (by rw [Tryz.params9]; exact zkR)
    (zoC (S:=zh9) (ze0 zoB) (λz vs x _=>i9.ok _ (zto x.1))) (zmd hsh) hval hW)
end Go.Proofs.YtppebpagcocogaaGreat