/- The statement ServiceConnects holds,for every input; no condition. -/
import Derived.Test.YtppebpagcocogaaGreatU11
import Derived.Test.YtppebpagcocogaaGreatD5FConnectsC
import Derived.Test.YtppebpagcocogaaGreatWalkServiceConnectsC
set_option linter.unusedSimpArgs false
set_option linter.unusedVariables false
set_option linter.unusedSectionVars false
namespace Go.Proofs.YtppebpagcocogaaGreat
open Go Go.Ai Go.Ai.Sx Go.Ai.TabYtppebpagcocogaaGreat
def zeU:zqT (Plan×(List Line)×Int×(List Connection)×Unit):=zka zaP (zka (zb zav) (zka (zj .i64) (zka (zb zk) zyW)))
theorem ziS:zkb Tryz.prog [25,48,3,53] zeU:=zcN o25 (by kernel_rfl) (zcN o48 (by kernel_rfl) (zcN o3 (by kernel_rfl) (zcN o53 (by kernel_rfl) ziC)))
theorem linesIn {z:Store} {vs:List ze} {x:Plan×(List Line)×Int×(List Connection)×Unit} (h:zeU.rel z vs x):x.2.1.length<=9223372036854775807:=by
 obtain ⟨_,_,_,_,_,_,_,h2,_⟩:=h;obtain ⟨_,_,h3⟩:=h2.rel;exact h3.1
set_option maxRecDepth 100000 in
theorem zAH:(Rows.serviceConnectsRow.inPlace==Tryz.prog.inPlace 8)=true:=by kernel_rfl
set_option maxRecDepth 100000 in
theorem zAI:(Rows.serviceConnectsRow.unfollowed==Tryz.prog.unfollowed 8)=true:=by kernel_rfl
set_option maxRecDepth 100000 in
theorem zAJ:(Rows.serviceConnectsRow.recurses==Tryz.prog.recurses 8)=true:=by kernel_rfl
set_option maxRecDepth 100000 in
theorem zAK:(Rows.serviceConnectsRow.named==Tryz.prog.varsNamed 8)=true:=by kernel_rfl
set_option maxRecDepth 100000 in
theorem zAL:(Rows.serviceConnectsRow.loops==(Tryz.f8.params.toList++Rows.serviceConnectsSpec.plain.varTypes Tryz.prog).any (Tryz.prog.loopsFrom ·))=true:=by kernel_rfl
set_option maxRecDepth 100000 in
theorem zAM:Rows.serviceConnectsRow.wf (OpenSpec.ofChange Rows.serviceConnectsSpec)=true:=by kernel_rfl
set_option maxRecDepth 100000 in
theorem zAN:Tryz.f8.params.all (Tryz.prog.readableRec ·)=true:=by kernel_rfl
set_option maxRecDepth 100000 in
theorem zAO:(Rows.serviceConnectsRow.maps==(Tryz.f8.params.toList++Rows.serviceConnectsSpec.plain.varTypes Tryz.prog).any (Tryz.prog.mapsRec ·))=true:=by kernel_rfl
set_option maxRecDepth 100000 in
theorem zAP:(Rows.serviceConnectsRow.ifaces==(Tryz.f8.params.toList++Rows.serviceConnectsSpec.plain.varTypes Tryz.prog).any (Tryz.prog.ifacesRec ·))=true:=by kernel_rfl
set_option maxRecDepth 100000 in
theorem zyb:joinedFacts Tryz.prog 8 Tryz.f8 Rows.serviceConnectsSpec Rows.serviceConnectsRow=true:=by
 unfold joinedFacts;exact (zb9 (zb9 (zb9 (zb9 (zb9 (zb9 (zb9 (zb9 (zb9 (zb9 (zb9 (zb9 (zb9 (zb9 (zb9 (zb9 (zb9 (zb9 (zb9 (zb9 (zb9 (zb9 (zb9 (zb9 (zb9 (zb9 (zb9 (zb9 (zb9 (zb9 (zb9 zAM ziH) zsa) zAN) (by kernel_rfl)) rfl) zoM) rfl) zoN) zAH) zAI) zAJ) zAK) zAO) zAP) (by kernel_rfl)) zAL) (by kernel_rfl)) (by kernel_rfl)) (by kernel_rfl)) (by kernel_rfl)) (by kernel_rfl)) zoO) rfl) zoP) zoQ) zsb) zsc) (by kernel_rfl)) (by kernel_rfl)) (by kernel_rfl)) (by kernel_rfl))
set_option maxRecDepth 100000 in
theorem connects_holds:Rows.ServiceConnectsSaid:=
 OpenClaim.holds_of_wide 8 Tryz.f8 rfl rfl rfl rfl rfl rfl rfl ⟨rfl,rfl,rfl,rfl,rfl⟩ rfl rfl rfl rfl rfl (by kernel_rfl) Tryz.func8 zyb
  (of_decide_eq_true (by kernel_rfl)) (by unfold Func.isWrapper; first | (rw [if_pos (by decide +kernel)]; kernel_rfl) | (rw [if_neg (by decide +kernel)]; exact ⟨rfl,rfl⟩))
  (λos started H enc _=>by
   show ReturnsInHanded {} Tryz.checked os 8 .any (Rows.serviceConnectsSpec.pre6 enc Tryz.prog Tryz.f8 Rows.serviceConnectsRow.domain false) (Rows.serviceConnectsSpec.post enc Tryz.prog Tryz.f8 false true false false);refine returnsInHanded_of_change_shaped (C:=Tryz.checked) own started (by kernel_rfl) Tryz.func8
    (ChangeSpec.witness6 (enc:=enc) (C:=Tryz.checked) false ⟨#[],#[.agg #[.slice none 0 0,.slice none 0 0],.slice none 0 0,.int .i64 0,.slice none 0 0],[]⟩ 8 (by kernel_rfl) (by kernel_rfl) (by kernel_rfl) (by kernel_rfl)) ?_
   intro W base args ds gs before hval hW _ _ hsh _;exact zgG (C:=Tryz.checked) zoG ziH rfl (tb:=4) (by kernel_rfl) Tryz.underlying4 (by rw [Tryz.params8]; decide +kernel) (λH ds hd=>by
    match ds,hd with
    | [_,_,_,_],_=>rfl) (by rw [Tryz.params8]; exact ziS)
    (zoC (S:=zeU) (ze0 (ze0 (ze0 (ze0 zoB)))) (λz vs x hx=>i8.ok _ (zn2 x.1 x.2.1 x.2.2.1 x.2.2.2.1 (linesIn hx)))) (zmd hsh) hval hW)
end Go.Proofs.YtppebpagcocogaaGreat