/- The statement ServiceKept holds,for every input; no condition. -/
import Derived.Test.YtppebpagcocogaaGreatU11
import Derived.Test.YtppebpagcocogaaGreatD5FKeptC
import Derived.Test.YtppebpagcocogaaGreatWalkServiceKeptC
set_option linter.unusedSimpArgs false
set_option linter.unusedVariables false
set_option linter.unusedSectionVars false
namespace Go.Proofs.YtppebpagcocogaaGreat
open Go Go.Ai Go.Ai.Sx Go.Ai.TabYtppebpagcocogaaGreat
def zgO:zqT (Plan×Service×(List Connection)×Int×Unit):=zka zaP (zka zbM (zka (zb zk) (zka (zj .i64) zyW)))
theorem zmC:zkb Tryz.prog [25,50,53,3] zgO:=zcN o25 (by kernel_rfl) (zcN o50 (by kernel_rfl) (zcN o53 (by kernel_rfl) (zcN o3 (by kernel_rfl) ziC)))
theorem linesIn {z:Store} {vs:List ze} {x:Plan×Service×(List Connection)×Int×Unit} (h:zgO.rel z vs x):x.2.1.1.length<=9223372036854775807:=by
 obtain ⟨_,_,_,_,_,_,_,h2,_⟩:=h;obtain ⟨_,_,_,⟨_,_,h3⟩,_⟩:=h2.rel;exact h3.1
set_option maxRecDepth 100000 in
theorem zzs:(Rows.serviceKeptRow.inPlace==Tryz.prog.inPlace 11)=true:=by kernel_rfl
set_option maxRecDepth 100000 in
theorem zzt:(Rows.serviceKeptRow.unfollowed==Tryz.prog.unfollowed 11)=true:=by kernel_rfl
set_option maxRecDepth 100000 in
theorem zzu:(Rows.serviceKeptRow.recurses==Tryz.prog.recurses 11)=true:=by kernel_rfl
set_option maxRecDepth 100000 in
theorem zzv:(Rows.serviceKeptRow.named==Tryz.prog.varsNamed 11)=true:=by kernel_rfl
set_option maxRecDepth 100000 in
theorem zzw:(Rows.serviceKeptRow.loops==(Tryz.f11.params.toList++Rows.serviceKeptSpec.plain.varTypes Tryz.prog).any (Tryz.prog.loopsFrom ·))=true:=by kernel_rfl
set_option maxRecDepth 100000 in
theorem zzx:Rows.serviceKeptRow.wf (OpenSpec.ofChange Rows.serviceKeptSpec)=true:=by kernel_rfl
set_option maxRecDepth 100000 in
theorem zzy:Tryz.f11.params.all (Tryz.prog.readableRec ·)=true:=by kernel_rfl
set_option maxRecDepth 100000 in
theorem zzz:(Rows.serviceKeptRow.maps==(Tryz.f11.params.toList++Rows.serviceKeptSpec.plain.varTypes Tryz.prog).any (Tryz.prog.mapsRec ·))=true:=by kernel_rfl
set_option maxRecDepth 100000 in
theorem zzA:(Rows.serviceKeptRow.ifaces==(Tryz.f11.params.toList++Rows.serviceKeptSpec.plain.varTypes Tryz.prog).any (Tryz.prog.ifacesRec ·))=true:=by kernel_rfl
set_option maxRecDepth 100000 in
theorem zvw:joinedFacts Tryz.prog 11 Tryz.f11 Rows.serviceKeptSpec Rows.serviceKeptRow=true:=by
 unfold joinedFacts;exact (zb9 (zb9 (zb9 (zb9 (zb9 (zb9 (zb9 (zb9 (zb9 (zb9 (zb9 (zb9 (zb9 (zb9 (zb9 (zb9 (zb9 (zb9 (zb9 (zb9 (zb9 (zb9 (zb9 (zb9 (zb9 (zb9 (zb9 (zb9 (zb9 (zb9 (zb9 zzx ziH) zsa) zzy) (by kernel_rfl)) rfl) zoM) rfl) zoN) zzs) zzt) zzu) zzv) zzz) zzA) (by kernel_rfl)) zzw) (by kernel_rfl)) (by kernel_rfl)) (by kernel_rfl)) (by kernel_rfl)) (by kernel_rfl)) zoO) rfl) zoP) zoQ) zsb) zsc) (by kernel_rfl)) (by kernel_rfl)) (by kernel_rfl)) (by kernel_rfl))
set_option maxRecDepth 100000 in
theorem kept_holds:Rows.ServiceKeptSaid:=
 OpenClaim.holds_of_wide 11 Tryz.f11 rfl rfl rfl rfl rfl rfl rfl ⟨rfl,rfl,rfl,rfl,rfl⟩ rfl rfl rfl rfl rfl (by kernel_rfl) Tryz.func11 zvw
  (of_decide_eq_true (by kernel_rfl)) (by unfold Func.isWrapper; first | (rw [if_pos (by decide +kernel)]; kernel_rfl) | (rw [if_neg (by decide +kernel)]; exact ⟨rfl,rfl⟩))
  (λos started H enc _=>by
   show ReturnsInHanded {} Tryz.checked os 11 .any (Rows.serviceKeptSpec.pre6 enc Tryz.prog Tryz.f11 Rows.serviceKeptRow.domain false) (Rows.serviceKeptSpec.post enc Tryz.prog Tryz.f11 false true false false);refine returnsInHanded_of_change_shaped (C:=Tryz.checked) own started (by kernel_rfl) Tryz.func11
    (ChangeSpec.witness6 (enc:=enc) (C:=Tryz.checked) false ⟨#[],#[.agg #[.slice none 0 0,.slice none 0 0],.agg #[.slice none 0 0,.slice none 0 0,.slice none 0 0],.slice none 0 0,.int .i64 0],[]⟩ 11 (by kernel_rfl) (by kernel_rfl) (by kernel_rfl) (by kernel_rfl)) ?_
   intro W base args ds gs before hval hW _ _ hsh _;exact zgG (C:=Tryz.checked) zoG ziH rfl (tb:=4) (by kernel_rfl) Tryz.underlying4 (by rw [Tryz.params11]; decide +kernel) (λH ds hd=>by
    match ds,hd with
    | [_,_,_,_],_=>rfl) (by rw [Tryz.params11]; exact zmC)
    (zoC (S:=zgO) (ze0 (ze0 (ze0 (ze0 zoB)))) (λz vs x hx=>i11.ok _ (zvv x.1 x.2.1 x.2.2.1 x.2.2.2.1 (linesIn hx)))) (zmd hsh) hval hW)
end Go.Proofs.YtppebpagcocogaaGreat