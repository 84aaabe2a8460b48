/- The statement ServiceMany holds,for every input; no condition. -/
import Derived.Test.YtppebpagcocogaaGreatT11
import Derived.Test.YtppebpagcocogaaGreatD5ServTC
import Derived.Test.YtppebpagcocogaaGreatWalkServiceManyC
set_option linter.unusedSimpArgs false
set_option linter.unusedVariables false
set_option linter.unusedSectionVars false
namespace Go.Proofs.YtppebpagcocogaaGreat
open Go Go.Ai Go.Ai.Sx Go.Ai.TabYtppebpagcocogaaGreat
def ziP:zrf (Int×Int×Unit):=zlQ (zj .i64) (zlQ (zj .i64) zzm)
theorem zmg:zkY Tryz.prog [3,3] ziP:=zdM o3 (by kernel_rfl) (zdM o3 (by kernel_rfl) zkZ)
set_option maxRecDepth 100000 in
theorem zyY:(Rows.serviceManyRow.inPlace==Tryz.prog.inPlace 13)=true:=by kernel_rfl
set_option maxRecDepth 100000 in
theorem zyZ:(Rows.serviceManyRow.unfollowed==Tryz.prog.unfollowed 13)=true:=by kernel_rfl
set_option maxRecDepth 100000 in
theorem zy0:(Rows.serviceManyRow.recurses==Tryz.prog.recurses 13)=true:=by kernel_rfl
set_option maxRecDepth 100000 in
theorem zy1:(Rows.serviceManyRow.named==Tryz.prog.varsNamed 13)=true:=by kernel_rfl
set_option maxRecDepth 100000 in
theorem zy2:(Rows.serviceManyRow.loops==(Tryz.f13.params.toList++Rows.serviceManySpec.plain.varTypes Tryz.prog).any (Tryz.prog.loopsFrom ·))=true:=by kernel_rfl
set_option maxRecDepth 100000 in
theorem zy3:Rows.serviceManyRow.wf (OpenSpec.ofChange Rows.serviceManySpec)=true:=by kernel_rfl
set_option maxRecDepth 100000 in
theorem zy4:Tryz.f13.params.all (Tryz.prog.readableRec ·)=true:=by kernel_rfl
set_option maxRecDepth 100000 in
theorem zy5:(Rows.serviceManyRow.maps==(Tryz.f13.params.toList++Rows.serviceManySpec.plain.varTypes Tryz.prog).any (Tryz.prog.mapsRec ·))=true:=by kernel_rfl
set_option maxRecDepth 100000 in
theorem zy6:(Rows.serviceManyRow.ifaces==(Tryz.f13.params.toList++Rows.serviceManySpec.plain.varTypes Tryz.prog).any (Tryz.prog.ifacesRec ·))=true:=by kernel_rfl
set_option maxRecDepth 100000 in
theorem zuW:joinedFacts Tryz.prog 13 Tryz.f13 Rows.serviceManySpec Rows.serviceManyRow=true:=by
 unfold joinedFacts;exact (zdY (zdY (zdY (zdY (zdY (zdY (zdY (zdY (zdY (zdY (zdY (zdY (zdY (zdY (zdY (zdY (zdY (zdY (zdY (zdY (zdY (zdY (zdY (zdY (zdY (zdY (zdY (zdY (zdY (zdY (zdY zy3 zlR) zvb) zy4) (by kernel_rfl)) rfl) zrw) rfl) zrx) zyY) zyZ) zy0) zy1) zy5) zy6) (by kernel_rfl)) zy2) (by kernel_rfl)) (by kernel_rfl)) (by kernel_rfl)) (by kernel_rfl)) (by kernel_rfl)) zry) rfl) zrz) zrA) zvc) zvd) (by kernel_rfl)) (by kernel_rfl)) (by kernel_rfl)) (by kernel_rfl))
set_option maxRecDepth 100000 in
theorem many_holds:Rows.ServiceManySaid:=
 OpenClaim.holds_of_wide 13 Tryz.f13 rfl rfl rfl rfl rfl rfl rfl ⟨rfl,rfl,rfl,rfl,rfl⟩ rfl rfl rfl rfl rfl (by kernel_rfl) Tryz.func13 zuW
  (of_decide_eq_true (by kernel_rfl)) (by unfold Func.isWrapper; first | (rw [if_pos (by decide +kernel)]; kernel_rfl) | (rw [if_neg (by decide +kernel)]; exact ⟨rfl,rfl⟩))
  (λos started H enc _=>by
   show ReturnsInHanded {} Tryz.checked os 13 .any (Rows.serviceManySpec.pre6 enc Tryz.prog Tryz.f13 Rows.serviceManyRow.domain false) (Rows.serviceManySpec.post enc Tryz.prog Tryz.f13 false true false false);refine returnsInHanded_of_change_shaped (C:=Tryz.checked) own started (by kernel_rfl) Tryz.func13
    (ChangeSpec.witness6 (enc:=enc) (C:=Tryz.checked) false ⟨#[],#[.int .i64 0,.int .i64 0],[]⟩ 13 (by kernel_rfl) (by kernel_rfl) (by kernel_rfl) (by kernel_rfl)) ?_
   intro W base args ds gs before hval hW _ _ hsh _;exact ziL (C:=Tryz.checked) zrq zlR rfl (tb:=4) (by kernel_rfl) Tryz.underlying4 (by rw [Tryz.params13]; decide +kernel) (λH ds hd=>by
    match ds,hd with
    | [_,_],_=>rfl) (by rw [Tryz.params13]; exact zmg)
    (zrh (S:=ziP) (zgf (zgf zrg)) (λz vs x _=>i13.ok _ (zuV x.1 x.2.1))) (zoY hsh) hval hW)
end Go.Proofs.YtppebpagcocogaaGreat