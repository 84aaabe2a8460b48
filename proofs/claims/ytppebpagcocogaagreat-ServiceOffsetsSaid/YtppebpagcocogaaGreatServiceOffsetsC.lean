/- The statement ServiceOffsets holds,for every input; no condition. -/
import Derived.Test.YtppebpagcocogaaGreatQ11
import Derived.Test.YtppebpagcocogaaGreatD5FOffsetsC
import Derived.Test.YtppebpagcocogaaGreatWalkServiceOffsetsC
set_option linter.unusedSimpArgs false
set_option linter.unusedVariables false
set_option linter.unusedSectionVars false
namespace Go.Proofs.YtppebpagcocogaaGreat
open Go Go.Ai Go.Ai.Sx Go.Ai.TabYtppebpagcocogaaGreat

def zf5:zqR (Plan×Line×Bool×Int×Unit):=zms zaJ (zms zbO (zms zB (zms (zj .i64) zzy)))
theorem zio:zkw Tryz.prog [25,33,4,3] zf5:=zdV o25 (by kernel_rfl) (zdV o33 (by kernel_rfl) (zdV o4 (by kernel_rfl) (zdV o3 (by kernel_rfl) zkx)))

set_option maxRecDepth 100000 in
theorem zAw:(Rows.serviceOffsetsRow.inPlace==Tryz.prog.inPlace 3)=true:=by kernel_rfl
set_option maxRecDepth 100000 in
theorem zAx:(Rows.serviceOffsetsRow.unfollowed==Tryz.prog.unfollowed 3)=true:=by kernel_rfl
set_option maxRecDepth 100000 in
theorem zAy:(Rows.serviceOffsetsRow.recurses==Tryz.prog.recurses 3)=true:=by kernel_rfl
set_option maxRecDepth 100000 in
theorem zAz:(Rows.serviceOffsetsRow.named==Tryz.prog.varsNamed 3)=true:=by kernel_rfl
set_option maxRecDepth 100000 in
theorem zAA:(Rows.serviceOffsetsRow.loops==(Tryz.f3.params.toList++Rows.serviceOffsetsSpec.plain.varTypes Tryz.prog).any (Tryz.prog.loopsFrom ·))=true:=by kernel_rfl
set_option maxRecDepth 100000 in
theorem zAB:Rows.serviceOffsetsRow.wf (OpenSpec.ofChange Rows.serviceOffsetsSpec)=true:=by kernel_rfl
set_option maxRecDepth 100000 in
theorem zAC:Tryz.f3.params.all (Tryz.prog.readableRec ·)=true:=by kernel_rfl
set_option maxRecDepth 100000 in
theorem zAD:(Rows.serviceOffsetsRow.maps==(Tryz.f3.params.toList++Rows.serviceOffsetsSpec.plain.varTypes Tryz.prog).any (Tryz.prog.mapsRec ·))=true:=by kernel_rfl
set_option maxRecDepth 100000 in
theorem zAE:(Rows.serviceOffsetsRow.ifaces==(Tryz.f3.params.toList++Rows.serviceOffsetsSpec.plain.varTypes Tryz.prog).any (Tryz.prog.ifacesRec ·))=true:=by kernel_rfl
set_option maxRecDepth 100000 in
theorem zxv:joinedFacts Tryz.prog 3 Tryz.f3 Rows.serviceOffsetsSpec Rows.serviceOffsetsRow=true:=by
 unfold joinedFacts;exact (zdu (zdu (zdu (zdu (zdu (zdu (zdu (zdu (zdu (zdu (zdu (zdu (zdu (zdu (zdu (zdu (zdu (zdu (zdu (zdu (zdu (zdu (zdu (zdu (zdu (zdu (zdu (zdu (zdu (zdu (zdu zAB zll) zuM) zAC) (by kernel_rfl)) rfl) zrx) rfl) zry) zAw) zAx) zAy) zAz) zAD) zAE) (by kernel_rfl)) zAA) (by kernel_rfl)) (by kernel_rfl)) (by kernel_rfl)) (by kernel_rfl)) (by kernel_rfl)) zrz) rfl) zrA) zrB) zuN) zuO) (by kernel_rfl)) (by kernel_rfl)) (by kernel_rfl)) (by kernel_rfl))
set_option maxRecDepth 100000 in
theorem offsets_holds:Rows.ServiceOffsetsSaid :=
 OpenClaim.holds_of_wide 3 Tryz.f3 rfl rfl rfl rfl rfl rfl rfl ⟨rfl,rfl,rfl,rfl,rfl⟩ rfl rfl rfl rfl rfl (by kernel_rfl) Tryz.func3 zxv
  (of_decide_eq_true (by kernel_rfl)) (by unfold Func.isWrapper; first | (rw [if_pos (by decide +kernel)]; kernel_rfl) | (rw [if_neg (by decide +kernel)]; exact ⟨rfl,rfl⟩))
  (fun os started H enc _=>by
   show ReturnsInHanded {} Tryz.checked os 3 .any (Rows.serviceOffsetsSpec.pre6 enc Tryz.prog Tryz.f3 Rows.serviceOffsetsRow.domain false) (Rows.serviceOffsetsSpec.post enc Tryz.prog Tryz.f3 false true false false);refine returnsInHanded_of_change_shaped (C:=Tryz.checked) own started (by kernel_rfl) Tryz.func3
    (ChangeSpec.witness6 (enc:=enc) (C:=Tryz.checked) false ⟨#[],#[.agg #[.slice none 0 0,.slice none 0 0],.agg #[.slice none 0 0,.slice none 0 0,.slice none 0 0,.slice none 0 0,.slice none 0 0,.slice none 0 0,.int .i64 0,.int .i64 0,.int .i64 0,.int .i64 0,.int .i64 0,.int .i64 0,.int .i64 0,.int .i64 0,.int .i64 0,.slice none 0 0,.int .i64 0,.int .i64 0],.bool false,.int .i64 0],[]⟩ 3 (by kernel_rfl) (by kernel_rfl) (by kernel_rfl) (by kernel_rfl)) ?_
   intro W base args ds gs before hval hW _ _ hsh _;exact zia (C:=Tryz.checked) zq2 zll rfl (tb:=4) (by kernel_rfl) Tryz.underlying4 (by rw [Tryz.params3]; decide +kernel) (fun H ds hd=>by
    match ds,hd with
    | [_,_,_,_],_=>rfl) (by rw [Tryz.params3]; exact zio)
    (zqT (S:=zf5) (zgg (zgg (zgg (zgg zqS)))) (fun z vs x _=>i3.ok _ (znS x.1 x.2.1 x.2.2.1 x.2.2.2.1))) (zon hsh) hval hW)
end Go.Proofs.YtppebpagcocogaaGreat
