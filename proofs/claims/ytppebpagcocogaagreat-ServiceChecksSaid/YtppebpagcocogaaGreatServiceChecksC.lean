/- The statement ServiceChecks holds,for every input; no condition. -/
import Derived.Test.YtppebpagcocogaaGreatQ11
import Derived.Test.YtppebpagcocogaaGreatD5FChecksC
import Derived.Test.YtppebpagcocogaaGreatWalkServiceChecksC
set_option linter.unusedSimpArgs false
set_option linter.unusedVariables false
set_option linter.unusedSectionVars false
namespace Go.Proofs.YtppebpagcocogaaGreat
open Go Go.Ai Go.Ai.Sx Go.Ai.TabYtppebpagcocogaaGreat

def ze5:zqR (Plan×Service×Unit):=zms zaJ (zms zcb zzy)
theorem zjP:zkw Tryz.prog [25,50] ze5:=zdV o25 (by kernel_rfl) (zdV o50 (by kernel_rfl) zkx)

theorem zxy {z:Store} {vs:List zi} {x:Plan×Service×Unit} (h:ze5.rel z vs x):x.2.1.1.length≤9223372036854775807:=by
 obtain ⟨_,_,_,_,_,_,_,h2,_⟩:=h;obtain ⟨_,_,_,⟨_,_,h3⟩,_⟩:=h2.rel;exact h3.1

set_option maxRecDepth 100000 in
theorem zAG:(Rows.serviceChecksRow.inPlace==Tryz.prog.inPlace 4)=true:=by kernel_rfl
set_option maxRecDepth 100000 in
theorem zAH:(Rows.serviceChecksRow.unfollowed==Tryz.prog.unfollowed 4)=true:=by kernel_rfl
set_option maxRecDepth 100000 in
theorem zAI:(Rows.serviceChecksRow.recurses==Tryz.prog.recurses 4)=true:=by kernel_rfl
set_option maxRecDepth 100000 in
theorem zAJ:(Rows.serviceChecksRow.named==Tryz.prog.varsNamed 4)=true:=by kernel_rfl
set_option maxRecDepth 100000 in
theorem zAK:(Rows.serviceChecksRow.loops==(Tryz.f4.params.toList++Rows.serviceChecksSpec.plain.varTypes Tryz.prog).any (Tryz.prog.loopsFrom ·))=true:=by kernel_rfl
set_option maxRecDepth 100000 in
theorem zAL:Rows.serviceChecksRow.wf (OpenSpec.ofChange Rows.serviceChecksSpec)=true:=by kernel_rfl
set_option maxRecDepth 100000 in
theorem zAM:Tryz.f4.params.all (Tryz.prog.readableRec ·)=true:=by kernel_rfl
set_option maxRecDepth 100000 in
theorem zAN:(Rows.serviceChecksRow.maps==(Tryz.f4.params.toList++Rows.serviceChecksSpec.plain.varTypes Tryz.prog).any (Tryz.prog.mapsRec ·))=true:=by kernel_rfl
set_option maxRecDepth 100000 in
theorem zAO:(Rows.serviceChecksRow.ifaces==(Tryz.f4.params.toList++Rows.serviceChecksSpec.plain.varTypes Tryz.prog).any (Tryz.prog.ifacesRec ·))=true:=by kernel_rfl
set_option maxRecDepth 100000 in
theorem zxz:joinedFacts Tryz.prog 4 Tryz.f4 Rows.serviceChecksSpec Rows.serviceChecksRow=true:=by
 unfold joinedFacts;exact (zdu (zdu (zdu (zdu (zdu (zdu (zdu (zdu (zdu (zdu (zdu (zdu (zdu (zdu (zdu (zdu (zdu (zdu (zdu (zdu (zdu (zdu (zdu (zdu (zdu (zdu (zdu (zdu (zdu (zdu (zdu zAL zll) zuM) zAM) (by kernel_rfl)) rfl) zrx) rfl) zry) zAG) zAH) zAI) zAJ) zAN) zAO) (by kernel_rfl)) zAK) (by kernel_rfl)) (by kernel_rfl)) (by kernel_rfl)) (by kernel_rfl)) (by kernel_rfl)) zrz) rfl) zrA) zrB) zuN) zuO) (by kernel_rfl)) (by kernel_rfl)) (by kernel_rfl)) (by kernel_rfl))
set_option maxRecDepth 100000 in
theorem checks_holds:Rows.ServiceChecksSaid :=
 OpenClaim.holds_of_wide 4 Tryz.f4 rfl rfl rfl rfl rfl rfl rfl ⟨rfl,rfl,rfl,rfl,rfl⟩ rfl rfl rfl rfl rfl (by kernel_rfl) Tryz.func4 zxz
  (of_decide_eq_true (by kernel_rfl)) (by unfold Func.isWrapper; first | (rw [if_pos (by decide +kernel)]; kernel_rfl) | (rw [if_neg (by decide +kernel)]; exact ⟨rfl,rfl⟩))
  (fun os started H enc _=>by
   show ReturnsInHanded {} Tryz.checked os 4 .any (Rows.serviceChecksSpec.pre6 enc Tryz.prog Tryz.f4 Rows.serviceChecksRow.domain false) (Rows.serviceChecksSpec.post enc Tryz.prog Tryz.f4 false true false false);refine returnsInHanded_of_change_shaped (C:=Tryz.checked) own started (by kernel_rfl) Tryz.func4
    (ChangeSpec.witness6 (enc:=enc) (C:=Tryz.checked) false ⟨#[],#[.agg #[.slice none 0 0,.slice none 0 0],.agg #[.slice none 0 0,.slice none 0 0,.slice none 0 0]],[]⟩ 4 (by kernel_rfl) (by kernel_rfl) (by kernel_rfl) (by kernel_rfl)) ?_
   intro W base args ds gs before hval hW _ _ hsh _;exact zia (C:=Tryz.checked) zq2 zll rfl (tb:=4) (by kernel_rfl) Tryz.underlying4 (by rw [Tryz.params4]; decide +kernel) (fun H ds hd=>by
    match ds,hd with
    | [_,_],_=>rfl) (by rw [Tryz.params4]; exact zjP)
    (zqT (S:=ze5) (zgg (zgg zqS)) (fun z vs x hx=>i4.ok _ (zpP x.1 x.2.1 (zxy hx)))) (zon hsh) hval hW)
end Go.Proofs.YtppebpagcocogaaGreat
