/- The statement ServiceWaits holds,for every input; no condition. -/
import Derived.Test.YtppebpagcocogaaGreatS11
import Derived.Test.YtppebpagcocogaaGreatD5FWaitsC
import Derived.Test.YtppebpagcocogaaGreatWalkServiceWaitsC
set_option linter.unusedSimpArgs false
set_option linter.unusedVariables false
set_option linter.unusedSectionVars false
namespace Go.Proofs.YtppebpagcocogaaGreat
open Go Go.Ai Go.Ai.Sx Go.Ai.TabYtppebpagcocogaaGreat

def zgt:zqn (Plan×Service×(List Connection)×Unit):=zeO zaf (zeO zac (zeO (zf zL) zxY))
theorem zkN:zi2 Tryz.prog [25,50,53] zgt:=z7 o25 (by kernel_rfl) (z7 o50 (by kernel_rfl) (z7 o53 (by kernel_rfl) zhc))

theorem linesIn {z:Store} {vs:List ze} {x:Plan×Service×(List Connection)×Unit} (h:zgt.rel z vs x):x.2.1.1.length≤9223372036854775807:=by
 obtain ⟨_,_,_,_,_,_,_,h2,_⟩:=h;obtain ⟨_,_,_,⟨_,_,h3⟩,_⟩:=h2.rel;exact h3.1

set_option maxRecDepth 100000 in
theorem zAm:(Rows.serviceWaitsRow.inPlace==Tryz.prog.inPlace 5)=true:=by kernel_rfl
set_option maxRecDepth 100000 in
theorem zAn:(Rows.serviceWaitsRow.unfollowed==Tryz.prog.unfollowed 5)=true:=by kernel_rfl
set_option maxRecDepth 100000 in
theorem zAo:(Rows.serviceWaitsRow.recurses==Tryz.prog.recurses 5)=true:=by kernel_rfl
set_option maxRecDepth 100000 in
theorem zAp:(Rows.serviceWaitsRow.named==Tryz.prog.varsNamed 5)=true:=by kernel_rfl
set_option maxRecDepth 100000 in
theorem zAq:(Rows.serviceWaitsRow.loops==(Tryz.f5.params.toList++Rows.serviceWaitsSpec.plain.varTypes Tryz.prog).any (Tryz.prog.loopsFrom ·))=true:=by kernel_rfl
set_option maxRecDepth 100000 in
theorem zAr:Rows.serviceWaitsRow.wf (OpenSpec.ofChange Rows.serviceWaitsSpec)=true:=by kernel_rfl
set_option maxRecDepth 100000 in
theorem zAs:Tryz.f5.params.all (Tryz.prog.readableRec ·)=true:=by kernel_rfl
set_option maxRecDepth 100000 in
theorem zAt:(Rows.serviceWaitsRow.maps==(Tryz.f5.params.toList++Rows.serviceWaitsSpec.plain.varTypes Tryz.prog).any (Tryz.prog.mapsRec ·))=true:=by kernel_rfl
set_option maxRecDepth 100000 in
theorem zAu:(Rows.serviceWaitsRow.ifaces==(Tryz.f5.params.toList++Rows.serviceWaitsSpec.plain.varTypes Tryz.prog).any (Tryz.prog.ifacesRec ·))=true:=by kernel_rfl
set_option maxRecDepth 100000 in
theorem zxL:joinedFacts Tryz.prog 5 Tryz.f5 Rows.serviceWaitsSpec Rows.serviceWaitsRow=true:=by
 unfold joinedFacts;exact (zbe (zbe (zbe (zbe (zbe (zbe (zbe (zbe (zbe (zbe (zbe (zbe (zbe (zbe (zbe (zbe (zbe (zbe (zbe (zbe (zbe (zbe (zbe (zbe (zbe (zbe (zbe (zbe (zbe (zbe (zbe zAr zgR) zpo) zAs) (by kernel_rfl)) rfl) zma) rfl) zmb) zAm) zAn) zAo) zAp) zAt) zAu) (by kernel_rfl)) zAq) (by kernel_rfl)) (by kernel_rfl)) (by kernel_rfl)) (by kernel_rfl)) (by kernel_rfl)) zmc) rfl) zmd) zme) zpp) zpq) (by kernel_rfl)) (by kernel_rfl)) (by kernel_rfl)) (by kernel_rfl))
set_option maxRecDepth 100000 in
theorem waits_holds:Rows.ServiceWaitsSaid:=
 OpenClaim.holds_of_wide 5 Tryz.f5 rfl rfl rfl rfl rfl rfl rfl ⟨rfl,rfl,rfl,rfl,rfl⟩ rfl rfl rfl rfl rfl (by kernel_rfl) Tryz.func5 zxL
  (of_decide_eq_true (by kernel_rfl)) (by unfold Func.isWrapper; first | (rw [if_pos (by decide +kernel)]; kernel_rfl) | (rw [if_neg (by decide +kernel)]; exact ⟨rfl,rfl⟩))
  (fun os started H enc _=>by
   show ReturnsInHanded {} Tryz.checked os 5 .any (Rows.serviceWaitsSpec.pre6 enc Tryz.prog Tryz.f5 Rows.serviceWaitsRow.domain false) (Rows.serviceWaitsSpec.post enc Tryz.prog Tryz.f5 false true false false);refine returnsInHanded_of_change_shaped (C:=Tryz.checked) own started (by kernel_rfl) Tryz.func5
    (ChangeSpec.witness6 (enc:=enc) (C:=Tryz.checked) false ⟨#[],#[.agg #[.slice none 0 0,.slice none 0 0],.agg #[.slice none 0 0,.slice none 0 0,.slice none 0 0],.slice none 0 0],[]⟩ 5 (by kernel_rfl) (by kernel_rfl) (by kernel_rfl) (by kernel_rfl)) ?_
   intro W base args ds gs before hval hW _ _ hsh _;exact zfS (C:=Tryz.checked) zl9 zgR rfl (tb:=4) (by kernel_rfl) Tryz.underlying4 (by rw [Tryz.params5]; decide +kernel) (fun H ds hd=>by
    match ds,hd with
    | [_,_,_],_=>rfl) (by rw [Tryz.params5]; exact zkN)
    (zl8 (S:=zgt) (zbc (zbc (zbc zl7))) (fun z vs x hx=>i5.ok _ (zs5 x.1 x.2.1 x.2.2.1 (linesIn hx)))) (zjp hsh) hval hW)
end Go.Proofs.YtppebpagcocogaaGreat
