/- The statement ServiceLast holds,for every input; no condition. -/
import Derived.Test.YtppebpagcocogaaGreatS11
import Derived.Test.YtppebpagcocogaaGreatD5FLastC
import Derived.Test.YtppebpagcocogaaGreatWalkServiceLastC
set_option linter.unusedSimpArgs false
set_option linter.unusedVariables false
set_option linter.unusedSectionVars false
namespace Go.Proofs.YtppebpagcocogaaGreat
open Go Go.Ai Go.Ai.Sx Go.Ai.TabYtppebpagcocogaaGreat

def zg0:zqn (Plan×Service×(List Works)×Works×Int×Bool×Int×Unit):=zeO zaf (zeO zac (zeO (zf zcu) (zeO zcu (zeO (zj .i64) (zeO zab (zeO (zj .i64) zxY))))))
theorem zmH:zi2 Tryz.prog [25,50,68,70,3,4,3] zg0:=z7 o25 (by kernel_rfl) (z7 o50 (by kernel_rfl) (z7 o68 (by kernel_rfl) (z7 o70 (by kernel_rfl) (z7 o3 (by kernel_rfl) (z7 o4 (by kernel_rfl) (z7 o3 (by kernel_rfl) zhc))))))

theorem linesIn {z:Store} {vs:List ze} {x:Plan×Service×(List Works)×Works×Int×Bool×Int×Unit} (h:zg0.rel z vs x):x.2.1.1.length≤9223372036854775807:=by
 obtain ⟨_,_,_,_,_,_,_,h2,_⟩:=h;obtain ⟨_,_,_,⟨_,_,h3⟩,_⟩:=h2.rel;exact h3.1

set_option maxRecDepth 100000 in
theorem zAx:(Rows.serviceLastRow.inPlace==Tryz.prog.inPlace 7)=true:=by kernel_rfl
set_option maxRecDepth 100000 in
theorem zAy:(Rows.serviceLastRow.unfollowed==Tryz.prog.unfollowed 7)=true:=by kernel_rfl
set_option maxRecDepth 100000 in
theorem zAz:(Rows.serviceLastRow.recurses==Tryz.prog.recurses 7)=true:=by kernel_rfl
set_option maxRecDepth 100000 in
theorem zAA:(Rows.serviceLastRow.named==Tryz.prog.varsNamed 7)=true:=by kernel_rfl
set_option maxRecDepth 100000 in
theorem zAB:(Rows.serviceLastRow.loops==(Tryz.f7.params.toList++Rows.serviceLastSpec.plain.varTypes Tryz.prog).any (Tryz.prog.loopsFrom ·))=true:=by kernel_rfl
set_option maxRecDepth 100000 in
theorem zAC:Rows.serviceLastRow.wf (OpenSpec.ofChange Rows.serviceLastSpec)=true:=by kernel_rfl
set_option maxRecDepth 100000 in
theorem zAD:Tryz.f7.params.all (Tryz.prog.readableRec ·)=true:=by kernel_rfl
set_option maxRecDepth 100000 in
theorem zAE:(Rows.serviceLastRow.maps==(Tryz.f7.params.toList++Rows.serviceLastSpec.plain.varTypes Tryz.prog).any (Tryz.prog.mapsRec ·))=true:=by kernel_rfl
set_option maxRecDepth 100000 in
theorem zAF:(Rows.serviceLastRow.ifaces==(Tryz.f7.params.toList++Rows.serviceLastSpec.plain.varTypes Tryz.prog).any (Tryz.prog.ifacesRec ·))=true:=by kernel_rfl
set_option maxRecDepth 100000 in
theorem zxR:joinedFacts Tryz.prog 7 Tryz.f7 Rows.serviceLastSpec Rows.serviceLastRow=true:=by
 unfold joinedFacts;exact (zbe (zbe (zbe (zbe (zbe (zbe (zbe (zbe (zbe (zbe (zbe (zbe (zbe (zbe (zbe (zbe (zbe (zbe (zbe (zbe (zbe (zbe (zbe (zbe (zbe (zbe (zbe (zbe (zbe (zbe (zbe zAC zgR) zpo) zAD) (by kernel_rfl)) rfl) zma) rfl) zmb) zAx) zAy) zAz) zAA) zAE) zAF) (by kernel_rfl)) zAB) (by kernel_rfl)) (by kernel_rfl)) (by kernel_rfl)) (by kernel_rfl)) (by kernel_rfl)) zmc) rfl) zmd) zme) zpp) zpq) (by kernel_rfl)) (by kernel_rfl)) (by kernel_rfl)) (by kernel_rfl))
set_option maxRecDepth 100000 in
theorem last_holds:Rows.ServiceLastSaid:=
 OpenClaim.holds_of_wide 7 Tryz.f7 rfl rfl rfl rfl rfl rfl rfl ⟨rfl,rfl,rfl,rfl,rfl⟩ rfl rfl rfl rfl rfl (by kernel_rfl) Tryz.func7 zxR
  (of_decide_eq_true (by kernel_rfl)) (by unfold Func.isWrapper; first | (rw [if_pos (by decide +kernel)]; kernel_rfl) | (rw [if_neg (by decide +kernel)]; exact ⟨rfl,rfl⟩))
  (fun os started H enc _=>by
   show ReturnsInHanded {} Tryz.checked os 7 .any (Rows.serviceLastSpec.pre6 enc Tryz.prog Tryz.f7 Rows.serviceLastRow.domain false) (Rows.serviceLastSpec.post enc Tryz.prog Tryz.f7 false true false false);refine returnsInHanded_of_change_shaped (C:=Tryz.checked) own started (by kernel_rfl) Tryz.func7
    (ChangeSpec.witness6 (enc:=enc) (C:=Tryz.checked) false ⟨#[],#[.agg #[.slice none 0 0,.slice none 0 0],.agg #[.slice none 0 0,.slice none 0 0,.slice none 0 0],.slice none 0 0,.agg #[.int .i64 0,.int .i64 0,.int .i64 0],.int .i64 0,.bool false,.int .i64 0],[]⟩ 7 (by kernel_rfl) (by kernel_rfl) (by kernel_rfl) (by kernel_rfl)) ?_
   intro W base args ds gs before hval hW _ _ hsh _;exact zfS (C:=Tryz.checked) zl9 zgR rfl (tb:=4) (by kernel_rfl) Tryz.underlying4 (by rw [Tryz.params7]; decide +kernel) (fun H ds hd=>by
    match ds,hd with
    | [_,_,_,_,_,_,_],_=>rfl) (by rw [Tryz.params7]; exact zmH)
    (zl8 (S:=zg0) (zbc (zbc (zbc (zbc (zbc (zbc (zbc zl7))))))) (fun z vs x hx=>i7.ok _ (zvo x.1 x.2.1 x.2.2.1 x.2.2.2.1 x.2.2.2.2.1 x.2.2.2.2.2.1 x.2.2.2.2.2.2.1 (linesIn hx)))) (zjp hsh) hval hW)
end Go.Proofs.YtppebpagcocogaaGreat
