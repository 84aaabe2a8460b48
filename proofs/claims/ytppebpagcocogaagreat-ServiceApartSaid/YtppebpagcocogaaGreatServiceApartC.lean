/- The statement ServiceApart holds,for every input; no condition. -/
import Derived.Test.YtppebpagcocogaaGreatS11
import Derived.Test.YtppebpagcocogaaGreatD5FApartC
import Derived.Test.YtppebpagcocogaaGreatWalkServiceApartC
set_option linter.unusedSimpArgs false
set_option linter.unusedVariables false
set_option linter.unusedSectionVars false
namespace Go.Proofs.YtppebpagcocogaaGreat
open Go Go.Ai Go.Ai.Sx Go.Ai.TabYtppebpagcocogaaGreat

def zgw:zqn (Plan×Service×Int×Bool×Int×Int×Int×Unit):=zeO zaf (zeO zac (zeO (zj .i64) (zeO zab (zeO (zj .i64) (zeO (zj .i64) (zeO (zj .i64) zxY))))))
theorem zkP:zi2 Tryz.prog [25,50,3,4,3,3,3] zgw:=z7 o25 (by kernel_rfl) (z7 o50 (by kernel_rfl) (z7 o3 (by kernel_rfl) (z7 o4 (by kernel_rfl) (z7 o3 (by kernel_rfl) (z7 o3 (by kernel_rfl) (z7 o3 (by kernel_rfl) zhc))))))

theorem linesIn {z:Store} {vs:List ze} {x:Plan×Service×Int×Bool×Int×Int×Int×Unit} (h:zgw.rel z vs x):x.2.1.1.length≤9223372036854775807:=by
 obtain ⟨_,_,_,_,_,_,_,h2,_⟩:=h;obtain ⟨_,_,_,⟨_,_,h3⟩,_⟩:=h2.rel;exact h3.1

set_option maxRecDepth 100000 in
theorem zAH:(Rows.serviceApartRow.inPlace==Tryz.prog.inPlace 6)=true:=by kernel_rfl
set_option maxRecDepth 100000 in
theorem zAI:(Rows.serviceApartRow.unfollowed==Tryz.prog.unfollowed 6)=true:=by kernel_rfl
set_option maxRecDepth 100000 in
theorem zAJ:(Rows.serviceApartRow.recurses==Tryz.prog.recurses 6)=true:=by kernel_rfl
set_option maxRecDepth 100000 in
theorem zAK:(Rows.serviceApartRow.named==Tryz.prog.varsNamed 6)=true:=by kernel_rfl
set_option maxRecDepth 100000 in
theorem zAL:(Rows.serviceApartRow.loops==(Tryz.f6.params.toList++Rows.serviceApartSpec.plain.varTypes Tryz.prog).any (Tryz.prog.loopsFrom ·))=true:=by kernel_rfl
set_option maxRecDepth 100000 in
theorem zAM:Rows.serviceApartRow.wf (OpenSpec.ofChange Rows.serviceApartSpec)=true:=by kernel_rfl
set_option maxRecDepth 100000 in
theorem zAN:Tryz.f6.params.all (Tryz.prog.readableRec ·)=true:=by kernel_rfl
set_option maxRecDepth 100000 in
theorem zAO:(Rows.serviceApartRow.maps==(Tryz.f6.params.toList++Rows.serviceApartSpec.plain.varTypes Tryz.prog).any (Tryz.prog.mapsRec ·))=true:=by kernel_rfl
set_option maxRecDepth 100000 in
theorem zAP:(Rows.serviceApartRow.ifaces==(Tryz.f6.params.toList++Rows.serviceApartSpec.plain.varTypes Tryz.prog).any (Tryz.prog.ifacesRec ·))=true:=by kernel_rfl
set_option maxRecDepth 100000 in
theorem zxT:joinedFacts Tryz.prog 6 Tryz.f6 Rows.serviceApartSpec Rows.serviceApartRow=true:=by
 unfold joinedFacts;exact (zbe (zbe (zbe (zbe (zbe (zbe (zbe (zbe (zbe (zbe (zbe (zbe (zbe (zbe (zbe (zbe (zbe (zbe (zbe (zbe (zbe (zbe (zbe (zbe (zbe (zbe (zbe (zbe (zbe (zbe (zbe zAM zgR) zpo) zAN) (by kernel_rfl)) rfl) zma) rfl) zmb) zAH) zAI) zAJ) zAK) zAO) zAP) (by kernel_rfl)) zAL) (by kernel_rfl)) (by kernel_rfl)) (by kernel_rfl)) (by kernel_rfl)) (by kernel_rfl)) zmc) rfl) zmd) zme) zpp) zpq) (by kernel_rfl)) (by kernel_rfl)) (by kernel_rfl)) (by kernel_rfl))
set_option maxRecDepth 100000 in
theorem apart_holds:Rows.ServiceApartSaid:=
 OpenClaim.holds_of_wide 6 Tryz.f6 rfl rfl rfl rfl rfl rfl rfl ⟨rfl,rfl,rfl,rfl,rfl⟩ rfl rfl rfl rfl rfl (by kernel_rfl) Tryz.func6 zxT
  (of_decide_eq_true (by kernel_rfl)) (by unfold Func.isWrapper; first | (rw [if_pos (by decide +kernel)]; kernel_rfl) | (rw [if_neg (by decide +kernel)]; exact ⟨rfl,rfl⟩))
  (fun os started H enc _=>by
   show ReturnsInHanded {} Tryz.checked os 6 .any (Rows.serviceApartSpec.pre6 enc Tryz.prog Tryz.f6 Rows.serviceApartRow.domain false) (Rows.serviceApartSpec.post enc Tryz.prog Tryz.f6 false true false false);refine returnsInHanded_of_change_shaped (C:=Tryz.checked) own started (by kernel_rfl) Tryz.func6
    (ChangeSpec.witness6 (enc:=enc) (C:=Tryz.checked) false ⟨#[],#[.agg #[.slice none 0 0,.slice none 0 0],.agg #[.slice none 0 0,.slice none 0 0,.slice none 0 0],.int .i64 0,.bool false,.int .i64 0,.int .i64 0,.int .i64 0],[]⟩ 6 (by kernel_rfl) (by kernel_rfl) (by kernel_rfl) (by kernel_rfl)) ?_
   intro W base args ds gs before hval hW _ _ hsh _;exact zfS (C:=Tryz.checked) zl9 zgR rfl (tb:=4) (by kernel_rfl) Tryz.underlying4 (by rw [Tryz.params6]; decide +kernel) (fun H ds hd=>by
    match ds,hd with
    | [_,_,_,_,_,_,_],_=>rfl) (by rw [Tryz.params6]; exact zkP)
    (zl8 (S:=zgw) (zbc (zbc (zbc (zbc (zbc (zbc (zbc zl7))))))) (fun z vs x hx=>i6.ok _ (ztj x.1 x.2.1 x.2.2.1 x.2.2.2.1 x.2.2.2.2.1 x.2.2.2.2.2.1 x.2.2.2.2.2.2.1 (linesIn hx)))) (zjp hsh) hval hW)
end Go.Proofs.YtppebpagcocogaaGreat
