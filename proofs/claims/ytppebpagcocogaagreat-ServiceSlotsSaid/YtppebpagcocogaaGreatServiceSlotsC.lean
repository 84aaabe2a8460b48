/- The statement ServiceSlots holds,for every input; no condition. -/
import Derived.Test.YtppebpagcocogaaGreatS11
import Derived.Test.YtppebpagcocogaaGreatD5FSlotsC
import Derived.Test.YtppebpagcocogaaGreatWalkServiceSlotsC
set_option linter.unusedSimpArgs false
set_option linter.unusedVariables false
set_option linter.unusedSectionVars false
namespace Go.Proofs.YtppebpagcocogaaGreat
open Go Go.Ai Go.Ai.Sx Go.Ai.TabYtppebpagcocogaaGreat

def zgu:zqn (Plan×Service×Int×Bool×Int×Int×Int×Unit):=zeO zaf (zeO zac (zeO (zj .i64) (zeO zab (zeO (zj .i64) (zeO (zj .i64) (zeO (zj .i64) zxY))))))
theorem zkO:zi2 Tryz.prog [25,50,3,4,3,3,3] zgu:=z7 o25 (by kernel_rfl) (z7 o50 (by kernel_rfl) (z7 o3 (by kernel_rfl) (z7 o4 (by kernel_rfl) (z7 o3 (by kernel_rfl) (z7 o3 (by kernel_rfl) (z7 o3 (by kernel_rfl) zhc))))))

theorem linesIn {z:Store} {vs:List ze} {x:Plan×Service×Int×Bool×Int×Int×Int×Unit} (h:zgu.rel z vs x):x.2.1.1.length≤9223372036854775807:=by
 obtain ⟨_,_,_,_,_,_,_,h2,_⟩:=h;obtain ⟨_,_,_,⟨_,_,h3⟩,_⟩:=h2.rel;exact h3.1

set_option maxRecDepth 100000 in
theorem zzc:(Rows.serviceSlotsRow.inPlace==Tryz.prog.inPlace 10)=true:=by kernel_rfl
set_option maxRecDepth 100000 in
theorem zzd:(Rows.serviceSlotsRow.unfollowed==Tryz.prog.unfollowed 10)=true:=by kernel_rfl
set_option maxRecDepth 100000 in
theorem zze:(Rows.serviceSlotsRow.recurses==Tryz.prog.recurses 10)=true:=by kernel_rfl
set_option maxRecDepth 100000 in
theorem zzf:(Rows.serviceSlotsRow.named==Tryz.prog.varsNamed 10)=true:=by kernel_rfl
set_option maxRecDepth 100000 in
theorem zzg:(Rows.serviceSlotsRow.loops==(Tryz.f10.params.toList++Rows.serviceSlotsSpec.plain.varTypes Tryz.prog).any (Tryz.prog.loopsFrom ·))=true:=by kernel_rfl
set_option maxRecDepth 100000 in
theorem zzh:Rows.serviceSlotsRow.wf (OpenSpec.ofChange Rows.serviceSlotsSpec)=true:=by kernel_rfl
set_option maxRecDepth 100000 in
theorem zzi:Tryz.f10.params.all (Tryz.prog.readableRec ·)=true:=by kernel_rfl
set_option maxRecDepth 100000 in
theorem zzj:(Rows.serviceSlotsRow.maps==(Tryz.f10.params.toList++Rows.serviceSlotsSpec.plain.varTypes Tryz.prog).any (Tryz.prog.mapsRec ·))=true:=by kernel_rfl
set_option maxRecDepth 100000 in
theorem zzk:(Rows.serviceSlotsRow.ifaces==(Tryz.f10.params.toList++Rows.serviceSlotsSpec.plain.varTypes Tryz.prog).any (Tryz.prog.ifacesRec ·))=true:=by kernel_rfl
set_option maxRecDepth 100000 in
theorem zvk:joinedFacts Tryz.prog 10 Tryz.f10 Rows.serviceSlotsSpec Rows.serviceSlotsRow=true:=by
 unfold joinedFacts;exact (zbe (zbe (zbe (zbe (zbe (zbe (zbe (zbe (zbe (zbe (zbe (zbe (zbe (zbe (zbe (zbe (zbe (zbe (zbe (zbe (zbe (zbe (zbe (zbe (zbe (zbe (zbe (zbe (zbe (zbe (zbe zzh zgR) zpo) zzi) (by kernel_rfl)) rfl) zma) rfl) zmb) zzc) zzd) zze) zzf) zzj) zzk) (by kernel_rfl)) zzg) (by kernel_rfl)) (by kernel_rfl)) (by kernel_rfl)) (by kernel_rfl)) (by kernel_rfl)) zmc) rfl) zmd) zme) zpp) zpq) (by kernel_rfl)) (by kernel_rfl)) (by kernel_rfl)) (by kernel_rfl))
set_option maxRecDepth 100000 in
theorem slots_holds:Rows.ServiceSlotsSaid:=
 OpenClaim.holds_of_wide 10 Tryz.f10 rfl rfl rfl rfl rfl rfl rfl ⟨rfl,rfl,rfl,rfl,rfl⟩ rfl rfl rfl rfl rfl (by kernel_rfl) Tryz.func10 zvk
  (of_decide_eq_true (by kernel_rfl)) (by unfold Func.isWrapper; first | (rw [if_pos (by decide +kernel)]; kernel_rfl) | (rw [if_neg (by decide +kernel)]; exact ⟨rfl,rfl⟩))
  (fun os started H enc _=>by
   show ReturnsInHanded {} Tryz.checked os 10 .any (Rows.serviceSlotsSpec.pre6 enc Tryz.prog Tryz.f10 Rows.serviceSlotsRow.domain false) (Rows.serviceSlotsSpec.post enc Tryz.prog Tryz.f10 false true false false);refine returnsInHanded_of_change_shaped (C:=Tryz.checked) own started (by kernel_rfl) Tryz.func10
    (ChangeSpec.witness6 (enc:=enc) (C:=Tryz.checked) false ⟨#[],#[.agg #[.slice none 0 0,.slice none 0 0],.agg #[.slice none 0 0,.slice none 0 0,.slice none 0 0],.int .i64 0,.bool false,.int .i64 0,.int .i64 0,.int .i64 0],[]⟩ 10 (by kernel_rfl) (by kernel_rfl) (by kernel_rfl) (by kernel_rfl)) ?_
   intro W base args ds gs before hval hW _ _ hsh _;exact zfS (C:=Tryz.checked) zl9 zgR rfl (tb:=4) (by kernel_rfl) Tryz.underlying4 (by rw [Tryz.params10]; decide +kernel) (fun H ds hd=>by
    match ds,hd with
    | [_,_,_,_,_,_,_],_=>rfl) (by rw [Tryz.params10]; exact zkO)
    (zl8 (S:=zgu) (zbc (zbc (zbc (zbc (zbc (zbc (zbc zl7))))))) (fun z vs x hx=>i10.ok _ (ztc x.1 x.2.1 x.2.2.1 x.2.2.2.1 x.2.2.2.2.1 x.2.2.2.2.2.1 x.2.2.2.2.2.2.1 (linesIn hx)))) (zjp hsh) hval hW)
end Go.Proofs.YtppebpagcocogaaGreat
