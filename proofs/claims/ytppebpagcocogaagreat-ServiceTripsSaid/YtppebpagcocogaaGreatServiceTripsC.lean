/- The statement ServiceTrips holds,for every input; no condition. -/
import Derived.Test.YtppebpagcocogaaGreatT11
import Derived.Test.YtppebpagcocogaaGreatD5FTripsC
import Derived.Test.YtppebpagcocogaaGreatWalkServiceTripsC
set_option linter.unusedSimpArgs false
set_option linter.unusedVariables false
set_option linter.unusedSectionVars false
namespace Go.Proofs.YtppebpagcocogaaGreat
open Go Go.Ai Go.Ai.Sx Go.Ai.TabYtppebpagcocogaaGreat
def zgl:zrf (Plan×Service×(List Works)×Int×Int×Unit):=zlQ zaZ (zlQ zcb (zlQ (zf zbs) (zlQ (zj .i64) (zlQ (zj .i64) zzm))))
theorem zkt:zkY Tryz.prog [25,50,68,3,3] zgl:=zdM o25 (by kernel_rfl) (zdM o50 (by kernel_rfl) (zdM o68 (by kernel_rfl) (zdM o3 (by kernel_rfl) (zdM o3 (by kernel_rfl) zkZ))))
theorem zxt {z:Store} {vs:List zd} {x:Plan×Service×(List Works)×Int×Int×Unit} (h:zgl.rel z vs x):x.2.1.1.length<=9223372036854775807:=by
 obtain ⟨_,_,_,_,_,_,_,h2,_⟩:=h;obtain ⟨_,_,_,⟨_,_,h3⟩,_⟩:=h2.rel;exact h3.1
set_option maxRecDepth 100000 in
theorem zy7:(Rows.serviceTripsRow.inPlace==Tryz.prog.inPlace 12)=true:=by kernel_rfl
set_option maxRecDepth 100000 in
theorem zy8:(Rows.serviceTripsRow.unfollowed==Tryz.prog.unfollowed 12)=true:=by kernel_rfl
set_option maxRecDepth 100000 in
theorem zy9:(Rows.serviceTripsRow.recurses==Tryz.prog.recurses 12)=true:=by kernel_rfl
set_option maxRecDepth 100000 in
theorem zza:(Rows.serviceTripsRow.named==Tryz.prog.varsNamed 12)=true:=by kernel_rfl
set_option maxRecDepth 100000 in
theorem zzb:(Rows.serviceTripsRow.loops==(Tryz.f12.params.toList++Rows.serviceTripsSpec.plain.varTypes Tryz.prog).any (Tryz.prog.loopsFrom ·))=true:=by kernel_rfl
set_option maxRecDepth 100000 in
theorem zzc:Rows.serviceTripsRow.wf (OpenSpec.ofChange Rows.serviceTripsSpec)=true:=by kernel_rfl
set_option maxRecDepth 100000 in
theorem zzd:Tryz.f12.params.all (Tryz.prog.readableRec ·)=true:=by kernel_rfl
set_option maxRecDepth 100000 in
theorem zze:(Rows.serviceTripsRow.maps==(Tryz.f12.params.toList++Rows.serviceTripsSpec.plain.varTypes Tryz.prog).any (Tryz.prog.mapsRec ·))=true:=by kernel_rfl
set_option maxRecDepth 100000 in
theorem zzf:(Rows.serviceTripsRow.ifaces==(Tryz.f12.params.toList++Rows.serviceTripsSpec.plain.varTypes Tryz.prog).any (Tryz.prog.ifacesRec ·))=true:=by kernel_rfl
set_option maxRecDepth 100000 in
theorem zuX:joinedFacts Tryz.prog 12 Tryz.f12 Rows.serviceTripsSpec Rows.serviceTripsRow=true:=by
 unfold joinedFacts;exact (zdY (zdY (zdY (zdY (zdY (zdY (zdY (zdY (zdY (zdY (zdY (zdY (zdY (zdY (zdY (zdY (zdY (zdY (zdY (zdY (zdY (zdY (zdY (zdY (zdY (zdY (zdY (zdY (zdY (zdY (zdY zzc zlR) zvb) zzd) (by kernel_rfl)) rfl) zrw) rfl) zrx) zy7) zy8) zy9) zza) zze) zzf) (by kernel_rfl)) zzb) (by kernel_rfl)) (by kernel_rfl)) (by kernel_rfl)) (by kernel_rfl)) (by kernel_rfl)) zry) rfl) zrz) zrA) zvc) zvd) (by kernel_rfl)) (by kernel_rfl)) (by kernel_rfl)) (by kernel_rfl))
set_option maxRecDepth 100000 in
theorem trips_holds:Rows.ServiceTripsSaid:=
 OpenClaim.holds_of_wide 12 Tryz.f12 rfl rfl rfl rfl rfl rfl rfl ⟨rfl,rfl,rfl,rfl,rfl⟩ rfl rfl rfl rfl rfl (by kernel_rfl) Tryz.func12 zuX
  (of_decide_eq_true (by kernel_rfl)) (by unfold Func.isWrapper; first | (rw [if_pos (by decide +kernel)]; kernel_rfl) | (rw [if_neg (by decide +kernel)]; exact ⟨rfl,rfl⟩))
  (λos started H enc _=>by
   show ReturnsInHanded {} Tryz.checked os 12 .any (Rows.serviceTripsSpec.pre6 enc Tryz.prog Tryz.f12 Rows.serviceTripsRow.domain false) (Rows.serviceTripsSpec.post enc Tryz.prog Tryz.f12 false true false false);refine returnsInHanded_of_change_shaped (C:=Tryz.checked) own started (by kernel_rfl) Tryz.func12
    (ChangeSpec.witness6 (enc:=enc) (C:=Tryz.checked) false ⟨#[],#[.agg #[.slice none 0 0,.slice none 0 0],.agg #[.slice none 0 0,.slice none 0 0,.slice none 0 0],.slice none 0 0,.int .i64 0,.int .i64 0],[]⟩ 12 (by kernel_rfl) (by kernel_rfl) (by kernel_rfl) (by kernel_rfl)) ?_
   intro W base args ds gs before hval hW _ _ hsh _;exact ziL (C:=Tryz.checked) zrq zlR rfl (tb:=4) (by kernel_rfl) Tryz.underlying4 (by rw [Tryz.params12]; decide +kernel) (λH ds hd=>by
    match ds,hd with
    | [_,_,_,_,_],_=>rfl) (by rw [Tryz.params12]; exact zkt)
    (zrh (S:=zgl) (zgf (zgf (zgf (zgf (zgf zrg))))) (λz vs x hx=>i12.ok _ (zsQ x.1 x.2.1 x.2.2.1 x.2.2.2.1 x.2.2.2.2.1 (zxt hx)))) (zoY hsh) hval hW)
end Go.Proofs.YtppebpagcocogaaGreat