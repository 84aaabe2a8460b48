/- Service: the law of slots. -/
import Derived.Test.YtppebpagcocogaaGreatD5ServLC
set_option linter.unusedSimpArgs false
set_option linter.unusedVariables false
set_option linter.unusedSectionVars false
namespace Go.Ai.Sx
open Option renaming bind->Zb,bind_some->Zs
def zA2 {ρ:Type} (r:Nat->ρ):Option Nat->Unit⊕ρ
 | some k=>.inr (r k)
 | none=>.inl ()
theorem znZ {ρ:Type} {f:Int->Option (Int⊕(Unit⊕ρ))} (a:Int) (N:Nat) (g:Nat->Bool) (r:Nat->ρ) (hN:N<big) (hf:∀ k:Nat,k<N->f (a+k)=some (if g k then .inr (.inr (r k)) else .inl (a+((k+1:Nat):Int)))) (he:f (a+N)=some (.inr (.inl ()))) {o:Option Nat} (ho:(List.range N).find? g=o):iter f big a=some (zA2 r o):=by
 subst ho;have key:∀ k i:Nat,i+k=N->Lp f k (a+i) (zA2 r ((List.range' i k).find? g)):=by
  intro k;induction k with
  | zero=>
   intro i hi;have:i=N:=by omega
   subst this;exact Lp.done he
  | succ k ih=>
   intro i hi;rw [List.range'_succ,List.find?_cons];have h1:=hf i (by omega);cases hg:g i with
   | true=>
    rw [hg,if_pos rfl] at h1;exact Lp.done h1
   | false=>
    rw [hg,if_neg (by decide)] at h1;exact Lp.step h1 (ih (i+1) (by omega))
 have:=(key N 0 (by omega)).big hN;rw [← List.range_eq_range',show a+((0:Nat):Int)=a by omega] at this;exact this
def lnI (s:Service) (i:Int):Line:=s.1.getD i.toNat L0
def zpY (p:Plan) (s:Service) (line f gap:Int):Bool:=zkD p s&&(inB line 0 (s.1.length-1)&&(inB f 100 400&&inB gap 1 3600))
theorem zgd {p:Plan} {s:Service} (H:zva p s) (line f gap:Int):za9 p s line f gap=some (if zpY p s line f gap=true then (some (rnS p (lnI s line)),true) else (none,false)):=by
 unfold za9 zpY;have hn:=H.n;rw [zeF H,Zs];cases hB:zkD p s with
 | false=>rfl
 | true=>
 have hl:=(zqB hB).n;simp only [if_true,Bool.not_true,cond_false,zdU,Zs,Bool.true_and];rw [zm,zd (by omega) (by omega)];cases h1:inB line 0 ((s.1.length:Int)-1) with
 | false=>rfl
 | true=>
 cases h2:inB f 100 400 with
 | false=>rfl
 | true=>
 cases h3:inB gap 1 3600 with
 | false=>rfl
 | true=>
 have h1:=zD.1 h1;have e:=zlu (p:=p) (ls:=s.1) (i:=line) (by omega);simp only [Bool.not_true,cond_false,Zs,e];rfl
structure zAv (p:Plan) (s:Service) (line f gap:Int):Prop where
 V:zy8 p s
 l:0≤line∧line<s.1.length
 f:100≤f∧f≤400
 g:1≤gap∧gap≤3600
theorem zvQ {p:Plan} {s:Service} {line f gap:Int} (h:zpY p s line f gap=true):zAv p s line f gap:=by
 unfold zpY at h;simp only [Bool.and_eq_true] at h;have h1:=zD.1 h.2.1;exact ⟨zqB h.1,by omega,zD.1 h.2.2.1,zD.1 h.2.2.2⟩
section
variable {p:Plan} {s:Service} (H:zva p s) {line f gap:Int} (S:zAv p s line f gap)
include H S
def frS (p:Plan) (s:Service) (line:Int) (home:Bool) (f gap D:Int):Bool:=zqF p (lnI s line) home (hd0 s line.toNat) (of0 s line.toNat) f gap D
def zkx (p:Plan) (s:Service) (line:Int) (home:Bool) (f gap D:Int):Option Nat:=(List.range 7201).find? fun k:Nat=>frS p s line home f gap (D+(k:Int))
theorem slK:zpO p (lnI s line):=lnK S.V H (i:=line.toNat) (by have:=S.l; omega)
theorem zs7:idx s.2.1 line=some (hd0 s line.toNat)∧idx s.2.2.1 line=some (of0 s line.toNat)∧idx s.1 line=some (lnI s line):=by
 have h1:=S.l;have h2:=S.V.h;have h3:=S.V.o;exact ⟨za1 (by omega) (by omega),za1 (by omega) (by omega),za1 (by omega) (by omega)⟩
theorem zs8:(30≤hd0 s line.toNat∧hd0 s line.toNat≤7200)∧(0≤of0 s line.toNat∧of0 s line.toNat≤100000):=by
 have h1:=S.l;have h2:=S.V.hb line.toNat (by omega);have h3:=S.V.ob line.toNat (by omega);omega
theorem zvj (home:Bool) {D:Int} (hD:0≤D∧D≤207200) (hs:zpY p s line f gap=true):zcI p s line home D f gap=some (frS p s line home f gap D,0):=by
 obtain ⟨a1,a2,a3⟩:=zs7 H S;obtain ⟨b1,b2⟩:=zs8 H S;unfold zcI;rw [zgd H,if_pos hs,Zs];simp only [Bool.not_true,cond_false,zdU,zD.2 hD,Zs,ziN,a1,a2,zs6 (slK H S) b1 b2 S.f S.g (show 0≤D∧D≤1000000 by omega)];rfl
theorem zpZ (home:Bool) {D:Int} (hD:0≤D∧D≤200000) (hs:zpY p s line f gap=true):zaV p s line home D f gap=some (match zkx p s line home f gap D with | some k=>(D+k,0) | none=>(0,4)):=by
 obtain ⟨a1,a2,a3⟩:=zs7 H S;obtain ⟨b1,b2⟩:=zs8 H S;unfold zaV;rw [zgd H,if_pos hs,Zs];simp only [Bool.not_true,cond_false,zdU,zD.2 hD,Zs,ziN,a1,a2];rw [znZ (ρ:=Int×Int) D 7201 (fun k:Nat=>frS p s line home f gap (D+(k:Int))) (fun k:Nat=>(D+(k:Int),0)) (by simp only [big]; omega) ?hf ?he (o:=zkx p s line home f gap D) (by unfold zkx; rfl)]
 ·rw [Zs];cases zkx p s line home f gap D<;>rfl
 case hf=>
  intro k hk;rw [zd (n:=D+7200) (by omega) (by omega),decide_eq_true (by omega),cond_true,zs6 (slK H S) b1 b2 S.f S.g (show 0≤D+(k:Int)∧D+(k:Int)≤1000000 by omega),Zs,zd (n:=D+(k:Int)+1) (by omega) (by omega),show D+((k+1:Nat):Int)=D+k+1 by omega];show cond (frS p s line home f gap (D+k)) _ _=_;cases frS p s line home f gap (D+k)<;>rfl
 case he=>rw [zd (n:=D+7200) (by omega) (by omega),decide_eq_false (by omega),cond_false]
theorem zs9 (home:Bool) {D:Int} (hD:0≤D∧D≤207200):zeZ p s line home D f gap=some (frS p s line home f gap D):=by
 obtain ⟨a1,a2,a3⟩:=zs7 H S;obtain ⟨b1,b2⟩:=zs8 H S;have hl:=S.l;have hi:line.toNat<s.1.length:=by omega
 have hp:=zbY S.V.v;have hB:=zhj S.V H hi home;rw [Int.toNat_of_nonneg hl.1] at hB;have hO:=zvc S.V H hi home;have hX:=znX (csO (home:=home) (slK H S)) S.f hp ((H.l _ hi).c S.V.v home);have hF:=zpX (home:=home) (slK H S) b1 b2 S.f S.g (show 0≤D∧D≤1000000 by omega);unfold zeZ;simp only [a3,Zs,a1,hX,hB];rw [show zX p (lnI s line) home=some (zfF (msC p (lnI s line) (zI (lnI s line) home)) (zI (lnI s line) home)) from hO];simp only [Zs];rw [show zcX (exL (msC p (lnI s line) (zI (lnI s line) home)) (zI (lnI s line) home) f) (zfF (msC p (lnI s line) (zI (lnI s line) home)) (zI (lnI s line) home)) (zfG p (ln0 s line.toNat) home (hd0 s line.toNat) (of0 s line.toNat)) (hd0 s line.toNat) D gap=_ from hF];rfl
theorem zta (home:Bool) {D:Int} (hD:0≤D∧D≤200000):ze0 p s line home D f gap=some (match zkx p s line home f gap D with | some k=>(D+k,true) | none=>(0,false)):=by
 obtain ⟨a1,a2,a3⟩:=zs7 H S;obtain ⟨b1,b2⟩:=zs8 H S;have hl:=S.l;have hi:line.toNat<s.1.length:=by omega
 have hp:=zbY S.V.v;have hB:=zhj S.V H hi home;rw [Int.toNat_of_nonneg hl.1] at hB;have hO:=zvc S.V H hi home;have hX:=znX (csO (home:=home) (slK H S)) S.f hp ((H.l _ hi).c S.V.v home);unfold ze0;simp only [a3,Zs,a1,hX,hB];rw [show zX p (lnI s line) home=some (zfF (msC p (lnI s line) (zI (lnI s line) home)) (zI (lnI s line) home)) from hO];simp only [Zs];rw [znZ (ρ:=Int×Bool) D 7201 (fun k:Nat=>frS p s line home f gap (D+(k:Int))) (fun k:Nat=>(D+(k:Int),true)) (by simp only [big]; omega) ?hf ?he (o:=zkx p s line home f gap D) (by unfold zkx; rfl)]
 ·rw [Zs];cases zkx p s line home f gap D<;>rfl
 case hf=>
  intro k hk;have hF:=zpX (home:=home) (slK H S) b1 b2 S.f S.g (show 0≤D+(k:Int)∧D+(k:Int)≤1000000 by omega);rw [zd (n:=D+7200) (by omega) (by omega),decide_eq_true (by omega),cond_true];rw [show zcX (exL (msC p (lnI s line) (zI (lnI s line) home)) (zI (lnI s line) home) f) (zfF (msC p (lnI s line) (zI (lnI s line) home)) (zI (lnI s line) home)) (zfG p (ln0 s line.toNat) home (hd0 s line.toNat) (of0 s line.toNat)) (hd0 s line.toNat) (D+k) gap=_ from hF];rw [Zs,zd (n:=D+(k:Int)+1) (by omega) (by omega),show D+((k+1:Nat):Int)=D+k+1 by omega];show cond (frS p s line home f gap (D+k)) _ _=_;cases frS p s line home f gap (D+k)<;>rfl
 case he=>rw [zd (n:=D+7200) (by omega) (by omega),decide_eq_false (by omega),cond_false]
end
theorem zhm {A:Prop} [Decidable A] {x:Option Bool} {Q:Prop} (h:∃ b,x=some b∧(b=false↔Q)):∃ b,cond (decide A) (some true) x=some b∧(b=false↔¬ A∧Q):=by
 by_cases hA:A
 ·rw [decide_eq_true hA];exact ⟨true,rfl,by simp [hA]⟩
 ·rw [decide_eq_false hA];obtain ⟨b,h1,h2⟩:=h;exact ⟨b,h1,by rw [h2]; simp [hA]⟩
theorem ztb (hk:zu=some true) (p:Plan) (s:Service) (line:Int) (home:Bool) (D f gap:Int) (hs:s.1.length≤9223372036854775807):zb4 p s line home D f gap=some true:=by
 unfold zb4;obtain ⟨b,e,q⟩:=zmC p s hs;rw [e,Zs,hk];cases b with
 | false=>rfl
 | true=>
 have F:=q rfl;have H:=F.sv;have hn:=F.n;simp only [Bool.not_true,cond_false,zgs H,Zs];obtain ⟨c15,g1,g2⟩:∃ c15,(cond (!zkD p s) (some true) (cond (decide (line<0)) (some true) (cond (decide (line≥(zn s.1))) (some true) (cond (decide (f<100)) (some true) (cond (decide (f>400)) (some true) (cond (decide (gap<1)) (some true) (cond (decide (gap>3600)) (some true) (cond (decide (D<0)) (some true) (some (decide (D>207200)))))))))))=some c15∧(c15=false↔(zpY p s line f gap=true∧0≤D∧D≤207200)):=by
  cases hB:zkD p s with
  | false=>
   refine ⟨true,rfl, ?_⟩;unfold zpY;rw [hB];simp
  | true=>
  have hz:∃ b,(some (decide (D>207200)):Option Bool)=some b∧(b=false↔¬ D>207200):=⟨_,rfl,by simp⟩;obtain ⟨b,h1,h2⟩:=zhm (A:=line<0) (zhm (A:=line≥zn s.1) (zhm (A:=f<100) (zhm (A:=f>400) (zhm (A:=gap<1) (zhm (A:=gap>3600) (zhm (A:=D<0) hz))))));refine ⟨b,h1, ?_⟩;rw [h2];unfold zpY;rw [hB];simp only [Bool.true_and,Bool.and_eq_true,zD];rw [zm];omega
 simp only [g1,Zs];cases c15 with
 | true=>
  have hno:¬ (zpY p s line f gap=true∧0≤D∧D≤207200):=fun h=>by have:=g2.2 h; cases this
  have hF:zcI p s line home D f gap=some (false,2):=by
   unfold zcI;rw [zgd H,Zs];cases hsl:zpY p s line f gap with
   | false=>rfl
   | true=>
    have:inB D 0 207200=false:=by
     cases h:inB D 0 207200 with
     | false=>rfl
     | true=>exact absurd ⟨hsl,zD.1 h⟩ hno
    simp only [if_true,Bool.not_true,cond_false,zdU,this,Zs,Bool.not_false,cond_true]
  have hS:zaV p s line home D f gap=some (0,2):=by
   unfold zaV;rw [zgd H,Zs];cases hsl:zpY p s line f gap with
   | false=>rfl
   | true=>
    have:inB D 0 200000=false:=by
     cases h:inB D 0 200000 with
     | false=>rfl
     | true=>
      have:=zD.1 h;exact absurd ⟨hsl,by omega,by omega⟩ hno
    simp only [if_true,Bool.not_true,cond_false,zdU,this,Zs,Bool.not_false,cond_true]
  rw [hF,hS];rfl
 | false=>
  obtain ⟨hsl,hD⟩:=g2.1 rfl;have S:=zvQ hsl;simp only [cond_false,zvj H S home hD hsl,zs9 H S home hD,Zs,show ((0:Int)!=0)=false from rfl,bne_self_eq_false];by_cases h2:D>200000
  ·have hS:zaV p s line home D f gap=some (0,2):=by
    unfold zaV;rw [zgd H,if_pos hsl,Zs];have:inB D 0 200000=false:=by
     cases h:inB D 0 200000 with
     | false=>rfl
     | true=>have:=zD.1 h; omega
    simp only [Bool.not_true,cond_false,zdU,this,Zs,Bool.not_false,cond_true]
   rw [hS,decide_eq_true h2];rfl
  ·rw [decide_eq_false h2,zpZ H S home (by omega) hsl,zta H S home (by omega)];simp only [Zs,cond_false];cases zkx p s line home f gap D with
   | none=>rfl
   | some k=>
    simp only [Bool.not_true,cond_false,show ((0:Int)==0)=true from rfl,beq_self_eq_true,cond_true,Zs]
end Go.Ai.Sx
