/- Service: the law of the last trip. -/
import Derived.Test.YtppebpagcocogaaGreatD5ServOC
set_option linter.unusedSimpArgs false
set_option linter.unusedVariables false
set_option linter.unusedSectionVars false
namespace Go.Ai.Sx
open Option renaming bind->Zb,bind_some->Zs
theorem zp0 {way:List zG} {w:List Works} {x:Works} {t last:Int} (h:zvl way (w++[x]) t last=true):zvl way w t last=true:=by
 unfold zvl at h ⊢;rw [List.any_append] at h;rw [Bool.not_eq_true',Bool.or_eq_false_iff] at h;rw [h.1]; rfl
theorem ztg {p:Plan} {l:Line} {home:Bool} {h o from_:Int} (hh:0≤h):∀ a b:Nat,a≤b->zfe p l home h o from_ a≤zfe p l home h o from_ b:=by
 intro a b hab;induction b with
 | zero=>
  have:a=0:=by omega
  subst this; exact Int.le_refl _
 | succ b ihb=>
  by_cases e2:a=b+1
  ·subst e2; exact Int.le_refl _
  ·have:=ihb (by omega);rw [← zhk (p:=p) (l:=l) home b]; omega
theorem zvn (hk:zu=some true) (p:Plan) (s:Service) (w:List Works) (more:Works) (line:Int) (home:Bool) (before:Int) (hs:s.1.length≤9223372036854775807):zcm p s w more line home before=some true:=by
  unfold zcm;obtain ⟨b,e,q⟩:=zmC p s hs;rw [e,Zs,hk];cases b with
  | false=>rfl
  | true=>
  have F:=q rfl;have H:=F.sv;have hn:=F.n;by_cases hw6:zn w>6
  · rw [decide_eq_true hw6]; rfl
  rw [decide_eq_false hw6];rw [zm] at hw6;simp only [Bool.not_true,cond_false,Zs,zgs H];obtain ⟨c17,g1,g2⟩:∃ c17,(cond (!zkD p s) (some true) (Zb (zc3 p w) fun y20=>
cond (!y20) (some true) (cond (decide (line<0)) (some true) (cond (decide (line≥(zn s.1))) (some true) (cond (decide (before<0)) (some true) (some (decide (before>200000))))))))=some c17∧(c17=false↔(zkD p s=true∧zqG p w=true∧(0≤line∧line<s.1.length)∧0≤before∧before≤200000)):=by
    cases hB:zkD p s with
    | false=>exact ⟨true,rfl,by simp⟩
    | true=>
    have V:=zqB hB;have hR:=zn0 (zbY V.v) w (by omega);rw [hR,Zs];cases hW:zqG p w with
    | false=>exact ⟨true,rfl,by simp⟩
    | true=>
    have hz:∃ b,(some (decide (before>200000)):Option Bool)=some b∧(b=false↔¬ before>200000):=⟨_,rfl,by simp⟩;obtain ⟨b,h1,h2⟩:=zhm (A:=line<0) (zhm (A:=line≥zn s.1) (zhm (A:=before<0) hz));refine ⟨b,h1, ?_⟩;rw [h2,zm];simp only [true_and];omega
  simp only [g1,Zs];cases c17 with
  | true=>
    have hno:¬ (zkD p s=true∧zqG p w=true∧(0≤line∧line<s.1.length)∧0≤before∧before≤200000):=fun h=>by have:=g2.2 h; cases this
    have hL:zca p s w line home before=some ((0,false,0,0,()),2):=by
      unfold zca;rw [zeF H,Zs];cases hB:zkD p s with
      | false=>rfl
      | true=>
      have V:=zqB hB;simp only [if_true,Bool.not_true,cond_false,zlw (zbY V.v) w (show w.length≤9223372036854775807 by omega),Zs,zdU];cases hW:zqG p w with
      | false=>rfl
      | true=>
      rw [zm,zd (by omega) (by omega)];cases h1:inB line 0 ((s.1.length:Int)-1) with
      | false=>rfl
      | true=>
      cases h2:inB before 0 200000 with
      | false=>rfl
      | true=>
        have h1:=zD.1 h1;have h2:=zD.1 h2;exact absurd ⟨hB,hW,by omega,h2⟩ hno
    rw [hL];rfl
  | false=>
    obtain ⟨hB,hW,hl,hb⟩:=g2.1 rfl;have V:=zqB hB;obtain ⟨K,hh,ho,_⟩:=zmF V H hl hb;have KC:znR p (lnI s line) (zI (lnI s line) home):=csO K;obtain ⟨N,C⟩:=zzm K hh ho (from_:=0) (by omega) home (last:=zc4 p (lnI s line) (zI (lnI s line) home)) (by have:=KC.l1; omega) hb;have hw:w.length≤9223372036854775807:=by omega
    have hLy:=zmG V H hl hw home hb hW C;have hRy:=ztf V H hl hw home hb C;have a1:zdQ 24 [] w=some w:=by rw [za5 (by simp; omega),List.nil_append]
    have a2:zdQ 24 w [more]=some (w++[more]):=za5 (by simp; omega);have hwl:(w++[more]).length≤9223372036854775807:=by simp; omega
    have hW2:=zn0 (zbY V.v) (w++[more]) hwl;simp only [cond_false,hLy,hRy,Zs,a1,a2,hW2];cases hJ:zgv (zjz p s line home 0 w) N with
    | none=>
      simp only [Bool.not_false,cond_true,show ((4:Int)!=4)=false from rfl,bne_self_eq_false,cond_false,Zs];cases hW3:zqG p (w++[more]) with
      | false=>rfl
      | true=>
        have hL2:=zmG V H hl hwl home hb hW3 C;simp only [hL2,Bool.not_true,cond_false,Zs];cases hJ2:zgv (zjz p s line home 0 (w++[more])) N with
        | none=>rfl
        | some j=>
          obtain ⟨i,h1,_⟩:=ziP (m:=zjz p s line home 0 w) (fun j h=>zp0 h) N j hJ2;rw [hJ] at h1; cases h1
    | some i=>
      simp only [Bool.not_true,cond_true,show ((0:Int)!=0)=false from rfl,bne_self_eq_false,cond_false,Zs];cases hW3:zqG p (w++[more]) with
      | false=>rfl
      | true=>
        have hL2:=zmG V H hl hwl home hb hW3 C;simp only [hL2,Bool.not_true,cond_false,Zs];cases hJ2:zgv (zjz p s line home 0 (w++[more])) N with
        | none=>rfl
        | some j=>
          obtain ⟨i2,h1,h2,_⟩:=ziP (m:=zjz p s line home 0 w) (fun j h=>zp0 h) N j hJ2;rw [hJ] at h1; cases h1;have:=ztg (p:=p) (l:=lnI s line) (home:=home) (h:=hd0 s line.toNat) (o:=of0 s line.toNat) (from_:=0) (by omega) j i h2;simp only [show ((0:Int)==0)=true from rfl,cond_true,decide_eq_true this,Zs]
end Go.Ai.Sx
