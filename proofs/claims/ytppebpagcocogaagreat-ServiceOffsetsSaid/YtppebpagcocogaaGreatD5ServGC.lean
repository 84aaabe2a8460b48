/- Service: the law of offsets. -/
import Derived.Test.YtppebpagcocogaaGreatQ15
set_option linter.unusedSimpArgs false
set_option linter.unusedVariables false
set_option linter.unusedSectionVars false
namespace Go.Ai.Sx
theorem znR (hk:zaF=some true) (p:Plan) (l:Line) (home:Bool) (h:Int):zbk p l home h=some true:=by
 unfold zbk;obtain ⟨b1,e1,q1⟩:=zmZ p;obtain ⟨b2,e2,q2⟩:=zm0 l;rw [e1,Option.bind_some];cases b1 with
 | false=>simp only [Bool.not_false,cond_true,Option.bind_some,hk]
 | true =>
 simp only [Bool.not_true,cond_false,e2,Option.bind_some];cases b2 with
 | false=>simp only [Bool.not_false,cond_true,Option.bind_some,hk]
 | true =>
 have S:=q1 rfl;have H:=zzu S (q2 rfl);simp only [Bool.not_true,cond_false];rw [zoR H,zu1 H,zzs H,zhj];simp only [Option.bind_some];cases hv:zaG p with
 | false =>
  simp only [Bool.false_and,Bool.false_eq_true,if_false,Bool.not_false,cond_true,Option.bind_some,hk];rfl
 | true =>
 rw [zoQ hv H];cases hl:zdI p l with
 | false =>
  simp only [Bool.true_and,Bool.false_and,Bool.false_eq_true,if_false,Bool.not_true,Bool.not_false,cond_false,cond_true,Option.bind_some,hk];rfl
 | true =>
 have K:=zxs H hv hl;have hp:=zdg hv;have KC:zxq p l (zfN l home):=by cases home; exact K.o; exact K.h
 simp only [Bool.true_and,if_true,Bool.not_true,cond_false,Option.bind_some,show ((0:Int)!=0)=false from rfl,zgP hp (H.c hv home) KC];rw [zxu _ (by rw [zlH]; have:=KC.C.n; omega)];simp only [Option.bind_some,Bool.not_true,cond_false,zsn hv H K,bne_self_eq_false];cases hi:inB h 30 7200 with
 | false =>
  have hn:h<30∨h>7200:=by
   have:¬ (30≤h∧h≤7200):=fun q=>by rw [zaH.2 q] at hi; cases hi
   omega
  by_cases h1:h<30
  ·rw [decide_eq_true h1];simp only [cond_true,Option.bind_some,hk];rfl
  ·rw [decide_eq_false h1,decide_eq_true (show h>7200 by omega)];simp only [cond_true,cond_false,Option.bind_some,hk];rfl
 | true =>
  have hi:=zaH.1 hi;rw [decide_eq_false (show ¬ h<30 by omega),decide_eq_false (show ¬ h>7200 by omega)];have hb:=zsm K;obtain ⟨c1,c2,c3,c4,c5⟩:=zzr K (h:=h) (by omega);simp only [cond_true,cond_false,Option.bind_some,hk,if_true];have m1:w64 (zj0 p l h*h)=zj0 p l h*h:=zm (by omega) (by omega);have m2:w64 (w64 (zj0 p l h-1)*h)=(zj0 p l h-1)*h:=by
   rw [zm (n:=zj0 p l h-1) (by omega) (by omega)];refine zm ?_ (by omega);have:0≤(zj0 p l h-1)*h:=Int.mul_nonneg (by omega) (by omega);omega
  rw [m1,m2,decide_eq_true c4,decide_eq_true c3];rfl
end Go.Ai.Sx
