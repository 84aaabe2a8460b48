/- Service: the law of slots' distances. -/
import Derived.Test.YtppebpagcocogaaGreatD5ServMC
import Derived.Test.YtppebpagcocogaaGreatD5ServOC
set_option linter.unusedSimpArgs false
set_option linter.unusedVariables false
set_option linter.unusedSectionVars false
namespace Go.Ai.Sx
open Option renaming bind->Zb,bind_some->Zs
def apF (oL:List Int) (i A gap h:Int):(Int×Int)->Option ((Int×Int)⊕(Int⊕Bool)):=(fun s161=>
cond (decide (s161.2<60000)) (Zb (idx oL i) fun x164=>
cond (decide ((w64 ((w64 (A-s161.2))-x164))<gap)) (cond (decide ((w64 (0-(w64 ((w64 (A-s161.2))-x164))))<gap)) (some (.inr (.inr false))) (cond (decide ((w64 ((w64 (A-s161.2))-x164))>0)) (some (.inl ((w64 (s161.1+1)),(w64 (s161.2+h))))) (some (.inl (s161.1,(w64 (s161.2+h))))))) (cond (decide ((w64 ((w64 (A-s161.2))-x164))>0)) (some (.inl ((w64 (s161.1+1)),(w64 (s161.2+h))))) (some (.inl (s161.1,(w64 (s161.2+h))))))) (some (.inr (.inl s161.1))))
theorem zxS {oL:List Int} {i A gap h o k0:Int} {J C:Nat} (hi:idx oL i=some o) (hh:30≤h∧h≤7200) (hA:0≤A∧A≤10000000) (ho:0≤o∧o≤10000000) (hk:-7200≤k0∧k0≤0) (hJ:∀ j,j<J->k0+(j:Int)*h<60000) (hJ2:60000≤k0+(J:Int)*h) (hJb:J≤100000) (hD:∀ j:Nat,j<J->¬ (A-(k0+j*h)-o<gap∧-(A-(k0+j*h)-o)<gap)) (hC:∀ j:Nat,j<J->(A-(k0+j*h)-o>0↔j<C)):iter (apF oL i A gap h) big (0,k0)=some (.inl ((min J C:Nat):Int)):=by
 have hJh:k0+(J:Int)*h≤70000:=by
  cases J with
  | zero=>omega
  | succ n=>
   have:=hJ n (by omega);rw [Int.natCast_add,Int.add_mul];omega
 have hkb:∀ j:Nat,j≤J->-7200≤k0+(j:Int)*h∧k0+(j:Int)*h≤70000:=fun j hj=>by
  have h1:0≤(j:Int)*h:=Int.mul_nonneg (by omega) (by omega);have h2:(j:Int)*h≤(J:Int)*h:=Int.mul_le_mul_of_nonneg_right (by omega) (by omega);omega
 have key:∀ n j:Nat,j+n=J->Lp (apF oL i A gap h) n (((min j C:Nat):Int),k0+(j:Int)*h) (.inl ((min J C:Nat):Int)):=by
  intro n;induction n with
  | zero=>
   intro j hj;have:j=J:=by omega
   subst this;refine Lp.done ?_;unfold apF;simp only [];rw [decide_eq_false (by omega),cond_false]
  | succ n ih=>
   intro j hj;have hb:=hkb j (by omega);have hb2:=hkb (j+1) (by omega);have h1:=hJ j (by omega);have h2:=hD j (by omega);have h3:=hC j (by omega);refine Lp.step ?_ (ih (j+1) (by omega));have w0:w64 (w64 (A-(k0+(j:Int)*h))-o)=A-(k0+(j:Int)*h)-o:=by rw [zd (n:=A-_) (by omega) (by omega),zd (by omega) (by omega)]
   have w1:w64 (0-(A-(k0+(j:Int)*h)-o))=-(A-(k0+(j:Int)*h)-o):=by rw [zd (by omega) (by omega)]; omega
   have e:k0+((j+1:Nat):Int)*h=k0+(j:Int)*h+h:=by rw [Int.natCast_add,Int.add_mul]; omega
   have w2:w64 (k0+(j:Int)*h+h)=k0+((j+1:Nat):Int)*h:=by rw [e]; exact zd (by omega) (by omega)
   have w3:w64 (((min j C:Nat):Int)+1)=((min j C+1:Nat):Int):=by rw [zd (by omega) (by omega)]; omega
   unfold apF;simp only [decide_eq_true h1,cond_true,hi,Zs,w0,w1,w2,w3];have hres:(cond (decide (A-(k0+(j:Int)*h)-o>0)) (some (.inl (((min j C+1:Nat):Int),k0+((j+1:Nat):Int)*h))) (some (.inl (((min j C:Nat):Int),k0+((j+1:Nat):Int)*h))):Option ((Int×Int)⊕(Int⊕Bool)))=some (.inl (((min (j+1) C:Nat):Int),k0+((j+1:Nat):Int)*h)):=by
    by_cases hp:A-(k0+(j:Int)*h)-o>0
    ·have hjc:=h3.1 hp;rw [decide_eq_true hp,cond_true,show min j C+1=min (j+1) C by omega]
    ·have hjc:¬ j<C:=fun q=>hp (h3.2 q);rw [decide_eq_false hp,cond_false,show min j C=min (j+1) C by omega]
   by_cases hg:A-(k0+(j:Int)*h)-o<gap
   ·rw [decide_eq_true hg,cond_true,decide_eq_false (by omega),cond_false];exact hres
   ·rw [decide_eq_false hg,cond_false];exact hres
 have:=(key J 0 (by omega)).big (by simp only [big]; omega);rw [show (min 0 C:Nat)=0 by omega,show k0+((0:Nat):Int)*h=k0 by simp] at this;exact this
theorem zth {h gap D base:Int} {X O:Nat->Int} {n:Nat} (hf:zoT h gap D base X O n=true) {i:Nat} (hi:i<n):gap≤zfT D base X O i%h∧gap≤h-zfT D base X O i%h∧(0<i->zfT D base X O i/h=zfT D base X O (i-1)/h):=by
 have:=List.all_eq_true.1 hf i (List.mem_range.2 hi);unfold zza at this;simp only [Bool.and_eq_true,Bool.not_eq_true',decide_eq_false_iff_not,Bool.or_eq_true,decide_eq_true_eq] at this;obtain ⟨h1,h2,h3⟩:=this;refine ⟨by omega,by omega,fun h0=>?_⟩;rcases h3 with h3 | h3
 ·omega
 ·simpa using h3
theorem zvS {h gap D base:Int} {X O:Nat->Int} {n:Nat} (hf:zoT h gap D base X O n=true):∀ i,i<n->zfT D base X O i/h=zfT D base X O 0/h
 | 0,_=>rfl
 | i+1,hi=>by rw [(zth hf hi).2.2 (by omega)]; exact zvS hf i (by omega)
theorem zAG {h gap D base:Int} {X O:Nat->Int} {n:Nat} (hh:30≤h∧h≤7200) (hg:1≤gap) (hf:zoT h gap D base X O n=true) {i:Nat} (hi:i<n) (j:Nat):¬ (D+X i-(base%h-h+j*h)-O i<gap∧-(D+X i-(base%h-h+j*h)-O i)<gap)∧(D+X i-(base%h-h+j*h)-O i>0↔j<(zfT D base X O 0/h+base/h+2).toNat):=by
 obtain ⟨h1,h2,_⟩:=zth hf hi;have h3:=zvS hf i hi;have h4:=Int.emod_add_mul_ediv (zfT D base X O i) h;have h5:=Int.emod_add_mul_ediv base h;have h6:zfT D base X O i=D+X i-base-O i:=rfl;rw [h3] at h4;generalize hQ:zfT D base X O 0/h=Q at *
 generalize hr:zfT D base X O i%h=r at *
 generalize hBq:base/h=B at *
 have e:D+X i-(base%h-h+(j:Int)*h)-O i=r+(Q+B+1-j)*h:=by
  have:(Q+B+1-(j:Int))*h=h*Q+h*B+h-j*h:=by
   rw [Int.sub_mul,Int.add_mul,Int.add_mul,Int.one_mul,Int.mul_comm Q h,Int.mul_comm B h]
  rw [this]; omega
 rw [e];by_cases hc:(j:Int)≤Q+B+1
 ·have hm:0≤(Q+B+1-(j:Int))*h:=Int.mul_nonneg (by omega) (by omega);refine ⟨fun hx=>by omega, ?_⟩;constructor
  ·intro _; omega
  ·intro _; omega
 ·have hm:(Q+B+1-(j:Int))*h≤-1*h:=Int.mul_le_mul_of_nonneg_right (by omega) (by omega);refine ⟨fun hx=>by omega, ?_⟩;constructor
  ·intro hx; omega
  ·intro hx; omega
end Go.Ai.Sx
