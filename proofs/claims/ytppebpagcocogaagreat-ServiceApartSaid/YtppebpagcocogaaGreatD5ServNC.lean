/- Service: departures,works,and which trips may run. -/
import Derived.Test.YtppebpagcocogaaGreatS15
set_option linter.unusedSimpArgs false
set_option linter.unusedVariables false
set_option linter.unusedSectionVars false
namespace Go.Ai.Sx
open Option renaming bind->Zb,bind_some->Zs
def wkB (p:Plan) (x:Works):Bool:=inB x.1 0 (p.2.1.length-1)&&(inB x.2.1 0 x.2.2.1&&!decide (x.2.2.1>200000))
def zqG (p:Plan) (w:List Works):Bool:=decide (zn w≤100)&&w.all (wkB p)
def W0:Works:=(0,0,0,())
theorem zlv {A:Type} (l:List A) (q:A->Bool) (d:A):((List.range l.length).all fun i=>q (l.getD i d))=l.all q:=by
 rw [Bool.eq_iff_iff,List.all_eq_true,List.all_eq_true];constructor
 ·intro h x hx;obtain ⟨i,hi,rfl⟩:=List.getElem_of_mem hx;have:=h i (List.mem_range.2 hi);rwa [show l.getD i d=l[i] by simp [List.getD,hi]] at this
 ·intro h i hi;have hi:=List.mem_range.1 hi;rw [show l.getD i d=l[i] by simp [List.getD,hi]];exact h _ (List.getElem_mem hi)
theorem zlw {p:Plan} (hp:zib p) (w:List Works) (hw:w.length≤9223372036854775807):zcg p w=some (zqG p w):=by
 unfold zcg zqG;by_cases h:zn w≤100
 ·rw [decide_eq_true h];have hR:=hp.r;obtain ⟨k,g1,g2⟩:=zfD w hw (fun x=>zbI x p) (fun x=>!wkB p x) (fun x _=>by
   unfold zbI wkB;simp only [zdU,Zs];rw [zm,zd (by omega) (by omega)];cases inB x.1 0 ((p.2.1.length:Int)-1) with
   | false=>rfl
   | true=>
   cases inB x.2.1 0 x.2.2.1 with
   | false=>rfl
   | true=>cases decide (x.2.2.1>200000)<;>rfl)
  unfold zT zZ;simp only [cond_true,Bool.true_and];rw [g1];simp only [Zs,g2];rw [zh7 w _ W0,Bool.not_not];simp only [Bool.not_not];rw [zlv w (wkB p) W0]
 ·rw [decide_eq_false h]; rfl
theorem zn0 {p:Plan} (hp:zib p) (w:List Works) (hw:w.length≤9223372036854775807):zc3 p w=some (zqG p w):=by
  unfold zc3 zqG;have hR:=hp.r;have h:=zb5 (f:=fun s29:Int=>
cond (decide (s29<(zn w))) (Zb (idx w s29) fun x48=>
Zb (zaY x48.1 0 (w64 ((zn p.2.1)-1))) fun y49=>
cond (!y49) (some (.inr (.inr false))) (Zb (idx w s29) fun x52=>
Zb (idx w s29) fun x53=>
Zb (zaY x52.2.1 0 x53.2.2.1) fun y54=>
cond (!y54) (some (.inr (.inr false))) (Zb (idx w s29) fun x57=>
cond (decide (x57.2.2.1>200000)) (some (.inr (.inr false))) (some (.inl (w64 (s29+1))))))) (some (.inr (.inl ():Unit⊕Bool)))) (fun k=>(k:Int)) w.length (fun i=>wkB p (w.getD i W0)) (.inr false) (.inl ()) (s0:=0) rfl (by simp only [big]; omega) (fun i hi=>by
      unfold wkB;simp only [zN hi,cond_true,zp W0 hi,Zs,zy4,zx (show i<9223372036854775807 by omega)];rw [zm,zd (n:=(p.2.1.length:Int)-1) (by omega) (by omega)];cases inB (w.getD i W0).1 0 ((p.2.1.length:Int)-1) with
      | false=>rfl
      | true=>
      cases inB (w.getD i W0).2.1 0 (w.getD i W0).2.2.1 with
      | false=>rfl
      | true=>cases decide ((w.getD i W0).2.2.1>200000)<;>rfl) (by simp only [zO,cond_false])
  rw [h,Zs,zlv w (wkB p) W0];cases w.all (wkB p) with
  | false=>rw [Bool.and_false]; rfl
  | true=>rw [Bool.and_true]; rfl
def onB (way:List zG) (x:Works):Bool:=way.any fun m=>m.1==x.1
def ztr (way:List zG) (t last:Int) (x:Works):Bool:=onB way x&&(decide (t<x.2.2.1)&&decide (x.2.1<t+last))
def zvl (way:List zG) (w:List Works) (t last:Int):Bool:=!(w.any (ztr way t last))
section
variable {p:Plan} {l:Line} (K:zpO p l)
include K
theorem zzl (home:Bool) {t:Int} (ht:-1000000000≤t∧t≤1000000000) (w:List Works) (hw:w.length≤9223372036854775807):zba (rnS p l) (cond home 1 0) t w=some (zvl (zI l home).1 w t (zc4 p l (zI l home))):=by
 have KC:znR p l (zI l home):=by cases home; exact K.o; exact K.h
 have h1:=KC.l1;have h2:=KC.l2;have hW:=(zgW KC.C.w).n;have hla:zy (rnS p l) (cond home 1 0)=some (zc4 p l (zI l home)):=by
  have:=zkt K home;rw [this]; cases home<;>rfl
 have hcx:idx [l.1,l.2.1] (cond home 1 0)=some (zI l home):=by cases home<;>rfl
 unfold zba;rw [show zaj (rnS p l).1=some [l.1,l.2.1] from rfl,Zs,hcx,Zs];obtain ⟨k,g1,g2⟩:=zfD w hw (fun x=>zaZ x (zI l home).1 t (rnS p l) (cond home 1 0)) (ztr (zI l home).1 t (zc4 p l (zI l home))) (fun x _=>by
  unfold zaZ ztr onB;obtain ⟨k,q1,q2⟩:=zfD (zI l home).1 (by omega) (fun m=>zbP m x) (fun m=>m.1==x.1) (fun m _=>rfl);unfold zaU zaA;rw [q1];simp only [Zs,q2];cases ((zI l home).1.any fun m=>m.1==x.1) with
  | false=>rfl
  | true=>
  cases decide (t<x.2.2.1) with
  | false=>rfl
  | true=>
   simp only [cond_true,hla,Zs,Bool.true_and];rw [zd (by omega) (by omega)])
 unfold zT zZ;rw [g1];simp only [Zs,g2];rfl
end
theorem zxO {s:Service} {w:List Works} (hw:w.length≤9223372036854775807) {i:Nat} (hi:i<s.1.length) (home:Bool) (hway:(zI (ln0 s i) home).1.length≤9223372036854775807) {car t last:Int} (ht:-1000000000≤t∧t≤1000000000) (hl:0≤last∧last≤1000000):zdT s w ((i:Int),home,car,t,()) last=some (zvl (zI (ln0 s i) home).1 w t last):=by
  unfold zdT zvl;rw [show idx s.1 (i:Int)=some (ln0 s i) from zp L0 hi,Zs,zeE,Zs];generalize (zI (ln0 s i) home).1=way at *
  have inner:∀ x:Works,∀ j:Nat,j<w.length->w.getD j W0=x->iter (σ:=(Int)) (τ:=Unit⊕(Bool)) (fun s81=>
cond (decide (s81<(zn way))) (Zb (idx way s81) fun x96=>
Zb (idx w (j:Int)) fun x97=>
cond (x96.1==x97.1) (Zb (idx w (j:Int)) fun x99=>
cond (decide (t<x99.2.2.1)) (Zb (idx w (j:Int)) fun x101=>
cond (decide (x101.2.1<(w64 (t+last)))) (some (.inr (.inr false))) (some (.inl (w64 (s81+1))))) (some (.inl (w64 (s81+1))))) (some (.inl (w64 (s81+1))))) (some (.inr (.inl ())))) big 0=some (if ztr way t last x then .inr false else .inl ()):=by
    intro x j hj hx;have a1:idx w (j:Int)=some x:=by rw [← hx]; exact zp W0 hj
    have h:=zb5 (f:=fun s81:Int=>
cond (decide (s81<(zn way))) (Zb (idx way s81) fun x96=>
Zb (idx w (j:Int)) fun x97=>
cond (x96.1==x97.1) (Zb (idx w (j:Int)) fun x99=>
cond (decide (t<x99.2.2.1)) (Zb (idx w (j:Int)) fun x101=>
cond (decide (x101.2.1<(w64 (t+last)))) (some (.inr (.inr false))) (some (.inl (w64 (s81+1))))) (some (.inl (w64 (s81+1))))) (some (.inl (w64 (s81+1))))) (some (.inr (.inl ():Unit⊕Bool)))) (fun k=>(k:Int)) way.length (fun k=>!((way.getD k M0).1==x.1&&(decide (t<x.2.2.1)&&decide (x.2.1<t+last)))) (.inr false) (.inl ()) (s0:=0) rfl (by simp only [big]; omega) (fun k hk=>by
        simp only [zN hk,cond_true,zp M0 hk,a1,Zs,zx (show k<9223372036854775807 by omega)];rw [zd (n:=t+last) (by omega) (by omega)];cases ((way.getD k M0).1==x.1)<;>cases decide (t<x.2.2.1)<;>cases decide (x.2.1<t+last)<;>rfl) (by simp only [zO,cond_false])
    rw [h];have e:((List.range way.length).all fun k=>!((way.getD k M0).1==x.1&&(decide (t<x.2.2.1)&&decide (x.2.1<t+last))))=!ztr way t last x:=by
      unfold ztr onB;rw [zh7 way _ M0];cases (decide (t<x.2.2.1)&&decide (x.2.1<t+last)) with
      | true=>simp only [Bool.and_true,Bool.not_not]
      | false=>simp
    rw [e];cases ztr way t last x<;>rfl
  have h:=zb5 (f:=fun s56:Int=>
cond (decide (s56<(zn w))) (Zb (iter (σ:=(Int)) (τ:=Unit⊕(Bool)) (fun s81=>
cond (decide (s81<(zn way))) (Zb (idx way s81) fun x96=>
Zb (idx w s56) fun x97=>
cond (x96.1==x97.1) (Zb (idx w s56) fun x99=>
cond (decide (t<x99.2.2.1)) (Zb (idx w s56) fun x101=>
cond (decide (x101.2.1<(w64 (t+last)))) (some (.inr (.inr false))) (some (.inl (w64 (s81+1))))) (some (.inl (w64 (s81+1))))) (some (.inl (w64 (s81+1))))) (some (.inr (.inl ())))) big 0) fun t105=>
alt (fun b107=>some (.inl (w64 (s56+1)))) (fun b108=>some (.inr (.inr b108))) t105) (some (.inr (.inl ():Unit⊕Bool)))) (fun k=>(k:Int)) w.length (fun j=>!ztr way t last (w.getD j W0)) (.inr false) (.inl ()) (s0:=0) rfl (by simp only [big]; omega) (fun j hj=>by
      simp only [zN hj,cond_true];rw [inner (w.getD j W0) j hj rfl,Zs,zx (by omega)];cases ztr way t last (w.getD j W0)<;>rfl) (by simp only [zO,cond_false])
  simp only [];rw [h,Zs,zh7 w _ W0,Bool.not_not];cases ((List.range w.length).all fun j=>!ztr way t last (w.getD j W0))<;>rfl
def zqH (p:Plan) (l:Line) (home:Bool) (h o from_:Int):Int:=-((zfG p l home h o-from_)/h)
def zfe (p:Plan) (l:Line) (home:Bool) (h o from_:Int) (j:Nat):Int:=zfG p l home h o+(zqH p l home h o from_+j)*h
def zqO (p:Plan) (l:Line) (home:Bool) (h o from_:Int) (j:Nat):Int:=(zqH p l home h o from_+j)%zhJ p l h
section
variable {p:Plan} {l:Line} (K:zpO p l) {h o from_:Int} (hh:30≤h∧h≤7200) (ho:0≤o∧o≤100000) (hf:0≤from_∧from_≤1000000) (home:Bool)
include K hh ho hf
theorem zky:from_+(zfG p l home h o-from_)%h=zfe p l home h o from_ 0:=by
 have:=zsG (base:=zfG p l home h o) (start:=from_) (h:=h);rw [this];unfold zfe zqH;rw [show (-((zfG p l home h o-from_)/h)+((0:Nat):Int))=-((zfG p l home h o-from_)/h) by omega]
omit K hh ho hf in
theorem zhk (j:Nat):zfe p l home h o from_ j+h=zfe p l home h o from_ (j+1):=by
 unfold zfe;rw [show zqH p l home h o from_+((j+1:Nat):Int)=(zqH p l home h o from_+j)+1 by omega,Int.add_mul (zqH p l home h o from_+j) 1 h,Int.one_mul];omega
theorem zif (j:Nat):from_+j*30≤zfe p l home h o from_ j∧from_≤zfe p l home h o from_ j:=by
 induction j with
 | zero=>
  have h1:=zky K hh ho hf home;have h2:=Int.emod_nonneg (zfG p l home h o-from_) (show h≠0 by omega);omega
 | succ j ih=>
  rw [← zhk home j];omega
theorem ztd:zfe p l home h o from_ 0<from_+h:=by
 have h1:=zky K hh ho hf home;have h2:=Int.emod_lt_of_pos (zfG p l home h o-from_) (show 0<h by omega);omega
theorem zxP {σ τ:Type} {step:σ->(Int×Int)->Option (σ⊕τ)} {N:Nat} (hN:N<1000000) (S:Nat->σ) (z:τ) (hb:zfe p l home h o from_ N≤1000000000) (hs:∀ j,j<N->step (S j) (zfe p l home h o from_ j,zqO p l home h o from_ j)=some (.inl (S (j+1)))) (he:step (S N) (zfe p l home h o from_ N,zqO p l home h o from_ N)=some (.inr z)):zae step (S 0) (rnS p l) (cond home 1 0) h o from_=some (.inr z):=by
  have hB:=zgZ K hh ho home;obtain ⟨c1,c2,c3,c4,c5⟩:=znT K (h:=h) (by omega);unfold zae;rw [zpS K hh ho home,Zs,zd (n:=zfG p l home h o-from_) (by omega) (by omega),zic (by omega) (by omega),Zs];have h2:=Int.emod_lt_of_pos (zfG p l home h o-from_) (show 0<h by omega);have h3:=Int.emod_nonneg (zfG p l home h o-from_) (show h≠0 by omega);rw [zd (n:=from_+_) (by omega) (by omega),zky K hh ho hf home];have hmono:∀ j,j≤N->zfe p l home h o from_ j≤zfe p l home h o from_ N:=by
    intro j hj;induction N with
    | zero=>
      have:j=0:=by omega
      subst this; exact Int.le_refl _
    | succ N ih=>
      by_cases e:j=N+1
      · subst e; exact Int.le_refl _
      · have h5:zfe p l home h o from_ j≤zfe p l home h o from_ N:=by
          have h7:∀ a b:Nat,a≤b->zfe p l home h o from_ a≤zfe p l home h o from_ b:=by
            intro a b hab;induction b with
            | zero=>
              have:a=0:=by omega
              subst this; exact Int.le_refl _
            | succ b ihb=>
              by_cases e2:a=b+1
              · subst e2; exact Int.le_refl _
              · have:=ihb (by omega);rw [← zhk home b]; omega
          exact h7 j N (by omega)
        rw [← zhk home N]; omega
  have hcar:∀ j,j≤N->(Zb (zcb .i64 (w64 (zfe p l home h o from_ j-zfG p l home h o)) h) fun x36=>zat x36 (zhJ p l h))=some (zqO p l home h o from_ j):=by
    intro j hj;have h5:=hmono j hj;have h6:=zif K hh ho hf home j;have e:zfe p l home h o from_ j-zfG p l home h o=(zqH p l home h o from_+j)*h:=by unfold zfe; omega
    have e2:((zqH p l home h o from_+j)*h).tdiv h=zqH p l home h o from_+j:=zvM (by omega);have hq:=zmg (a:=(zqH p l home h o from_+j)*h) (A:=1000000000) (b:=h) (by omega) ⟨by omega,by omega⟩;have e3:zcb .i64 (w64 (zfe p l home h o from_ j-zfG p l home h o)) h=some (zqH p l home h o from_+j):=by
      rw [zd (by omega) (by omega),e];unfold zcb;rw [if_neg (by omega),e2];rw [e2] at hq;exact congrArg some (zd (by omega) (by omega))
    rw [e3,Zs,zic (by omega) (by omega)];rfl
  have key:∀ k i:Nat,i+k=N->Lp (fun s28:Int×(σ⊕τ)=>
Zb (zcb .i64 (w64 (s28.1-zfG p l home h o)) h) fun x36=>
Zb (zaK (rnS p l) h) fun y37=>
Zb (zat x36 y37) fun y38=>
Zb (goL s28.2) fun s39=>
Zb (step s39 (s28.1,y38)) fun y40=>
cond (!(y40).isLeft) (some (.inr y40)) (some (.inl ((w64 (s28.1+h)),y40)))) k (zfe p l home h o from_ i,.inl (S i)) (.inr z):=by
    intro k;induction k with
    | zero=>
      intro i hi;have:i=N:=by omega
      subst this;have hc:=hcar i (Nat.le_refl _);cases hd:zcb .i64 (w64 (zfe p l home h o from_ i-zfG p l home h o)) h with
      | none=>rw [hd] at hc; cases hc
      | some q=>
        rw [hd,Zs] at hc;refine Lp.done ?_;simp only [hd,Zs,zjx K (show 1≤h∧h≤1000000000000 by omega),hc,goL,he];rfl
    | succ k ih=>
      intro i hi;have hc:=hcar i (by omega);have h5:=hmono i (by omega);have h6:=zif K hh ho hf home i;cases hd:zcb .i64 (w64 (zfe p l home h o from_ i-zfG p l home h o)) h with
      | none=>rw [hd] at hc; cases hc
      | some q=>
        rw [hd,Zs] at hc;refine Lp.step ?_ (ih (i+1) (by omega));simp only [hd,Zs,zjx K (show 1≤h∧h≤1000000000000 by omega),hc,goL,hs i (by omega)];rw [zd (n:=zfe p l home h o from_ i+h) (by omega) (by omega),zhk];rfl
  rw [(key N 0 (by omega)).big (by simp only [big]; omega)];rfl
end
end Go.Ai.Sx
