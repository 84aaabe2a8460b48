/- Service: the last trip. -/
import Derived.Test.YtppebpagcocogaaGreatD5ServNC
import Derived.Test.YtppebpagcocogaaGreatD5ServMC
set_option linter.unusedSimpArgs false
set_option linter.unusedVariables false
set_option linter.unusedSectionVars false
namespace Go.Ai.Sx
open Option renaming bind->Zb,bind_some->Zs
def zgv (m:Nat->Bool):Nat->Option Nat
 | 0=>none
 | n+1=>if m n then some n else zgv m n
theorem ziP {m m':Nat->Bool} (h:∀ j,m' j=true->m j=true):∀ n j,zgv m' n=some j->∃ i,zgv m n=some i∧j≤i∧i<n
 | 0,j,e=>by cases e
 | n+1,j,e=>by
  unfold zgv at e ⊢;by_cases hm:m n=true
  ·refine ⟨n,by rw [if_pos hm], ?_,by omega⟩;by_cases hm':m' n=true
   ·rw [if_pos hm'] at e; cases e; exact Nat.le_refl _
   ·rw [if_neg hm'] at e;have:∀ k i,zgv m' k=some i->i<k:=by
     intro k;induction k with
     | zero=>intro i h; cases h
     | succ k ih=>
      intro i h;unfold zgv at h;split at h
      ·cases h; omega
      ·have:=ih i h; omega
    have:=this n j e;omega
  ·have hm':¬ m' n=true:=fun q=>hm (h n q);rw [if_neg hm'] at e;rw [if_neg hm];obtain ⟨i,h1,h2,h3⟩:=ziP h n j e;exact ⟨i,h1,h2,by omega⟩
theorem zmE (P:Nat->Prop):∀ B,P B->∃ N,N≤B∧P N∧∀ j,j<N->¬ P j
 | 0,h=>⟨0,Nat.le_refl _,h,fun j hj=>by omega⟩
 | B+1,h=>by
  by_cases h0:∃ b,b≤B∧P b
  ·obtain ⟨b,hb,hp⟩:=h0;obtain ⟨N,h1,h2,h3⟩:=zmE P b hp;exact ⟨N,by omega,h2,h3⟩
  ·exact ⟨B+1,Nat.le_refl _,h,fun j hj hp=>h0 ⟨j,by omega,hp⟩⟩
structure zvm (p:Plan) (l:Line) (home:Bool) (h o from_ last before:Int) (N:Nat):Prop where
 b:N<300000
 i:∀ j,j<N->zfe p l home h o from_ j+last≤before
 e:before<zfe p l home h o from_ N+last
section
variable {p:Plan} {l:Line} (K:zpO p l) {h o from_:Int} (hh:30≤h∧h≤7200) (ho:0≤o∧o≤100000) (hf:0≤from_∧from_≤1000000) (home:Bool)
include K hh ho hf
theorem zzm {last before:Int} (hl:0≤last) (hb:0≤before∧before≤200000):∃ N,zvm p l home h o from_ last before N:=by
 obtain ⟨N,h1,h2,h3⟩:=zmE (fun N=>before<zfe p l home h o from_ N+last) (before.toNat+1) (by
  have:=zif K hh ho hf home (before.toNat+1);show before<zfe p l home h o from_ (before.toNat+1)+last;omega)
 exact ⟨N,by omega,fun j hj=>by have:=h3 j hj; omega,h2⟩
theorem zvR {last before:Int} (hl:0≤last∧last≤1000000) (hb:0≤before∧before≤200000) {N:Nat} (C:zvm p l home h o from_ last before N):∀ j,j≤N->0≤zfe p l home h o from_ j∧zfe p l home h o from_ j≤2000000:=by
 intro j hj;have h1:=zif K hh ho hf home j;refine ⟨by omega, ?_⟩;cases j with
 | zero=>
  have:=ztd K hh ho hf home;omega
 | succ j=>
  have:=C.i j (by omega);have h2:=zhk (p:=p) (l:=l) (h:=h) (o:=o) (from_:=from_) home j;omega
end
def zte (m:Nat->Bool) (line:Int) (home:Bool) (C T:Nat->Int) (n:Nat):Bool×Int×Bool×Int×Int:=
 match zgv m n with | none=>(false,0,false,0,0) | some j=>(true,line,home,C j,T j)
theorem zAw {a n:Int} (hn:30≤n∧n≤7200) (ha:-100000000≤a∧a≤100000000):zhe a n=some (-((-a)/n)):=by
 unfold zhe;have h1:=Int.emod_nonneg (-a) (show n≠0 by omega);have h2:=Int.emod_lt_of_pos (-a) (show 0<n by omega);have h3:=zsF (a:=a) (n:=n);have h4:(-((-a)/n)*n).tdiv n=-((-a)/n):=zvM (by omega);have hq:=zmg (a:=-((-a)/n)*n) (A:=100000000) (b:=n) (by omega) ⟨by omega,by omega⟩;rw [show w64 (0-a)=-a by rw [zd (by omega) (by omega)]; omega,zhL (by omega) (by omega),Zs,zd (n:=a+_) (by omega) (by omega),h3];unfold zcb;rw [if_neg (by omega),h4,Zs];rw [h4] at hq;exact congrArg some (zd (by omega) (by omega))
section
variable {p:Plan} {s:Service} (V:zy8 p s) (H:zva p s) {line:Int} (hl:0≤line∧line<s.1.length) {w:List Works} (hw:w.length≤9223372036854775807) (home:Bool) {before:Int} (hb:0≤before∧before≤200000)
def zjz (p:Plan) (s:Service) (line:Int) (home:Bool) (from_:Int) (w:List Works) (j:Nat):Bool:=zvl (zI (lnI s line) home).1 w (zfe p (lnI s line) home (hd0 s line.toNat) (of0 s line.toNat) from_ j) (zc4 p (lnI s line) (zI (lnI s line) home))
include V H hl hb
theorem zmF:zpO p (lnI s line)∧(30≤hd0 s line.toNat∧hd0 s line.toNat≤7200)∧(0≤of0 s line.toNat∧of0 s line.toNat≤100000)∧idx s.2.1 line=some (hd0 s line.toNat)∧idx s.2.2.1 line=some (of0 s line.toNat)∧idx s.1 line=some (lnI s line)∧idx (s.1.map (rnS p)) line=some (rnS p (lnI s line)):=by
 have h2:=V.h;have h3:=V.o;have h4:=V.hb line.toNat (by omega);have h5:=V.ob line.toNat (by omega);exact ⟨lnK V H (i:=line.toNat) (by omega),h4,by omega,za1 (by omega) (by omega),za1 (by omega) (by omega),za1 (by omega) (by omega),zlu (by omega)⟩
theorem zxQ (hwk:zqG p w=true):zcg p w=some true:=by
 have:=hwk;unfold zqG at this;rw [Bool.and_eq_true] at this;have h1:=of_decide_eq_true this.1;rw [zm] at h1;rw [zlw (zbY V.v) w (by omega),hwk]
include hw in
theorem zmG (hwk:zqG p w=true) {N:Nat} (C:zvm p (lnI s line) home (hd0 s line.toNat) (of0 s line.toNat) 0 (zc4 p (lnI s line) (zI (lnI s line) home)) before N):zca p s w line home before=some (match zgv (zjz p s line home 0 w) N with | none=>((0,false,0,0,()),4) | some j=>((line,home,zqO p (lnI s line) home (hd0 s line.toNat) (of0 s line.toNat) 0 j,zfe p (lnI s line) home (hd0 s line.toNat) (of0 s line.toNat) 0 j,()),0)):=by
  obtain ⟨K,hh,ho,a1,a2,a3,a4⟩:=zmF V H hl hb;have hn:=V.n;have KC:znR p (lnI s line) (zI (lnI s line) home):=csO K;have l1:=KC.l1;have l2:=KC.l2;have hbd:=zvR K hh ho (from_:=0) (by omega) home (by omega) hb C;have hla:zy (rnS p (lnI s line)) (cond home 1 0)=some (zc4 p (lnI s line) (zI (lnI s line) home)):=by
    have:=zkt K home;rw [this]; cases home<;>rfl
  unfold zca;rw [zeF H,if_pos (zsR V H),Zs];simp only [Bool.not_true,cond_false,zxQ V H hl hb hwk,zdU,Zs];rw [zm,zd (n:=(s.1.length:Int)-1) (by omega) (by omega),zD.2 (show 0≤line∧line≤(s.1.length:Int)-1 by omega),zD.2 hb];simp only [Bool.not_true,cond_false,Zs,a4,ziN,a1,a2];have hd:∀ (r:zk) (a b c d:Int),zbd r a b c d=some (r,a,b,c,d):=fun _ _ _ _ _=>rfl;rw [hd,Zs];simp only [];have hdr:=zxP K hh ho (from_:=0) (by omega) home (N:=N) (by have:=C.b; omega) (σ:=Bool×Int×Bool×Int×Int) (τ:=Bool×Int×Bool×Int×Int)
    (step:=fun s50 x29=>
Zb (some (cond home 1 0)) fun y54=>
Zb (zy (rnS p (lnI s line)) y54) fun y55=>
cond (decide ((w64 (x29.1+y55))>before)) (some (.inr (s50.1,s50.2.1,s50.2.2.1,s50.2.2.2.1,s50.2.2.2.2))) (Zb (some (cond home 1 0)) fun y59=>
Zb (zba (rnS p (lnI s line)) y59 x29.1 w) fun y60=>
cond (y60) (some (.inl (true,line,home,x29.2,x29.1))) (some (.inl (s50.1,s50.2.1,s50.2.2.1,s50.2.2.2.1,s50.2.2.2.2)))))
    (fun j=>zte (zjz p s line home 0 w) line home (zqO p (lnI s line) home (hd0 s line.toNat) (of0 s line.toNat) 0) (zfe p (lnI s line) home (hd0 s line.toNat) (of0 s line.toNat) 0) j)
    (zte (zjz p s line home 0 w) line home (zqO p (lnI s line) home (hd0 s line.toNat) (of0 s line.toNat) 0) (zfe p (lnI s line) home (hd0 s line.toNat) (of0 s line.toNat) 0) N) (by have:=hbd N (Nat.le_refl _); omega)
    (fun j hj=>by
      have h1:=C.i j hj;have h2:=hbd j (by omega);simp only [Zs,hla];rw [zd (n:=zfe p (lnI s line) home (hd0 s line.toNat) (of0 s line.toNat) 0 j+_) (by omega) (by omega),decide_eq_false (by omega),cond_false,zzl K home (by omega) w hw,Zs];have hm:zvl (zI (lnI s line) home).1 w (zfe p (lnI s line) home (hd0 s line.toNat) (of0 s line.toNat) 0 j) (zc4 p (lnI s line) (zI (lnI s line) home))=zjz p s line home 0 w j:=rfl;rw [hm];unfold zte;rw [show zgv (zjz p s line home 0 w) (j+1)=if zjz p s line home 0 w j then some j else zgv (zjz p s line home 0 w) j from rfl];cases zjz p s line home 0 w j with
      | true=>rfl
      | false=>
        simp only [cond_false,Bool.false_eq_true,if_false])
    (by
      have h1:=C.e;have h2:=hbd N (Nat.le_refl _);simp only [Zs,hla];rw [zd (n:=zfe p (lnI s line) home (hd0 s line.toNat) (of0 s line.toNat) 0 N+_) (by omega) (by omega),decide_eq_true (by omega),cond_true])
  have h0:zte (zjz p s line home 0 w) line home (zqO p (lnI s line) home (hd0 s line.toNat) (of0 s line.toNat) 0) (zfe p (lnI s line) home (hd0 s line.toNat) (of0 s line.toNat) 0) 0=(false,0,false,0,0):=rfl;simp only [h0,Zs] at hdr;rw [hdr,Zs,zmf];unfold zte;cases zgv (zjz p s line home 0 w) N<;>rfl
include hw in
theorem ztf {N:Nat} (C:zvm p (lnI s line) home (hd0 s line.toNat) (of0 s line.toNat) 0 (zc4 p (lnI s line) (zI (lnI s line) home)) before N):zeY p s w line home before=some (match zgv (zjz p s line home 0 w) N with | none=>((0,false,0,0,()),false) | some j=>((line,home,zqO p (lnI s line) home (hd0 s line.toNat) (of0 s line.toNat) 0 j,zfe p (lnI s line) home (hd0 s line.toNat) (of0 s line.toNat) 0 j,()),true)):=by
  obtain ⟨K,hh,ho,a1,a2,a3,a4⟩:=zmF V H hl hb;have hn:=V.n;have hi:line.toNat<s.1.length:=by omega
  have KC:znR p (lnI s line) (zI (lnI s line) home):=csO K;have l1:=KC.l1;have l2:=KC.l2;have hbd:=zvR K hh ho (from_:=0) (by omega) home (by omega) hb C;have hB:=zhj V H hi home;rw [Int.toNat_of_nonneg hl.1] at hB;have hbb:=zgZ K hh ho home;have hR:=zsQ V H hi home;have hCa:=zpT V H hi hh;obtain ⟨c1,c2,c3,c4,c5⟩:=znT K (h:=hd0 s line.toNat) (by omega);have hway:(zI (ln0 s line.toNat) home).1.length≤9223372036854775807:=by have:=(zgW KC.C.w).n; unfold lnI at this; unfold ln0; omega
  unfold zeY;simp only [a1,a3,Zs,hB];rw [show zas p (lnI s line) home=some (zc4 p (lnI s line) (zI (lnI s line) home)) from hR,Zs,show zcz p (lnI s line) (hd0 s line.toNat)=some (zhJ p (lnI s line) (hd0 s line.toNat)) from hCa,Zs];have hbase:zfG p (ln0 s line.toNat) home (hd0 s line.toNat) (of0 s line.toNat)=zfG p (lnI s line) home (hd0 s line.toNat) (of0 s line.toNat):=rfl;rw [hbase];generalize hgl:zc4 p (lnI s line) (zI (lnI s line) home)=last at *
  generalize hgb:zfG p (lnI s line) home (hd0 s line.toNat) (of0 s line.toNat)=base at *
  rw [zd (n:=before-last) (by omega) (by omega),zd (n:=before-last-base) (by omega) (by omega),zd (n:=before-last-base+1) (by omega) (by omega),zAw hh (by omega),Zs];have hT:∀ j:Nat,zfe p (lnI s line) home (hd0 s line.toNat) (of0 s line.toNat) 0 j=base+(zqH p (lnI s line) home (hd0 s line.toNat) (of0 s line.toNat) 0+j)*hd0 s line.toNat:=fun j=>by unfold zfe; rw [hgb]
  have hul:=fun k=>zu4 (a:=before-last-base+1) (n:=hd0 s line.toNat) (k:=k) (by omega);generalize hK0:zqH p (lnI s line) home (hd0 s line.toNat) (of0 s line.toNat) 0=K0 at *
  have hb0:=zif K hh ho (from_:=0) (by omega) home 0;have hb1:=ztd K hh ho (from_:=0) (by omega) home;rw [hT 0] at hb0 hb1;have hK0b:-3000≤K0∧K0≤10:=by
    have e1:(K0+((0:Nat):Int))*hd0 s line.toNat=K0*hd0 s line.toNat:=by rw [show K0+((0:Nat):Int)=K0 by omega]
    rw [e1] at hb0 hb1;have hob:=V.ob line.toNat hi;constructor
    · by_cases q:K0 < -3000
      · have h6:K0*hd0 s line.toNat≤-3001*hd0 s line.toNat:=Int.mul_le_mul_of_nonneg_right (by omega) (by omega);omega
      · omega
    · by_cases q:10<K0
      · have h1:11*hd0 s line.toNat≤K0*hd0 s line.toNat:=Int.mul_le_mul_of_nonneg_right (by omega) (by omega);omega
      · omega
  have hNb:(N:Int)≤300000:=by have:=C.b; omega
  have key:∀ n:Nat,n≤N->Lp (fun s23:Int×Int×Bool×Int×Int=>
cond (decide ((w64 (base+(w64 (s23.1*hd0 s line.toNat))))≥0)) (Zb (zaL s23.1 (zhJ p (lnI s line) (hd0 s line.toNat))) fun y26=>
Zb (zdT s w ((line,home,y26,(w64 (base+(w64 (s23.1*hd0 s line.toNat)))),()):Trip) last) fun y28=>
cond (y28) (some (.inr (.inr (true,line,home,y26,(w64 (base+(w64 (s23.1*hd0 s line.toNat)))))))) (some (.inl ((w64 (s23.1-1)),s23.2.1,s23.2.2.1,s23.2.2.2.1,s23.2.2.2.2)))) (some (.inr (.inl (s23.2.1,s23.2.2.1,s23.2.2.2.1,s23.2.2.2.2):(Int×Bool×Int×Int)⊕(Bool×Int×Bool×Int×Int))))) n (K0+n-1,0,false,0,0) (match zgv (zjz p s line home 0 w) n with | none=>.inl (0,false,0,0) | some j=>.inr (true,line,home,zqO p (lnI s line) home (hd0 s line.toNat) (of0 s line.toNat) 0 j,zfe p (lnI s line) home (hd0 s line.toNat) (of0 s line.toNat) 0 j)):=by
    intro n;induction n with
    | zero=>
      intro _;refine Lp.done ?_;have e1:(K0+((0:Nat):Int))*hd0 s line.toNat=K0*hd0 s line.toNat:=by rw [show K0+((0:Nat):Int)=K0 by omega]
      rw [e1] at hb0 hb1;have e2:(K0+((0:Nat):Int)-1)*hd0 s line.toNat=K0*hd0 s line.toNat-hd0 s line.toNat:=by rw [show K0+((0:Nat):Int)-1=K0-1 by omega,Int.sub_mul,Int.one_mul]
      simp only [];rw [e2,zd (n:=K0*_-_) (by omega) (by omega),zd (by omega) (by omega),decide_eq_false (by omega),cond_false];rfl
    | succ n ih=>
      intro hnN;have h1:=hbd n (by omega);have hTn:=hT n;have e2:K0+((n+1:Nat):Int)-1=K0+n:=by omega
      have hm1:w64 ((K0+n)*hd0 s line.toNat)=(K0+n)*hd0 s line.toNat:=zd (by omega) (by omega);have hm2:w64 (base+(K0+n)*hd0 s line.toNat)=zfe p (lnI s line) home (hd0 s line.toNat) (of0 s line.toNat) 0 n:=by rw [zd (by omega) (by omega),hTn]
      have hcar:(K0+(n:Int))%zhJ p (lnI s line) (hd0 s line.toNat)=zqO p (lnI s line) home (hd0 s line.toNat) (of0 s line.toNat) 0 n:=by unfold zqO; rw [hK0]
      have hmay:=zxO (s:=s) (w:=w) hw hi home hway (car:=zqO p (lnI s line) home (hd0 s line.toNat) (of0 s line.toNat) 0 n) (t:=zfe p (lnI s line) home (hd0 s line.toNat) (of0 s line.toNat) 0 n) (last:=last) (by omega) (by omega);rw [Int.toNat_of_nonneg hl.1] at hmay;have hmj:zvl (zI (ln0 s line.toNat) home).1 w (zfe p (lnI s line) home (hd0 s line.toNat) (of0 s line.toNat) 0 n) last=zjz p s line home 0 w n:=by unfold zjz; rw [hgl]; rfl
      rw [hmj] at hmay;have hge:decide (zfe p (lnI s line) home (hd0 s line.toNat) (of0 s line.toNat) 0 n≥0)=true:=decide_eq_true (by omega);rw [show zgv (zjz p s line home 0 w) (n+1)=if zjz p s line home 0 w n then some n else zgv (zjz p s line home 0 w) n from rfl];cases hmb:zjz p s line home 0 w n with
      | true=>
        rw [hmb] at hmay;refine Lp.done ?_;simp only [e2,hm1,hm2,hge,cond_true,zhL (show 0<zhJ p (lnI s line) (hd0 s line.toNat) by omega) (by omega),Zs,hcar,hmay,if_true]
      | false=>
        rw [hmb] at hmay;refine Lp.step ?_ (ih (by omega));simp only [e2,hm1,hm2,hge,cond_true,zhL (show 0<zhJ p (lnI s line) (hd0 s line.toNat) by omega) (by omega),Zs,hcar,hmay,cond_false];rw [zd (n:=K0+(n:Int)-1) (by omega) (by omega)]
  have hup:∃ k:Int,-(-(before-last-base+1)/hd0 s line.toNat)=k∧(k=K0+N∨(N=0∧k≤K0)):=by
    refine ⟨_,rfl, ?_⟩;have g1:=C.e;rw [hT N] at g1;have g2:=(hul (K0+N)).2 (by omega);by_cases h0:N=0
    · right;subst h0;exact ⟨rfl,by omega⟩
    · left;have g3:=C.i (N-1) (by omega);rw [hT (N-1)] at g3;have g4:¬ -(-(before-last-base+1)/hd0 s line.toNat)≤K0+((N-1:Nat):Int):=fun q=>by
        have:=(hul _).1 q;omega
      omega
  obtain ⟨k,hk1,hk2⟩:=hup;rw [hk1];rcases hk2 with hk2 | ⟨h0,hk2⟩
  · rw [zd (n:=k-1) (by omega) (by omega),hk2,(key N (Nat.le_refl _)).big (by simp only [big]; omega),Zs];cases zgv (zjz p s line home 0 w) N<;>rfl
  · subst h0;have e1:(K0+((0:Nat):Int))*hd0 s line.toNat=K0*hd0 s line.toNat:=by rw [show K0+((0:Nat):Int)=K0 by omega]
    rw [e1] at hb0 hb1;have hkb:-100000000≤k:=by
      have h5:=(hul k).1 (by omega);by_cases q:k < -100000000
      · have:k*hd0 s line.toNat≤k*30:=Int.mul_le_mul_of_nonpos_left (by omega) (by omega);omega
      · omega
    have hk3:(k-1)*hd0 s line.toNat≤(K0-1)*hd0 s line.toNat:=Int.mul_le_mul_of_nonneg_right (by omega) (by omega);rw [Int.sub_mul K0 1,Int.one_mul] at hk3;have hk4:(-100000001)*7200≤(k-1)*hd0 s line.toNat:=by
      have h6:(-100000001)*hd0 s line.toNat≤(k-1)*hd0 s line.toNat:=Int.mul_le_mul_of_nonneg_right (by omega) (by omega);omega
    have hd:Lp (fun s23:Int×Int×Bool×Int×Int=>
cond (decide ((w64 (base+(w64 (s23.1*hd0 s line.toNat))))≥0)) (Zb (zaL s23.1 (zhJ p (lnI s line) (hd0 s line.toNat))) fun y26=>
Zb (zdT s w ((line,home,y26,(w64 (base+(w64 (s23.1*hd0 s line.toNat)))),()):Trip) last) fun y28=>
cond (y28) (some (.inr (.inr (true,line,home,y26,(w64 (base+(w64 (s23.1*hd0 s line.toNat)))))))) (some (.inl ((w64 (s23.1-1)),s23.2.1,s23.2.2.1,s23.2.2.2.1,s23.2.2.2.2)))) (some (.inr (.inl (s23.2.1,s23.2.2.1,s23.2.2.2.1,s23.2.2.2.2):(Int×Bool×Int×Int)⊕(Bool×Int×Bool×Int×Int))))) 0 (w64 (k-1),0,false,0,0) (.inl (0,false,0,0)):=by
      refine Lp.done ?_;simp only [];rw [zd (n:=k-1) (by omega) (by omega),zd (n:=(k-1)*_) (by omega) (by omega),zd (by omega) (by omega),decide_eq_false (by omega),cond_false]
    rw [hd.big (by simp only [big]; omega),Zs];rfl
end
end Go.Ai.Sx
