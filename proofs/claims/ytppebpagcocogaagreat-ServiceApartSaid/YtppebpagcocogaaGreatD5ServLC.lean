/- Service: extra cars. -/
import Derived.Test.YtppebpagcocogaaGreatS15
set_option linter.unusedSimpArgs false
set_option linter.unusedVariables false
set_option linter.unusedSectionVars false
namespace Go.Ai.Sx
open Option renaming bind->Zb,bind_some->Zs
def exN (ms:List Int) (c:Course) (f:Int):Nat->Int
 | 0=>0
 | k+1=>exN ms c f k+(zep (ms.getD k 0)*f+99)/100+dwl c (k+1)
def exL (ms:List Int) (c:Course) (f:Int):List Int:=rlN c.2.1.length (exN ms c f)
section
variable {c:Course} {ms:List Int} {p:Plan} (C:zsI p c) (M:zzt c ms) {f:Int} (hf:100≤f∧f≤400)
include C M hf
omit C in
theorem zpW (k:Nat):0≤zep (ms.getD k 0)*f∧zep (ms.getD k 0)*f≤3600*400:=by
 have:=zlt (M.b k);exact zco (a:=zep (ms.getD k 0)) (b:=f) (A:=3600) (B:=400) ⟨by omega,by omega⟩ ⟨by omega,by omega⟩
theorem zqE:∀ {k:Nat},k<c.2.1.length->0≤exN ms c f k∧exN ms c f k≤15001*k
 | 0,_=>by simp [exN]
 | k+1,hk=>by
  have h1:=zqE (k:=k) (by omega);have h2:=zpW M hf k;have h3:=C.dw (k+1) hk;simp only [exN];omega
end
section
variable {p:Plan} {l:Line} {home:Bool} (K:znR p l (zI l home)) {f:Int} (hf:100≤f∧f≤400)
include K hf
theorem zxM {k:Nat} (hk:k+1<(zI l home).2.1.length):idx (zpN (msC p l (zI l home)) (zI l home)) ((k+1:Nat):Int)=some (zep ((msC p l (zI l home)).getD k 0)):=by
 unfold zpN;rw [zcq hk];unfold zsJ;rw [if_neg (by omega)]; rfl
theorem zvh:zaF (rnS p l) (cond home 1 0) f=some (exL (msC p l (zI l home)) (zI l home) f):=by
  unfold zaF;have hco:zaj (rnS p l).1=some [l.1,l.2.1]:=rfl;have hcx:idx [l.1,l.2.1] (cond home 1 0)=some (zI l home):=by cases home<;>rfl
  have hR:∀ k,k+1<(zI l home).2.1.length->idx (zpN (msC p l (zI l home)) (zI l home)) ((k+1:Nat):Int)=some (zep ((msC p l (zI l home)).getD k 0)):=fun k hk=>zxM K hf hk;simp only [zy9,Zs,hco,hcx];have C:=K.C;have M:=K.M;have hn:=C.n;have hd:=C.d;generalize hms:msC p l (zI l home)=ms at *
  generalize zI l home=c at *
  have em:mkO 8 (zn (zpN ms c)) (0:Int)=some (List.replicate c.2.1.length 0):=by
    rw [zm,zu8,zpr (by omega),Int.toNat_natCast]
  rw [em,Zs];have key:∀ (k i:Nat),i+1+k=c.2.1.length->Lp (fun s38:Int×List Int=>
cond (decide (s38.1<(zn s38.2))) (Zb (idx s38.2 (w64 (s38.1-1))) fun x49=>
Zb (idx (zpN ms c) s38.1) fun x51=>
Zb (zcb .i64 (w64 ((w64 (x51*f))+99)) 100) fun x52=>
Zb (idx c.2.2.1 s38.1) fun x55=>
Zb (idx s38.2 s38.1) fun x56=>
some (.inl ((w64 (s38.1+1)),(s38.2).set (Int.toNat s38.1) (w64 ((w64 (x49+x52))+x55))))) (some (.inr s38.2))) k (((i+1:Nat):Int),rlN c.2.1.length (fun k=>if k≤i then exN ms c f k else 0)) (exL ms c f):=by
    intro k;induction k with
    | zero=>
      intro i hi;refine Lp.done ?_;simp only [];rw [show zn (rlN c.2.1.length (fun k=>if k≤i then exN ms c f k else 0))=(c.2.1.length:Int) by rw [zm,zdp],decide_eq_false (by omega),cond_false];have e1:rlN c.2.1.length (fun k=>if k≤i then exN ms c f k else 0)=exL ms c f:=zen fun k hk=>by rw [if_pos (by omega)]
      rw [e1]
    | succ k ih=>
      intro i hi;have hil:i+1<c.2.1.length:=by omega
      refine Lp.step ?_ (ih (i+1) (by omega));have a0:w64 (((i+1:Nat):Int)-1)=(i:Int):=by rw [zd (by omega) (by omega)]; omega
      have a1:idx (rlN c.2.1.length (fun k=>if k≤i then exN ms c f k else 0)) (i:Int)=some (exN ms c f i):=by rw [zcq (by omega),if_pos (by omega)]
      have a2:=hR i hil;have b1:=zpW M hf i;have b2:=zqE C M hf (k:=i) (by omega);have b3:=C.dw (i+1) hil;have a3:zcb .i64 (w64 (w64 (zep (ms.getD i 0)*f)+99)) 100=some ((zep (ms.getD i 0)*f+99)/100):=by
        rw [zd (n:=zep (ms.getD i 0)*f) (by omega) (by omega),zd (by omega) (by omega),zbJ ⟨by omega,by omega⟩ (by omega)]
      have a4:idx c.2.2.1 ((i+1:Nat):Int)=some (dwl c (i+1)):=zp (l:=c.2.2.1) (i:=i+1) 0 (by omega);have a5:idx (rlN c.2.1.length (fun k=>if k≤i then exN ms c f k else 0)) ((i+1:Nat):Int)=some 0:=by rw [zcq (by omega),if_neg (by omega)]
      have b4:(rlN c.2.1.length (fun k=>if k≤i then exN ms c f k else 0)).set (i+1) (w64 (w64 (exN ms c f i+(zep (ms.getD i 0)*f+99)/100)+dwl c (i+1)))=rlN c.2.1.length (fun k=>if k≤i+1 then exN ms c f k else 0):=by
        rw [zoQ,zd (n:=exN ms c f i+_) (by omega) (by omega),zd (by omega) (by omega)];refine zen fun k hk=>?_;by_cases e:k=i+1
        · subst e;rw [if_pos rfl,if_pos (by omega)]; rfl
        · rw [if_neg e];by_cases e2:k≤i
          · rw [if_pos e2,if_pos (by omega)]
          · rw [if_neg e2,if_neg (by omega)]
      have a6:decide (((i+1:Nat):Int)<zn (rlN c.2.1.length (fun k=>if k≤i then exN ms c f k else 0)))=true:=decide_eq_true (by rw [zm,zdp]; omega);simp only [a6,cond_true,a0,a1,a2,a3,a4,a5,Zs,zx (show i+1<9223372036854775807 by omega),Int.toNat_natCast,b4]
  have z1:List.replicate c.2.1.length (0:Int)=rlN c.2.1.length (fun k=>if k≤0 then exN ms c f k else 0):=by
    rw [zmA];refine zen fun k hk=>?_;by_cases e:k=0
    · subst e; rfl
    · rw [if_neg (by omega)]
  have hL:=(key (c.2.1.length-1) 0 (by omega)).big (by simp only [big]; omega);rw [show ((0+1:Nat):Int)=1 from rfl,← z1] at hL;rw [hL]; rfl
theorem znX (hp:zib p) (I:CIn p (zI l home)):zdB p l home f=some (exL (msC p l (zI l home)) (zI l home) f):=by
  unfold zdB;rw [zeE,Zs,zjy hp I,Zs];have C:=K.C;have M:=K.M;have hn:=C.n;have hd:=C.d;have hm:=M.n;generalize hms:msC p l (zI l home)=ms at *
  generalize zI l home=c at *
  have key:∀ k i:Nat,i+k=ms.length->Lp (fun s19:List Int×Int=>
cond (decide (s19.2<(zn (ms.map zep)))) (Zb (idx s19.1 s19.2) fun x28=>
Zb (idx (ms.map zep) s19.2) fun x29=>
Zb (zcb .i64 (w64 ((w64 (x29*f))+99)) 100) fun x30=>
Zb (idx c.2.2.1 (w64 (s19.2+1))) fun x31=>
Zb (zdQ 8 s19.1 ([(w64 ((w64 (x28+x30))+x31))])) fun x32=>
some (.inl (x32,(w64 (s19.2+1))))) (some (.inr s19.1))) k (rlN (i+1) (exN ms c f),(i:Int)) (exL ms c f):=by
    intro k;induction k with
    | zero=>
      intro i hi;refine Lp.done ?_;have:(i:Int)=((ms.map zep).length:Nat):=by rw [List.length_map]; omega
      simp only [this,zO,cond_false];unfold exL;rw [show i+1=c.2.1.length by omega]
    | succ k ih=>
      intro i hi;refine Lp.step ?_ (ih (i+1) (by omega));have hil:i<(ms.map zep).length:=by rw [List.length_map]; omega
      have a1:idx (rlN (i+1) (exN ms c f)) (i:Int)=some (exN ms c f i):=zcq (by omega);have a2:idx (ms.map zep) (i:Int)=some (zep (ms.getD i 0)):=by
        have h2:i<ms.length:=by omega
        rw [zeD,List.getElem?_map,List.getElem?_eq_getElem h2,show ms.getD i 0=ms[i] by simp [List.getD,h2]];rfl
      have b1:=zpW M hf i;have b2:=zqE C M hf (k:=i) (by omega);have b3:=C.dw (i+1) (by omega);have a3:zcb .i64 (w64 (w64 (zep (ms.getD i 0)*f)+99)) 100=some ((zep (ms.getD i 0)*f+99)/100):=by
        rw [zd (n:=zep (ms.getD i 0)*f) (by omega) (by omega),zd (by omega) (by omega),zbJ ⟨by omega,by omega⟩ (by omega)]
      have a4:idx c.2.2.1 ((i+1:Nat):Int)=some (dwl c (i+1)):=zp (l:=c.2.2.1) (i:=i+1) 0 (by omega);have a5:zdQ 8 (rlN (i+1) (exN ms c f)) [w64 (w64 (exN ms c f i+(zep (ms.getD i 0)*f+99)/100)+dwl c (i+1))]=some (rlN (i+1+1) (exN ms c f)):=by
        rw [za5 (by rw [zdp]; simp; omega),zju (i+1),zd (n:=exN ms c f i+_) (by omega) (by omega),zd (by omega) (by omega)];rfl
      simp only [zN hil,cond_true,a1,a2,a3,a4,a5,Zs,zx (show i<9223372036854775807 by omega)]
  have hL:=(key ms.length 0 (by omega)).big (by simp only [big]; omega);have h0:rlN (0+1) (exN ms c f)=[0]:=rfl;rw [h0,show ((0:Nat):Int)=0 from rfl] at hL;rw [hL]; rfl
end
def zfT (D base:Int) (X O:Nat->Int) (i:Nat):Int:=D+X i-base-O i
def zza (h gap D base:Int) (X O:Nat->Int) (i:Nat):Bool:=!decide (zfT D base X O i%h<gap)&&(!decide (h-zfT D base X O i%h<gap)&&(decide (i=0)||!(zfT D base X O i/h !=zfT D base X O (i-1)/h)))
def zoT (h gap D base:Int) (X O:Nat->Int) (n:Nat):Bool:=(List.range n).all (zza h gap D base X O)
theorem zvi {a h:Int} (hh:0<h):(a-a%h).tdiv h=a/h:=by
 have:=Int.emod_add_mul_ediv a h;rw [show a-a%h=h*(a/h) by omega,Int.mul_tdiv_cancel_left _ (by omega)]
section
variable {n:Nat} {X O:Nat->Int} {h gap D base:Int} (hn:n≤1000) (hh:30≤h∧h≤7200) (hg:1≤gap∧gap≤3600) (hX:∀ i,i<n->0≤X i∧X i≤10000000) (hO:∀ i,i<n->0≤O i∧O i≤10000000) (hD:0≤D∧D≤10000000) (hB:0≤base∧base≤10000000)
include hn hh hg hX hO hD hB
theorem zzb {i:Nat} (hi:i<n):zcb .i64 (w64 (zfT D base X O i-zfT D base X O i%h)) h=some (zfT D base X O i/h):=by
 have h1:=hX i hi;have h2:=hO i hi;have h3:=Int.emod_nonneg (zfT D base X O i) (show h≠0 by omega);have h4:=Int.emod_lt_of_pos (zfT D base X O i) (show 0<h by omega);have h5:=Int.emod_add_mul_ediv (zfT D base X O i) h;have h6:-30000000≤zfT D base X O i∧zfT D base X O i≤30000000:=by unfold zfT; omega
 have hdb:=zmg (a:=zfT D base X O i-zfT D base X O i%h) (A:=100000000) (b:=h) (by omega) ⟨by omega,by omega⟩;unfold zcb;rw [if_neg (by omega),zd (n:=zfT D base X O i-_) (by omega) (by omega)];rw [zvi (show 0<h by omega)] at *
 exact congrArg some (zd (by omega) (by omega))
theorem zA1 {i:Nat} (hi:i<n):w64 (w64 (w64 (D+X i)-base)-O i)=zfT D base X O i:=by
 have h1:=hX i hi;have h2:=hO i hi;unfold zfT;rw [zd (n:=D+_) (by omega) (by omega),zd (n:=D+_-_) (by omega) (by omega),zd (by omega) (by omega)]
theorem zxN {i:Nat} (hi:i<n) (prev:Int) (hpr:0<i->prev=zfT D base X O (i-1)/h):(Zb (some (zfT D base X O i%h)) fun y24=>
cond (decide (y24<gap)) (some (.inr (.inr false))) (cond (decide ((w64 (h-y24))<gap)) (some (.inr (.inr false))) (Zb (zcb .i64 (w64 (zfT D base X O i-y24)) h) fun x29=>
cond (decide ((i:Int)>0)) (cond (x29 !=prev) (some (.inr (.inr false))) (some (.inl (x29,(w64 ((i:Int)+1)))))) (some (.inl (x29,(w64 ((i:Int)+1))))))))=some (if zza h gap D base X O i then (.inl (zfT D base X O i/h,((i+1:Nat):Int)):(Int×Int)⊕(Unit⊕Bool)) else .inr (.inr false)):=by
 have h3:=Int.emod_nonneg (zfT D base X O i) (show h≠0 by omega);have h4:=Int.emod_lt_of_pos (zfT D base X O i) (show 0<h by omega);have hdv:=zzb hn hh hg hX hO hD hB hi;rw [Zs];unfold zza;rw [zd (n:=h-_) (by omega) (by omega),hdv,zx (by omega)];cases decide (zfT D base X O i%h<gap) with
 | true=>rfl
 | false=>
 cases decide (h-zfT D base X O i%h<gap) with
 | true=>rfl
 | false=>
 by_cases h0:i=0
 ·subst h0;rw [decide_eq_true (show (0:Nat)=0 from rfl)];rfl
 ·rw [decide_eq_true (show (i:Int)>0 by omega),decide_eq_false h0,hpr (by omega)];simp only [cond_false,cond_true,Zs,Bool.not_false,Bool.true_and,Bool.false_or];cases (zfT D base X O i/h !=zfT D base X O (i-1)/h)<;>rfl
theorem znY {F:(Int×Int)->Option ((Int×Int)⊕(Unit⊕Bool))} (hF:∀ (i:Nat),i<n->∀ prev,F (prev,(i:Int))=(Zb (some (zfT D base X O i%h)) fun y24=>
cond (decide (y24<gap)) (some (.inr (.inr false))) (cond (decide ((w64 (h-y24))<gap)) (some (.inr (.inr false))) (Zb (zcb .i64 (w64 (zfT D base X O i-y24)) h) fun x29=>
cond (decide ((i:Int)>0)) (cond (x29 !=prev) (some (.inr (.inr false))) (some (.inl (x29,(w64 ((i:Int)+1)))))) (some (.inl (x29,(w64 ((i:Int)+1))))))))) (hE:∀ prev,F (prev,(n:Int))=some (.inr (.inl ()))):iter F big (0,0)=some (if zoT h gap D base X O n then .inl () else .inr false):=by
 refine zb5 (τ:=Unit⊕Bool) (fun i=>(if i=0 then 0 else zfT D base X O (i-1)/h,(i:Int))) n (zza h gap D base X O) (.inr false) (.inl ()) rfl (by simp only [big]; omega) (fun i hi=>?_) (hE _);rw [hF i hi,zxN hn hh hg hX hO hD hB hi _ (fun h0=>by rw [if_neg (by omega)])];rw [if_neg (show ¬ i+1=0 by omega),show i+1-1=i by omega]
end
section
variable {p:Plan} {l:Line} {home:Bool} (KL:zpO p l) {h o f gap D:Int} (hh:30≤h∧h≤7200) (ho:0≤o∧o≤100000) (hf:100≤f∧f≤400) (hg:1≤gap∧gap≤3600) (hD:0≤D∧D≤1000000)
include KL hh ho hf hg hD
def zqF (p:Plan) (l:Line) (home:Bool) (h o f gap D:Int):Bool:=zoT h gap D (zfG p l home h o) (exN (msC p l (zI l home)) (zI l home) f) (zdE (msC p l (zI l home)) (zI l home)) (zI l home).2.1.length
omit hh ho hf hg hD in
theorem csO:znR p l (zI l home):=by
 cases home
 ·exact KL.o
 ·exact KL.h
theorem zs6:zar (rnS p l) (cond home 1 0) h o D f gap=some (zqF p l home h o f gap D):=by
 have K:znR p l (zI l home):=csO KL;have hb:=zgZ KL hh ho home;have hn:=K.C.n;have hX:∀ i,i<(zI l home).2.1.length->0≤exN (msC p l (zI l home)) (zI l home) f i∧exN (msC p l (zI l home)) (zI l home) f i≤10000000:=fun i hi=>by
  have:=zqE K.C K.M hf hi;omega
 have hO:∀ i,i<(zI l home).2.1.length->0≤zdE (msC p l (zI l home)) (zI l home) i∧zdE (msC p l (zI l home)) (zI l home) i≤10000000:=fun i hi=>by
  have:=zgb K.C K.M hi;omega
 unfold zar;rw [zvh K hf,Zs,zpS KL hh ho home,Zs];rw [znY (n:=(zI l home).2.1.length) (X:=exN (msC p l (zI l home)) (zI l home) f) (O:=zdE (msC p l (zI l home)) (zI l home)) (h:=h) (gap:=gap) (D:=D) (base:=zfG p l home h o) (by omega) hh hg hX hO (by omega) (by omega) (fun i hi prev=>?_) (fun prev=>?_)]
 ·rw [Zs];unfold zqF;cases zoT h gap D (zfG p l home h o) (exN (msC p l (zI l home)) (zI l home) f) (zdE (msC p l (zI l home)) (zI l home)) (zI l home).2.1.length<;>rfl
 ·have a1:idx (exL (msC p l (zI l home)) (zI l home) f) (i:Int)=some (exN (msC p l (zI l home)) (zI l home) f i):=zcq hi;have a2:idx (zfF (msC p l (zI l home)) (zI l home)) (i:Int)=some (zdE (msC p l (zI l home)) (zI l home) i):=zcq hi;have a3:decide ((i:Int)<zn (exL (msC p l (zI l home)) (zI l home) f))=true:=decide_eq_true (by unfold exL; rw [zm,zdp]; omega);have hfw:=zA1 (n:=(zI l home).2.1.length) (base:=zfG p l home h o) (D:=D) (by omega) hh hg hX hO (by omega) (by omega) hi;simp only [a3,cond_true,a1,Zs,zsS,a2,hfw,zic (show 0<h by omega) (by omega)]
 ·have a3:decide (((zI l home).2.1.length:Int)<zn (exL (msC p l (zI l home)) (zI l home) f))=false:=decide_eq_false (by unfold exL; rw [zm,zdp]; omega);simp only [a3,cond_false]
theorem zpX:zcX (exL (msC p l (zI l home)) (zI l home) f) (zfF (msC p l (zI l home)) (zI l home)) (zfG p l home h o) h D gap=some (zqF p l home h o f gap D):=by
 have K:znR p l (zI l home):=csO KL;have hb:=zgZ KL hh ho home;have hn:=K.C.n;have hX:∀ i,i<(zI l home).2.1.length->0≤exN (msC p l (zI l home)) (zI l home) f i∧exN (msC p l (zI l home)) (zI l home) f i≤10000000:=fun i hi=>by
  have:=zqE K.C K.M hf hi;omega
 have hO:∀ i,i<(zI l home).2.1.length->0≤zdE (msC p l (zI l home)) (zI l home) i∧zdE (msC p l (zI l home)) (zI l home) i≤10000000:=fun i hi=>by
  have:=zgb K.C K.M hi;omega
 unfold zcX;rw [znY (n:=(zI l home).2.1.length) (X:=exN (msC p l (zI l home)) (zI l home) f) (O:=zdE (msC p l (zI l home)) (zI l home)) (h:=h) (gap:=gap) (D:=D) (base:=zfG p l home h o) (by omega) hh hg hX hO (by omega) (by omega) (fun i hi prev=>?_) (fun prev=>?_)]
 ·rw [Zs];unfold zqF;cases zoT h gap D (zfG p l home h o) (exN (msC p l (zI l home)) (zI l home) f) (zdE (msC p l (zI l home)) (zI l home)) (zI l home).2.1.length<;>rfl
 ·have a1:idx (exL (msC p l (zI l home)) (zI l home) f) (i:Int)=some (exN (msC p l (zI l home)) (zI l home) f i):=zcq hi;have a2:idx (zfF (msC p l (zI l home)) (zI l home)) (i:Int)=some (zdE (msC p l (zI l home)) (zI l home) i):=zcq hi;have a3:decide ((i:Int)<zn (exL (msC p l (zI l home)) (zI l home) f))=true:=decide_eq_true (by unfold exL; rw [zm,zdp]; omega);have hfw:=zA1 (n:=(zI l home).2.1.length) (base:=zfG p l home h o) (D:=D) (by omega) hh hg hX hO (by omega) (by omega) hi;simp only [a3,cond_true,a1,Zs,a2,hfw,zhL (show 0<h by omega) (by omega)]
 ·have a3:decide (((zI l home).2.1.length:Int)<zn (exL (msC p l (zI l home)) (zI l home) f))=false:=decide_eq_false (by unfold exL; rw [zm,zdp]; omega);simp only [a3,cond_false]
end
end Go.Ai.Sx
