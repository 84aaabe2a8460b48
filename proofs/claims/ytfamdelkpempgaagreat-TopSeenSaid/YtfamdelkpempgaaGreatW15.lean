/- Service: a course and its running times. -/
import Derived.Test.YtfamdelkpempgaaGreatW14
import Derived.Test.YtfamdelkpempgaaGreatW9
import Derived.Test.YtfamdelkpempgaaGreatW13
set_option linter.unusedSimpArgs false
set_option linter.unusedVariables false
set_option linter.unusedSectionVars false
open Option renaming some→Ob,none→Oe
open Bool renaming false→Oc,true→Od
open Option renaming bind->Zb,bind_some->Zs
namespace Go.Ai.Sx
theorem zjn (n a b:Int):z5 n a b=Ob (inB n a b):=zej n a b
theorem zAN (n a b:Int):zb8 n a b=Ob (inB n a b):=zej n a b
theorem ztx {A:Type} {n:Nat} {f:Nat->A} {i:Nat} {v:A}:(rlN n f).set i v=rlN n λx=>if x=i then v else f x:=by
 apply List.ext_getElem?;intro j;unfold rlN;rw [List.getElem?_set];by_cases h:i=j
 . subst h;by_cases h2:i<n
   . simp [h2]
   . simp [h2]
 . by_cases h2:j<n
   . simp [h,h2,Ne.symm h]
   . simp [h,h2]
theorem zgB {A:Type} {n:Nat} {f g:Nat->A} (h:∀ i,i<n->f i=g i):rlN n f=rlN n g:=List.map_congr_left λi hi=>h i (List.mem_range.1 hi)
theorem ze1 {A:Type} {n:Nat} {f:Nat->A} {i:Nat} (h:i<n):idx (rlN n f) (i:Int)=Ob (f i):=by
 rw [zeZ]; unfold rlN; simp [h]
theorem zqv {A:Type} (n:Nat) (x:A):List.replicate n x=rlN n λ_=>x:=by
 apply List.ext_getElem?;intro j;unfold rlN;rw [List.getElem?_replicate];by_cases h:j<n<;>simp [h]
def dwl (c:Course) (i:Nat):Int:=c.2.2.1.getD i 0
def stB (p:Plan) (c:Course) (i:Nat):Bool:=inB (zcK c.2.1 i) 1 (wlS p c.1)&&(decide (i=0)||!decide (zcK c.2.1 i<=zcK c.2.1 (i-1)))&&inB (dwl c i) 0 600
def zor (c:Course):Bool:=inB (zp c.2.1) 2 60&&(decide (c.2.2.1.length=c.2.1.length)&&((dwl c 0==0)&&(dwl c (c.2.1.length-1)==0)))
def zug (p:Plan) (c:Course):Bool:=zkS p c.1&&(zor c&&(List.range c.2.1.length).all (stB p c))
theorem zty (c:Course) (e:Int) (he:2<=c.2.1.length->c.2.1.length<=60->c.2.2.1.length=c.2.1.length->e=((c.2.1.length-1:Nat):Int)):(cond (!(inB (zp c.2.1) 2 60)) (Ob Od) (cond (zp c.2.2.1 !=zp c.2.1) (Ob Od) (Zb (idx c.2.2.1 0) λx14=>
cond (x14 !=0) (Ob Od) (Zb (idx c.2.2.1 e) λx16=>
Ob (x16 !=0)))))=Ob (!zor c):=by
 unfold zor;cases h1:inB (zp c.2.1) 2 60 with
 | false=>rfl
 | true=>
 have h1:=zar.1 h1;rw [zq] at h1;by_cases h2:c.2.2.1.length=c.2.1.length
 . have e1:(zp c.2.2.1 !=zp c.2.1)=Oc:=by rw [zq,zq,h2]; exact bne_self_eq_false _
   rw [e1,decide_eq_true h2,he J J h2];have hp:0<c.2.2.1.length:=J
   have i0:idx c.2.2.1 0=Ob (dwl c 0):=zo (l:=c.2.2.1) (i:=0) 0 hp;rw [i0,zo (l:=c.2.2.1) (i:=c.2.1.length-1) 0 J];show cond (dwl c 0 !=0) (Ob Od) (Ob (dwl c (c.2.1.length-1)!=0))=_;unfold bne;cases (dwl c 0==0)<;>rfl
 . have e1:(zp c.2.2.1 !=zp c.2.1)=Od:=by
    rw [zq,zq];simp only [bne_iff_ne,ne_eq];omega
   rw [e1,decide_eq_false h2];rfl
theorem zj3 {c:Course} (h:zor c=Od):(2<=c.2.1.length/\c.2.1.length<=60)/\c.2.2.1.length=c.2.1.length/\dwl c 0=0/\dwl c (c.2.1.length-1)=0:=by
 unfold zor at h;simp only [Bool.and_eq_true,decide_eq_true_eq,beq_iff_eq] at h;obtain ⟨h1,h2,h3,h4⟩:=h;have h1:=zar.1 h1;rw [zq] at h1;exact ⟨by omega,h2,h3,h4⟩
structure ztz (p:Plan) (c:Course):Prop where
 w:zkS p c.1=Od
 n:2<=c.2.1.length/\c.2.1.length<=60
 d:c.2.2.1.length=c.2.1.length
 d0:dwl c 0=0
 dn:dwl c (c.2.1.length-1)=0
 st:∀ i,i<c.2.1.length->1<=zcK c.2.1 i/\zcK c.2.1 i<=wlS p c.1
 dw:∀ i,i<c.2.1.length->0<=dwl c i/\dwl c i<=600
theorem zAq {p:Plan} {c:Course} (h:zug p c=Od):ztz p c:=by
 unfold zug at h;simp only [Bool.and_eq_true] at h;obtain ⟨h1,h2,h3⟩:=h;obtain ⟨a,b,c1,d⟩:=zj3 h2;have hs:∀ i,i<c.2.1.length->stB p c i=Od:=λi hi=>List.all_eq_true.1 h3 i (List.mem_range.2 hi);refine ⟨h1,a,b,c1,d,λi hi=>?_,λi hi=>?_⟩
 . have:=hs i hi;unfold stB at this;simp only [Bool.and_eq_true] at this;exact zar.1 this.1.1
 . have:=hs i hi;unfold stB at this;simp only [Bool.and_eq_true] at this;exact zar.1 this.2
def ziN (ms:Int):Int:=max 1 ((ms+999)/1000)
theorem zos {ms:Int} (h:0<=ms/\ms<=3600000):1<=ziN ms/\ziN ms<=3600:=by unfold ziN; omega
def zqw (p:Plan) (l:Line) (c:Course):Option (List Int):=
 if zfi p c.1 l.2.2.1 l.2.2.2.1 c.2.1 then (zhI p c.1 l.2.2.1 l.2.2.2.1 c.2.1).map (λgs=>gs.map (·.1)) else Oe
theorem zwD {p:Plan} {l:Line} {c:Course} {ms:List Int} (h:zqw p l c=Ob ms) (hb:wlS p c.1<=248000000):ms.length=c.2.1.length-1/\∀ m∈ms,0<=m/\m<=3600000:=by
 unfold zqw at h;split at h
 . rename_i hs;cases hl:zhI p c.1 l.2.2.1 l.2.2.2.1 c.2.1 with
   | none=>rw [hl] at h; cases h
   | some gs=>
    rw [hl] at h;cases h;refine ⟨by rw [List.length_map]; exact zmW (zjm hs hb) hl,λm hm=>?_⟩;obtain ⟨g,hg,rfl⟩:=List.mem_map.1 hm;exact zyG hl g hg
 . cases h
theorem zB9 (p:Plan) (l:Line) (c:Course) (hw:c.1.length<=9223372036854775807) (hn:c.2.1.length<=60) (hb:wlS p c.1<=248000000):∃ e:Int,zb5 p c.1 l.2.2.1 l.2.2.2.1 c.2.1=Ob (match zqw p l c with | some ms=>(ms,0) | none=>([],e))/\(zqw p l c=Oe->e≠0):=by
 unfold zqw;cases hs:zfi p c.1 l.2.2.1 l.2.2.2.1 c.2.1 with
 | false=>exact ⟨2,zAn hw J hs,λ_=>by omega⟩
 | true=>
  refine ⟨4, ?_,λ_=>by omega⟩;rw [zyF hs hb];cases zhI p c.1 l.2.2.1 l.2.2.2.1 c.2.1<;>rfl
theorem zBB (p:Plan) (l:Line) (c:Course) (hw:c.1.length<=9223372036854775807) (hn:c.2.1.length<=60) (hb:wlS p c.1<=248000000):zfV p c.1 l.2.2.1 l.2.2.2.1 c.2.1=Ob (match zqw p l c with | some ms=>(ms,Od) | none=>([],Oc)):=by
  unfold zfV zqw;rw [zto p c.1 l.2.2.1 l.2.2.2.1 c.2.1 hw J];cases hs:zfi p c.1 l.2.2.1 l.2.2.2.1 c.2.1 with
  | false=>rfl
  | true=>
    have R:=zjm hs hb;simp only [Zs,Bool.not_true,cond_false,if_true];rw [zrr R];cases hl:zhI p c.1 l.2.2.1 l.2.2.2.1 c.2.1 with
    | none=>rfl
    | some gs=>
      have hlen:=zmW R hl;have hL:=zc2 (f:=λs7:List Int×Int=>
cond (decide (s7.2<zp gs)) (Zb (idx gs s7.2) λx10=>
Zb (zde 8 s7.1 ([x10.1])) λx13=>
Ob (.inl (x13,w64 (s7.2+1)))) (Ob (.inr s7.1))) gs (λi b=>(b,(i:Int))) (λ_ b c=>(.inl (b++[c.1]):List Int⊕List Int)) (λb=>b) (λi b=>b.length=i) [] (s0:=([],0)) rfl J rfl (λi h b hb=>by
        refine ⟨?_,λb' hb'=>?_⟩
        · simp only [];rw [zQ h,cond_true,zeZ,List.getElem?_eq_getElem h,Zs,zaK Oj,Zs,zy J]
        · cases hb'; simp; omega) (λb _=>by simp only [zS,cond_false])
      simp only [Zs];rw [hL,zfL,Zs];have:∀ (l:List Leg) (b:List Int),l.foldl (λb c=>b++[c.1]) b=b++l.map (·.1):=by
        intro l;induction l with
        | nil=>intro b; simp
        | cons a l ih=>intro b; rw [List.foldl_cons,ih]; simp
      rw [this]; rfl
def zuh (ms:List Int) (k:Nat):Int:=if k=0 then 0 else ziN (ms.getD (k-1) 0)
def zgj (ms:List Int) (c:Course):Nat->Int
 | 0=>0
 | k+1=>zgj ms c k+ziN (ms.getD k 0)+dwl c (k+1)
def zhr (ms:List Int) (c:Course):List Int:=rlN c.2.1.length (zgj ms c)
def zyK (ms:List Int) (c:Course):List Int:=rlN c.2.1.length (zuh ms)
def ziJ (p:Plan) (l:Line) (c:Course):Option (List Int):=if zug p c then zqw p l c else Oe
structure zAO (c:Course) (ms:List Int):Prop where
 n:ms.length=c.2.1.length-1
 b:∀ k,0<=ms.getD k 0/\ms.getD k 0<=3600000
theorem zpt {p:Plan} {l:Line} {c:Course} {ms:List Int} (h:ziJ p l c=Ob ms) (hb:zkS p c.1=Od->wlS p c.1<=248000000):ztz p c/\zAO c ms:=by
 unfold ziJ at h;split at h
 . rename_i hc;have C:=zAq hc;obtain ⟨h1,h2⟩:=zwD h (hb C.w);refine ⟨C,h1,λk=>?_⟩;by_cases hk:k<ms.length
   . rw [show ms.getD k 0=ms[k] by simp [List.getD,hk]];exact h2 _ (List.getElem_mem hk)
   . rw [show ms.getD k 0=0 by simp [List.getD,hk]]; omega
 . cases h
section
variable {p:Plan} {l:Line} {c:Course} {ms:List Int} (C:ztz p c) (M:zAO c ms)
include C M
theorem zot:∀ {k:Nat},k<c.2.1.length->0<=zgj ms c k/\zgj ms c k<=4200*k
 | 0,_=>by simp [zgj]
 | k+1,hk=>by
  have h1:=zot (k:=k) J;have h2:=zos (M.b k);have h3:=C.dw (k+1) hk;simp only [zgj];omega
theorem zwE {i j:Nat} (h:i<j) (hj:j<c.2.1.length):zgj ms c i+1<=zgj ms c j:=by
 induction j with
 | zero=>omega
 | succ j ih=>
  have h2:=zos (M.b j);have h3:=C.dw (j+1) hj;simp only [zgj];by_cases e:i=j
  . subst e; omega
  . have:=ih J J; omega
theorem zvY:∀ (k i:Nat),i+k=c.2.1.length-1->Lp (λs106:Int×List Int×List Int=>
cond (decide (s106.1<zp ms)) (Zb (idx ms s106.1) λx109=>
Zb (zdi .i64 (w64 (x109+999)) 1000) λx110=>
Zb (idx s106.2.2 (w64 (s106.1+1))) λx111=>
Zb (idx s106.2.1 s106.1) λx116=>
Zb (idx ((s106.2.2).set (Int.toNat (w64 (s106.1+1))) (max 1 x110)) (w64 (s106.1+1))) λx117=>
Zb (idx c.2.2.1 (w64 (s106.1+1))) λx118=>
Zb (idx s106.2.1 (w64 (s106.1+1))) λx119=>
Ob (.inl (w64 (s106.1+1),(s106.2.1).set (Int.toNat (w64 (s106.1+1))) (w64 (w64 (x116+x117)+x118)),(s106.2.2).set (Int.toNat (w64 (s106.1+1))) (max 1 x110)))) (Ob (.inr (s106.2.1,s106.2.2)))) k ((i:Int),rlN c.2.1.length (λk=>if k<=i then zgj ms c k else 0),rlN c.2.1.length (λk=>if k<=i then zuh ms k else 0)) (zhr ms c,zyK ms c):=by
 intro k;have hn:=C.n;have hd:=C.d;have hm:=M.n;induction k with
 | zero=>
  intro i hi;refine Lp.done ?_;simp only [];rw [show (i:Int)=(ms.length:Nat) by omega,zS,cond_false];have e1:rlN c.2.1.length (λk=>if k<=i then zgj ms c k else 0)=zhr ms c:=zgB λk hk=>by rw [if_pos J]
  have e2:rlN c.2.1.length (λk=>if k<=i then zuh ms k else 0)=zyK ms c:=zgB λk hk=>by rw [if_pos J]
  rw [e1,e2]
 | succ k ih=>
  intro i hi;have hil:i<ms.length:=J
  refine Lp.step ?_ (ih (i+1) J);have a1:idx ms (i:Int)=Ob (ms.getD i 0):=zo 0 hil;have hb:=M.b i;have hs:=zos hb;have a2:zdi .i64 (w64 (ms.getD i 0+999)) 1000=Ob ((ms.getD i 0+999)/1000):=by
   rw [zf J J,zcx ⟨by omega,by omega⟩ J]
  have a3:idx (rlN c.2.1.length (λk=>if k<=i then zuh ms k else 0)) ((i+1:Nat):Int)=Ob 0:=by
   rw [ze1 J,if_neg J]
  have a4:idx (rlN c.2.1.length (λk=>if k<=i then zgj ms c k else 0)) ((i:Nat):Int)=Ob (zgj ms c i):=by
   rw [ze1 J,if_pos J]
  have a5:idx (rlN c.2.1.length (λk=>if k<=i then zgj ms c k else 0)) ((i+1:Nat):Int)=Ob 0:=by
   rw [ze1 J,if_neg J]
  have a6:idx c.2.2.1 ((i+1:Nat):Int)=Ob (dwl c (i+1)):=zo 0 J;have hsec:max 1 ((ms.getD i 0+999)/1000)=ziN (ms.getD i 0):=rfl;have b1:(rlN c.2.1.length (λk=>if k<=i then zuh ms k else 0)).set (i+1) (ziN (ms.getD i 0))=rlN c.2.1.length (λk=>if k<=i+1 then zuh ms k else 0):=by
   rw [ztx];refine zgB λk hk=>?_;by_cases e:k=i+1
   ·subst e;rw [if_pos rfl,if_pos J];unfold zuh;rw [if_neg J]; rfl
   ·rw [if_neg e];by_cases e2:k<=i
    ·rw [if_pos e2,if_pos J]
    ·rw [if_neg e2,if_neg J]
  have hob:=zot C M (k:=i) J;have hdb:=C.dw (i+1) J;have b2:(rlN c.2.1.length (λk=>if k<=i then zgj ms c k else 0)).set (i+1) (w64 (w64 (zgj ms c i+ziN (ms.getD i 0))+dwl c (i+1)))=rlN c.2.1.length (λk=>if k<=i+1 then zgj ms c k else 0):=by
   rw [ztx,zf (n:=zgj ms c i+_) J J,zf J J];refine zgB λk hk=>?_;by_cases e:k=i+1
   ·subst e;rw [if_pos rfl,if_pos J]; rfl
   ·rw [if_neg e];by_cases e2:k<=i
    ·rw [if_pos e2,if_pos J]
    ·rw [if_neg e2,if_neg J]
  have a7:idx (rlN c.2.1.length (λk=>if k<=i+1 then zuh ms k else 0)) ((i+1:Nat):Int)=Ob (ziN (ms.getD i 0)):=by
   rw [ze1 J,if_pos J];unfold zuh;rw [if_neg J]; rfl
  simp only [zQ hil,cond_true,a1,Zs,a2,zy (show i<9223372036854775807 by omega),a3,a4,hsec,Int.toNat_natCast,b1,a7,a6,a5,b2]
end
theorem ztA {p:Plan} {l:Line} {c:Course} (hv:zaV p=Od) (hp:ziH p) (hwl:c.1.length<=9223372036854775807) (hsl:c.2.1.length<=9223372036854775807) (hb:zkS p c.1=Od->wlS p c.1<=248000000):zbu p l c=Ob (match ziJ p l c with | some ms=>(zyK ms c,zhr ms c,decide (zgj ms c (c.2.1.length-1)<=50000)) | none=>([],[],Oc)):=by
  unfold zbu;rw [zjG p hwl,hv,Bool.true_and,Zs];unfold ziJ zug;cases hw:zkS p c.1 with
  | false=>rfl
  | true=>
  have hb:=hb hw;simp only [if_true,show ((0:Int)!=0)=Oc from rfl,cond_false,zjn,Zs];rw [zty c _ (λh1 h2 _=>by rw [zq,zf J J]; omega),Zs];cases hh:zor c with
  | false=>rfl
  | true=>
  obtain ⟨hn,hd,hd0,hdn⟩:=zj3 hh;simp only [Bool.not_true,cond_false,Bool.true_and];have h:=zeD (f:=λs42:Int=>
cond (decide (s42<zp c.2.1)) (Zb (idx c.2.1 s42) λx45=>
cond (!(inB x45 1 (wlS p c.1))) (Ob (.inr (.inr ([],[],Oc)))) (cond (decide (s42>0)) (Zb (idx c.2.1 (w64 (s42-1))) λx59=>
cond (decide (x45<=x59)) (Ob (.inr (.inr ([],[],Oc)))) (Zb (idx c.2.2.1 s42) λx62=>
cond (!(inB x62 0 600)) (Ob (.inr (.inr ([],[],Oc)))) (Ob (.inl (w64 (s42+1)))))) (Zb (idx c.2.2.1 s42) λx65=>
cond (!(inB x65 0 600)) (Ob (.inr (.inr ([],[],Oc)))) (Ob (.inl (w64 (s42+1))))))) (Ob (.inr (.inl ():Unit⊕(List Int×List Int×Bool))))) (λk=>(k:Int)) c.2.1.length (stB p c) (.inr ([],[],Oc)) (.inl ()) (s0:=0) rfl Of (λi hi=>by
      have a1:idx c.2.1 (i:Int)=Ob (zcK c.2.1 i):=zo 0 hi;have a2:idx c.2.2.1 (i:Int)=Ob (dwl c i):=zo 0 J;unfold stB;by_cases h0:i=0
      · subst h0;simp only [zQ hi,cond_true,a1,a2,Zs,decide_eq_false (show ¬ (((0:Nat):Int)>0) by omega),cond_false,decide_eq_true (show (0:Nat)=0 from rfl),Bool.true_or,Bool.and_true,zy (show 0<9223372036854775807 by omega)];cases inB (zcK c.2.1 0) 1 (wlS p c.1)<;>cases inB (dwl c 0) 0 600<;>rfl
      · have a3:idx c.2.1 (w64 ((i:Int)-1))=Ob (zcK c.2.1 (i-1)):=by
          rw [zf J J,show (i:Int)-1=((i-1:Nat):Int) by omega];exact zo 0 J
        simp only [zQ hi,cond_true,a1,a2,a3,Zs,decide_eq_true (show (i:Int)>0 by omega),decide_eq_false h0,Bool.false_or,zy (show i<9223372036854775807 by omega)];cases inB (zcK c.2.1 i) 1 (wlS p c.1)<;>cases decide (zcK c.2.1 i<=zcK c.2.1 (i-1))<;>cases inB (dwl c i) 0 600<;>rfl) (by simp only [zS,cond_false])
  rw [h,Zs];cases hs:(List.range c.2.1.length).all (stB p c) with
  | false=>rfl
  | true=>
  simp only [if_true,zbw];obtain ⟨e,hR,he⟩:=zB9 p l c hwl J hb;rw [hR,Zs];cases hl:zqw p l c with
  | none=>
    have he:=he hl;have:(e !=0)=Od:=by simpa using he
    simp only [this,cond_true,Zs]
  | some ms=>
    have hrs:ziJ p l c=Ob ms:=by
      unfold ziJ zug;rw [hw,hh,hs];exact hl
    obtain ⟨C,M⟩:=zpt hrs (λ_=>hb);have hm:=M.n;have e1:(zp ms !=w64 (zp c.2.1-1))=Oc:=by
      rw [zq,zq,zf J J,hm];have:((c.2.1.length-1:Nat):Int)=(c.2.1.length:Int)-1:=J
      rw [this]; exact bne_self_eq_false _
    simp only [show ((0:Int)!=0)=Oc from rfl,cond_false,Zs,e1];have em:mkO 8 (zp c.2.1) (0:Int)=Ob (List.replicate c.2.1.length 0):=by
      rw [zvs (by rw [zq]; omega),zq,Int.toNat_natCast]
    simp only [em,Zs];have hL:=(zvY C M (c.2.1.length-1) 0 J).big Of;have z1:List.replicate c.2.1.length (0:Int)=rlN c.2.1.length (λk=>if k<=0 then zgj ms c k else 0):=by
      rw [zqv];refine zgB λk hk=>?_;by_cases e:k=0
      · subst e; rfl
      · rw [if_neg J]
    have z2:List.replicate c.2.1.length (0:Int)=rlN c.2.1.length (λk=>if k<=0 then zuh ms k else 0):=by
      rw [zqv];refine zgB λk hk=>?_;by_cases e:k=0
      · subst e; rfl
      · rw [if_neg J]
    rw [← z1,← z2] at hL;rw [show ((0:Nat):Int)=0 from rfl] at hL;rw [hL,Zs];have e2:idx (zhr ms c) (w64 (zp c.2.1-1))=Ob (zgj ms c (c.2.1.length-1)):=by
      rw [zq,zf J J,show (c.2.1.length:Int)-1=((c.2.1.length-1:Nat):Int) by omega];exact ze1 J
    rw [e2,Zs]
def okC (p:Plan) (l:Line) (c:Course):Bool:=match ziJ p l c with | some ms=>decide (zgj ms c (c.2.1.length-1)<=50000) | none=>Oc
def zfB (p:Plan) (l:Line):Bool:=inB l.2.2.2.2.1 0 3600&&(okC p l l.1&&okC p l l.2.1)
def msC (p:Plan) (l:Line) (c:Course):List Int:=(ziJ p l c).getD []
def rnS (p:Plan) (l:Line):zz:=(l,[zyK (msC p l l.1) l.1,zyK (msC p l l.2.1) l.2.1],[zhr (msC p l l.1) l.1,zhr (msC p l l.2.1) l.2.1],())
structure ztB (p:Plan) (l:Line):Prop where
 w1:l.1.1.length<=9223372036854775807
 s1:l.1.2.1.length<=9223372036854775807
 w2:l.2.1.1.length<=9223372036854775807
 s2:l.2.1.2.1.length<=9223372036854775807
 b1:zaV p=Od->zkS p l.1.1=Od->wlS p l.1.1<=248000000
 b2:zaV p=Od->zkS p l.2.1.1=Od->wlS p l.2.1.1<=248000000
def zvZ (p_0:Plan) (l_1:Line) (y10:List Course):(Int×List Int×List Int×List Int×List Int)->Option ((Int×List Int×List Int×List Int×List Int)⊕((List Int×List Int×List Int×List Int)⊕(Option zz×Bool×List Int×List Int×List Int×List Int))):=(λs39=>
cond (decide (s39.1<2)) (Zb (idx y10 s39.1) λx42=>
Zb (zbu p_0 l_1 x42) λy49=>
Zb (idx [(),()] s39.1) λx52=>
Zb (idx [(),()] s39.1) λx53=>
cond (!y49.2.2) (Ob (.inr (.inr ((Oe:Option zz),Oc,cond (s39.1==0) y49.1 s39.2.1,cond (s39.1==1) y49.1 s39.2.2.1,cond (s39.1==0) y49.2.1 s39.2.2.2.1,cond (s39.1==1) y49.2.1 s39.2.2.2.2)))) (Ob (.inl (w64 (s39.1+1),cond (s39.1==0) y49.1 s39.2.1,cond (s39.1==1) y49.1 s39.2.2.1,cond (s39.1==0) y49.2.1 s39.2.2.2.1,cond (s39.1==1) y49.2.1 s39.2.2.2.2)))) (Ob (.inr (.inl (s39.2.1,s39.2.2.1,s39.2.2.2.1,s39.2.2.2.2)))))
theorem zwF {p:Plan} {l:Line} {y:List Course} {c:Course} {i:Int} {r0 r1 o0 o1:List Int} (hi:i=0\/i=1) (hy:idx y i=Ob c) {r o:List Int} (hr:zbu p l c=Ob (r,o,Oc)):∃ T,zvZ p l y (i,r0,r1,o0,o1)=Ob (.inr (.inr (Oe,Oc,T))):=by
 unfold zvZ;rcases hi with rfl | rfl
 . simp only [show decide ((0:Int)<2)=Od from rfl,cond_true,hy,hr,Zs];exact ⟨_,rfl⟩
 . simp only [show decide ((1:Int)<2)=Od from rfl,cond_true,hy,hr,Zs];exact ⟨_,rfl⟩
theorem zv0 {p:Plan} {l:Line} {r0 r1 o0 o1:List Int} {b0 b1:Bool} (h0:zbu p l l.1=Ob (r0,o0,b0)) (h1:zbu p l l.2.1=Ob (r1,o1,b1)):∃ T,iter (zvZ p l [l.1,l.2.1]) big (0,[],[],[],[])=Ob (if (b0&&b1)=Od then .inl (r0,r1,o0,o1) else .inr (Oe,Oc,T)):=by
 cases b0 with
 | false=>
  obtain ⟨T,hT⟩:=zwF (r0:=[]) (r1:=[]) (o0:=[]) (o1:=[]) (y:=[l.1,l.2.1]) (.inl rfl) rfl h0;exact ⟨T,(Lp.done (N:=0) hT).big Of⟩
 | true=>
  have s0:zvZ p l [l.1,l.2.1] (0,[],[],[],[])=Ob (.inl (1,r0,[],o0,[])):=by
   unfold zvZ;simp only [show decide ((0:Int)<2)=Od from rfl,cond_true,show idx [l.1,l.2.1] (0:Int)=Ob l.1 from rfl,h0,Zs];rfl
  cases b1 with
  | false=>
   obtain ⟨T,hT⟩:=zwF (r0:=r0) (r1:=[]) (o0:=o0) (o1:=[]) (y:=[l.1,l.2.1]) (i:=1) (.inr rfl) rfl h1;exact ⟨T,(Lp.step s0 (Lp.done (N:=0) hT)).big Of⟩
  | true=>
   have s1:zvZ p l [l.1,l.2.1] (1,r0,[],o0,[])=Ob (.inl (2,r0,r1,o0,o1)):=by
    unfold zvZ;simp only [show decide ((1:Int)<2)=Od from rfl,cond_true,show idx [l.1,l.2.1] (1:Int)=Ob l.2.1 from rfl,h1,Zs];rfl
   have s2:zvZ p l [l.1,l.2.1] (2,r0,r1,o0,o1)=Ob (.inr (.inl (r0,r1,o0,o1))):=rfl;exact ⟨([],[],[],[]),(Lp.step s0 (Lp.step s1 (Lp.done (N:=0) s2))).big Of⟩
theorem zqx {p:Plan} {l:Line} (H:ztB p l):zcR p l=Ob (if (zaV p&&zfB p l)=Od then (Ob (rnS p l),Od) else (Oe,Oc)):=by
 unfold zcR;rw [zoa,Zs];cases hv:zaV p with
 | false=>rfl
 | true=>
 have hp:=zdd hv;simp only [if_true,show ((0:Int)!=0)=Oc from rfl,cond_false,zjn,Zs,Bool.true_and];unfold zfB;cases hy:inB l.2.2.2.2.1 0 3600 with
 | false=>rfl
 | true=>
 simp only [Bool.not_true,cond_false,Bool.true_and,show zcn l=Ob [l.1,l.2.1] from rfl,Zs];have e0:=ztA hv hp (l:=l) H.w1 H.s1 (H.b1 hv);have e1:=ztA hv hp (l:=l) H.w2 H.s2 (H.b2 hv);have f0:zbu p l l.1=Ob ((match ziJ p l l.1 with | some ms=>zyK ms l.1 | none=>[]),(match ziJ p l l.1 with | some ms=>zhr ms l.1 | none=>[]),okC p l l.1):=by
  rw [e0]; unfold okC;cases ziJ p l l.1<;>rfl
 have f1:zbu p l l.2.1=Ob ((match ziJ p l l.2.1 with | some ms=>zyK ms l.2.1 | none=>[]),(match ziJ p l l.2.1 with | some ms=>zhr ms l.2.1 | none=>[]),okC p l l.2.1):=by
  rw [e1]; unfold okC;cases ziJ p l l.2.1<;>rfl
 obtain ⟨T,hT⟩:=zv0 f0 f1;unfold zvZ at hT;rw [hT,Zs];cases h0:okC p l l.1 with
 | false=>rfl
 | true=>
 cases h1:okC p l l.2.1 with
 | false=>rfl
 | true=>
 simp only [Bool.and_self,if_true,zbw];unfold rnS msC;have g0:∃ ms,ziJ p l l.1=Ob ms:=by
  unfold okC at h0;cases hc:ziJ p l l.1 with
  | none=>rw [hc] at h0; cases h0
  | some ms=>exact ⟨ms,rfl⟩
 have g1:∃ ms,ziJ p l l.2.1=Ob ms:=by
  unfold okC at h1;cases hc:ziJ p l l.2.1 with
  | none=>rw [hc] at h1; cases h1
  | some ms=>exact ⟨ms,rfl⟩
 obtain ⟨m0,g0⟩:=g0;obtain ⟨m1,g1⟩:=g1;rw [g0,g1];rfl
def zfj (p:Plan) (l:Line) (c:Course):Int:=zgj (msC p l c) c (c.2.1.length-1)
def zpu (p:Plan) (l:Line):Int:=zfj p l l.1+zfj p l l.2.1+2*l.2.2.2.2.1
structure zpv (p:Plan) (l:Line) (c:Course):Prop where
 e:ziJ p l c=Ob (msC p l c)
 C:ztz p c
 M:zAO c (msC p l c)
 l1:1<=zfj p l c
 l2:zfj p l c<=50000
structure ztC (p:Plan) (l:Line):Prop where
 y:0<=l.2.2.2.2.1/\l.2.2.2.2.1<=3600
 o:zpv p l l.1
 h:zpv p l l.2.1
theorem zyL {p:Plan} {l:Line} {c:Course} (h:okC p l c=Od) (hb:zkS p c.1=Od->wlS p c.1<=248000000):zpv p l c:=by
 unfold okC at h;cases hc:ziJ p l c with
 | none=>rw [hc] at h; cases h
 | some ms=>
  rw [hc] at h;simp only [decide_eq_true_eq] at h;obtain ⟨C,M⟩:=zpt hc hb;have hm:msC p l c=ms:=by unfold msC; rw [hc]; rfl
  have hn:=C.n;have h1:=zwE C M (i:=0) (j:=c.2.1.length-1) J J;simp only [zgj] at h1;exact ⟨by rw [hm]; exact hc,C,by rw [hm]; exact M,by unfold zfj; rw [hm]; omega,by unfold zfj; rw [hm]; omega⟩
theorem zBC {p:Plan} {l:Line} (H:ztB p l) (hv:zaV p=Od) (h:zfB p l=Od):ztC p l:=by
 unfold zfB at h;simp only [Bool.and_eq_true] at h;exact ⟨zar.1 h.1,zyL h.2.1 (H.b1 hv),zyL h.2.2 (H.b2 hv)⟩
theorem zmX (ms:List Int) (c:Course):(zhr ms c).length=c.2.1.length:=zgW _ _
theorem zkV {p:Plan} {l:Line} {c:Course} (h:zpv p l c):idx (zhr (msC p l c) c) (w64 (zp (zhr (msC p l c) c)-1))=Ob (zfj p l c):=by
 have hn:=h.C.n;rw [zq,zmX,zf J J,show (c.2.1.length:Int)-1=((c.2.1.length-1:Nat):Int) by omega];exact ze1 J
section
variable {p:Plan} {l:Line} (K:ztC p l)
include K
theorem zkW (s:Bool):zA (rnS p l) (cond s 1 0)=Ob (cond s (zfj p l l.2.1) (zfj p l l.1)):=by
 unfold zA;cases s with
 | false=>
  simp only [cond_false];rw [show idx (rnS p l).2.2.1 (0:Int)=Ob (zhr (msC p l l.1) l.1) from rfl];simp only [Zs,zkV K.o]
 | true=>
  simp only [cond_true];rw [show idx (rnS p l).2.2.1 (1:Int)=Ob (zhr (msC p l l.2.1) l.2.1) from rfl];simp only [Zs,zkV K.h]
theorem ztD:2<=zpu p l/\zpu p l<=107200:=by
 have h1:=K.o.l1;have h2:=K.o.l2;have h3:=K.h.l1;have h4:=K.h.l2;have h5:=K.y;unfold zpu;omega
theorem zqy:zbv (rnS p l)=Ob (zpu p l):=by
 have h1:=K.o.l1;have h2:=K.o.l2;have h3:=K.h.l1;have h4:=K.h.l2;have h5:=K.y;unfold zbv;rw [show zA (rnS p l) 0=_ from zkW K Oc,show zA (rnS p l) 1=_ from zkW K Od];simp only [Zs,cond_true,cond_false];show Ob (w64 (w64 (zfj p l l.1+zfj p l l.2.1)+w64 (2*l.2.2.2.2.1)))=_;rw [zf (n:=zfj p l l.1+_) J J,zf (n:=2*_) J J,zf J J];rfl
def zmY (p:Plan) (l:Line) (h:Int):Int:=(zpu p l+h-1)/h
theorem zmZ {h:Int} (hh:1<=h/\h<=1000000000000):zba (rnS p l) h=Ob (zmY p l h):=by
 have:=ztD K;unfold zba;rw [zqy K,Zs,zf (n:=zpu p l+h) J J,zf J J,zcx ⟨by omega,by omega⟩ J];rfl
theorem ztE {h:Int} (hh:1<=h):1<=zmY p l h/\zmY p l h<=107200/\(zmY p l h-1)*h<zpu p l/\zpu p l<=zmY p l h*h/\zmY p l h*h<=zpu p l+h-1:=by
 have hb:=ztD K;obtain ⟨h1,h2⟩:=zyJ (r:=zpu p l) (show 0<h by omega);have h3:zmY p l h*h<=zpu p l+h-1:=Int.ediv_mul_le _ J;have h4:1<=zmY p l h:=by
  unfold zmY;rw [Int.le_ediv_iff_mul_le J];omega
 have h5:zmY p l h<=zpu p l:=by
  have:(zmY p l h-1)*1<=(zmY p l h-1)*h:=Int.mul_le_mul_of_nonneg_left J J;have h6:(zmY p l h-1)*h<zpu p l:=h1;omega
 exact ⟨h4,by omega,h1,h2,h3⟩
end
def zaW (l:Line) (home:Bool):Course:=cond home l.2.1 l.1
structure CIn (p:Plan) (c:Course):Prop where
 w:c.1.length<=9223372036854775807
 s:c.2.1.length<=9223372036854775807
 b:zkS p c.1=Od->wlS p c.1<=248000000
theorem ztB.c {p:Plan} {l:Line} (H:ztB p l) (hv:zaV p=Od) (home:Bool):CIn p (zaW l home):=by
 cases home
 . exact ⟨H.w1,H.s1,H.b1 hv⟩
 . exact ⟨H.w2,H.s2,H.b2 hv⟩
theorem zjo (l:Line) (home:Bool):ze2 l home=Ob (zaW l home):=by cases home<;>rfl
section
variable {p:Plan} {l:Line} {home:Bool} (hp:ziH p) (I:CIn p (zaW l home))
include hp I
theorem zqz:zc7 p l home=Ob (match ziJ p l (zaW l home) with | some ms=>(ms.map ziN,Od) | none=>([],Oc)):=by
  unfold zc7;rw [zjo,Zs];have hwl:=I.w;have hsl:=I.s;have hb:=I.b;generalize zaW l home=c at *
  rw [ztf hp hwl,Zs];unfold ziJ zug;cases hw:zkS p c.1 with
  | false=>rfl
  | true=>
  have hb:=hb hw;have hwo:=zfZ hw;simp only [Bool.not_true,cond_false,zAN,Zs];have hhd:zor c=Od->(2<=c.2.1.length/\c.2.1.length<=60)/\c.2.2.1.length=c.2.1.length:=λh=>⟨(zj3 h).1,(zj3 h).2.1⟩;rw [zty c _ (λh1 h2 h3=>by rw [zq,zf J J]; omega),Zs];cases hh:zor c with
  | false=>rfl
  | true=>
  obtain ⟨hn,hd⟩:=hhd hh;simp only [Bool.not_true,cond_false,Bool.true_and,zwy hp hwo,Zs];have h:=zeD (f:=λs56:Int=>
cond (decide (s56<zp c.2.1)) (Zb (idx c.2.1 s56) λx79=>
cond (!(inB x79 1 (wlS p c.1))) (Ob (.inr (.inr ([],Oc)))) (Zb (idx c.2.2.1 s56) λx84=>
cond (!(inB x84 0 600)) (Ob (.inr (.inr ([],Oc)))) (cond (decide (s56>0)) (Zb (idx c.2.1 s56) λx89=>
Zb (idx c.2.1 (w64 (s56-1))) λx90=>
cond (decide (x89<=x90)) (Ob (.inr (.inr ([],Oc)))) (Ob (.inl (w64 (s56+1))))) (Ob (.inl (w64 (s56+1))))))) (Ob (.inr (.inl ():Unit⊕(List Int×Bool))))) (λk=>(k:Int)) c.2.1.length (stB p c) (.inr ([],Oc)) (.inl ()) (s0:=0) rfl Of (λi hi=>by
      have a1:idx c.2.1 (i:Int)=Ob (zcK c.2.1 i):=zo 0 hi;have a2:idx c.2.2.1 (i:Int)=Ob (dwl c i):=zo 0 J;unfold stB;by_cases h0:i=0
      · subst h0;simp only [zQ hi,cond_true,a1,a2,Zs,decide_eq_false (show ¬ (((0:Nat):Int)>0) by omega),cond_false,decide_eq_true (show (0:Nat)=0 from rfl),Bool.true_or,Bool.and_true,zy (show 0<9223372036854775807 by omega)];cases inB (zcK c.2.1 0) 1 (wlS p c.1)<;>cases inB (dwl c 0) 0 600<;>rfl
      · have a3:idx c.2.1 (w64 ((i:Int)-1))=Ob (zcK c.2.1 (i-1)):=by
          rw [zf J J,show (i:Int)-1=((i-1:Nat):Int) by omega];exact zo 0 J
        simp only [zQ hi,cond_true,a1,a2,a3,Zs,decide_eq_true (show (i:Int)>0 by omega),decide_eq_false h0,Bool.false_or,zy (show i<9223372036854775807 by omega)];cases inB (zcK c.2.1 i) 1 (wlS p c.1)<;>cases decide (zcK c.2.1 i<=zcK c.2.1 (i-1))<;>cases inB (dwl c i) 0 600<;>rfl) (by simp only [zS,cond_false])
  rw [h,Zs];cases hs:(List.range c.2.1.length).all (stB p c) with
  | false=>rfl
  | true=>
  simp only [if_true,zbw,zBB p l c hwl J hb,Zs];cases hl:zqw p l c with
  | none=>rfl
  | some ms=>
    obtain ⟨m1,m2⟩:=zwD hl hb;simp only [Bool.not_true,cond_false];have hL:=zc2 (f:=λs105:List Int×Int=>
cond (decide (s105.2<zp ms)) (Zb (idx ms s105.2) λx108=>
Zb (zdi .i64 (w64 (x108+999)) 1000) λx109=>
Zb (zde 8 s105.1 ([max 1 x109])) λx110=>
Ob (.inl (x110,w64 (s105.2+1)))) (Ob (.inr s105.1))) ms (λi b=>(b,(i:Int))) (λ_ b c=>(.inl (b++[ziN c]):List Int⊕List Int)) (λb=>b) (λi b=>b.length=i) [] (s0:=([],0)) rfl J rfl (λi h b hb=>by
        refine ⟨?_,λb' hb'=>?_⟩
        · have hm:=m2 _ (List.getElem_mem h);have a2:zdi .i64 (w64 (ms[i]+999)) 1000=Ob ((ms[i]+999)/1000):=by
            rw [zf J J,zcx ⟨by omega,by omega⟩ J]
          simp only [];rw [zQ h,cond_true,zeZ,List.getElem?_eq_getElem h,Zs,a2,Zs,zaK Oj,Zs,zy J];rfl
        · cases hb'; simp; omega) (λb _=>by simp only [zS,cond_false])
    rw [hL,zfL,Zs];have:∀ (l:List Int) (b:List Int),l.foldl (λb c=>b++[ziN c]) b=b++l.map ziN:=by
      intro l;induction l with
      | nil=>intro b; simp
      | cons a l ih=>intro b; rw [List.foldl_cons,ih]; simp
    rw [this]; rfl
theorem zqA:zfb p l home=Ob ((msC p l (zaW l home)).map ziN):=by
 unfold zfb msC;rw [zqz hp I,Zs];cases ziJ p l (zaW l home)<;>rfl
theorem zpw (K:zpv p l (zaW l home)):zbq p l home=Ob (zhr (msC p l (zaW l home)) (zaW l home)):=by
  unfold zbq;rw [zjo,Zs,zqA hp I,Zs];generalize zaW l home=c at *
  have hn:=K.C.n;have hm:=K.M.n;have hd:=K.C.d;have key:∀ k i:Nat,i+k=(msC p l c).length->Lp (λs17:List Int×Int=>
cond (decide (s17.2<zp ((msC p l c).map ziN))) (Zb (idx s17.1 s17.2) λx25=>
Zb (idx ((msC p l c).map ziN) s17.2) λx26=>
Zb (idx c.2.2.1 (w64 (s17.2+1))) λx27=>
Zb (zde 8 s17.1 ([w64 (w64 (x25+x26)+x27)])) λx28=>
Ob (.inl (x28,w64 (s17.2+1)))) (Ob (.inr s17.1))) k (rlN (i+1) (zgj (msC p l c) c),(i:Int)) (zhr (msC p l c) c):=by
    intro k;induction k with
    | zero=>
      intro i hi;refine Lp.done ?_;have:(i:Int)=(((msC p l c).map ziN).length:Nat):=by rw [List.length_map]; omega
      simp only [this,zS,cond_false];unfold zhr;rw [show i+1=c.2.1.length by omega]
    | succ k ih=>
      intro i hi;refine Lp.step ?_ (ih (i+1) J);have hil:i<((msC p l c).map ziN).length:=by rw [List.length_map]; omega
      have a1:idx (rlN (i+1) (zgj (msC p l c) c)) (i:Int)=Ob (zgj (msC p l c) c i):=ze1 J;have a2:idx ((msC p l c).map ziN) (i:Int)=Ob (ziN ((msC p l c).getD i 0)):=by
        have h2:i<(msC p l c).length:=J
        rw [zeZ,List.getElem?_map,List.getElem?_eq_getElem h2,show (msC p l c).getD i 0=(msC p l c)[i] by simp [List.getD,h2]];rfl
      have a3:idx c.2.2.1 ((i+1:Nat):Int)=Ob (dwl c (i+1)):=zo (l:=c.2.2.1) (i:=i+1) 0 J;have b1:=zot K.C K.M (k:=i) J;have b2:=zos (K.M.b i);have b3:=K.C.dw (i+1) J;have a4:zde 8 (rlN (i+1) (zgj (msC p l c) c)) [w64 (w64 (zgj (msC p l c) c i+ziN ((msC p l c).getD i 0))+dwl c (i+1))]=Ob (rlN (i+1+1) (zgj (msC p l c) c)):=by
        rw [zaK (by rw [zgW]; simp; omega),zmV (i+1),zf (n:=zgj (msC p l c) c i+_) J J,zf J J];rfl
      simp only [zQ hil,cond_true,a1,a2,Zs,zy (show i<9223372036854775807 by omega),a3,a4]
  have hL:=(key (msC p l c).length 0 J).big Of;have h0:rlN (0+1) (zgj (msC p l c) c)=[0]:=rfl;rw [h0,show ((0:Nat):Int)=0 from rfl] at hL;rw [hL]; rfl
end
section
variable {p:Plan} {l:Line} (hv:zaV p=Od) (H:ztB p l)
include hv H
theorem zv1:zeg p l=Ob (zfB p l):=by
  have hp:=zdd hv;have key:∀ home:Bool,∀ s:Int,s=cond home 1 0->(Zb (zc7 p l (s==1)) λy14=>
cond (!y14.2) (Ob (.inr (.inr Oc))) (Zb (zbq p l (s==1)) λy17=>
Zb (idx y17 (w64 (zp y17-1))) λx19=>
cond (decide (x19>50000)) (Ob (.inr (.inr Oc))) (Ob (.inl (w64 (s+1))))))=Ob (if okC p l (zaW l home) then (.inl (w64 (s+1)):Int⊕(Unit⊕Bool)) else .inr (.inr Oc)):=by
    intro home s hs;have he:(s==1)=home:=by subst hs; cases home<;>rfl
    rw [he,zqz hp (H.c hv home),Zs];cases hc:ziJ p l (zaW l home) with
    | none=>
      have:okC p l (zaW l home)=Oc:=by unfold okC; rw [hc]
      rw [this]; rfl
    | some ms=>
      obtain ⟨C,M⟩:=zpt hc (H.c hv home).b;have hm:msC p l (zaW l home)=ms:=by unfold msC; rw [hc]; rfl
      simp only [Bool.not_true,cond_false];cases hok:okC p l (zaW l home) with
      | true=>
        have K:=zyL hok (H.c hv home).b;rw [zpw hp (H.c hv home) K,Zs,zkV K,Zs,decide_eq_false (by have:=K.l2; omega),cond_false,if_pos rfl]
      | false=>
        have h2:¬ zgj ms (zaW l home) ((zaW l home).2.1.length-1)<=50000:=by
          unfold okC at hok;rw [hc] at hok;simpa using hok
        have hof:zbq p l home=Ob (zhr ms (zaW l home)):=by
          unfold zbq;rw [zjo,Zs,zqA hp (H.c hv home),Zs,hm];generalize zaW l home=c at *
          have hn:=C.n;have hml:=M.n;have hd:=C.d;have key:∀ k i:Nat,i+k=ms.length->Lp (λs17:List Int×Int=>
cond (decide (s17.2<zp (ms.map ziN))) (Zb (idx s17.1 s17.2) λx25=>
Zb (idx (ms.map ziN) s17.2) λx26=>
Zb (idx c.2.2.1 (w64 (s17.2+1))) λx27=>
Zb (zde 8 s17.1 ([w64 (w64 (x25+x26)+x27)])) λx28=>
Ob (.inl (x28,w64 (s17.2+1)))) (Ob (.inr s17.1))) k (rlN (i+1) (zgj ms c),(i:Int)) (zhr ms c):=by
            intro k;induction k with
            | zero=>
              intro i hi;refine Lp.done ?_;have:(i:Int)=((ms.map ziN).length:Nat):=by rw [List.length_map]; omega
              simp only [this,zS,cond_false];unfold zhr;rw [show i+1=c.2.1.length by omega]
            | succ k ih=>
              intro i hi;refine Lp.step ?_ (ih (i+1) J);have hil:i<(ms.map ziN).length:=by rw [List.length_map]; omega
              have a1:idx (rlN (i+1) (zgj ms c)) (i:Int)=Ob (zgj ms c i):=ze1 J;have a2:idx (ms.map ziN) (i:Int)=Ob (ziN (ms.getD i 0)):=by
                have h2:i<ms.length:=J
                rw [zeZ,List.getElem?_map,List.getElem?_eq_getElem h2,show ms.getD i 0=ms[i] by simp [List.getD,h2]];rfl
              have a3:idx c.2.2.1 ((i+1:Nat):Int)=Ob (dwl c (i+1)):=zo (l:=c.2.2.1) (i:=i+1) 0 J;have b1:=zot C M (k:=i) J;have b2:=zos (M.b i);have b3:=C.dw (i+1) J;have a4:zde 8 (rlN (i+1) (zgj ms c)) [w64 (w64 (zgj ms c i+ziN (ms.getD i 0))+dwl c (i+1))]=Ob (rlN (i+1+1) (zgj ms c)):=by
                rw [zaK (by rw [zgW]; simp; omega),zmV (i+1),zf (n:=zgj ms c i+_) J J,zf J J];rfl
              simp only [zQ hil,cond_true,a1,a2,Zs,zy (show i<9223372036854775807 by omega),a3,a4]
          have hL:=(key ms.length 0 J).big Of;have h0:rlN (0+1) (zgj ms c)=[0]:=rfl;rw [h0,show ((0:Nat):Int)=0 from rfl] at hL;rw [hL]; rfl
        have hn:=C.n;have hla:idx (zhr ms (zaW l home)) (w64 (zp (zhr ms (zaW l home))-1))=Ob (zgj ms (zaW l home) ((zaW l home).2.1.length-1)):=by
          rw [zq,zmX,zf J J,show ((zaW l home).2.1.length:Int)-1=(((zaW l home).2.1.length-1:Nat):Int) by omega];exact ze1 J
        rw [hof,Zs,hla,Zs,decide_eq_true J,cond_true];rfl
  unfold zeg;rw [zAN,Zs];unfold zfB;cases inB l.2.2.2.2.1 0 3600 with
  | false=>rfl
  | true=>
  simp only [Bool.not_true,cond_false,Bool.true_and];have k0:=key Oc 0 rfl;have k1:=key Od 1 rfl;have h:=zeD (f:=λs11:Int=>
cond (decide (s11<2)) (Zb (zc7 p l (s11==1)) λy14=>
cond (!y14.2) (Ob (.inr (.inr Oc))) (Zb (zbq p l (s11==1)) λy17=>
Zb (idx y17 (w64 (zp y17-1))) λx19=>
cond (decide (x19>50000)) (Ob (.inr (.inr Oc))) (Ob (.inl (w64 (s11+1)))))) (Ob (.inr (.inl ():Unit⊕Bool)))) (λk=>(k:Int)) 2 (λk=>okC p l (zaW l (k==1))) (.inr Oc) (.inl ()) (s0:=0) rfl Of (λi hi=>by
      match i,hi with
      | 0,_=>exact k0
      | 1,_=>exact k1) rfl
  rw [h,Zs];show alt _ _ (if (List.range 2).all (λk=>okC p l (zaW l (k==1)))=Od then _ else _)=_;have e:(List.range 2).all (λk=>okC p l (zaW l (k==1)))=(okC p l l.1&&okC p l l.2.1):=by
    show (okC p l l.1&&(okC p l l.2.1&&Od))=_;rw [Bool.and_true]
  rw [e];cases (okC p l l.1&&okC p l l.2.1)<;>rfl
end
theorem zyM (home:Bool):zgi home=Ob (cond home 1 0):=by cases home<;>rfl
section
variable {p:Plan} {l:Line} (H:ztB p l)
include H
theorem zqB (home:Bool):zaa p l home=Ob (if (zaV p&&zfB p l)=Od then (zhr (msC p l (zaW l home)) (zaW l home),0) else ([],2)):=by
 unfold zaa;rw [zqx H,Zs,zyM];cases (zaV p&&zfB p l) with
 | false=>rfl
 | true=>cases home<;>rfl
end
theorem ztF {f:Nat->Int}:∀ (k a:Nat),(∀ i,a<=i->i<a+k->0<=f i)->∀ i,a<=i->i<a+k->f i<=ziD f a k
 | 0,a,_,i,h1,h2=>by omega
 | k+1,a,h,i,h1,h2=>by
  show f i<=f a+ziD f (a+1) k;by_cases e:i=a
  . subst e;have h3:=(sumR_nn k (i+1) λj h4 h5=>h j J J);omega
  . have:=ztF k (a+1) (λj h4 h5=>h j J J) i J J;have:=h a J J;omega
where sumR_nn {f:Nat->Int}:∀ (k a:Nat),(∀ i,a<=i->i<a+k->0<=f i)->0<=ziD f a k
 | 0,a,_=>by simp [ziD]
 | k+1,a,h=>by
  show 0<=f a+ziD f (a+1) k;have h1:=h a J J;have h2:=sumR_nn k (a+1) λj h4 h5=>h j J J;omega
structure zBD (p:Plan):Prop where
 n:p.1.length<=12
 r:p.2.1.length<=12
 l:zaV p=Od->∀ i:Nat,i<p.2.1.length->zgl p i<=200000
structure zzd (l:Line):Prop where
 w1:l.1.1.length<=12
 w2:l.2.1.1.length<=12
 s1:l.1.2.1.length<=6
 s2:l.2.1.2.1.length<=6
theorem zBE {p:Plan} {l:Line} (S:zBD p) (h:zzd l):ztB p l:=by
 have hb:∀ way:List zL,way.length<=12->zaV p=Od->zkS p way=Od->wlS p way<=248000000:=by
  intro way hn hv hw;have W:=zfZ hw;have hp:=zdd hv;have:=(zjh (f:=λi=>zgl p (way.getD i M0).1) (B:=200000) way.length 0 λi _ hi=>by
   have hm:=W.m i J;have h1:=S.l hv (way.getD i M0).1.toNat J;rw [Int.toNat_of_nonneg hm.1] at h1;have h2:=zh7 hp hm;omega).2
  have e:wlS p way=ziD (λi=>zgl p (way.getD i M0).1) 0 way.length:=rfl;rw [e];omega
 have a:=h.w1;have b:=h.w2;have c:=h.s1;have d:=h.s2;exact ⟨by omega,by omega,by omega,by omega,hb _ a,hb _ b⟩
def hd0 (s:Service) (i:Nat):Int:=s.2.1.getD i 0
def of0 (s:Service) (i:Nat):Int:=s.2.2.1.getD i 0
def L0:Line:=(([],[],[],()),([],[],[],()),(0,0,0,0,0,0,0,0,0,[],()),0,0,())
def ln0 (s:Service) (i:Nat):Line:=s.1.getD i L0
def hoB (s:Service) (i:Nat):Bool:=inB (hd0 s i) 30 7200&&inB (of0 s i) 0 (hd0 s i-1)
def ztG (p:Plan) (s:Service):Bool:=zaV p&&(inB (zp s.1) 1 20&&(decide (s.2.1.length=s.1.length)&&(decide (s.2.2.1.length=s.1.length)&&((List.range s.1.length).all λi=>zfB p (ln0 s i)&&hoB s i))))
structure ztH (p:Plan) (s:Service):Prop where
 n:s.1.length<=9223372036854775807
 h:s.2.1.length<=9223372036854775807
 l:∀ i,i<s.1.length->ztB p (ln0 s i)
theorem zv2 {p:Plan} {ls:List Line} (hI:∀ i,i<ls.length->ztB p (ls.getD i L0)):zdy p ls=Ob (if (inB (zp ls) 1 20&&(List.range ls.length).all λi=>zaV p&&zfB p (ls.getD i L0))=Od then (ls.map (rnS p),Od) else ([],Oc)):=by
  unfold zdy;rw [zjn,Zs];cases hi:inB (zp ls) 1 20 with
  | false=>rfl
  | true=>
  have hi:=zar.1 hi;rw [zq] at hi;simp only [Bool.not_true,cond_false,Bool.true_and];have key:∀ k i:Nat,i+k=ls.length->Lp (λs10:List zz×Int=>
cond (decide (s10.2<zp ls)) (Zb (idx ls s10.2) λx13=>
Zb (zcR p x13) λy15=>
cond (!y15.2) (Ob (.inr (.inr ([],Oc)))) (Zb y15.1 λp16=>
Zb (zde 8 s10.1 ([p16])) λx17=>
Ob (.inl (x17,w64 (s10.2+1))))) (Ob (.inr (.inl s10.1:List zz⊕(List zz×Bool))))) k ((ls.take i).map (rnS p),(i:Int)) (if ((List.range' i k).all λi=>zaV p&&zfB p (ls.getD i L0))=Od then .inl (ls.map (rnS p)) else .inr ([],Oc)):=by
    intro k;induction k with
    | zero=>
      intro i hi;have:i=ls.length:=J
      subst this;refine Lp.done ?_;simp only [zS,cond_false,List.take_length];rfl
    | succ k ih=>
      intro i hi;have hil:i<ls.length:=J
      have a1:idx ls (i:Int)=Ob (ls.getD i L0):=zo L0 hil;rw [List.range'_succ,List.all_cons];have ho:=zqx (hI i hil);cases hb:(zaV p&&zfB p (ls.getD i L0)) with
      | false=>
        rw [hb] at ho;refine Lp.done ?_;simp only [zQ hil,cond_true,a1,Zs,ho,Bool.false_eq_true,if_false,Bool.not_false,Bool.false_and]
      | true=>
        rw [hb] at ho;rw [Bool.true_and];refine Lp.step ?_ (ih (i+1) J);have htk:(ls.take (i+1)).map (rnS p)=(ls.take i).map (rnS p)++[rnS p (ls.getD i L0)]:=by
          rw [List.take_add_one,List.map_append];simp [List.getD,hil]
        simp only [zQ hil,cond_true,a1,Zs,ho,if_true,Bool.not_true,cond_false];rw [zaK (by rw [List.length_map,List.length_take]; simp; omega),Zs,zy J,htk]
  have hL:=(key ls.length 0 J).big Of;rw [show ((0:Nat):Int)=0 from rfl,← List.range_eq_range'] at hL;rw [show (ls.take 0).map (rnS p)=[] from rfl] at hL;rw [hL,Zs];cases ((List.range ls.length).all λi=>zaV p&&zfB p (ls.getD i L0))<;>rfl
theorem zou {n:Nat} {f g:Nat->Bool}:((List.range n).all λi=>f i&&g i)=((List.range n).all f&&(List.range n).all g):=by
 rw [Bool.eq_iff_iff,Bool.and_eq_true,List.all_eq_true,List.all_eq_true,List.all_eq_true];constructor
 . intro h;refine ⟨λx hx=>?_,λx hx=>?_⟩
   . have:=h x hx; rw [Bool.and_eq_true] at this; exact this.1
   . have:=h x hx; rw [Bool.and_eq_true] at this; exact this.2
 . intro h x hx;rw [h.1 x hx,h.2 x hx]; rfl
theorem zlY {p:Plan} {s:Service} (H:ztH p s):zcq p s=Ob (if ztG p s=Od then (s.1.map (rnS p),Od) else ([],Oc)):=by
  unfold zcq ztG;have hh:=H.h;have hn:=H.n;by_cases h1:s.2.1.length=s.1.length;rotate_left
  · have e1:(zp s.2.1 !=zp s.1)=Od:=by rw [zq,zq]; simp only [bne_iff_ne,ne_eq]; omega
    rw [e1,decide_eq_false h1];simp
  have e1:(zp s.2.1 !=zp s.1)=Oc:=by rw [zq,zq,h1]; exact bne_self_eq_false _
  by_cases h2:s.2.2.1.length=s.1.length;rotate_left
  · have e2:(zp s.2.2.1 !=zp s.1)=Od:=by rw [zq,zq]; simp only [bne_iff_ne,ne_eq]; omega
    rw [e1,e2,decide_eq_false h2];simp
  have e2:(zp s.2.2.1 !=zp s.1)=Oc:=by rw [zq,zq,h2]; exact bne_self_eq_false _
  rw [e1,e2,decide_eq_true h1,decide_eq_true h2];simp only [cond_false,Zs,Bool.true_and];have h:=zeD (f:=λs17:Int=>
cond (decide (s17<zp s.2.1)) (Zb (idx s.2.1 s17) λx20=>
Zb (z5 x20 30 7200) λy25=>
cond (!y25) (Ob (.inr (.inr ([],Oc)))) (Zb (idx s.2.2.1 s17) λx28=>
Zb (z5 x28 0 (w64 (x20-1))) λy29=>
cond (!y29) (Ob (.inr (.inr ([],Oc)))) (Ob (.inl (w64 (s17+1)))))) (Ob (.inr (.inl ():Unit⊕(List zz×Bool))))) (λk=>(k:Int)) s.2.1.length (hoB s) (.inr ([],Oc)) (.inl ()) (s0:=0) rfl Of (λi hi=>by
      have a1:idx s.2.1 (i:Int)=Ob (hd0 s i):=zo 0 hi;have a2:idx s.2.2.1 (i:Int)=Ob (of0 s i):=zo 0 J;unfold hoB;simp only [zQ hi,cond_true,a1,a2,Zs,zjn];cases hb:inB (hd0 s i) 30 7200 with
      | false=>rfl
      | true=>
        have hb:=zar.1 hb;simp only [Bool.not_true,cond_false,Bool.true_and];rw [zf J J,zy J];cases inB (of0 s i) 0 (hd0 s i-1)<;>rfl) (by simp only [zS,cond_false])
  rw [h,Zs,h1,zou];cases hA:(List.range s.1.length).all (hoB s) with
  | false=>
    simp;rfl
  | true=>
  simp only [if_true,zbw];rw [zv2 H.l];have hr:=zou (n:=s.1.length) (f:=λ_=>zaV p) (g:=λi=>zfB p (ln0 s i));unfold ln0 at hr;rw [hr];unfold ln0;cases hi:inB (zp s.1) 1 20 with
  | false=>simp
  | true=>
  have hi:=zar.1 hi;rw [zq] at hi;have hv:((List.range s.1.length).all λ_=>zaV p)=zaV p:=by
    obtain ⟨m,hm⟩:∃ m,s.1.length=m+1:=⟨s.1.length-1,by omega⟩;rw [hm,Bool.eq_iff_iff,List.all_eq_true];exact ⟨λh=>h 0 (List.mem_range.2 J),λh _ _=>h⟩
  rw [hv];simp only [Bool.and_true,Bool.true_and,Zs]
theorem ztI {p:Plan} {s:Service} (H:ztH p s):zeC p s=Ob (if ztG p s=Od then 0 else 2):=by
 unfold zeC;rw [zlY H,Zs];cases ztG p s<;>rfl
structure zwG (p:Plan) (s:Service):Prop where
 v:zaV p=Od
 n:1<=s.1.length/\s.1.length<=20
 h:s.2.1.length=s.1.length
 o:s.2.2.1.length=s.1.length
 l:∀ i,i<s.1.length->zfB p (ln0 s i)=Od
 hb:∀ i,i<s.1.length->30<=hd0 s i/\hd0 s i<=7200
 ob:∀ i,i<s.1.length->0<=of0 s i/\of0 s i<=hd0 s i-1
theorem zBF {p:Plan} {s:Service} (h:ztG p s=Od):zwG p s:=by
 unfold ztG at h;simp only [Bool.and_eq_true,decide_eq_true_eq] at h;obtain ⟨h1,h2,h3,h4,h5⟩:=h;have h2:=zar.1 h2;rw [zq] at h2;have h6:∀ i,i<s.1.length->zfB p (ln0 s i)=Od/\hoB s i=Od:=λi hi=>by
  have:=List.all_eq_true.1 h5 i (List.mem_range.2 hi);rwa [Bool.and_eq_true] at this
 refine ⟨h1,by omega,h3,h4,λi hi=>(h6 i hi).1,λi hi=>?_,λi hi=>?_⟩
 . have:=(h6 i hi).2;unfold hoB at this;rw [Bool.and_eq_true] at this;exact zar.1 this.1
 . have:=(h6 i hi).2;unfold hoB at this;rw [Bool.and_eq_true] at this;exact zar.1 this.2
theorem zkX {p:Plan} {s:Service} (H:ztH p s):zcY p s=Ob (ztG p s):=by
  unfold zcY ztG;rw [zkP,Zs];cases hv:zaV p with
  | false=>rfl
  | true=>
  simp only [Bool.not_true,cond_false,zAN,Zs];cases hi:inB (zp s.1) 1 20 with
  | false=>rfl
  | true=>
  have hi:=zar.1 hi;rw [zq] at hi;by_cases h1:s.2.1.length=s.1.length;rotate_left
  · have e1:(zp s.2.1 !=zp s.1)=Od:=by rw [zq,zq]; simp only [bne_iff_ne,ne_eq]; omega
    rw [e1,decide_eq_false h1];rfl
  have e1:(zp s.2.1 !=zp s.1)=Oc:=by rw [zq,zq,h1]; exact bne_self_eq_false _
  by_cases h2:s.2.2.1.length=s.1.length;rotate_left
  · have e2:(zp s.2.2.1 !=zp s.1)=Od:=by rw [zq,zq]; simp only [bne_iff_ne,ne_eq]; omega
    rw [e1,e2,decide_eq_true h1,decide_eq_false h2];rfl
  have e2:(zp s.2.2.1 !=zp s.1)=Oc:=by rw [zq,zq,h2]; exact bne_self_eq_false _
  rw [e1,e2,decide_eq_true h1,decide_eq_true h2];simp only [Bool.not_true,cond_false,Zs,Bool.true_and];have h:=zeD (f:=λs44:Int=>
cond (decide (s44<zp s.1)) (Zb (idx s.1 s44) λx65=>
Zb (zeg p x65) λy66=>
cond (!y66) (Ob (.inr (.inr Oc))) (Zb (idx s.2.1 s44) λx69=>
cond (!(inB x69 30 7200)) (Ob (.inr (.inr Oc))) (Zb (idx s.2.2.1 s44) λx73=>
Zb (idx s.2.1 s44) λx74=>
cond (!(inB x73 0 (w64 (x74-1)))) (Ob (.inr (.inr Oc))) (Ob (.inl (w64 (s44+1))))))) (Ob (.inr (.inl ():Unit⊕Bool)))) (λk=>(k:Int)) s.1.length (λi=>zfB p (ln0 s i)&&hoB s i) (.inr Oc) (.inl ()) (s0:=0) rfl Of (λi hi=>by
      have a0:idx s.1 (i:Int)=Ob (ln0 s i):=zo L0 hi;have a1:idx s.2.1 (i:Int)=Ob (hd0 s i):=zo 0 J;have a2:idx s.2.2.1 (i:Int)=Ob (of0 s i):=zo 0 J;unfold hoB;simp only [zQ hi,cond_true,a0,a1,a2,Zs,zv1 hv (H.l i hi)];cases zfB p (ln0 s i) with
      | false=>rfl
      | true=>
      cases hb:inB (hd0 s i) 30 7200 with
      | false=>rfl
      | true=>
        have hb:=zar.1 hb;simp only [Bool.not_true,cond_false,Bool.true_and];rw [zf J J,zy J];cases inB (of0 s i) 0 (hd0 s i-1)<;>rfl) (by simp only [zS,cond_false])
  rw [h,Zs];cases ((List.range s.1.length).all λi=>zfB p (ln0 s i)&&hoB s i)<;>rfl
structure zCA (p:Plan) (s:Service):Prop where
 S:zBD p
 l:∀ i,i<s.1.length->zzd (ln0 s i)
 n:s.1.length<=3
 h:s.2.1.length<=4
 o:s.2.2.1.length<=4
theorem zyN {A:Type} (x:Option A):(Zb x λy=>Ob y)=x:=by cases x<;>rfl
theorem zov {n h:Int} (hh:0<h) (h2:h<=1000000000000):zcb n h=Ob (n%h):=by
 have:=zyI (n:=n) hh h2;unfold zcb;simp only [zyN];exact this
def zlh (p:Plan) (l:Line) (home:Bool) (h o:Int):Int:=cond home (o+zfj p l l.1+l.2.2.2.2.1+(zmY p l h*h-zpu p l)/2) o
section
variable {p:Plan} {l:Line} (K:ztC p l) {h o:Int} (hh:30<=h/\h<=7200) (ho:0<=o/\o<=100000)
include K hh ho
theorem zAr (home:Bool):o<=zlh p l home h o/\zlh p l home h o<=o+60000:=by
 obtain ⟨c1,c2,c3,c4,c5⟩:=ztE K (h:=h) J;have h1:=K.o.l1;have h2:=K.o.l2;have h5:=K.y;unfold zlh;cases home with
 | false=>simp only [cond_false]; omega
 | true=>simp only [cond_true]; omega
theorem zAs (home:Bool):zcu (rnS p l) (cond home 1 0) h o=Ob (zlh p l home h o):=by
 obtain ⟨c1,c2,c3,c4,c5⟩:=ztE K (h:=h) J;have hb:=ztD K;have h1:=K.o.l1;have h2:=K.o.l2;have h5:=K.y;unfold zcu;cases home with
 | false=>rfl
 | true=>
  simp only [cond_true,show ((1:Int)==0)=Oc from rfl,cond_false];rw [show zA (rnS p l) 0=_ from zkW K Oc,zmZ K J,zqy K];simp only [Zs,cond_false];rw [zf (n:=zmY p l h*h) J J,zf (n:=zmY p l h*h-_) J J,zcx ⟨by omega,by omega⟩ J,Zs];show Ob (w64 (w64 (w64 (o+zfj p l l.1)+l.2.2.2.2.1)+(zmY p l h*h-zpu p l)/2))=_;rw [zf (n:=o+_) J J,zf (n:=o+_+_) J J,zf J J];rfl
end
section
variable {p:Plan} {s:Service} (V:zwG p s) (H:ztH p s)
include V H
theorem lnK {i:Nat} (hi:i<s.1.length):ztC p (ln0 s i):=zBC (H.l i hi) V.v (V.l i hi)
theorem zpx:ztG p s=Od:=by
 have hn:=V.n;unfold ztG;rw [V.v,decide_eq_true V.h,decide_eq_true V.o,zar.2 (show 1<=zp s.1/\zp s.1<=20 by rw [zq]; omega)];simp only [Bool.true_and];rw [List.all_eq_true];intro i hi;have hi:=List.mem_range.1 hi;rw [V.l i hi,Bool.true_and];unfold hoB;rw [zar.2 (V.hb i hi),zar.2 (V.ob i hi)]; rfl
end
section
variable {p:Plan} {ls:List Line} (hn:1<=ls.length/\ls.length<=20) (hK:∀ i,i<ls.length->ztC p (ls.getD i L0))
include hn hK
omit hn hK in
theorem zAt {i:Int} (hi:0<=i/\i<ls.length):idx (ls.map (rnS p)) i=Ob (rnS p (ls.getD i.toNat L0)):=by
 obtain ⟨k,rfl⟩:∃ k:Nat,i=(k:Int):=⟨i.toNat,by omega⟩;have h2:k<ls.length:=J
 rw [Int.toNat_natCast,zeZ,List.getElem?_map,List.getElem?_eq_getElem h2];simp [List.getD,h2]
end
def wkB (p:Plan) (x:Works):Bool:=inB x.1 0 (p.2.1.length-1)&&(inB x.2.1 0 x.2.2.1&&!decide (x.2.2.1>200000))
def zwH (p:Plan) (w:List Works):Bool:=decide (zp w<=100)&&w.all (wkB p)
def W0:Works:=(0,0,0,())
theorem zlZ {A:Type} (l:List A) (q:A->Bool) (d:A):((List.range l.length).all λi=>q (l.getD i d))=l.all q:=by
 rw [Bool.eq_iff_iff,List.all_eq_true,List.all_eq_true];constructor
 . intro h x hx;obtain ⟨i,hi,rfl⟩:=List.getElem_of_mem hx;have:=h i (List.mem_range.2 hi);rwa [show l.getD i d=l[i] by simp [List.getD,hi]] at this
 . intro h i hi;have hi:=List.mem_range.1 hi;rw [show l.getD i d=l[i] by simp [List.getD,hi]];exact h _ (List.getElem_mem hi)
theorem zrs {p:Plan} (hp:ziH p) (w:List Works) (hw:w.length<=9223372036854775807):zcZ p w=Ob (zwH p w):=by
 unfold zcZ zwH;by_cases h:zp w<=100
 . rw [decide_eq_true h];have hR:=hp.r;obtain ⟨k,g1,g2⟩:=zfY w hw (λx=>zbU x p) (λx=>!wkB p x) (λx _=>by
    unfold zbU wkB;simp only [zjn,Zs];rw [zq,zf J J];cases inB x.1 0 ((p.2.1.length:Int)-1) with
    | false=>rfl
    | true=>
    cases inB x.2.1 0 x.2.2.1 with
    | false=>rfl
    | true=>cases decide (x.2.2.1>200000)<;>rfl)
   unfold zX zab;simp only [cond_true,Bool.true_and];rw [g1];simp only [Zs,g2];rw [zsQ w _ W0,Bool.not_not];simp only [Bool.not_not];rw [zlZ w (wkB p) W0]
 . rw [decide_eq_false h]; rfl
theorem ztJ {p:Plan} (hp:ziH p) (w:List Works) (hw:w.length<=9223372036854775807):zey p w=Ob (zwH p w):=by
  unfold zey zwH;have hR:=hp.r;have h:=zeD (f:=λs29:Int=>
cond (decide (s29<zp w)) (Zb (idx w s29) λx48=>
Zb (zb8 x48.1 0 (w64 (zp p.2.1-1))) λy49=>
cond (!y49) (Ob (.inr (.inr Oc))) (Zb (idx w s29) λx52=>
Zb (idx w s29) λx53=>
Zb (zb8 x52.2.1 0 x53.2.2.1) λy54=>
cond (!y54) (Ob (.inr (.inr Oc))) (Zb (idx w s29) λx57=>
cond (decide (x57.2.2.1>200000)) (Ob (.inr (.inr Oc))) (Ob (.inl (w64 (s29+1))))))) (Ob (.inr (.inl ():Unit⊕Bool)))) (λk=>(k:Int)) w.length (λi=>wkB p (w.getD i W0)) (.inr Oc) (.inl ()) (s0:=0) rfl Of (λi hi=>by
      unfold wkB;simp only [zQ hi,cond_true,zo W0 hi,Zs,zAN,zy (show i<9223372036854775807 by omega)];rw [zq,zf (n:=(p.2.1.length:Int)-1) J J];cases inB (w.getD i W0).1 0 ((p.2.1.length:Int)-1) with
      | false=>rfl
      | true=>
      cases inB (w.getD i W0).2.1 0 (w.getD i W0).2.2.1 with
      | false=>rfl
      | true=>cases decide ((w.getD i W0).2.2.1>200000)<;>rfl) (by simp only [zS,cond_false])
  rw [h,Zs,zlZ w (wkB p) W0];cases w.all (wkB p) with
  | false=>rw [Bool.and_false]; rfl
  | true=>rw [Bool.and_true]; rfl
def onB (way:List zL) (x:Works):Bool:=way.any λm=>m.1==x.1
def zBG (way:List zL) (t last:Int) (x:Works):Bool:=onB way x&&(decide (t<x.2.2.1)&&decide (x.2.1<t+last))
def zBH (way:List zL) (w:List Works) (t last:Int):Bool:=!(w.any (zBG way t last))
section
variable {p:Plan} {l:Line} (K:ztC p l)
include K
theorem zAu (home:Bool) {t:Int} (ht:-1000000000<=t/\t<=1000000000) (w:List Works) (hw:w.length<=9223372036854775807):zaD (rnS p l) (cond home 1 0) t w=Ob (zBH (zaW l home).1 w t (zfj p l (zaW l home))):=by
 have KC:zpv p l (zaW l home):=by cases home; exact K.o; exact K.h
 have h1:=KC.l1;have h2:=KC.l2;have hW:=(zfZ KC.C.w).n;have hla:zA (rnS p l) (cond home 1 0)=Ob (zfj p l (zaW l home)):=by
  have:=zkW K home;rw [this]; cases home<;>rfl
 have hcx:idx [l.1,l.2.1] (cond home 1 0)=Ob (zaW l home):=by cases home<;>rfl
 unfold zaD;rw [show zcn (rnS p l).1=Ob [l.1,l.2.1] from rfl,Zs,hcx,Zs];obtain ⟨k,g1,g2⟩:=zfY w hw (λx=>za3 x (zaW l home).1 t (rnS p l) (cond home 1 0)) (zBG (zaW l home).1 t (zfj p l (zaW l home))) (λx _=>by
  unfold za3 zBG onB;obtain ⟨k,q1,q2⟩:=zfY (zaW l home).1 J (λm=>zbW m x) (λm=>m.1==x.1) (λm _=>rfl);unfold za0 zaB;rw [q1];simp only [Zs,q2];cases ((zaW l home).1.any λm=>m.1==x.1) with
  | false=>rfl
  | true=>
  cases decide (t<x.2.2.1) with
  | false=>rfl
  | true=>
   simp only [cond_true,hla,Zs,Bool.true_and];rw [zf J J])
 unfold zX zab;rw [g1];simp only [Zs,g2];rfl
end
def ztK (p:Plan) (l:Line) (home:Bool) (h o from_:Int):Int:=-((zlh p l home h o-from_)/h)
def zgf (p:Plan) (l:Line) (home:Bool) (h o from_:Int) (j:Nat):Int:=zlh p l home h o+(ztK p l home h o from_+j)*h
def zAP (p:Plan) (l:Line) (home:Bool) (h o from_:Int) (j:Nat):Int:=(ztK p l home h o from_+j)%zmY p l h
section
variable {p:Plan} {l:Line} (K:ztC p l) {h o from_:Int} (hh:30<=h/\h<=7200) (ho:0<=o/\o<=100000) (hf:0<=from_/\from_<=1000000) (home:Bool)
include K hh ho hf
theorem zkY:from_+(zlh p l home h o-from_)%h=zgf p l home h o from_ 0:=by
 have:=ztw (base:=zlh p l home h o) (start:=from_) (h:=h);rw [this];unfold zgf ztK;rw [show (-((zlh p l home h o-from_)/h)+((0:Nat):Int))=-((zlh p l home h o-from_)/h) by omega]
omit K hh ho hf in
theorem zhF (j:Nat):zgf p l home h o from_ j+h=zgf p l home h o from_ (j+1):=by
 unfold zgf;rw [show ztK p l home h o from_+((j+1:Nat):Int)=(ztK p l home h o from_+j)+1 by omega,Int.add_mul (ztK p l home h o from_+j) 1 h,Int.one_mul];omega
theorem ziK (j:Nat):from_+j*30<=zgf p l home h o from_ j/\from_<=zgf p l home h o from_ j:=by
 induction j with
 | zero=>
  have h1:=zkY K hh ho hf home;have h2:=Int.emod_nonneg (zlh p l home h o-from_) (show h≠0 by omega);omega
 | succ j ih=>
  rw [← zhF home j];omega
theorem zyO:zgf p l home h o from_ 0<from_+h:=by
 have h1:=zkY K hh ho hf home;have h2:=Int.emod_lt_of_pos (zlh p l home h o-from_) (show 0<h by omega);omega
theorem zyP {σ τ:Type} {step:σ->(Int×Int)->Option (σ⊕τ)} {N:Nat} (hN:N<1000000) (S:Nat->σ) (z:τ) (hb:zgf p l home h o from_ N<=1000000000) (hs:∀ j,j<N->step (S j) (zgf p l home h o from_ j,zAP p l home h o from_ j)=Ob (.inl (S (j+1)))) (he:step (S N) (zgf p l home h o from_ N,zAP p l home h o from_ N)=Ob (.inr z)):zK step (S 0) (rnS p l) (cond home 1 0) h o from_=Ob (.inr z):=by
  have hB:=zAr K hh ho home;obtain ⟨c1,c2,c3,c4,c5⟩:=ztE K (h:=h) J;unfold zK;rw [zAs K hh ho home,Zs,zf (n:=zlh p l home h o-from_) J J,zov J J,Zs];have h2:=Int.emod_lt_of_pos (zlh p l home h o-from_) (show 0<h by omega);have h3:=Int.emod_nonneg (zlh p l home h o-from_) (show h≠0 by omega);rw [zf (n:=from_+_) J J,zkY K hh ho hf home];have hmono:∀ j,j<=N->zgf p l home h o from_ j<=zgf p l home h o from_ N:=by
    intro j hj;induction N with
    | zero=>
      have:j=0:=J
      subst this; exact Int.le_refl _
    | succ N ih=>
      by_cases e:j=N+1
      · subst e; exact Int.le_refl _
      · have h5:zgf p l home h o from_ j<=zgf p l home h o from_ N:=by
          have h7:∀ a b:Nat,a<=b->zgf p l home h o from_ a<=zgf p l home h o from_ b:=by
            intro a b hab;induction b with
            | zero=>
              have:a=0:=J
              subst this; exact Int.le_refl _
            | succ b ihb=>
              by_cases e2:a=b+1
              · subst e2; exact Int.le_refl _
              · have:=ihb J;rw [← zhF home b]; omega
          exact h7 j N J
        rw [← zhF home N]; omega
  have hcar:∀ j,j<=N->(Zb (zdi .i64 (w64 (zgf p l home h o from_ j-zlh p l home h o)) h) λx36=>zcb x36 (zmY p l h))=Ob (zAP p l home h o from_ j):=by
    intro j hj;have h5:=hmono j hj;have h6:=ziK K hh ho hf home j;have e:zgf p l home h o from_ j-zlh p l home h o=(ztK p l home h o from_+j)*h:=by unfold zgf; omega
    have e2:((ztK p l home h o from_+j)*h).tdiv h=ztK p l home h o from_+j:=zAp J;have hq:=zsS (a:=(ztK p l home h o from_+j)*h) (A:=1000000000) (b:=h) J ⟨by omega,by omega⟩;have e3:zdi .i64 (w64 (zgf p l home h o from_ j-zlh p l home h o)) h=Ob (ztK p l home h o from_+j):=by
      rw [zf J J,e];unfold zdi;rw [if_neg J,e2];rw [e2] at hq;exact congrArg Ob (zf J J)
    rw [e3,Zs,zov J J];rfl
  have key:∀ k i:Nat,i+k=N->Lp (λs28:Int×(σ⊕τ)=>
Zb (zdi .i64 (w64 (s28.1-zlh p l home h o)) h) λx36=>
Zb (zba (rnS p l) h) λy37=>
Zb (zcb x36 y37) λy38=>
Zb (goL s28.2) λs39=>
Zb (step s39 (s28.1,y38)) λy40=>
cond (!(y40).isLeft) (Ob (.inr y40)) (Ob (.inl (w64 (s28.1+h),y40)))) k (zgf p l home h o from_ i,.inl (S i)) (.inr z):=by
    intro k;induction k with
    | zero=>
      intro i hi;have:i=N:=J
      subst this;have hc:=hcar i (Nat.le_refl _);cases hd:zdi .i64 (w64 (zgf p l home h o from_ i-zlh p l home h o)) h with
      | none=>rw [hd] at hc; cases hc
      | some q=>
        rw [hd,Zs] at hc;refine Lp.done ?_;simp only [hd,Zs,zmZ K (show 1<=h/\h<=1000000000000 by omega),hc,goL,he];rfl
    | succ k ih=>
      intro i hi;have hc:=hcar i J;have h5:=hmono i J;have h6:=ziK K hh ho hf home i;cases hd:zdi .i64 (w64 (zgf p l home h o from_ i-zlh p l home h o)) h with
      | none=>rw [hd] at hc; cases hc
      | some q=>
        rw [hd,Zs] at hc;refine Lp.step ?_ (ih (i+1) J);simp only [hd,Zs,zmZ K (show 1<=h/\h<=1000000000000 by omega),hc,goL,hs i J];rw [zf (n:=zgf p l home h o from_ i+h) J J,zhF];rfl
  rw [(key N 0 J).big Of];rfl
end
section
variable {c:Course} {ms:List Int} {p:Plan} (C:ztz p c) (M:zAO c ms) {f:Int} (hf:100<=f/\f<=400)
include C M hf
end
section
variable {p:Plan} {l:Line} {home:Bool} (K:zpv p l (zaW l home)) {f:Int} (hf:100<=f/\f<=400)
include K hf
end
section
variable {n:Nat} {X O:Nat->Int} {h gap D base:Int} (hn:n<=1000) (hh:30<=h/\h<=7200) (hg:1<=gap/\gap<=3600) (hX:∀ i,i<n->0<=X i/\X i<=10000000) (hO:∀ i,i<n->0<=O i/\O i<=10000000) (hD:0<=D/\D<=10000000) (hB:0<=base/\base<=10000000)
include hn hh hg hX hO hD hB
end
section
variable {p:Plan} {l:Line} {home:Bool} (KL:ztC p l) {h o f gap D:Int} (hh:30<=h/\h<=7200) (ho:0<=o/\o<=100000) (hf:100<=f/\f<=400) (hg:1<=gap/\gap<=3600) (hD:0<=D/\D<=1000000)
include KL hh ho hf hg hD
omit hh ho hf hg hD in
theorem csO:zpv p l (zaW l home):=by
 cases home
 . exact KL.o
 . exact KL.h
end
structure zCx (p:Plan) (s:Service) (line f gap:Int):Prop where
 V:zwG p s
 l:0<=line/\line<s.1.length
 f:100<=f/\f<=400
 g:1<=gap/\gap<=3600
section
variable {p:Plan} {s:Service} (H:ztH p s) {line f gap:Int} (S:zCx p s line f gap)
include H S
end
theorem zyQ {A:Prop} [Decidable A] {x:Option Bool} {Q:Prop} (h:∃ b,x=Ob b/\(b=Oc↔Q)):∃ b,cond (decide A) (Ob Od) x=Ob b/\(b=Oc↔¬ A/\Q):=by
 by_cases hA:A
 . rw [decide_eq_true hA];exact ⟨Od,rfl,by simp [hA]⟩
 . rw [decide_eq_false hA];obtain ⟨b,h1,h2⟩:=h;exact ⟨b,h1,by rw [h2]; simp [hA]⟩
structure zyR (p:Plan) (l:Line) (home:Bool) (h o from_ last before:Int) (N:Nat):Prop where
 b:N<300000
 i:∀ j,j<N->zgf p l home h o from_ j+last<=before
 e:before<zgf p l home h o from_ N+last
section
variable {p:Plan} {l:Line} (K:ztC p l) {h o from_:Int} (hh:30<=h/\h<=7200) (ho:0<=o/\o<=100000) (hf:0<=from_/\from_<=1000000) (home:Bool)
include K hh ho hf
theorem zAv {last before:Int} (hl:0<=last/\last<=1000000) (hb:0<=before/\before<=200000) {N:Nat} (C:zyR p l home h o from_ last before N):∀ j,j<=N->0<=zgf p l home h o from_ j/\zgf p l home h o from_ j<=2000000:=by
 intro j hj;have h1:=ziK K hh ho hf home j;refine ⟨by omega, ?_⟩;cases j with
 | zero=>
  have:=zyO K hh ho hf home;omega
 | succ j=>
  have:=C.i j J;have h2:=zhF (p:=p) (l:=l) (h:=h) (o:=o) (from_:=from_) home j;omega
end
section
variable {p:Plan} {s:Service} (V:zwG p s) (H:ztH p s) {line:Int} (hl:0<=line/\line<s.1.length) {w:List Works} (hw:w.length<=9223372036854775807) (home:Bool) {before:Int} (hb:0<=before/\before<=200000)
include V H hl hb
include hw in
end
theorem zgX {A:Type} (L:List A) (x:A) (R:List A):idx (L++x::R) (L.length:Int)=Ob x:=by
 rw [zeZ]; simp
theorem zhs {A:Type} (L:List A) (x y:A) (R:List A):(L++x::R).set L.length y=L++y::R:=by
 simp
section
variable {cmp:(Trip×Trip)->Option Int}
theorem zpy (P X Q Y S:List Trip) (hn:Y.length=X.length) (hl:(P++X++Q++Y++S).length<1000000000000) :
    zt (P++X++Q++Y++S) P.length ((P.length+X.length+Q.length:Nat):Int) X.length cmp=Ob (P++Y++Q++X++S):=by
  unfold zt;simp only [List.length_append] at hl;have key:∀ (X2 Y2 X1 Y1:List Trip),X=X1++X2->Y=Y1++Y2->X1.length=Y1.length->X2.length=Y2.length ->
      Lp (λs11:Int×List Trip=>
cond (decide (s11.1<(X.length:Int))) (Zb (idx s11.2 (w64 (((P.length+X.length+Q.length:Nat):Int)+s11.1))) λx14=>
Zb (idx s11.2 (w64 ((P.length:Int)+s11.1))) λx15=>
Zb (idx s11.2 (w64 ((P.length:Int)+s11.1))) λ_=>
Zb (idx ((s11.2).set (Int.toNat (w64 ((P.length:Int)+s11.1))) x14) (w64 (((P.length+X.length+Q.length:Nat):Int)+s11.1))) λ_=>
Ob (.inl (w64 (s11.1+1),((s11.2).set (Int.toNat (w64 ((P.length:Int)+s11.1))) x14).set (Int.toNat (w64 (((P.length+X.length+Q.length:Nat):Int)+s11.1))) x15))) (Ob (.inr s11.2))) X2.length ((X1.length:Int),P++Y1++X2++Q++X1++Y2++S) (P++Y++Q++X++S):=by
    intro X2;induction X2 with
    | nil=>
      intro Y2 X1 Y1 hX hY h1 h2;have hY2:Y2=[]:=List.length_eq_zero_iff.1 (by simpa using h2.symm);subst hY2;simp only [List.append_nil] at hX hY ⊢;subst hX hY;refine Lp.done ?_;simp only [Int.lt_irrefl,decide_false,cond_false]
    | cons x X2 ih=>
      intro Y2 X1 Y1 hX hY h1 h2;cases Y2 with
      | nil=>cases h2
      | cons y Y2=>
        have hlx:X.length=X1.length+(X2.length+1):=by rw [hX]; simp
        have hr:=ih Y2 (X1++[x]) (Y1++[y]) (by rw [hX]; simp) (by rw [hY]; simp) (by simp [h1]) (by simpa using h2);refine Lp.step ?_ hr;have ea:w64 ((P.length:Int)+(X1.length:Int))=((P.length+X1.length:Nat):Int):=by rw [zf J J]; omega
        have eb:w64 (((P.length+X.length+Q.length:Nat):Int)+(X1.length:Int))=((P.length+X.length+Q.length+X1.length:Nat):Int):=by rw [zf J J]; omega
        simp only [ea,eb,Int.toNat_natCast];rw [decide_eq_true J,cond_true];have e1:idx (P++Y1++x::X2++Q++X1++y::Y2++S) ((P.length+X.length+Q.length+X1.length:Nat):Int)=Ob y:=by
          have e:P++Y1++x::X2++Q++X1++y::Y2++S=(P++Y1++x::X2++Q++X1)++y::(Y2++S):=by simp
          have hl2:P.length+X.length+Q.length+X1.length=(P++Y1++x::X2++Q++X1).length:=by simp; omega
          rw [e,hl2]; exact zgX _ _ _
        have e2:∀ z:Trip,idx (P++Y1++z::X2++Q++X1++y::Y2++S) ((P.length+X1.length:Nat):Int)=Ob z:=by
          intro z;have e:P++Y1++z::X2++Q++X1++y::Y2++S=(P++Y1)++z::(X2++Q++X1++y::Y2++S):=by simp
          have hl2:P.length+X1.length=(P++Y1).length:=by simp; omega
          rw [e,hl2]; exact zgX _ _ _
        have e3:(P++Y1++x::X2++Q++X1++y::Y2++S).set (P.length+X1.length) y=P++Y1++y::X2++Q++X1++y::Y2++S:=by
          have e:∀ z,P++Y1++z::X2++Q++X1++y::Y2++S=(P++Y1)++z::(X2++Q++X1++y::Y2++S):=by simp
          have hl2:P.length+X1.length=(P++Y1).length:=by simp; omega
          rw [e,hl2,zhs,← e]
        have e4:∀ z:Trip,(P++Y1++y::X2++Q++X1++z::Y2++S).set (P.length+X.length+Q.length+X1.length) x=P++Y1++y::X2++Q++X1++x::Y2++S:=by
          intro z;have e:∀ u,P++Y1++y::X2++Q++X1++u::Y2++S=(P++Y1++y::X2++Q++X1)++u::(Y2++S):=by simp
          have hl2:P.length+X.length+Q.length+X1.length=(P++Y1++y::X2++Q++X1).length:=by simp; omega
          rw [e,hl2,zhs,← e]
        have e5:idx (P++Y1++y::X2++Q++X1++y::Y2++S) ((P.length+X.length+Q.length+X1.length:Nat):Int)=Ob y:=by
          have e:P++Y1++y::X2++Q++X1++y::Y2++S=(P++Y1++y::X2++Q++X1)++y::(Y2++S):=by simp
          have hl2:P.length+X.length+Q.length+X1.length=(P++Y1++y::X2++Q++X1).length:=by simp; omega
          rw [e,hl2]; exact zgX _ _ _
        rw [e1,Zs,e2 x,Zs,Zs,e3,e5,Zs,e4 y,zy J];have e6:P++Y1++y::X2++Q++X1++x::Y2++S=P++(Y1++[y])++X2++Q++(X1++[x])++Y2++S:=by simp
        rw [e6];simp
  have hL:=key X Y [] [] rfl rfl rfl hn.symm;simp only [List.append_nil,List.length_nil] at hL;have hB:=hL.big Of;exact congrArg (λo=>Zb o λt18=>Ob t18) hB
theorem zAw (P U V S:List Trip) (hl:(P++U++V++S).length<1000000000000) (hU:U≠[]) (hV:V≠[]) :
    z4 (P++U++V++S) P.length ((P.length+U.length:Nat):Int) ((P.length+U.length+V.length:Nat):Int) cmp=Ob (P++V++U++S):=by
  unfold z4;have key:∀ (n:Nat) (P' U' V' S':List Trip),U'.length+V'.length<=n->U'≠[]->V'≠[]->(P'++U'++V'++S').length<1000000000000->P'.length+U'.length=P.length+U.length ->
      ∃ (i:Int) (D:List Trip),Lp (λs13:Int×Int×List Trip=>
cond (s13.1 !=s13.2.1) (cond (decide (s13.1>s13.2.1)) (Zb (zt s13.2.2 (w64 (((P.length+U.length:Nat):Int)-s13.1)) ((P.length+U.length:Nat):Int) s13.2.1 cmp) λy17=>
Ob (.inl (w64 (s13.1-s13.2.1),s13.2.1,y17))) (Zb (zt s13.2.2 (w64 (((P.length+U.length:Nat):Int)-s13.1)) (w64 (w64 (((P.length+U.length:Nat):Int)+s13.2.1)-s13.1)) s13.1 cmp) λy19=>
Ob (.inl (s13.1,w64 (s13.2.1-s13.1),y19)))) (Ob (.inr (s13.1,s13.2.2)))) n ((U'.length:Int),(V'.length:Int),P'++U'++V'++S') (i,D)/\zt D (w64 (((P.length+U.length:Nat):Int)-i)) ((P.length+U.length:Nat):Int) i cmp=Ob (P'++V'++U'++S'):=by
    intro n;induction n with
    | zero=>
      intro P' U' V' S' h _ hv;exact absurd (List.length_eq_zero_iff.1 J) hv
    | succ n ih=>
      intro P' U' V' S' h hu hv hlen hm;have hul:1<=U'.length:=by have:=List.length_pos_iff.2 hu; omega
      have hvl:1<=V'.length:=by have:=List.length_pos_iff.2 hv; omega
      have hlen2:=hlen;simp only [List.length_append] at hlen2;have em:w64 (((P.length+U.length:Nat):Int)-(U'.length:Int))=(P'.length:Int):=by rw [zf J J]; omega
      rcases Nat.lt_trichotomy U'.length V'.length with hc | hc | hc
      · -- the second block is longer
        obtain ⟨V1,V2,rfl,hv2⟩:∃ V1 V2,V'=V1++V2/\V2.length=U'.length:=⟨V'.take (V'.length-U'.length),V'.drop (V'.length-U'.length),(List.take_append_drop _ _).symm,by simp; omega⟩;rw [List.length_append] at hc hvl h;simp only [List.length_append] at hlen2;have hv2n:V2≠[]:=by intro e; rw [e] at hv2; simp at hv2; omega
        have hv1n:V1≠[]:=by intro e; rw [e] at hc; simp at hc; omega
        obtain ⟨i,D,h1,h2⟩:=ih P' V2 V1 (U'++S') J hv2n hv1n (by simp only [List.length_append] at hlen ⊢; omega) J;refine ⟨i,D,Lp.step ?_ h1, ?_⟩
        · have hsw:=zpy (cmp:=cmp) P' U' V1 V2 S' hv2 (by simp only [List.length_append] at hlen ⊢; omega);have ne:((U'.length:Int)!=(((V1++V2).length:Nat):Int))=Od:=by rw [List.length_append]; simp; omega
          simp only [em,ne,cond_true];rw [List.length_append,decide_eq_false J,cond_false];have e1:w64 (w64 (((P.length+U.length:Nat):Int)+((V1.length+V2.length:Nat):Int))-(U'.length:Int))=((P'.length+U'.length+V1.length:Nat):Int):=by
            rw [zf (n:=((P.length+U.length:Nat):Int)+_) J J,zf J J]; omega
          have e2:w64 (((V1.length+V2.length:Nat):Int)-(U'.length:Int))=(V1.length:Int):=by rw [zf J J]; omega
          have e3:P'++U'++(V1++V2)++S'=P'++U'++V1++V2++S':=by simp
          rw [e1,e2,e3,hsw,Zs,hv2];have e4:P'++V2++V1++U'++S'=P'++V2++V1++(U'++S'):=by simp
          rw [e4]
        · rw [h2]; simp
      · -- equal
        refine ⟨(U'.length:Int),P'++U'++V'++S',Lp.done ?_, ?_⟩
        · have ne:((U'.length:Int)!=(V'.length:Int))=Oc:=by simp; omega
          simp only [ne,cond_false]
        · rw [em];have hsw:=zpy (cmp:=cmp) P' U' [] V' S' hc.symm (by simpa using hlen);simp only [List.append_nil,List.length_nil,Nat.add_zero,hm] at hsw;exact hsw
      · -- the first block is longer
        obtain ⟨U1,U2,rfl,hu1⟩:∃ U1 U2,U'=U1++U2/\U1.length=V'.length:=⟨U'.take V'.length,U'.drop V'.length,(List.take_append_drop _ _).symm,by simp; omega⟩;rw [List.length_append] at hc hul h hm;simp only [List.length_append] at hlen2;have hu1n:U1≠[]:=by intro e; rw [e] at hu1; simp at hu1; omega
        have hu2n:U2≠[]:=by intro e; rw [e] at hc; simp at hc; omega
        obtain ⟨i,D,h1,h2⟩:=ih (P'++V') U2 U1 S' J hu2n hu1n (by simp only [List.length_append] at hlen ⊢; omega) On;refine ⟨i,D,Lp.step ?_ h1, ?_⟩
        · have hsw:=zpy (cmp:=cmp) P' U1 U2 V' S' hu1.symm (by simp only [List.length_append] at hlen ⊢; omega);rw [List.length_append] at em;have ne:((((U1++U2).length:Nat):Int)!=(V'.length:Int))=Od:=by rw [List.length_append]; simp; omega
          simp only [ne,cond_true];rw [List.length_append,decide_eq_true J,cond_true,em];have e2:w64 (((U1.length+U2.length:Nat):Int)-(V'.length:Int))=(U2.length:Int):=by rw [zf J J]; omega
          have e3:P'++(U1++U2)++V'++S'=P'++U1++U2++V'++S':=by simp
          have e5:P'.length+U1.length+U2.length=P.length+U.length:=J
          rw [e5] at hsw;rw [e2,e3,← hu1,hsw,Zs]
        · rw [h2]; simp
  obtain ⟨i,D,h1,h2⟩:=key (U.length+V.length) P U V S (Nat.le_refl _) hU hV hl rfl;simp only [List.length_append] at hl;have e1:w64 (((P.length+U.length:Nat):Int)-(P.length:Int))=(U.length:Int):=by rw [zf J J]; omega
  have e2:w64 (((P.length+U.length+V.length:Nat):Int)-((P.length+U.length:Nat):Int))=(V.length:Int):=by rw [zf J J]; omega
  rw [e1,e2];have hB:=h1.big Of;refine (congrArg (λo=>Zb o λt21:Int×List Trip=>Zb (zt t21.2 (w64 (((P.length+U.length:Nat):Int)-t21.1)) ((P.length+U.length:Nat):Int) t21.1 cmp) λy23=>Ob y23) hB).trans ?_;rw [Zs,h2,Zs]
end
def zdf (key:Trip->Int) (l m:List Trip):Prop:=∀ v:Int,m.filter (λx=>key x==v)=l.filter (λx=>key x==v)
def zf5 (key:Trip->Int) (l:List Trip):Prop:=l.Pairwise λa b=>key a<=key b
theorem zdf.refl {key:Trip->Int} (l:List Trip):zdf key l l:=λ_=>rfl
theorem zdf.trans {key:Trip->Int} {l m n:List Trip} (h1:zdf key l m) (h2:zdf key m n):zdf key l n:=λv=>(h2 v).trans (h1 v)
theorem zdf.append {key:Trip->Int} {l m l' m':List Trip} (h1:zdf key l m) (h2:zdf key l' m'):zdf key (l++l') (m++m'):=λv=>by
 rw [List.filter_append,List.filter_append,h1 v,h2 v]
theorem zdf.mem {key:Trip->Int} {l m:List Trip} (h:zdf key l m) {x:Trip}:x∈m↔x∈l:=by
 have h1:=h (key x);constructor
 . intro hx;have:x∈m.filter (λy=>key y==key x):=List.mem_filter.2 ⟨hx,by simp⟩;rw [h1] at this;exact (List.mem_filter.1 this).1
 . intro hx;have:x∈l.filter (λy=>key y==key x):=List.mem_filter.2 ⟨hx,by simp⟩;rw [← h1] at this;exact (List.mem_filter.1 this).1
theorem zh8 {key:Trip->Int} {l:List Trip} {v:Int} (h:∀ x∈l,key x≠v):l.filter (λx=>key x==v)=[]:=by
 rw [List.filter_eq_nil_iff];intro x hx;simpa using h x hx
theorem zdf.swap {key:Trip->Int} {U V:List Trip} (h:∀ u∈U,∀ v∈V,key v<key u):zdf key (U++V) (V++U):=λk=>by
 rw [List.filter_append,List.filter_append];by_cases hu:∃ u∈U,key u=k
 . obtain ⟨u,h1,h2⟩:=hu;rw [zh8 (l:=V) (v:=k) (λv hv=>by have:=h u h1 v hv; omega)];simp
 . rw [zh8 (l:=U) (v:=k) (λu hu1 he=>hu ⟨u,hu1,he⟩)];simp
theorem zdf.len {key:Trip->Int}:∀ {l m:List Trip},zdf key l m->m.length=l.length
 | [],m,h=>by
  cases m with
  | nil=>rfl
  | cons x m=>exact absurd ((h.mem (x:=x)).1 Ol) Ol
 | a::l,m,h=>by
  have hm:a∈m:=h.mem.2 Ol;have h1:=h (key a)
  -- the first one of a's key in m is a
  obtain ⟨m1,b,m2,rfl,hb,hn⟩:∃ m1 b m2,m=m1++b::m2/\key b=key a/\∀ x∈m1,key x≠key a:=by
   clear h1 h;induction m with
   | nil=>simp at hm
   | cons c m ih=>
    by_cases hc:key c=key a
    ·exact ⟨[],c,m,rfl,hc,by simp⟩
    ·have hm2:a∈m:=by
      rcases List.mem_cons.1 hm with rfl | h
      ·exact absurd rfl hc
      ·exact h
     obtain ⟨m1,b,m2,e,h2,h3⟩:=ih hm2;refine ⟨c::m1,b,m2,by rw [e]; rfl,h2,λx hx=>?_⟩;rcases List.mem_cons.1 hx with rfl | hx
     ·exact hc
     ·exact h3 x hx
  have hE:zdf key l (m1++m2):=λv=>by
   have h2:=h v;rw [List.filter_append,List.filter_cons,List.filter_cons] at h2;rw [List.filter_append];by_cases hv:key a=v
   ·subst hv;rw [zh8 hn] at h2 ⊢;simp only [hb,beq_self_eq_true,if_true,List.nil_append,List.cons.injEq] at h2;simpa using h2.2
   ·simp only [hb,show (key a==v)=Oc by simpa using hv,Bool.false_eq_true,if_false] at h2;exact h2
  have:=zdf.len hE;simp only [List.length_append,List.length_cons] at this ⊢;omega
section
variable {cmp:(Trip×Trip)->Option Int} {key:Trip->Int} (hc:∀ x y,∃ v,cmp (x,y)=Ob v/\(v<0↔key x<key y))
include hc
theorem zkZ (x y:Trip) {A:Type} (f:Bool->Option A):(Zb (cmp (x,y)) λv=>f (decide (v<0)))=f (decide (key x<key y)):=by
 obtain ⟨v,h1,h2⟩:=hc x y;rw [h1,Zs];congr 1;exact decide_eq_decide.2 h2
def zze (a_1:Int) (cmp_3:(Trip×Trip)->Option Int):(Int×List Trip)->Option ((Int×List Trip)⊕List Trip):=(λs126=>
cond (decide (s126.1>a_1)) (Zb (idx s126.2 s126.1) λx133=>
Zb (idx s126.2 (w64 (s126.1-1))) λx134=>
Zb (cmp_3 (x133,x134)) λy135=>
cond (decide (y135<0)) (Zb (idx s126.2 (w64 (s126.1-1))) λx137=>
Zb (idx s126.2 s126.1) λx138=>
Zb (idx s126.2 s126.1) λx139=>
Zb (idx ((s126.2).set (Int.toNat s126.1) x137) (w64 (s126.1-1))) λx140=>
Ob (.inl (w64 (s126.1-1),((s126.2).set (Int.toNat s126.1) x137).set (Int.toNat (w64 (s126.1-1))) x138))) (Ob (.inr s126.2))) (Ob (.inr s126.2)))
theorem zv3 (P S:List Trip) (x:Trip):∀ (n:Nat) (L R:List Trip),L.length=n->zf5 key (L++R)->(∀ r∈R,key x<key r)->(P++L++x::R++S).length<1000000000000 ->
    ∃ M,Lp (zze P.length cmp) n (((P.length+L.length:Nat):Int),P++L++x::R++S) (P++M++S)/\zf5 key M/\zdf key (L++x::R) M:=by
  intro n;induction n with
  | zero=>
    intro L R hL hs hr hl;have:L=[]:=List.length_eq_zero_iff.1 hL;subst this;refine ⟨x::R,Lp.done ?_, ?_,zdf.refl _⟩
    · unfold zze;simp only [List.length_nil,Nat.add_zero,List.append_nil,decide_eq_false (show ¬ (P.length:Int)>P.length by omega),cond_false]
    · exact List.pairwise_cons.2 ⟨λr h=>by have:=hr r h; omega,by unfold zf5 at hs; simpa using hs⟩
  | succ n ih=>
    intro L R hL hs hr hl;obtain ⟨L0,y,rfl⟩:∃ L0 y,L=L0++[y]:=by
      cases h:L.reverse with
      | nil=>rw [List.reverse_eq_nil_iff] at h; subst h; simp at hL
      | cons y l=>exact ⟨l.reverse,y,by rw [← List.reverse_reverse L,h]; simp⟩
    have hL0:L0.length=n:=by simpa using hL
    have hl2:=hl;simp only [List.length_append,List.length_cons,List.length_nil] at hl2;have i1:idx (P++(L0++[y])++x::R++S) ((P.length+(L0++[y]).length:Nat):Int)=Ob x:=by
      have e:P++(L0++[y])++x::R++S=(P++(L0++[y]))++x::(R++S):=by simp
      have hn:P.length+(L0++[y]).length=(P++(L0++[y])).length:=by simp
      rw [e,hn]; exact zgX _ _ _
    have em:w64 (((P.length+(L0++[y]).length:Nat):Int)-1)=((P.length+L0.length:Nat):Int):=by
      simp only [List.length_append,List.length_cons,List.length_nil];rw [zf J J]; omega
    have i2:∀ z,idx (P++(L0++[y])++z::R++S) ((P.length+L0.length:Nat):Int)=Ob y:=by
      intro z;have e:P++(L0++[y])++z::R++S=(P++L0)++y::(z::R++S):=by simp
      have hn:P.length+L0.length=(P++L0).length:=by simp
      rw [e,hn]; exact zgX _ _ _
    have hgt:decide (((P.length+(L0++[y]).length:Nat):Int)>(P.length:Int))=Od:=decide_eq_true (by simp only [List.length_append,List.length_cons,List.length_nil]; omega);by_cases hk:key x<key y
    · have hr':∀ r∈y::R,key x<key r:=λr h=>by
        rcases List.mem_cons.1 h with rfl | h
        · exact hk
        · exact hr r h
      obtain ⟨M,h1,h2,h3⟩:=ih L0 (y::R) hL0 (by simpa using hs) hr' (by simp only [List.length_append,List.length_cons]; omega);refine ⟨M,Lp.step ?_ h1,h2, ?_⟩
      · unfold zze;simp only [hgt,cond_true,i1,Zs,em,i2 x];rw [zkZ hc x y (λb=>cond b _ _),decide_eq_true hk,cond_true];have s1:(P++(L0++[y])++x::R++S).set (P.length+(L0++[y]).length) y=P++(L0++[y])++y::R++S:=by
          have e:∀ z,P++(L0++[y])++z::R++S=(P++(L0++[y]))++z::(R++S):=by simp
          have hn:P.length+(L0++[y]).length=(P++(L0++[y])).length:=by simp
          rw [e,hn,zhs,← e]
        have s2:(P++(L0++[y])++y::R++S).set (P.length+L0.length) x=P++L0++x::(y::R)++S:=by
          have e:P++(L0++[y])++y::R++S=(P++L0)++y::(y::R++S):=by simp
          have hn:P.length+L0.length=(P++L0).length:=by simp
          rw [e,hn,zhs]; simp
        simp only [Int.toNat_natCast,s1,i2 y,Zs,s2]
      · refine zdf.trans ?_ h3;have e1:L0++[y]++x::R=L0++(([y]++[x])++R):=by simp
        have e2:L0++x::y::R=L0++(([x]++[y])++R):=by simp
        rw [e1,e2];exact (zdf.refl L0).append ((zdf.swap (by simpa using hk)).append (zdf.refl R))
    · refine ⟨L0++[y]++x::R,Lp.done ?_, ?_,zdf.refl _⟩
      · unfold zze;simp only [hgt,cond_true,i1,Zs,em,i2 x];rw [zkZ hc x y (λb=>cond b _ _),decide_eq_false hk,cond_false];simp
      · unfold zf5 at *
        rw [List.append_assoc] at hs ⊢;rw [List.pairwise_append] at hs ⊢;obtain ⟨p1,p2,p3⟩:=hs;have p2':=List.pairwise_cons.1 (show List.Pairwise (λa b=>key a<=key b) (y::R) from p2);refine ⟨p1,List.pairwise_cons.2 ⟨λz hz=>?_,List.pairwise_cons.2 ⟨λr h=>by have:=hr r h; omega,p2'.2⟩⟩,λa ha z hz=>?_⟩
        · rcases List.mem_cons.1 hz with rfl | hz
          · omega
          · exact p2'.1 z hz
        · have hy:=p3 a ha y Ol;have hz':z=y\/z=x\/z∈R:=by simpa using hz
          rcases hz' with rfl | rfl | h
          · exact hy
          · omega
          · exact p3 a ha z (by simp [h])
theorem zwI (P B S:List Trip) (hl:(P++B++S).length<1000000000000):∃ M,zJ (P++B++S) P.length ((P.length+B.length:Nat):Int) cmp=Ob (P++M++S)/\zf5 key M/\zdf key B M:=by
  unfold zJ;have key2:∀ (B2 B1:List Trip),zf5 key B1->B1++B2≠[]->(P++B1++B2++S).length<1000000000000->B1.length+B2.length=B.length ->
      ∃ M,Lp (λs95:Int×List Trip=>
cond (decide (s95.1<((P.length+B.length:Nat):Int))) (Zb (iter (zze P.length cmp) big (s95.1,s95.2)) λt142=>
Ob (.inl (w64 (s95.1+1),t142))) (Ob (.inr s95.2))) B2.length (((P.length+B1.length:Nat):Int),P++B1++B2++S) (P++M++S)/\zf5 key M/\zdf key (B1++B2) M:=by
    intro B2;induction B2 with
    | nil=>
      intro B1 hs _ hlen he;refine ⟨B1,Lp.done ?_,hs,by rw [List.append_nil]; exact zdf.refl _⟩;have:B1.length=B.length:=by simpa using he
      rw [this];simp
    | cons x B2 ih=>
      intro B1 hs _ hlen he;have hl2:=hlen;simp only [List.length_append,List.length_cons] at hl2 he;obtain ⟨M1,h1,h2,h3⟩:=zv3 hc P (B2++S) x B1.length B1 [] rfl (by simpa using hs) Ol (by simp only [List.length_append,List.length_cons,List.length_nil]; omega);have hM1:M1.length=B1.length+1:=by rw [h3.len]; simp
      obtain ⟨M,h4,h5,h6⟩:=ih M1 h2 (by intro e; rw [(List.append_eq_nil_iff.1 e).1] at hM1; simp at hM1) On J;refine ⟨M,Lp.step ?_ h4,h5, ?_⟩
      · have e1:P++B1++x::B2++S=P++B1++[x]++(B2++S):=by simp
        simp only [decide_eq_true (show ((P.length+B1.length:Nat):Int)<((P.length+B.length:Nat):Int) by omega),cond_true,e1,h1.big (show B1.length<big by simp only [big]; omega),Zs];rw [zy J,show P.length+B1.length+1=P.length+M1.length by omega];simp
      · have e2:B1++x::B2=(B1++[x])++B2:=by simp
        rw [e2];exact (h3.append (zdf.refl B2)).trans h6
  cases B with
  | nil=>
    refine ⟨[], ?_,List.Pairwise.nil,zdf.refl _⟩;have hl2:=hl;simp only [List.length_append] at hl2;have hL:Lp (λs95:Int×List Trip=>
cond (decide (s95.1<((P.length+([]:List Trip).length:Nat):Int))) (Zb (iter (zze P.length cmp) big (s95.1,s95.2)) λt142=>
Ob (.inl (w64 (s95.1+1),t142))) (Ob (.inr s95.2))) 0 (w64 ((P.length:Int)+1),P++[]++S) (P++[]++S):=Lp.done (by
      rw [zf J J];simp only [List.length_nil,Nat.add_zero,decide_eq_false (show ¬ (P.length:Int)+1<(P.length:Int) by omega),cond_false])
    exact congrArg (λo=>Zb o λt144=>Ob t144) (hL.big Of)
  | cons x B=>
    have hl2:=hl;simp only [List.length_append,List.length_cons] at hl2;obtain ⟨M,h1,h2,h3⟩:=key2 B [x] (List.pairwise_singleton _ _) Ol (by simp only [List.length_append,List.length_cons,List.length_nil]; omega) Oj;refine ⟨M, ?_,h2,h3⟩;have e1:P++[x]++B++S=P++x::B++S:=by simp
    have e2:w64 ((P.length:Int)+1)=((P.length+[x].length:Nat):Int):=zy J;rw [e1,← e2] at h1;exact congrArg (λo=>Zb o λt144=>Ob t144) (h1.big Of)
end
def zBI (rec:List Trip->Int->Int->Int->((Trip×Trip)->Option Int)->Option (List Trip)) (p_0:List Trip) (p_1:Int) (p_2:Int) (p_3:Int) (p_4:((Trip×Trip)->Option Int)) (x_:Int) (t_:Int):Option (List Trip):=Zb (cond (decide (t_<p_2)) (Ob (decide (p_2<w64 (w64 (x_+p_2)-t_)))) (Ob Oc)) λc92=>
cond c92 (Zb (z4 p_0 t_ p_2 (w64 (w64 (x_+p_2)-t_)) p_4) λy95=>
Zb (cond (decide (p_1<t_)) (Ob (decide (t_<x_))) (Ob Oc)) λc98=>
cond c98 (Zb (rec y95 p_1 t_ x_ p_4) λy101=>
Zb (cond (decide (x_<w64 (w64 (x_+p_2)-t_))) (Ob (decide (w64 (w64 (x_+p_2)-t_)<p_3))) (Ob Oc)) λc104=>
cond c104 (Zb (rec y101 x_ (w64 (w64 (x_+p_2)-t_)) p_3 p_4) λy107=>
Ob y107) (Ob y101)) (Zb (cond (decide (x_<w64 (w64 (x_+p_2)-t_))) (Ob (decide (w64 (w64 (x_+p_2)-t_)<p_3))) (Ob Oc)) λc110=>
cond c110 (Zb (rec y95 x_ (w64 (w64 (x_+p_2)-t_)) p_3 p_4) λy113=>
Ob y113) (Ob y95))) (Zb (cond (decide (p_1<t_)) (Ob (decide (t_<x_))) (Ob Oc)) λc116=>
cond c116 (Zb (rec p_0 p_1 t_ x_ p_4) λy119=>
Zb (cond (decide (x_<w64 (w64 (x_+p_2)-t_))) (Ob (decide (w64 (w64 (x_+p_2)-t_)<p_3))) (Ob Oc)) λc122=>
cond c122 (Zb (rec y119 x_ (w64 (w64 (x_+p_2)-t_)) p_3 p_4) λy125=>
Ob y125) (Ob y119)) (Zb (cond (decide (x_<w64 (w64 (x_+p_2)-t_))) (Ob (decide (w64 (w64 (x_+p_2)-t_)<p_3))) (Ob Oc)) λc128=>
cond c128 (Zb (rec p_0 x_ (w64 (w64 (x_+p_2)-t_)) p_3 p_4) λy131=>
Ob y131) (Ob p_0)))
theorem zj4 {a b:Nat} (h:a+b<2000000000000):zjC .u64 (IntKind.u64.wrap (w64 ((a:Int)+(b:Int)))) 1=Ob (((a+b)/2:Nat):Int)/\w64 (((a+b)/2:Nat):Int)=(((a+b)/2:Nat):Int):=by
 have e1:w64 ((a:Int)+b)=((a+b:Nat):Int):=by rw [zf J J]; omega
 have e2:IntKind.u64.wrap ((a+b:Nat):Int)=((a+b:Nat):Int):=by simp only [IntKind.wrap,IntKind.bits,IntKind.signed]; simp; omega
 rw [e1,e2];unfold zjC;rw [if_pos J];refine ⟨?_,zf J J⟩;congr 1;simp [IntKind.bits];rw [Int.fdiv_eq_ediv_of_nonneg _ J]
theorem zm0 {F:(Int×Int)->Option ((Int×Int)⊕Int)} {q:Nat->Bool} {lo hi:Nat} (hlh:lo<=hi) (hh:hi<1000000000000)
    (hf:∀ i j:Nat,lo<=i->i<j->j<=hi->F ((i:Int),(j:Int))=Ob (.inl (if q ((i+j)/2) then ((((i+j)/2+1:Nat):Int),(j:Int)) else ((i:Int),(((i+j)/2:Nat):Int)))))
    (he:∀ i:Nat,F ((i:Int),(i:Int))=Ob (.inr (i:Int))):∃ r:Nat,iter F big ((lo:Int),(hi:Int))=Ob (r:Int)/\lo<=r/\r<=hi/\(r=lo\/q (r-1)=Od)/\(r=hi\/q r=Oc):=by
  have key:∀ (n i j:Nat),j-i<=n->lo<=i->i<=j->j<=hi->(i=lo\/q (i-1)=Od)->(j=hi\/q j=Oc)->∃ r:Nat,Lp F n ((i:Int),(j:Int)) (r:Int)/\lo<=r/\r<=hi/\(r=lo\/q (r-1)=Od)/\(r=hi\/q r=Oc):=by
    intro n;induction n with
    | zero=>
      intro i j h1 h2 h3 h4 h5 h6;have:i=j:=J
      subst this;exact ⟨i,Lp.done (he i),h2,h4,h5,h6⟩
    | succ n ih=>
      intro i j h1 h2 h3 h4 h5 h6;by_cases hij:i=j
      · subst hij;exact ⟨i,Lp.done (he i),h2,h4,h5,h6⟩
      · have hs:=hf i j h2 J h4;cases hq:q ((i+j)/2) with
        | true=>
          rw [hq,if_pos rfl] at hs;obtain ⟨r,h7,h8⟩:=ih ((i+j)/2+1) j J J J h4 (.inr (by simpa using hq)) h6;exact ⟨r,Lp.step hs h7,h8⟩
        | false=>
          rw [hq] at hs;simp only [Bool.false_eq_true,if_false] at hs;obtain ⟨r,h7,h8⟩:=ih i ((i+j)/2) J h2 J J h5 (.inr hq);exact ⟨r,Lp.step hs h7,h8⟩
  obtain ⟨r,h1,h2⟩:=key (hi-lo) lo hi (Nat.le_refl _) (Nat.le_refl _) hlh (Nat.le_refl _) (.inl rfl) (.inl rfl);exact ⟨r,h1.big Of,h2⟩
section
variable {cmp:(Trip×Trip)->Option Int} {key:Trip->Int}
def ztL (key:Trip->Int) (cmp:(Trip×Trip)->Option Int) (n:Nat) (rec:List Trip->Int->Int->Int->((Trip×Trip)->Option Int)->Option (List Trip)):Prop:=
 ∀ A B P S:List Trip,A≠[]->B≠[]->A.length+B.length<=n->zf5 key A->zf5 key B->(P++A++B++S).length<1000000000000->∃ M,rec (P++A++B++S) P.length ((P.length+A.length:Nat):Int) ((P.length+A.length+B.length:Nat):Int) cmp=Ob (P++M++S)/\zf5 key M/\zdf key (A++B) M
theorem zgY {A B:List Trip}:zf5 key (A++B)↔zf5 key A/\zf5 key B/\∀ a∈A,∀ b∈B,key a<=key b:=List.pairwise_append
theorem zyS {n:Nat} {rec:List Trip->Int->Int->Int->((Trip×Trip)->Option Int)->Option (List Trip)} (hr:ztL key cmp n rec) (P A1 V U B2 S:List Trip)
    (hn1:A1.length+V.length<=n) (hn2:U.length+B2.length<=n) (hl:(P++A1++V++U++B2++S).length<1000000000000) (s1:zf5 key A1) (s2:zf5 key V) (s3:zf5 key U) (s4:zf5 key B2) :
    ∃ M1 M2,zf5 key M1/\zf5 key M2/\zdf key (A1++V) M1/\zdf key (U++B2) M2 /\
      (Zb (cond (decide ((P.length:Int)<((P.length+A1.length:Nat):Int))) (Ob (decide (((P.length+A1.length:Nat):Int)<((P.length+A1.length+V.length:Nat):Int)))) (Ob Oc)) λc98=>
cond c98 (Zb (rec (P++A1++V++U++B2++S) P.length ((P.length+A1.length:Nat):Int) ((P.length+A1.length+V.length:Nat):Int) cmp) λy101=>
Zb (cond (decide (((P.length+A1.length+V.length:Nat):Int)<((P.length+A1.length+V.length+U.length:Nat):Int))) (Ob (decide (((P.length+A1.length+V.length+U.length:Nat):Int)<((P.length+A1.length+V.length+U.length+B2.length:Nat):Int)))) (Ob Oc)) λc104=>
cond c104 (Zb (rec y101 ((P.length+A1.length+V.length:Nat):Int) ((P.length+A1.length+V.length+U.length:Nat):Int) ((P.length+A1.length+V.length+U.length+B2.length:Nat):Int) cmp) λy107=>
Ob y107) (Ob y101)) (Zb (cond (decide (((P.length+A1.length+V.length:Nat):Int)<((P.length+A1.length+V.length+U.length:Nat):Int))) (Ob (decide (((P.length+A1.length+V.length+U.length:Nat):Int)<((P.length+A1.length+V.length+U.length+B2.length:Nat):Int)))) (Ob Oc)) λc110=>
cond c110 (Zb (rec (P++A1++V++U++B2++S) ((P.length+A1.length+V.length:Nat):Int) ((P.length+A1.length+V.length+U.length:Nat):Int) ((P.length+A1.length+V.length+U.length+B2.length:Nat):Int) cmp) λy113=>
Ob y113) (Ob (P++A1++V++U++B2++S))))=Ob (P++M1++M2++S):=by
  have hl2:=hl;simp only [List.length_append] at hl2
  -- the left one
  have left:∃ M1,zf5 key M1/\zdf key (A1++V) M1/\(if 0<A1.length/\0<V.length then rec (P++A1++V++U++B2++S) P.length ((P.length+A1.length:Nat):Int) ((P.length+A1.length+V.length:Nat):Int) cmp=Ob (P++M1++U++B2++S) else M1=A1++V):=by
    by_cases h:0<A1.length/\0<V.length
    · obtain ⟨M,h1,h2,h3⟩:=hr A1 V P (U++B2++S) (List.length_pos_iff.1 h.1) (List.length_pos_iff.1 h.2) hn1 s1 s2 On;refine ⟨M,h2,h3, ?_⟩;rw [if_pos h];have e1:P++A1++V++U++B2++S=P++A1++V++(U++B2++S):=by simp
      rw [e1,h1]; simp
    · refine ⟨A1++V, ?_,zdf.refl _,by rw [if_neg h]⟩;by_cases ha:A1=[]
      · subst ha; simpa using s2
      · have hv:V=[]:=List.length_eq_zero_iff.1 (by have:=List.length_pos_iff.2 ha; omega);subst hv; simpa using s1
  obtain ⟨M1,m1,m2,m3⟩:=left;have hM1:M1.length=A1.length+V.length:=by rw [m2.len]; simp
  have right:∃ M2,zf5 key M2/\zdf key (U++B2) M2/\(if 0<U.length/\0<B2.length then rec (P++M1++U++B2++S) ((P.length+A1.length+V.length:Nat):Int) ((P.length+A1.length+V.length+U.length:Nat):Int) ((P.length+A1.length+V.length+U.length+B2.length:Nat):Int) cmp=Ob (P++M1++M2++S) else M2=U++B2):=by
    by_cases h:0<U.length/\0<B2.length
    · obtain ⟨M,h1,h2,h3⟩:=hr U B2 (P++M1) S (List.length_pos_iff.1 h.1) (List.length_pos_iff.1 h.2) hn2 s3 s4 On;refine ⟨M,h2,h3, ?_⟩;rw [if_pos h];rw [List.length_append,hM1,show P.length+(A1.length+V.length)=P.length+A1.length+V.length by omega] at h1;exact h1
    · refine ⟨U++B2, ?_,zdf.refl _,by rw [if_neg h]⟩;by_cases ha:U=[]
      · subst ha; simpa using s4
      · have hv:B2=[]:=List.length_eq_zero_iff.1 (by have:=List.length_pos_iff.2 ha; omega);subst hv; simpa using s3
  obtain ⟨M2,m4,m5,m6⟩:=right;refine ⟨M1,M2,m1,m4,m2,m5, ?_⟩;have c1:(cond (decide ((P.length:Int)<((P.length+A1.length:Nat):Int))) (Ob (decide (((P.length+A1.length:Nat):Int)<((P.length+A1.length+V.length:Nat):Int)))) (Ob Oc):Option Bool)=Ob (decide (0<A1.length/\0<V.length)):=by
    by_cases h1:0<A1.length
    · rw [decide_eq_true J,cond_true];congr 1;exact decide_eq_decide.2 ⟨λh=>⟨h1,by omega⟩,λh=>by omega⟩
    · rw [decide_eq_false J,cond_false,decide_eq_false J]
  have c2:(cond (decide (((P.length+A1.length+V.length:Nat):Int)<((P.length+A1.length+V.length+U.length:Nat):Int))) (Ob (decide (((P.length+A1.length+V.length+U.length:Nat):Int)<((P.length+A1.length+V.length+U.length+B2.length:Nat):Int)))) (Ob Oc):Option Bool)=Ob (decide (0<U.length/\0<B2.length)):=by
    by_cases h1:0<U.length
    · rw [decide_eq_true J,cond_true];congr 1;exact decide_eq_decide.2 ⟨λh=>⟨h1,by omega⟩,λh=>by omega⟩
    · rw [decide_eq_false J,cond_false,decide_eq_false J]
  rw [c1,Zs];simp only [c2,Zs];by_cases h1:0<A1.length/\0<V.length
  · rw [if_pos h1] at m3;rw [decide_eq_true h1,cond_true,m3,Zs];by_cases h2:0<U.length/\0<B2.length
    · rw [if_pos h2] at m6;rw [decide_eq_true h2,cond_true,m6,Zs]
    · rw [if_neg h2] at m6;rw [decide_eq_false h2,cond_false,m6]; simp
  · rw [if_neg h1] at m3;rw [decide_eq_false h1,cond_false];have e1:P++A1++V++U++B2++S=P++M1++U++B2++S:=by rw [m3]; simp
    rw [e1];by_cases h2:0<U.length/\0<B2.length
    · rw [if_pos h2] at m6;rw [decide_eq_true h2,cond_true,m6,Zs]
    · rw [if_neg h2] at m6;rw [decide_eq_false h2,cond_false,m6]; simp
theorem zyT {n:Nat} {rec:List Trip->Int->Int->Int->((Trip×Trip)->Option Int)->Option (List Trip)} (hr:ztL key cmp n rec) (P A1 U V B2 S:List Trip)
 (hn1:A1.length+V.length<=n) (hn2:U.length+B2.length<=n) (hl:(P++A1++U++V++B2++S).length<1000000000000) (sA:zf5 key (A1++U)) (sB:zf5 key (V++B2))
 (h1:∀ u∈U,∀ v∈V,key v<key u) (h2:∀ a∈A1,∀ b∈B2,key a<=key b) :
 ∃ M,zBI rec (P++A1++U++V++B2++S) P.length ((P.length+A1.length+U.length:Nat):Int) ((P.length+A1.length+U.length+V.length+B2.length:Nat):Int) cmp ((P.length+A1.length+V.length:Nat):Int) ((P.length+A1.length:Nat):Int)=Ob (P++M++S)/\zf5 key M/\zdf key (A1++U++(V++B2)) M:=by
 have hl2:=hl;simp only [List.length_append] at hl2;obtain ⟨a1,a2,a3⟩:=zgY.1 sA;obtain ⟨b1,b2,b3⟩:=zgY.1 sB;obtain ⟨M1,M2,m1,m2,m3,m4,m5⟩:=zyS hr P A1 V U B2 S hn1 hn2 On a1 b1 a2 b2;refine ⟨M1++M2, ?_,zgY.2 ⟨m1,m2,λx hx y hy=>?_⟩, ?_⟩
 . have eE:w64 (w64 (((P.length+A1.length+V.length:Nat):Int)+((P.length+A1.length+U.length:Nat):Int))-((P.length+A1.length:Nat):Int))=((P.length+A1.length+V.length+U.length:Nat):Int):=by
    rw [zf (n:=((P.length+A1.length+V.length:Nat):Int)+_) J J,zf J J]; omega
   have eB:P.length+A1.length+U.length+V.length+B2.length=P.length+A1.length+V.length+U.length+B2.length:=J
   unfold zBI;rw [eE,eB];have c0:(cond (decide (((P.length+A1.length:Nat):Int)<((P.length+A1.length+U.length:Nat):Int))) (Ob (decide (((P.length+A1.length+U.length:Nat):Int)<((P.length+A1.length+V.length+U.length:Nat):Int)))) (Ob Oc):Option Bool)=Ob (decide (0<U.length/\0<V.length)):=by
    by_cases h1:0<U.length
    . rw [decide_eq_true J,cond_true];congr 1;exact decide_eq_decide.2 ⟨λh=>⟨h1,by omega⟩,λh=>by omega⟩
    . rw [decide_eq_false J,cond_false,decide_eq_false J]
   rw [c0,Zs];by_cases hc:0<U.length/\0<V.length
   . have hrot:=zAw (cmp:=cmp) (P++A1) U V (B2++S) On (List.length_pos_iff.1 hc.1) (List.length_pos_iff.1 hc.2);have e1:P++A1++U++V++B2++S=P++A1++U++V++(B2++S):=by simp
     have e2:P++A1++V++U++(B2++S)=P++A1++V++U++B2++S:=by simp
     rw [List.length_append,← e1,e2,show P.length+A1.length+U.length+V.length=P.length+A1.length+V.length+U.length by omega] at hrot;rw [decide_eq_true hc,cond_true,hrot,Zs];refine m5.trans ?_;simp
   . have e1:P++A1++U++V++B2++S=P++A1++V++U++B2++S:=by
      by_cases hu:U=[]
      . subst hu; simp
      . have hv:V=[]:=List.length_eq_zero_iff.1 (by have:=List.length_pos_iff.2 hu; omega);subst hv; simp
     rw [decide_eq_false hc,cond_false,e1];refine m5.trans ?_;simp
 . have hx':=List.mem_append.1 (m3.mem.1 hx);have hy':=List.mem_append.1 (m4.mem.1 hy);rcases hx' with hx' | hx'<;>rcases hy' with hy' | hy'
   . exact a3 x hx' y hy'
   . exact h2 x hx' y hy'
   . have:=h1 y hy' x hx'; omega
   . exact b3 x hx' y hy'
 . have e1:A1++U++(V++B2)=A1++((U++V)++B2):=by simp
   have e2:zdf key (A1++((U++V)++B2)) (A1++((V++U)++B2)):=(zdf.refl A1).append ((zdf.swap h1).append (zdf.refl B2));have e3:A1++((V++U)++B2)=(A1++V)++(U++B2):=by simp
   rw [e1];rw [e3] at e2;exact e2.trans (m3.append m4)
end
def E0:Trip:=(0,Oc,0,0,())
theorem zv4 {P A B S:List Trip} {i:Nat} (h:i<A.length):idx (P++A++B++S) ((P.length+i:Nat):Int)=Ob (A.getD i E0):=by
 rw [zeZ,List.append_assoc,List.append_assoc,List.getElem?_append_right J,Nat.add_sub_cancel_left,List.getElem?_append_left h];simp [List.getD,h]
theorem zyU {P A B S:List Trip} {i:Nat} (h:i<B.length):idx (P++A++B++S) ((P.length+A.length+i:Nat):Int)=Ob (B.getD i E0):=by
 have e:P++A++B++S=(P++A)++B++[]++S:=by simp
 have hl:P.length+A.length=(P++A).length:=by simp
 rw [e,hl];have:=zv4 (P:=P++A) (A:=B) (B:=[]) (S:=S) h;exact this
theorem zht {key:Trip->Int} {A:List Trip} (hs:zf5 key A) {i j:Nat} (h:i<=j) (hj:j<A.length):key (A.getD i E0)<=key (A.getD j E0):=by
 by_cases e:i=j
 . subst e; omega
 . have:=List.pairwise_iff_getElem.1 hs i j J hj J;simpa [List.getD,hj,show i<A.length by omega] using this
theorem zqC {A:List Trip} {i:Nat} {x:Trip} (h:x∈A.take i):∃ j,j<i/\j<A.length/\x=A.getD j E0:=by
 obtain ⟨j,hj,rfl⟩:=List.getElem_of_mem h;have hj2:=hj;rw [List.length_take] at hj2;refine ⟨j,by omega,by omega, ?_⟩;simp [List.getD,show j<A.length by omega]
theorem zqD {A:List Trip} {i:Nat} {x:Trip} (h:x∈A.drop i):∃ j,i<=j/\j<A.length/\x=A.getD j E0:=by
 obtain ⟨j,hj,rfl⟩:=List.getElem_of_mem h;have hj2:=hj;rw [List.length_drop] at hj2;refine ⟨i+j,by omega,by omega, ?_⟩;simp [List.getD,show i+j<A.length by omega]
section
variable {cmp:(Trip×Trip)->Option Int} {key:Trip->Int} (hc:∀ x y,∃ v,cmp (x,y)=Ob v/\(v<0↔key x<key y))
include hc
theorem zwJ {P A B S:List Trip} {lo hi mid:Nat} (hl:(P++A++B++S).length<1000000000000) (hlo:P.length<=lo) (hlh:lo<=hi) (hhi:hi<=P.length+A.length)
    (hq1:∀ c,lo<=c->c<hi->P.length+A.length<=mid+(P.length+A.length)-1-c/\mid+(P.length+A.length)-1-c<P.length+A.length+B.length) (hmid:mid<=P.length+A.length+B.length) :
    ∃ r:Nat,iter (σ:=(Int×Int)) (τ:=Int) ((λs139=>
cond (decide (s139.1<s139.2)) (Zb (zjC .u64 (IntKind.u64.wrap (w64 (s139.1+s139.2))) 1) λx142=>
Zb (idx (P++A++B++S) (w64 (w64 (w64 ((mid:Int)+((P.length+A.length:Nat):Int))-1)-w64 x142))) λx143=>
Zb (idx (P++A++B++S) (w64 x142)) λx144=>
Zb (cmp (x143,x144)) λy145=>
cond (!(decide (y145<0))) (Ob (.inl (w64 (w64 x142+1),s139.2))) (Ob (.inl (s139.1,w64 x142)))) (Ob (.inr s139.1))):(Int×Int)->Option ((Int×Int)⊕Int)) big ((lo:Int),(hi:Int))=Ob (r:Int)/\lo<=r/\r<=hi /\
      (r=lo\/key (A.getD (r-1-P.length) E0)<=key (B.getD (mid+(P.length+A.length)-r-(P.length+A.length)) E0))/\(r=hi\/key (B.getD (mid+(P.length+A.length)-1-r-(P.length+A.length)) E0)<key (A.getD (r-P.length) E0)):=by
  have hl2:=hl;simp only [List.length_append] at hl2;obtain ⟨r,h1,h2,h3,h4,h5⟩:=zm0 (F:=(λs139=>
cond (decide (s139.1<s139.2)) (Zb (zjC .u64 (IntKind.u64.wrap (w64 (s139.1+s139.2))) 1) λx142=>
Zb (idx (P++A++B++S) (w64 (w64 (w64 ((mid:Int)+((P.length+A.length:Nat):Int))-1)-w64 x142))) λx143=>
Zb (idx (P++A++B++S) (w64 x142)) λx144=>
Zb (cmp (x143,x144)) λy145=>
cond (!(decide (y145<0))) (Ob (.inl (w64 (w64 x142+1),s139.2))) (Ob (.inl (s139.1,w64 x142)))) (Ob (.inr s139.1)))) (q:=λc=>!decide (key (B.getD (mid+(P.length+A.length)-1-c-(P.length+A.length)) E0)<key (A.getD (c-P.length) E0))) (lo:=lo) (hi:=hi) hlh J (λi j hi1 hij hj=>by
      obtain ⟨e1,e2⟩:=zj4 (a:=i) (b:=j) J;obtain ⟨g1,g2⟩:=hq1 ((i+j)/2) J J;simp only [];rw [decide_eq_true J,cond_true,e1,Zs,e2];have e3:w64 (w64 (w64 ((mid:Int)+((P.length+A.length:Nat):Int))-1)-(((i+j)/2:Nat):Int))=((P.length+A.length+(mid+(P.length+A.length)-1-(i+j)/2-(P.length+A.length)):Nat):Int):=by
        rw [zf (n:=(mid:Int)+_) J J,zf (n:=(mid:Int)+_-1) J J,zf J J]; omega
      rw [e3,zyU J,Zs];have e4:(((i+j)/2:Nat):Int)=((P.length+((i+j)/2-P.length):Nat):Int):=J
      rw [e4,zv4 J,Zs,zkZ hc _ _ (λb=>cond (!b) _ _),← e4];rw [zy J];cases decide (key (B.getD (mid+(P.length+A.length)-1-(i+j)/2-(P.length+A.length)) E0)<key (A.getD ((i+j)/2-P.length) E0))<;>rfl)
    (λi=>by simp only [decide_eq_false (show ¬ (i:Int)<i by omega),cond_false])
  refine ⟨r,h1,h2,h3, ?_, ?_⟩
  · rcases h4 with h | h
    · exact .inl h
    · by_cases e:r=lo
      · exact .inl e
      · right;simp only [Bool.not_eq_true',decide_eq_false_iff_not] at h;rw [show mid+(P.length+A.length)-1-(r-1)-(P.length+A.length)=mid+(P.length+A.length)-r-(P.length+A.length) by omega] at h;omega
  · rcases h5 with h | h
    · exact .inl h
    · right;simpa using h
end
section
variable {cmp:(Trip×Trip)->Option Int} {key:Trip->Int}
theorem ztM {n:Nat} {rec:List Trip->Int->Int->Int->((Trip×Trip)->Option Int)->Option (List Trip)} (hr:ztL key cmp n rec) {P A B S:List Trip} {r mid:Nat} (hA:zf5 key A) (hB:zf5 key B) (hl:(P++A++B++S).length<1000000000000)
 (r1:P.length<=r) (r2:r<=P.length+A.length) (r3:r<=mid) (r4:mid-r<=B.length) (m1:mid-P.length<=n) (m2:P.length+A.length+B.length-mid<=n)
 (q1:r=P.length\/mid-r=B.length\/key (A.getD (r-1-P.length) E0)<=key (B.getD (mid-r) E0)) (q2:r=P.length+A.length\/mid=r\/key (B.getD (mid-1-r) E0)<key (A.getD (r-P.length) E0)) :
 ∃ M,zBI rec (P++A++B++S) P.length ((P.length+A.length:Nat):Int) ((P.length+A.length+B.length:Nat):Int) cmp (mid:Int) (r:Int)=Ob (P++M++S)/\zf5 key M/\zdf key (A++B) M:=by
 have hl2:=hl;simp only [List.length_append] at hl2;have eA:A.take (r-P.length)++A.drop (r-P.length)=A:=List.take_append_drop _ _;have eB:B.take (mid-r)++B.drop (mid-r)=B:=List.take_append_drop _ _;have lA1:(A.take (r-P.length)).length=r-P.length:=by rw [List.length_take]; omega
 have lU:(A.drop (r-P.length)).length=A.length-(r-P.length):=List.length_drop;have lV:(B.take (mid-r)).length=mid-r:=by rw [List.length_take]; omega
 have lB2:(B.drop (mid-r)).length=B.length-(mid-r):=List.length_drop;obtain ⟨M,h1,h2,h3⟩:=zyT hr P (A.take (r-P.length)) (A.drop (r-P.length)) (B.take (mid-r)) (B.drop (mid-r)) S J J On (by rw [eA]; exact hA) (by rw [eB]; exact hB)
  (λu hu v hv=>by
   obtain ⟨j,j1,j2,rfl⟩:=zqD hu;obtain ⟨i,i1,i2,rfl⟩:=zqC hv;have a1:=zht hA (i:=r-P.length) (j:=j) j1 j2;have a2:=zht hB (i:=i) (j:=mid-1-r) J J;rcases q2 with h | h | h<;>omega)
  (λx hx y hy=>by
   obtain ⟨j,j1,j2,rfl⟩:=zqC hx;obtain ⟨i,i1,i2,rfl⟩:=zqD hy;have a1:=zht hA (i:=j) (j:=r-1-P.length) J J;have a2:=zht hB (i:=mid-r) (j:=i) i1 i2;rcases q1 with h | h | h<;>omega)
 have eL:P++A.take (r-P.length)++A.drop (r-P.length)++B.take (mid-r)++B.drop (mid-r)++S=P++A++B++S:=by
  rw [List.append_assoc P,eA,List.append_assoc (P++A),eB]
 rw [eL,lA1,lU,lV,lB2,show P.length+(r-P.length)=r by omega,show r+(A.length-(r-P.length))=P.length+A.length by omega,show P.length+A.length+(mid-r)+(B.length-(mid-r))=P.length+A.length+B.length by omega,show r+(mid-r)=mid by omega] at h1;rw [eA,eB] at h3;exact ⟨M,h1,h2,h3⟩
end
section
variable {cmp:(Trip×Trip)->Option Int} {key:Trip->Int} (hc:∀ x y,∃ v,cmp (x,y)=Ob v/\(v<0↔key x<key y))
include hc
theorem zyV {n:Nat} {rec:List Trip->Int->Int->Int->((Trip×Trip)->Option Int)->Option (List Trip)} (hr:ztL key cmp n rec) {P A B S:List Trip} (hA:zf5 key A) (hB:zf5 key B) (hl:(P++A++B++S).length<1000000000000) (la:2<=A.length) (lb:2<=B.length) (hn:A.length+B.length<=n+1) :
 ∃ M,zn rec (P++A++B++S) P.length ((P.length+A.length:Nat):Int) ((P.length+A.length+B.length:Nat):Int) cmp=Ob (P++M++S)/\zf5 key M/\zdf key (A++B) M:=by
 have hl2:=hl;simp only [List.length_append] at hl2;have w1:(w64 (((P.length+A.length:Nat):Int)-(P.length:Int))==1)=Oc:=by rw [zf J J]; simp; omega
 have w2:(w64 (((P.length+A.length+B.length:Nat):Int)-((P.length+A.length:Nat):Int))==1)=Oc:=by rw [zf J J]; simp; omega
 obtain ⟨e1,e2⟩:=zj4 (a:=P.length) (b:=P.length+A.length+B.length) J;obtain ⟨mid,hmid⟩:∃ mid,(P.length+(P.length+A.length+B.length))/2=mid:=⟨_,rfl⟩;rw [hmid] at e1 e2;unfold zn;rw [w1,w2,cond_false,cond_false,e1,Zs,e2];by_cases hm:P.length+A.length>mid
 . rw [decide_eq_true (show ((P.length+A.length:Nat):Int)>(mid:Int) by omega),cond_true];have elo:w64 (w64 ((mid:Int)+((P.length+A.length:Nat):Int))-((P.length+A.length+B.length:Nat):Int))=((mid-B.length:Nat):Int):=by
    rw [zf (n:=(mid:Int)+_) J J,zf J J]; omega
   rw [elo];obtain ⟨r,h1,h2,h3,h4,h5⟩:=zwJ hc (P:=P) (A:=A) (B:=B) (S:=S) (lo:=mid-B.length) (hi:=mid) (mid:=mid) hl J J J (λc _ _=>by omega) J;rw [h1,Zs];refine ztM hr (r:=r) (mid:=mid) hA hB hl J J h3 J J J ?_ ?_
   . rcases h4 with h | h
     . right; left; omega
     . right; right;rw [show mid+(P.length+A.length)-r-(P.length+A.length)=mid-r by omega] at h;exact h
   . rcases h5 with h | h
     . right; left; exact h.symm
     . right; right;rw [show mid+(P.length+A.length)-1-r-(P.length+A.length)=mid-1-r by omega] at h;exact h
 . rw [decide_eq_false (show ¬ ((P.length+A.length:Nat):Int)>(mid:Int) by omega),cond_false];obtain ⟨r,h1,h2,h3,h4,h5⟩:=zwJ hc (P:=P) (A:=A) (B:=B) (S:=S) (lo:=P.length) (hi:=P.length+A.length) (mid:=mid) hl J J J (λc _ _=>by omega) J;rw [h1,Zs];refine ztM hr (r:=r) (mid:=mid) hA hB hl J J J J J J ?_ ?_
   . rcases h4 with h | h
     . left; exact h
     . right; right;rw [show mid+(P.length+A.length)-r-(P.length+A.length)=mid-r by omega] at h;exact h
   . rcases h5 with h | h
     . left; exact h
     . right; right;rw [show mid+(P.length+A.length)-1-r-(P.length+A.length)=mid-1-r by omega] at h;exact h
end
theorem zv5 (x:Trip) (T:List Trip) (e:Int):∀ (B1 P:List Trip),e=((P.length+B1.length:Nat):Int)->(P++x::B1++T).length<1000000000000 ->
    Lp ((λs28=>
cond (decide (s28.1<e)) (Zb (idx s28.2 (w64 (s28.1+1))) λx31=>
Zb (idx s28.2 s28.1) λx32=>
Zb (idx s28.2 s28.1) λx33=>
Zb (idx ((s28.2).set (Int.toNat s28.1) x31) (w64 (s28.1+1))) λx34=>
Ob (.inl (w64 (s28.1+1),((s28.2).set (Int.toNat s28.1) x31).set (Int.toNat (w64 (s28.1+1))) x32))) (Ob (.inr s28.2))):(Int×List Trip)->Option ((Int×List Trip)⊕List Trip)) B1.length ((P.length:Int),P++x::B1++T) (P++B1++x::T):=by
  intro B1;induction B1 with
  | nil=>
    intro P he hl;refine Lp.done ?_;subst he;simp
  | cons y B1 ih=>
    intro P he hl;have hl2:=hl;simp only [List.length_append,List.length_cons] at hl2 he;have hr:=ih (P++[y]) (by rw [he]; simp; omega) (by simp only [List.length_append,List.length_cons,List.length_nil]; omega);have e9:P++[y]++B1++x::T=P++y::B1++x::T:=by simp
    rw [e9] at hr;refine Lp.step ?_ hr;have i0:∀ z,idx (P++z::(y::B1)++T) (P.length:Int)=Ob z:=λz=>by
      rw [show P++z::(y::B1)++T=P++z::(y::B1++T) by simp]; exact zgX _ _ _
    have i1:∀ z,idx (P++z::(y::B1)++T) ((P.length+1:Nat):Int)=Ob y:=λz=>by
      rw [show P++z::(y::B1)++T=(P++[z])++y::(B1++T) by simp,show P.length+1=(P++[z]).length by simp]; exact zgX _ _ _
    have s1:(P++x::(y::B1)++T).set P.length y=P++y::(y::B1)++T:=by
      rw [show P++x::(y::B1)++T=P++x::(y::B1++T) by simp,zhs]; simp
    have s2:(P++y::(y::B1)++T).set (P.length+1) x=P++[y]++x::B1++T:=by
      rw [show P++y::(y::B1)++T=(P++[y])++y::(B1++T) by simp,show P.length+1=(P++[y]).length by simp,zhs]; simp
    simp only [decide_eq_true (show (P.length:Int)<e by omega),cond_true,zy (show P.length<9223372036854775807 by omega),i1,i0,Zs,Int.toNat_natCast,s1,s2];simp
theorem zyW (y:Trip) (T P:List Trip):∀ (n:Nat) (A2:List Trip) (T:List Trip),A2.length=n->(P++A2++y::T).length<1000000000000 ->
    Lp ((λs64=>
cond (decide (s64.1>(P.length:Int))) (Zb (idx s64.2 (w64 (s64.1-1))) λx67=>
Zb (idx s64.2 s64.1) λx68=>
Zb (idx s64.2 s64.1) λx69=>
Zb (idx ((s64.2).set (Int.toNat s64.1) x67) (w64 (s64.1-1))) λx70=>
Ob (.inl (w64 (s64.1-1),((s64.2).set (Int.toNat s64.1) x67).set (Int.toNat (w64 (s64.1-1))) x68))) (Ob (.inr s64.2))):(Int×List Trip)->Option ((Int×List Trip)⊕List Trip)) n (((P.length+A2.length:Nat):Int),P++A2++y::T) (P++y::A2++T):=by
  intro n;induction n with
  | zero=>
    intro A2 T hn hl;have:A2=[]:=List.length_eq_zero_iff.1 hn;subst this;refine Lp.done ?_;simp
  | succ n ih=>
    intro A2 T hn hl;obtain ⟨L0,z,rfl⟩:∃ L0 z,A2=L0++[z]:=by
      cases h:A2.reverse with
      | nil=>rw [List.reverse_eq_nil_iff] at h; subst h; simp at hn
      | cons z l=>exact ⟨l.reverse,z,by rw [← List.reverse_reverse A2,h]; simp⟩
    have hL0:L0.length=n:=by simpa using hn
    have hl2:=hl;simp only [List.length_append,List.length_cons,List.length_nil] at hl2;have hr:=ih L0 (z::T) hL0 (by simp only [List.length_append,List.length_cons]; omega);have e9:P++y::L0++z::T=P++y::(L0++[z])++T:=by simp
    rw [e9] at hr;refine Lp.step ?_ hr;have em:w64 (((P.length+(L0++[z]).length:Nat):Int)-1)=((P.length+L0.length:Nat):Int):=by
      simp only [List.length_append,List.length_cons,List.length_nil];rw [zf J J]; omega
    have i1:idx (P++(L0++[z])++y::T) ((P.length+(L0++[z]).length:Nat):Int)=Ob y:=by
      rw [show P.length+(L0++[z]).length=(P++(L0++[z])).length by simp]; exact zgX _ _ _
    have i2:∀ u,idx (P++(L0++[z])++u::T) ((P.length+L0.length:Nat):Int)=Ob z:=λu=>by
      rw [show P++(L0++[z])++u::T=(P++L0)++z::(u::T) by simp,show P.length+L0.length=(P++L0).length by simp]; exact zgX _ _ _
    have s1:(P++(L0++[z])++y::T).set (P.length+(L0++[z]).length) z=P++(L0++[z])++z::T:=by
      rw [show P.length+(L0++[z]).length=(P++(L0++[z])).length by simp,zhs]
    have s2:(P++(L0++[z])++z::T).set (P.length+L0.length) y=P++L0++y::(z::T):=by
      rw [show P++(L0++[z])++z::T=(P++L0)++z::(z::T) by simp,show P.length+L0.length=(P++L0).length by simp,zhs]
    simp only [decide_eq_true (show ((P.length+(L0++[z]).length:Nat):Int)>(P.length:Int) by simp only [List.length_append,List.length_cons,List.length_nil]; omega),cond_true,em,i1,i2,Zs,Int.toNat_natCast,s1,s2]
section
variable {cmp:(Trip×Trip)->Option Int} {key:Trip->Int} (hc:∀ x y,∃ v,cmp (x,y)=Ob v/\(v<0↔key x<key y))
include hc
theorem zyX {rec:List Trip->Int->Int->Int->((Trip×Trip)->Option Int)->Option (List Trip)} {P B S:List Trip} {x:Trip} (hB:zf5 key B) (hl:(P++[x]++B++S).length<1000000000000) :
    ∃ M,zn rec (P++[x]++B++S) P.length ((P.length+[x].length:Nat):Int) ((P.length+[x].length+B.length:Nat):Int) cmp=Ob (P++M++S)/\zf5 key M/\zdf key ([x]++B) M:=by
  have hl2:=hl;simp only [List.length_append,List.length_cons,List.length_nil] at hl2;have w1:(w64 (((P.length+[x].length:Nat):Int)-(P.length:Int))==1)=Od:=by
    rw [List.length_singleton,zf J J]; simp; omega
  unfold zn;rw [w1,cond_true];have ix:idx (P++[x]++B++S) (P.length:Int)=Ob x:=by
    have:=zv4 (P:=P) (A:=[x]) (B:=B) (S:=S) (i:=0) Ol;simpa using this
  obtain ⟨r,h1,h2,h3,h4,h5⟩:=zm0 (F:=(λs8=>
cond (decide (s8.1<s8.2)) (Zb (zjC .u64 (IntKind.u64.wrap (w64 (s8.1+s8.2))) 1) λx11=>
Zb (idx (P++[x]++B++S) (w64 x11)) λx12=>
Zb (idx (P++[x]++B++S) (P.length:Int)) λx13=>
Zb (cmp (x12,x13)) λy14=>
cond (decide (y14<0)) (Ob (.inl (w64 (w64 x11+1),s8.2))) (Ob (.inl (s8.1,w64 x11)))) (Ob (.inr s8.1)))) (q:=λc=>decide (key (B.getD (c-(P.length+1)) E0)<key x)) (lo:=P.length+[x].length) (hi:=P.length+[x].length+B.length) J (by rw [List.length_singleton]; omega) (λi j hi1 hij hj=>by
      rw [List.length_singleton] at hi1 hj;obtain ⟨e1,e2⟩:=zj4 (a:=i) (b:=j) J;simp only [];rw [decide_eq_true J,cond_true,e1,Zs,e2];have e4:(((i+j)/2:Nat):Int)=((P.length+[x].length+((i+j)/2-(P.length+1)):Nat):Int):=by rw [List.length_singleton]; omega
      rw [e4,zyU J,Zs,ix,Zs,zkZ hc _ _ (λb=>cond b _ _),← e4];rw [zy J];cases decide (key (B.getD ((i+j)/2-(P.length+1)) E0)<key x)<;>rfl)
    (λi=>by simp only [decide_eq_false (show ¬ (i:Int)<i by omega),cond_false])
  rw [h1,Zs];rw [List.length_singleton] at h2 h3 h4 h5;have eB:B.take (r-(P.length+1))++B.drop (r-(P.length+1))=B:=List.take_append_drop _ _;have lB:(B.take (r-(P.length+1))).length=r-(P.length+1):=by rw [List.length_take]; omega
  have hlt:∀ b∈B.take (r-(P.length+1)),key b<key x:=λb hb=>by
    obtain ⟨j,j1,j2,rfl⟩:=zqC hb;rcases h4 with h | h
    · omega
    · have a1:=zht hB (i:=j) (j:=r-1-(P.length+1)) J J;have:=of_decide_eq_true h;omega
  have hge:∀ b∈B.drop (r-(P.length+1)),key x<=key b:=λb hb=>by
    obtain ⟨j,j1,j2,rfl⟩:=zqD hb;rcases h5 with h | h
    · omega
    · have a1:=zht hB (i:=r-(P.length+1)) (j:=j) j1 j2;have:=of_decide_eq_false h;omega
  have hmv:=zv5 x (B.drop (r-(P.length+1))++S) (w64 ((r:Int)-1)) (B.take (r-(P.length+1))) P (by rw [lB,zf J J]; omega) (by
    have e:P++x::B.take (r-(P.length+1))++(B.drop (r-(P.length+1))++S)=P++[x]++(B.take (r-(P.length+1))++B.drop (r-(P.length+1)))++S:=by simp; rw [← List.append_assoc,eB]
    rw [e,eB]; exact hl)
  have eD:P++x::B.take (r-(P.length+1))++(B.drop (r-(P.length+1))++S)=P++[x]++B++S:=by
    have e:P++x::B.take (r-(P.length+1))++(B.drop (r-(P.length+1))++S)=P++[x]++(B.take (r-(P.length+1))++B.drop (r-(P.length+1)))++S:=by simp; rw [← List.append_assoc,eB]
    rw [e,eB]
  rw [eD] at hmv;have hB1:=hmv.big (by rw [lB]; simp only [big]; omega);have hsB:=hB;rw [← eB] at hsB;obtain ⟨b1,b2,b3⟩:=zgY.1 hsB;refine ⟨B.take (r-(P.length+1))++x::B.drop (r-(P.length+1)), ?_, ?_, ?_⟩
  · refine (congrArg (λo=>Zb o λt35=>Ob t35) hB1).trans ?_;rw [Zs]; simp
  · refine zgY.2 ⟨b1,List.pairwise_cons.2 ⟨λb hb=>hge b hb,b2⟩,λa ha b hb=>?_⟩;rcases List.mem_cons.1 hb with rfl | hb
    · have:=hlt a ha; omega
    · exact b3 a ha b hb
  · have e1:[x]++B=([x]++B.take (r-(P.length+1)))++B.drop (r-(P.length+1)):=by rw [List.append_assoc,eB]
    have e2:B.take (r-(P.length+1))++x::B.drop (r-(P.length+1))=(B.take (r-(P.length+1))++[x])++B.drop (r-(P.length+1)):=by simp
    rw [e1,e2];refine (zdf.swap λu hu v hv=>?_).append (zdf.refl _);rw [List.mem_singleton] at hu;subst hu;exact hlt v hv
theorem zv6 {rec:List Trip->Int->Int->Int->((Trip×Trip)->Option Int)->Option (List Trip)} {P A S:List Trip} {y:Trip} (hA:zf5 key A) (la:A.length≠1) (hl:(P++A++[y]++S).length<1000000000000) :
    ∃ M,zn rec (P++A++[y]++S) P.length ((P.length+A.length:Nat):Int) ((P.length+A.length+[y].length:Nat):Int) cmp=Ob (P++M++S)/\zf5 key M/\zdf key (A++[y]) M:=by
  have hl2:=hl;simp only [List.length_append,List.length_cons,List.length_nil] at hl2;have w1:(w64 (((P.length+A.length:Nat):Int)-(P.length:Int))==1)=Oc:=by
    rw [zf J J]; simp; omega
  have w2:(w64 (((P.length+A.length+[y].length:Nat):Int)-((P.length+A.length:Nat):Int))==1)=Od:=by
    rw [List.length_singleton,zf J J]; simp; omega
  unfold zn;rw [w1,w2,cond_false,cond_true];have iy:idx (P++A++[y]++S) ((P.length+A.length:Nat):Int)=Ob y:=by
    have:=zyU (P:=P) (A:=A) (B:=[y]) (S:=S) (i:=0) Ol;simpa using this
  obtain ⟨r,h1,h2,h3,h4,h5⟩:=zm0 (F:=(λs44=>
cond (decide (s44.1<s44.2)) (Zb (zjC .u64 (IntKind.u64.wrap (w64 (s44.1+s44.2))) 1) λx47=>
Zb (idx (P++A++[y]++S) ((P.length+A.length:Nat):Int)) λx48=>
Zb (idx (P++A++[y]++S) (w64 x47)) λx49=>
Zb (cmp (x48,x49)) λy50=>
cond (!(decide (y50<0))) (Ob (.inl (w64 (w64 x47+1),s44.2))) (Ob (.inl (s44.1,w64 x47)))) (Ob (.inr s44.1)))) (q:=λc=>!decide (key y<key (A.getD (c-P.length) E0))) (lo:=P.length) (hi:=P.length+A.length) J J (λi j hi1 hij hj=>by
      obtain ⟨e1,e2⟩:=zj4 (a:=i) (b:=j) J;simp only [];rw [decide_eq_true J,cond_true,e1,Zs,e2,iy,Zs];have e4:(((i+j)/2:Nat):Int)=((P.length+((i+j)/2-P.length):Nat):Int):=J
      rw [e4,zv4 J,Zs,zkZ hc _ _ (λb=>cond (!b) _ _),← e4];rw [zy J];cases decide (key y<key (A.getD ((i+j)/2-P.length) E0))<;>rfl)
    (λi=>by simp only [decide_eq_false (show ¬ (i:Int)<i by omega),cond_false])
  rw [h1,Zs];have eA:A.take (r-P.length)++A.drop (r-P.length)=A:=List.take_append_drop _ _;have lA:(A.take (r-P.length)).length=r-P.length:=by rw [List.length_take]; omega
  have lA2:(A.drop (r-P.length)).length=A.length-(r-P.length):=List.length_drop;have hle:∀ a∈A.take (r-P.length),key a<=key y:=λa ha=>by
    obtain ⟨j,j1,j2,rfl⟩:=zqC ha;rcases h4 with h | h
    · omega
    · have a1:=zht hA (i:=j) (j:=r-1-P.length) J J;simp only [Bool.not_eq_true',decide_eq_false_iff_not] at h;omega
  have hgt:∀ a∈A.drop (r-P.length),key y<key a:=λa ha=>by
    obtain ⟨j,j1,j2,rfl⟩:=zqD ha;rcases h5 with h | h
    · omega
    · have a1:=zht hA (i:=r-P.length) (j:=j) j1 j2;simp only [Bool.not_eq_false',decide_eq_true_eq] at h;omega
  have eD:(P++A.take (r-P.length))++A.drop (r-P.length)++y::S=P++A++[y]++S:=by
    rw [List.append_assoc P,eA]; simp
  have hmv:=zyW y S (P++A.take (r-P.length)) _ (A.drop (r-P.length)) S rfl (by rw [eD]; exact hl);rw [eD] at hmv;have eP:(P++A.take (r-P.length)).length=r:=by rw [List.length_append,lA]; omega
  rw [eP,lA2,show r+(A.length-(r-P.length))=P.length+A.length by omega] at hmv;have hB1:=hmv.big Of;have hsA:=hA;rw [← eA] at hsA;obtain ⟨b1,b2,b3⟩:=zgY.1 hsA;refine ⟨A.take (r-P.length)++y::A.drop (r-P.length), ?_, ?_, ?_⟩
  · refine (congrArg (λo=>Zb o λt71=>Ob t71) hB1).trans ?_;rw [Zs]; simp
  · refine zgY.2 ⟨b1,List.pairwise_cons.2 ⟨λb hb=>by have:=hgt b hb; omega,b2⟩,λa ha b hb=>?_⟩;rcases List.mem_cons.1 hb with rfl | hb
    · exact hle a ha
    · exact b3 a ha b hb
  · have e1:A++[y]=A.take (r-P.length)++(A.drop (r-P.length)++[y]):=by rw [← List.append_assoc,eA]
    have e2:A.take (r-P.length)++y::A.drop (r-P.length)=A.take (r-P.length)++([y]++A.drop (r-P.length)):=by simp
    rw [e1,e2];refine (zdf.refl _).append (zdf.swap λu hu v hv=>?_);rw [List.mem_singleton] at hv;subst hv;exact hgt u hu
theorem ztN:∀ (k n:Nat),n<=k->ztL key cmp n (zu k)
 | 0,n,hn=>λA B P S hA hB h _ _ _=>by
  have:=List.length_pos_iff.2 hA;omega
 | k+1,n,hn=>λA B P S hA hB h sA sB hl=>by
  have la:=List.length_pos_iff.2 hA;have lb:=List.length_pos_iff.2 hB;show ∃ M,zn (zu k) (P++A++B++S) P.length ((P.length+A.length:Nat):Int) ((P.length+A.length+B.length:Nat):Int) cmp=Ob (P++M++S)/\_;by_cases h1:A.length=1
  . obtain ⟨x,rfl⟩:=List.length_eq_one_iff.1 h1;exact zyX hc sB hl
  . by_cases h2:B.length=1
    . obtain ⟨y,rfl⟩:=List.length_eq_one_iff.1 h2;exact zv6 hc sA h1 hl
    . exact zyV hc (ztN k (n-1) J) sA sB hl J J J
end
end Go.Ai.Sx