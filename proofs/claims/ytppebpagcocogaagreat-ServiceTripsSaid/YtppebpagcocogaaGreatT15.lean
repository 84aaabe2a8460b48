/- Service: a course and its running times. -/
import Derived.Test.YtppebpagcocogaaGreatT14
import Derived.Test.YtppebpagcocogaaGreatT9
import Derived.Test.YtppebpagcocogaaGreatT13
set_option linter.unusedSimpArgs false
set_option linter.unusedVariables false
set_option linter.unusedSectionVars false
namespace Go.Ai.Sx
open Option renaming bind->Zb,bind_some->Zs
theorem zgL (n a b:Int):zX n a b=some (inB n a b):=ze9 n a b
theorem zzo (n a b:Int):zbT n a b=some (inB n a b):=ze9 n a b
theorem zsk {A:Type} {n:Nat} {f:Nat->A} {i:Nat} {v:A}:(rlN n f).set i v=rlN n λx=>if x=i then v else f x:=by
 apply List.ext_getElem?;intro j;unfold rlN;rw [List.getElem?_set];by_cases h:i=j
 . subst h;by_cases h2:i<n
   . simp [h2]
   . simp [h2]
 . by_cases h2:j<n
   . simp [h,h2,Ne.symm h]
   . simp [h,h2]
theorem zf0 {A:Type} {n:Nat} {f g:Nat->A} (h:∀ i,i<n->f i=g i):rlN n f=rlN n g:=List.map_congr_left λi hi=>h i (List.mem_range.1 hi)
theorem zgi {A:Type} {n:Nat} {f:Nat->A} {i:Nat} (h:i<n):idx (rlN n f) (i:Int)=some (f i):=by
 rw [zev]; unfold rlN; simp [h]
theorem zpl {A:Type} (n:Nat) (x:A):List.replicate n x=rlN n λ_=>x:=by
 apply List.ext_getElem?;intro j;unfold rlN;rw [List.getElem?_replicate];by_cases h:j<n<;>simp [h]
def dwl (c:Course) (i:Nat):Int:=c.2.2.1.getD i 0
def stB (p:Plan) (c:Course) (i:Nat):Bool:=inB (zdu c.2.1 i) 1 (wlS p c.1)&&(decide (i=0)||!decide (zdu c.2.1 i<=zdu c.2.1 (i-1)))&&inB (dwl c i) 0 600
def zno (c:Course):Bool:=inB (zr c.2.1) 2 60&&(decide (c.2.2.1.length=c.2.1.length)&&((dwl c 0==0)&&(dwl c (c.2.1.length-1)==0)))
def zvp (p:Plan) (c:Course):Bool:=zkf p c.1&&(zno c&&(List.range c.2.1.length).all (stB p c))
theorem zsl (c:Course) (e:Int) (he:2<=c.2.1.length->c.2.1.length<=60->c.2.2.1.length=c.2.1.length->e=((c.2.1.length-1:Nat):Int)):(cond (!(inB (zr c.2.1) 2 60)) (some true) (cond (zr c.2.2.1 !=zr c.2.1) (some true) (Zb (idx c.2.2.1 0) λx14=>
cond (x14 !=0) (some true) (Zb (idx c.2.2.1 e) λx16=>
some (x16 !=0)))))=some (!zno c):=by
 unfold zno;cases h1:inB (zr c.2.1) 2 60 with
 | false=>rfl
 | true=>
 have h1:=zau.1 h1;rw [zu] at h1;by_cases h2:c.2.2.1.length=c.2.1.length
 . have e1:(zr c.2.2.1 !=zr c.2.1)=false:=by rw [zu,zu,h2]; exact bne_self_eq_false _
   rw [e1,decide_eq_true h2,he (by omega) (by omega) h2];have hp:0<c.2.2.1.length:=by omega
   have i0:idx c.2.2.1 0=some (dwl c 0):=zt (l:=c.2.2.1) (i:=0) 0 hp;rw [i0,zt (l:=c.2.2.1) (i:=c.2.1.length-1) 0 (by omega)];show cond (dwl c 0 !=0) (some true) (some (dwl c (c.2.1.length-1)!=0))=_;unfold bne;cases (dwl c 0==0)<;>rfl
 . have e1:(zr c.2.2.1 !=zr c.2.1)=true:=by
    rw [zu,zu];simp only [bne_iff_ne,ne_eq];omega
   rw [e1,decide_eq_false h2];rfl
theorem zjb {c:Course} (h:zno c=true):(2<=c.2.1.length/\c.2.1.length<=60)/\c.2.2.1.length=c.2.1.length/\dwl c 0=0/\dwl c (c.2.1.length-1)=0:=by
 unfold zno at h;simp only [Bool.and_eq_true,decide_eq_true_eq,beq_iff_eq] at h;obtain ⟨h1,h2,h3,h4⟩:=h;have h1:=zau.1 h1;rw [zu] at h1;exact ⟨by omega,h2,h3,h4⟩
structure zsm (p:Plan) (c:Course):Prop where
 w:zkf p c.1=true
 n:2<=c.2.1.length/\c.2.1.length<=60
 d:c.2.2.1.length=c.2.1.length
 d0:dwl c 0=0
 dn:dwl c (c.2.1.length-1)=0
 st:∀ i,i<c.2.1.length->1<=zdu c.2.1 i/\zdu c.2.1 i<=wlS p c.1
 dw:∀ i,i<c.2.1.length->0<=dwl c i/\dwl c i<=600
theorem zyH {p:Plan} {c:Course} (h:zvp p c=true):zsm p c:=by
 unfold zvp at h;simp only [Bool.and_eq_true] at h;obtain ⟨h1,h2,h3⟩:=h;obtain ⟨a,b,c1,d⟩:=zjb h2;have hs:∀ i,i<c.2.1.length->stB p c i=true:=λi hi=>List.all_eq_true.1 h3 i (List.mem_range.2 hi);refine ⟨h1,a,b,c1,d,λi hi=>?_,λi hi=>?_⟩
 . have:=hs i hi;unfold stB at this;simp only [Bool.and_eq_true] at this;exact zau.1 this.1.1
 . have:=hs i hi;unfold stB at this;simp only [Bool.and_eq_true] at this;exact zau.1 this.2
def zh5 (ms:Int):Int:=max 1 ((ms+999)/1000)
theorem znp {ms:Int} (h:0<=ms/\ms<=3600000):1<=zh5 ms/\zh5 ms<=3600:=by unfold zh5; omega
def zpm (p:Plan) (l:Line) (c:Course):Option (List Int):=
 if zeO p c.1 l.2.2.1 l.2.2.2.1 c.2.1 then (zg9 p c.1 l.2.2.1 l.2.2.2.1 c.2.1).map (λgs=>gs.map (·.1)) else none
theorem zvq {p:Plan} {l:Line} {c:Course} {ms:List Int} (h:zpm p l c=some ms) (hb:wlS p c.1<=248000000):ms.length=c.2.1.length-1/\∀ m∈ms,0<=m/\m<=3600000:=by
 unfold zpm at h;split at h
 . rename_i hs;cases hl:zg9 p c.1 l.2.2.1 l.2.2.2.1 c.2.1 with
   | none=>rw [hl] at h; cases h
   | some gs=>
    rw [hl] at h;cases h;refine ⟨by rw [List.length_map]; exact zmb (zix hs hb) hl,λm hm=>?_⟩;obtain ⟨g,hg,rfl⟩:=List.mem_map.1 hm;exact zw6 hl g hg
 . cases h
theorem zAs (p:Plan) (l:Line) (c:Course) (hw:c.1.length<=9223372036854775807) (hn:c.2.1.length<=60) (hb:wlS p c.1<=248000000):∃ e:Int,zbN p c.1 l.2.2.1 l.2.2.2.1 c.2.1=some (match zpm p l c with | some ms=>(ms,0) | none=>([],e))/\(zpm p l c=none->e≠0):=by
 unfold zpm;cases hs:zeO p c.1 l.2.2.1 l.2.2.2.1 c.2.1 with
 | false=>exact ⟨2,zyG hw (by omega) hs,λ_=>by omega⟩
 | true=>
  refine ⟨4, ?_,λ_=>by omega⟩;rw [zw5 hs hb];cases zg9 p c.1 l.2.2.1 l.2.2.2.1 c.2.1<;>rfl
theorem zAa (p:Plan) (l:Line) (c:Course) (hw:c.1.length<=9223372036854775807) (hn:c.2.1.length<=60) (hb:wlS p c.1<=248000000):zfo p c.1 l.2.2.1 l.2.2.2.1 c.2.1=some (match zpm p l c with | some ms=>(ms,true) | none=>([],false)):=by
  unfold zfo zpm;rw [zsa p c.1 l.2.2.1 l.2.2.2.1 c.2.1 hw (by omega)];cases hs:zeO p c.1 l.2.2.1 l.2.2.2.1 c.2.1 with
  | false=>rfl
  | true=>
    have R:=zix hs hb;simp only [Zs,Bool.not_true,cond_false,if_true];rw [zqa R];cases hl:zg9 p c.1 l.2.2.1 l.2.2.2.1 c.2.1 with
    | none=>rfl
    | some gs=>
      have hlen:=zmb R hl;have hL:=zcH (f:=λs7:List Int×Int=>
cond (decide (s7.2<(zr gs))) (Zb (idx gs s7.2) λx10=>
Zb (zcY 8 s7.1 ([x10.1])) λx13=>
some (.inl (x13,(w64 (s7.2+1))))) (some (.inr s7.1))) gs (λi b=>(b,(i:Int))) (λ_ b c=>(.inl (b++[c.1]):List Int⊕List Int)) (λb=>b) (λi b=>b.length=i) [] (s0:=([],0)) rfl (by omega) rfl (λi h b hb=>by
        refine ⟨?_,λb' hb'=>?_⟩
        · simp only [];rw [zR h,cond_true,zev,List.getElem?_eq_getElem h,Zs,zaT (by simp; omega),Zs,zB (by omega)]
        · cases hb'; simp; omega) (λb _=>by simp only [zS,cond_false])
      simp only [Zs];rw [hL,zfa,Zs];have:∀ (l:List Leg) (b:List Int),l.foldl (λb c=>b++[c.1]) b=b++l.map (·.1):=by
        intro l;induction l with
        | nil=>intro b; simp
        | cons a l ih=>intro b; rw [List.foldl_cons,ih]; simp
      rw [this]; rfl
end Go.Ai.Sx
/- Service: the run of a course. -/
namespace Go.Ai.Sx
open Option renaming bind->Zb,bind_some->Zs
def zsX (ms:List Int) (k:Nat):Int:=if k=0 then 0 else zh5 (ms.getD (k-1) 0)
def zfK (ms:List Int) (c:Course):Nat->Int
 | 0=>0
 | k+1=>zfK ms c k+zh5 (ms.getD k 0)+dwl c (k+1)
def zhh (ms:List Int) (c:Course):List Int:=rlN c.2.1.length (zfK ms c)
def zw9 (ms:List Int) (c:Course):List Int:=rlN c.2.1.length (zsX ms)
def zh6 (p:Plan) (l:Line) (c:Course):Option (List Int):=if zvp p c then zpm p l c else none
structure zzp (c:Course) (ms:List Int):Prop where
 n:ms.length=c.2.1.length-1
 b:∀ k,0<=ms.getD k 0/\ms.getD k 0<=3600000
theorem zor {p:Plan} {l:Line} {c:Course} {ms:List Int} (h:zh6 p l c=some ms) (hb:zkf p c.1=true->wlS p c.1<=248000000):zsm p c/\zzp c ms:=by
 unfold zh6 at h;split at h
 . rename_i hc;have C:=zyH hc;obtain ⟨h1,h2⟩:=zvq h (hb C.w);refine ⟨C,h1,λk=>?_⟩;by_cases hk:k<ms.length
   . rw [show ms.getD k 0=ms[k] by simp [List.getD,hk]];exact h2 _ (List.getElem_mem hk)
   . rw [show ms.getD k 0=0 by simp [List.getD,hk]]; omega
 . cases h
section
variable {p:Plan} {l:Line} {c:Course} {ms:List Int} (C:zsm p c) (M:zzp c ms)
include C M
theorem zpn:∀ {k:Nat},k<c.2.1.length->0<=zfK ms c k/\zfK ms c k<=4200*k
 | 0,_=>by simp [zfK]
 | k+1,hk=>by
  have h1:=zpn (k:=k) (by omega);have h2:=znp (M.b k);have h3:=C.dw (k+1) hk;simp only [zfK];omega
theorem zyI {i j:Nat} (h:i<j) (hj:j<c.2.1.length):zfK ms c i+1<=zfK ms c j:=by
 induction j with
 | zero=>omega
 | succ j ih=>
  have h2:=znp (M.b j);have h3:=C.dw (j+1) hj;simp only [zfK];by_cases e:i=j
  . subst e; omega
  . have:=ih (by omega) (by omega); omega
theorem zuG:∀ (k i:Nat),i+k=c.2.1.length-1->Lp (λs106:Int×List Int×List Int=>
cond (decide (s106.1<(zr ms))) (Zb (idx ms s106.1) λx109=>
Zb (zcr .i64 (w64 (x109+999)) 1000) λx110=>
Zb (idx s106.2.2 (w64 (s106.1+1))) λx111=>
Zb (idx s106.2.1 s106.1) λx116=>
Zb (idx ((s106.2.2).set (Int.toNat (w64 (s106.1+1))) (max 1 x110)) (w64 (s106.1+1))) λx117=>
Zb (idx c.2.2.1 (w64 (s106.1+1))) λx118=>
Zb (idx s106.2.1 (w64 (s106.1+1))) λx119=>
some (.inl ((w64 (s106.1+1)),(s106.2.1).set (Int.toNat (w64 (s106.1+1))) (w64 ((w64 (x116+x117))+x118)),(s106.2.2).set (Int.toNat (w64 (s106.1+1))) (max 1 x110)))) (some (.inr (s106.2.1,s106.2.2)))) k ((i:Int),rlN c.2.1.length (λk=>if k<=i then zfK ms c k else 0),rlN c.2.1.length (λk=>if k<=i then zsX ms k else 0)) (zhh ms c,zw9 ms c):=by
 intro k;have hn:=C.n;have hd:=C.d;have hm:=M.n;induction k with
 | zero=>
  intro i hi;refine Lp.done ?_;simp only [];rw [show (i:Int)=(ms.length:Nat) by omega,zS,cond_false];have e1:rlN c.2.1.length (λk=>if k<=i then zfK ms c k else 0)=zhh ms c:=zf0 λk hk=>by rw [if_pos (by omega)]
  have e2:rlN c.2.1.length (λk=>if k<=i then zsX ms k else 0)=zw9 ms c:=zf0 λk hk=>by rw [if_pos (by omega)]
  rw [e1,e2]
 | succ k ih=>
  intro i hi;have hil:i<ms.length:=by omega
  refine Lp.step ?_ (ih (i+1) (by omega));have a1:idx ms (i:Int)=some (ms.getD i 0):=zt 0 hil;have hb:=M.b i;have hs:=znp hb;have a2:zcr .i64 (w64 (ms.getD i 0+999)) 1000=some ((ms.getD i 0+999)/1000):=by
   rw [ze (by omega) (by omega),zbQ ⟨by omega,by omega⟩ (by omega)]
  have a3:idx (rlN c.2.1.length (λk=>if k<=i then zsX ms k else 0)) ((i+1:Nat):Int)=some 0:=by
   rw [zgi (by omega),if_neg (by omega)]
  have a4:idx (rlN c.2.1.length (λk=>if k<=i then zfK ms c k else 0)) ((i:Nat):Int)=some (zfK ms c i):=by
   rw [zgi (by omega),if_pos (by omega)]
  have a5:idx (rlN c.2.1.length (λk=>if k<=i then zfK ms c k else 0)) ((i+1:Nat):Int)=some 0:=by
   rw [zgi (by omega),if_neg (by omega)]
  have a6:idx c.2.2.1 ((i+1:Nat):Int)=some (dwl c (i+1)):=zt 0 (by omega);have hsec:max 1 ((ms.getD i 0+999)/1000)=zh5 (ms.getD i 0):=rfl;have b1:(rlN c.2.1.length (λk=>if k<=i then zsX ms k else 0)).set (i+1) (zh5 (ms.getD i 0))=rlN c.2.1.length (λk=>if k<=i+1 then zsX ms k else 0):=by
   rw [zsk];refine zf0 λk hk=>?_;by_cases e:k=i+1
   ·subst e;rw [if_pos rfl,if_pos (by omega)];unfold zsX;rw [if_neg (by omega)]; rfl
   ·rw [if_neg e];by_cases e2:k<=i
    ·rw [if_pos e2,if_pos (by omega)]
    ·rw [if_neg e2,if_neg (by omega)]
  have hob:=zpn C M (k:=i) (by omega);have hdb:=C.dw (i+1) (by omega);have b2:(rlN c.2.1.length (λk=>if k<=i then zfK ms c k else 0)).set (i+1) (w64 (w64 (zfK ms c i+zh5 (ms.getD i 0))+dwl c (i+1)))=rlN c.2.1.length (λk=>if k<=i+1 then zfK ms c k else 0):=by
   rw [zsk,ze (n:=zfK ms c i+_) (by omega) (by omega),ze (by omega) (by omega)];refine zf0 λk hk=>?_;by_cases e:k=i+1
   ·subst e;rw [if_pos rfl,if_pos (by omega)]; rfl
   ·rw [if_neg e];by_cases e2:k<=i
    ·rw [if_pos e2,if_pos (by omega)]
    ·rw [if_neg e2,if_neg (by omega)]
  have a7:idx (rlN c.2.1.length (λk=>if k<=i+1 then zsX ms k else 0)) ((i+1:Nat):Int)=some (zh5 (ms.getD i 0)):=by
   rw [zgi (by omega),if_pos (by omega)];unfold zsX;rw [if_neg (by omega)]; rfl
  simp only [zR hil,cond_true,a1,Zs,a2,zB (show i<9223372036854775807 by omega),a3,a4,hsec,Int.toNat_natCast,b1,a7,a6,a5,b2]
end
theorem zsn {p:Plan} {l:Line} {c:Course} (hv:zaN p=true) (hp:zh4 p) (hwl:c.1.length<=9223372036854775807) (hsl:c.2.1.length<=9223372036854775807) (hb:zkf p c.1=true->wlS p c.1<=248000000):zbi p l c=some (match zh6 p l c with | some ms=>(zw9 ms c,zhh ms c,decide (zfK ms c (c.2.1.length-1)<=50000)) | none=>([],[],false)):=by
  unfold zbi;rw [ziO p hwl,hv,Bool.true_and,Zs];unfold zh6 zvp;cases hw:zkf p c.1 with
  | false=>rfl
  | true=>
  have hb:=hb hw;simp only [if_true,show ((0:Int)!=0)=false from rfl,cond_false,zgL,Zs];rw [zsl c _ (λh1 h2 _=>by rw [zu,ze (by omega) (by omega)]; omega),Zs];cases hh:zno c with
  | false=>rfl
  | true=>
  obtain ⟨hn,hd,hd0,hdn⟩:=zjb hh;simp only [Bool.not_true,cond_false,Bool.true_and];have h:=zdf (f:=λs42:Int=>
cond (decide (s42<(zr c.2.1))) (Zb (idx c.2.1 s42) λx45=>
cond (!(inB x45 1 (wlS p c.1))) (some (.inr (.inr ([],[],false)))) (cond (decide (s42>0)) (Zb (idx c.2.1 (w64 (s42-1))) λx59=>
cond (decide (x45<=x59)) (some (.inr (.inr ([],[],false)))) (Zb (idx c.2.2.1 s42) λx62=>
cond (!(inB x62 0 600)) (some (.inr (.inr ([],[],false)))) (some (.inl (w64 (s42+1)))))) (Zb (idx c.2.2.1 s42) λx65=>
cond (!(inB x65 0 600)) (some (.inr (.inr ([],[],false)))) (some (.inl (w64 (s42+1))))))) (some (.inr (.inl ():Unit⊕(List Int×List Int×Bool))))) (λk=>(k:Int)) c.2.1.length (stB p c) (.inr ([],[],false)) (.inl ()) (s0:=0) rfl (by simp only [big]; omega) (λi hi=>by
      have a1:idx c.2.1 (i:Int)=some (zdu c.2.1 i):=zt 0 hi;have a2:idx c.2.2.1 (i:Int)=some (dwl c i):=zt 0 (by omega);unfold stB;by_cases h0:i=0
      · subst h0;simp only [zR hi,cond_true,a1,a2,Zs,decide_eq_false (show ¬ (((0:Nat):Int)>0) by omega),cond_false,decide_eq_true (show (0:Nat)=0 from rfl),Bool.true_or,Bool.and_true,zB (show 0<9223372036854775807 by omega)];cases inB (zdu c.2.1 0) 1 (wlS p c.1)<;>cases inB (dwl c 0) 0 600<;>rfl
      · have a3:idx c.2.1 (w64 ((i:Int)-1))=some (zdu c.2.1 (i-1)):=by
          rw [ze (by omega) (by omega),show (i:Int)-1=((i-1:Nat):Int) by omega];exact zt 0 (by omega)
        simp only [zR hi,cond_true,a1,a2,a3,Zs,decide_eq_true (show (i:Int)>0 by omega),decide_eq_false h0,Bool.false_or,zB (show i<9223372036854775807 by omega)];cases inB (zdu c.2.1 i) 1 (wlS p c.1)<;>cases decide (zdu c.2.1 i<=zdu c.2.1 (i-1))<;>cases inB (dwl c i) 0 600<;>rfl) (by simp only [zS,cond_false])
  rw [h,Zs];cases hs:(List.range c.2.1.length).all (stB p c) with
  | false=>rfl
  | true=>
  simp only [if_true,zbP];obtain ⟨e,hR,he⟩:=zAs p l c hwl (by omega) hb;rw [hR,Zs];cases hl:zpm p l c with
  | none=>
    have he:=he hl;have:(e !=0)=true:=by simpa using he
    simp only [this,cond_true,Zs]
  | some ms=>
    have hrs:zh6 p l c=some ms:=by
      unfold zh6 zvp;rw [hw,hh,hs];exact hl
    obtain ⟨C,M⟩:=zor hrs (λ_=>hb);have hm:=M.n;have e1:(zr ms !=w64 (zr c.2.1-1))=false:=by
      rw [zu,zu,ze (by omega) (by omega),hm];have:((c.2.1.length-1:Nat):Int)=(c.2.1.length:Int)-1:=by omega
      rw [this]; exact bne_self_eq_false _
    simp only [show ((0:Int)!=0)=false from rfl,cond_false,Zs,e1];have em:mkO 8 (zr c.2.1) (0:Int)=some (List.replicate c.2.1.length 0):=by
      rw [zua (by rw [zu]; omega),zu,Int.toNat_natCast]
    simp only [em,Zs];have hL:=(zuG C M (c.2.1.length-1) 0 (by omega)).big (by simp only [big]; omega);have z1:List.replicate c.2.1.length (0:Int)=rlN c.2.1.length (λk=>if k<=0 then zfK ms c k else 0):=by
      rw [zpl];refine zf0 λk hk=>?_;by_cases e:k=0
      · subst e; rfl
      · rw [if_neg (by omega)]
    have z2:List.replicate c.2.1.length (0:Int)=rlN c.2.1.length (λk=>if k<=0 then zsX ms k else 0):=by
      rw [zpl];refine zf0 λk hk=>?_;by_cases e:k=0
      · subst e; rfl
      · rw [if_neg (by omega)]
    rw [← z1,← z2] at hL;rw [show ((0:Nat):Int)=0 from rfl] at hL;rw [hL,Zs];have e2:idx (zhh ms c) (w64 (zr c.2.1-1))=some (zfK ms c (c.2.1.length-1)):=by
      rw [zu,ze (by omega) (by omega),show (c.2.1.length:Int)-1=((c.2.1.length-1:Nat):Int) by omega];exact zgi (by omega)
    rw [e2,Zs]
end Go.Ai.Sx
/- Service: a line; its offsets,its round and its cars,in the program and in the reference. -/
namespace Go.Ai.Sx
open Option renaming bind->Zb,bind_some->Zs
def okC (p:Plan) (l:Line) (c:Course):Bool:=match zh6 p l c with | some ms=>decide (zfK ms c (c.2.1.length-1)<=50000) | none=>false
def zdO (p:Plan) (l:Line):Bool:=inB l.2.2.2.2.1 0 3600&&(okC p l l.1&&okC p l l.2.1)
def msC (p:Plan) (l:Line) (c:Course):List Int:=(zh6 p l c).getD []
def rnS (p:Plan) (l:Line):zn:=(l,[zw9 (msC p l l.1) l.1,zw9 (msC p l l.2.1) l.2.1],[zhh (msC p l l.1) l.1,zhh (msC p l l.2.1) l.2.1],())
structure zpo (p:Plan) (l:Line):Prop where
 w1:l.1.1.length<=9223372036854775807
 s1:l.1.2.1.length<=9223372036854775807
 w2:l.2.1.1.length<=9223372036854775807
 s2:l.2.1.2.1.length<=9223372036854775807
 b1:zaN p=true->zkf p l.1.1=true->wlS p l.1.1<=248000000
 b2:zaN p=true->zkf p l.2.1.1=true->wlS p l.2.1.1<=248000000
def zuH (p_0:Plan) (l_1:Line) (y10:List Course):(Int×(List Int)×(List Int)×(List Int)×(List Int))->Option ((Int×(List Int)×(List Int)×(List Int)×(List Int))⊕(((List Int)×(List Int)×(List Int)×(List Int))⊕((Option zn)×Bool×(List Int)×(List Int)×(List Int)×(List Int)))):=(λs39=>
cond (decide (s39.1<2)) (Zb (idx y10 s39.1) λx42=>
Zb (zbi p_0 l_1 x42) λy49=>
Zb (idx [(),()] s39.1) λx52=>
Zb (idx [(),()] s39.1) λx53=>
cond (!y49.2.2) (some (.inr (.inr ((none:Option zn),false,cond (s39.1==0) y49.1 s39.2.1,cond (s39.1==1) y49.1 s39.2.2.1,cond (s39.1==0) y49.2.1 s39.2.2.2.1,cond (s39.1==1) y49.2.1 s39.2.2.2.2)))) (some (.inl ((w64 (s39.1+1)),cond (s39.1==0) y49.1 s39.2.1,cond (s39.1==1) y49.1 s39.2.2.1,cond (s39.1==0) y49.2.1 s39.2.2.2.1,cond (s39.1==1) y49.2.1 s39.2.2.2.2)))) (some (.inr (.inl (s39.2.1,s39.2.2.1,s39.2.2.2.1,s39.2.2.2.2)))))
theorem zvr {p:Plan} {l:Line} {y:List Course} {c:Course} {i:Int} {r0 r1 o0 o1:List Int} (hi:i=0\/i=1) (hy:idx y i=some c) {r o:List Int} (hr:zbi p l c=some (r,o,false)):∃ T,zuH p l y (i,r0,r1,o0,o1)=some (.inr (.inr (none,false,T))):=by
 unfold zuH;rcases hi with rfl | rfl
 . simp only [show decide ((0:Int)<2)=true from rfl,cond_true,hy,hr,Zs];exact ⟨_,rfl⟩
 . simp only [show decide ((1:Int)<2)=true from rfl,cond_true,hy,hr,Zs];exact ⟨_,rfl⟩
theorem zuI {p:Plan} {l:Line} {r0 r1 o0 o1:List Int} {b0 b1:Bool} (h0:zbi p l l.1=some (r0,o0,b0)) (h1:zbi p l l.2.1=some (r1,o1,b1)):∃ T,iter (zuH p l [l.1,l.2.1]) big (0,[],[],[],[])=some (if (b0&&b1)=true then .inl (r0,r1,o0,o1) else .inr (none,false,T)):=by
 cases b0 with
 | false=>
  obtain ⟨T,hT⟩:=zvr (r0:=[]) (r1:=[]) (o0:=[]) (o1:=[]) (y:=[l.1,l.2.1]) (.inl rfl) rfl h0;exact ⟨T,(Lp.done (N:=0) hT).big (by simp only [big]; omega)⟩
 | true=>
  have s0:zuH p l [l.1,l.2.1] (0,[],[],[],[])=some (.inl (1,r0,[],o0,[])):=by
   unfold zuH;simp only [show decide ((0:Int)<2)=true from rfl,cond_true,show idx [l.1,l.2.1] (0:Int)=some l.1 from rfl,h0,Zs];rfl
  cases b1 with
  | false=>
   obtain ⟨T,hT⟩:=zvr (r0:=r0) (r1:=[]) (o0:=o0) (o1:=[]) (y:=[l.1,l.2.1]) (i:=1) (.inr rfl) rfl h1;exact ⟨T,(Lp.step s0 (Lp.done (N:=0) hT)).big (by simp only [big]; omega)⟩
  | true=>
   have s1:zuH p l [l.1,l.2.1] (1,r0,[],o0,[])=some (.inl (2,r0,r1,o0,o1)):=by
    unfold zuH;simp only [show decide ((1:Int)<2)=true from rfl,cond_true,show idx [l.1,l.2.1] (1:Int)=some l.2.1 from rfl,h1,Zs];rfl
   have s2:zuH p l [l.1,l.2.1] (2,r0,r1,o0,o1)=some (.inr (.inl (r0,r1,o0,o1))):=rfl;exact ⟨([],[],[],[]),(Lp.step s0 (Lp.step s1 (Lp.done (N:=0) s2))).big (by simp only [big]; omega)⟩
theorem zjc {p:Plan} {l:Line} (H:zpo p l):zbE p l=some (if (zaN p&&zdO p l)=true then (some (rnS p l),true) else (none,false)):=by
 unfold zbE;rw [zm9,Zs];cases hv:zaN p with
 | false=>rfl
 | true=>
 have hp:=zcy hv;simp only [if_true,show ((0:Int)!=0)=false from rfl,cond_false,zgL,Zs,Bool.true_and];unfold zdO;cases hy:inB l.2.2.2.2.1 0 3600 with
 | false=>rfl
 | true=>
 simp only [Bool.not_true,cond_false,Bool.true_and,show zby l=some [l.1,l.2.1] from rfl,Zs];have e0:=zsn hv hp (l:=l) H.w1 H.s1 (H.b1 hv);have e1:=zsn hv hp (l:=l) H.w2 H.s2 (H.b2 hv);have f0:zbi p l l.1=some ((match zh6 p l l.1 with | some ms=>zw9 ms l.1 | none=>[]),(match zh6 p l l.1 with | some ms=>zhh ms l.1 | none=>[]),okC p l l.1):=by
  rw [e0]; unfold okC;cases zh6 p l l.1<;>rfl
 have f1:zbi p l l.2.1=some ((match zh6 p l l.2.1 with | some ms=>zw9 ms l.2.1 | none=>[]),(match zh6 p l l.2.1 with | some ms=>zhh ms l.2.1 | none=>[]),okC p l l.2.1):=by
  rw [e1]; unfold okC;cases zh6 p l l.2.1<;>rfl
 obtain ⟨T,hT⟩:=zuI f0 f1;unfold zuH at hT;rw [hT,Zs];cases h0:okC p l l.1 with
 | false=>rfl
 | true=>
 cases h1:okC p l l.2.1 with
 | false=>rfl
 | true=>
 simp only [Bool.and_self,if_true,zbP];unfold rnS msC;have g0:∃ ms,zh6 p l l.1=some ms:=by
  unfold okC at h0;cases hc:zh6 p l l.1 with
  | none=>rw [hc] at h0; cases h0
  | some ms=>exact ⟨ms,rfl⟩
 have g1:∃ ms,zh6 p l l.2.1=some ms:=by
  unfold okC at h1;cases hc:zh6 p l l.2.1 with
  | none=>rw [hc] at h1; cases h1
  | some ms=>exact ⟨ms,rfl⟩
 obtain ⟨m0,g0⟩:=g0;obtain ⟨m1,g1⟩:=g1;rw [g0,g1];rfl
def zct (p:Plan) (l:Line) (c:Course):Int:=zfK (msC p l c) c (c.2.1.length-1)
def zkh (p:Plan) (l:Line):Int:=zct p l l.1+zct p l l.2.1+2*l.2.2.2.2.1
structure zqi (p:Plan) (l:Line) (c:Course):Prop where
 e:zh6 p l c=some (msC p l c)
 C:zsm p c
 M:zzp c (msC p l c)
 l1:1<=zct p l c
 l2:zct p l c<=50000
structure zqj (p:Plan) (l:Line):Prop where
 y:0<=l.2.2.2.2.1/\l.2.2.2.2.1<=3600
 o:zqi p l l.1
 h:zqi p l l.2.1
theorem zxa {p:Plan} {l:Line} {c:Course} (h:okC p l c=true) (hb:zkf p c.1=true->wlS p c.1<=248000000):zqi p l c:=by
 unfold okC at h;cases hc:zh6 p l c with
 | none=>rw [hc] at h; cases h
 | some ms=>
  rw [hc] at h;simp only [decide_eq_true_eq] at h;obtain ⟨C,M⟩:=zor hc hb;have hm:msC p l c=ms:=by unfold msC; rw [hc]; rfl
  have hn:=C.n;have h1:=zyI C M (i:=0) (j:=c.2.1.length-1) (by omega) (by omega);simp only [zfK] at h1;exact ⟨by rw [hm]; exact hc,C,by rw [hm]; exact M,by unfold zct; rw [hm]; omega,by unfold zct; rw [hm]; omega⟩
theorem zuJ {p:Plan} {l:Line} (H:zpo p l) (hv:zaN p=true) (h:zdO p l=true):zqj p l:=by
 unfold zdO at h;simp only [Bool.and_eq_true] at h;exact ⟨zau.1 h.1,zxa h.2.1 (H.b1 hv),zxa h.2.2 (H.b2 hv)⟩
theorem zpp (ms:List Int) (c:Course):(zhh ms c).length=c.2.1.length:=zgh _ _
theorem zhZ {p:Plan} {l:Line} {c:Course} (h:zqi p l c):idx (zhh (msC p l c) c) (w64 (zr (zhh (msC p l c) c)-1))=some (zct p l c):=by
 have hn:=h.C.n;rw [zu,zpp,ze (by omega) (by omega),show (c.2.1.length:Int)-1=((c.2.1.length-1:Nat):Int) by omega];exact zgi (by omega)
section
variable {p:Plan} {l:Line} (K:zqj p l)
include K
theorem zj7 (s:Bool):zz (rnS p l) (cond s 1 0)=some (cond s (zct p l l.2.1) (zct p l l.1)):=by
 unfold zz;cases s with
 | false=>
  simp only [cond_false];rw [show idx (rnS p l).2.2.1 (0:Int)=some (zhh (msC p l l.1) l.1) from rfl];simp only [Zs,zhZ K.o]
 | true=>
  simp only [cond_true];rw [show idx (rnS p l).2.2.1 (1:Int)=some (zhh (msC p l l.2.1) l.2.1) from rfl];simp only [Zs,zhZ K.h]
theorem znq:2<=zkh p l/\zkh p l<=107200:=by
 have h1:=K.o.l1;have h2:=K.o.l2;have h3:=K.h.l1;have h4:=K.h.l2;have h5:=K.y;unfold zkh;omega
theorem zmc:za2 (rnS p l)=some (zkh p l):=by
 have h1:=K.o.l1;have h2:=K.o.l2;have h3:=K.h.l1;have h4:=K.h.l2;have h5:=K.y;unfold za2;rw [show zz (rnS p l) 0=_ from zj7 K false,show zz (rnS p l) 1=_ from zj7 K true];simp only [Zs,cond_true,cond_false];show some (w64 (w64 (zct p l l.1+zct p l l.2.1)+w64 (2*l.2.2.2.2.1)))=_;rw [ze (n:=zct p l l.1+_) (by omega) (by omega),ze (n:=2*_) (by omega) (by omega),ze (by omega) (by omega)];rfl
def zh0 (p:Plan) (l:Line) (h:Int):Int:=(zkh p l+h-1)/h
theorem zjd {h:Int} (hh:1<=h/\h<=1000000000000):zaO (rnS p l) h=some (zh0 p l h):=by
 have:=znq K;unfold zaO;rw [zmc K,Zs,ze (n:=zkh p l+h) (by omega) (by omega),ze (by omega) (by omega),zbQ ⟨by omega,by omega⟩ (by omega)];rfl
theorem znr {h:Int} (hh:1<=h):1<=zh0 p l h/\zh0 p l h<=107200/\(zh0 p l h-1)*h<zkh p l/\zkh p l<=zh0 p l h*h/\zh0 p l h*h<=zkh p l+h-1:=by
 have hb:=znq K;obtain ⟨h1,h2⟩:=zw8 (r:=zkh p l) (show 0<h by omega);have h3:zh0 p l h*h<=zkh p l+h-1:=Int.ediv_mul_le _ (by omega);have h4:1<=zh0 p l h:=by
  unfold zh0;rw [Int.le_ediv_iff_mul_le (by omega)];omega
 have h5:zh0 p l h<=zkh p l:=by
  have:(zh0 p l h-1)*1<=(zh0 p l h-1)*h:=Int.mul_le_mul_of_nonneg_left (by omega) (by omega);have h6:(zh0 p l h-1)*h<zkh p l:=h1;omega
 exact ⟨h4,by omega,h1,h2,h3⟩
end
end Go.Ai.Sx
/- Service: the reference's lines; small plans. -/
namespace Go.Ai.Sx
open Option renaming bind->Zb,bind_some->Zs
def zcW (l:Line) (home:Bool):Course:=cond home l.2.1 l.1
structure CIn (p:Plan) (c:Course):Prop where
 w:c.1.length<=9223372036854775807
 s:c.2.1.length<=9223372036854775807
 b:zkf p c.1=true->wlS p c.1<=248000000
theorem zpo.c {p:Plan} {l:Line} (H:zpo p l) (hv:zaN p=true) (home:Bool):CIn p (zcW l home):=by
 cases home
 . exact ⟨H.w1,H.s1,H.b1 hv⟩
 . exact ⟨H.w2,H.s2,H.b2 hv⟩
theorem zg7 (l:Line) (home:Bool):zdE l home=some (zcW l home):=by cases home<;>rfl
section
variable {p:Plan} {l:Line} {home:Bool} (hp:zh4 p) (I:CIn p (zcW l home))
include hp I
theorem zpq:zcM p l home=some (match zh6 p l (zcW l home) with | some ms=>(ms.map zh5,true) | none=>([],false)):=by
  unfold zcM;rw [zg7,Zs];have hwl:=I.w;have hsl:=I.s;have hb:=I.b;generalize zcW l home=c at *
  rw [zrZ hp hwl,Zs];unfold zh6 zvp;cases hw:zkf p c.1 with
  | false=>rfl
  | true=>
  have hb:=hb hw;have hwo:=zgJ hw;simp only [Bool.not_true,cond_false,zzo,Zs];have hhd:zno c=true->(2<=c.2.1.length/\c.2.1.length<=60)/\c.2.2.1.length=c.2.1.length:=λh=>⟨(zjb h).1,(zjb h).2.1⟩;rw [zsl c _ (λh1 h2 h3=>by rw [zu,ze (by omega) (by omega)]; omega),Zs];cases hh:zno c with
  | false=>rfl
  | true=>
  obtain ⟨hn,hd⟩:=hhd hh;simp only [Bool.not_true,cond_false,Bool.true_and,zvi hp hwo,Zs];have h:=zdf (f:=λs56:Int=>
cond (decide (s56<(zr c.2.1))) (Zb (idx c.2.1 s56) λx79=>
cond (!(inB x79 1 (wlS p c.1))) (some (.inr (.inr ([],false)))) (Zb (idx c.2.2.1 s56) λx84=>
cond (!(inB x84 0 600)) (some (.inr (.inr ([],false)))) (cond (decide (s56>0)) (Zb (idx c.2.1 s56) λx89=>
Zb (idx c.2.1 (w64 (s56-1))) λx90=>
cond (decide (x89<=x90)) (some (.inr (.inr ([],false)))) (some (.inl (w64 (s56+1))))) (some (.inl (w64 (s56+1))))))) (some (.inr (.inl ():Unit⊕(List Int×Bool))))) (λk=>(k:Int)) c.2.1.length (stB p c) (.inr ([],false)) (.inl ()) (s0:=0) rfl (by simp only [big]; omega) (λi hi=>by
      have a1:idx c.2.1 (i:Int)=some (zdu c.2.1 i):=zt 0 hi;have a2:idx c.2.2.1 (i:Int)=some (dwl c i):=zt 0 (by omega);unfold stB;by_cases h0:i=0
      · subst h0;simp only [zR hi,cond_true,a1,a2,Zs,decide_eq_false (show ¬ (((0:Nat):Int)>0) by omega),cond_false,decide_eq_true (show (0:Nat)=0 from rfl),Bool.true_or,Bool.and_true,zB (show 0<9223372036854775807 by omega)];cases inB (zdu c.2.1 0) 1 (wlS p c.1)<;>cases inB (dwl c 0) 0 600<;>rfl
      · have a3:idx c.2.1 (w64 ((i:Int)-1))=some (zdu c.2.1 (i-1)):=by
          rw [ze (by omega) (by omega),show (i:Int)-1=((i-1:Nat):Int) by omega];exact zt 0 (by omega)
        simp only [zR hi,cond_true,a1,a2,a3,Zs,decide_eq_true (show (i:Int)>0 by omega),decide_eq_false h0,Bool.false_or,zB (show i<9223372036854775807 by omega)];cases inB (zdu c.2.1 i) 1 (wlS p c.1)<;>cases decide (zdu c.2.1 i<=zdu c.2.1 (i-1))<;>cases inB (dwl c i) 0 600<;>rfl) (by simp only [zS,cond_false])
  rw [h,Zs];cases hs:(List.range c.2.1.length).all (stB p c) with
  | false=>rfl
  | true=>
  simp only [if_true,zbP,zAa p l c hwl (by omega) hb,Zs];cases hl:zpm p l c with
  | none=>rfl
  | some ms=>
    obtain ⟨m1,m2⟩:=zvq hl hb;simp only [Bool.not_true,cond_false];have hL:=zcH (f:=λs105:List Int×Int=>
cond (decide (s105.2<(zr ms))) (Zb (idx ms s105.2) λx108=>
Zb (zcr .i64 (w64 (x108+999)) 1000) λx109=>
Zb (zcY 8 s105.1 ([(max 1 x109)])) λx110=>
some (.inl (x110,(w64 (s105.2+1))))) (some (.inr s105.1))) ms (λi b=>(b,(i:Int))) (λ_ b c=>(.inl (b++[zh5 c]):List Int⊕List Int)) (λb=>b) (λi b=>b.length=i) [] (s0:=([],0)) rfl (by omega) rfl (λi h b hb=>by
        refine ⟨?_,λb' hb'=>?_⟩
        · have hm:=m2 _ (List.getElem_mem h);have a2:zcr .i64 (w64 (ms[i]+999)) 1000=some ((ms[i]+999)/1000):=by
            rw [ze (by omega) (by omega),zbQ ⟨by omega,by omega⟩ (by omega)]
          simp only [];rw [zR h,cond_true,zev,List.getElem?_eq_getElem h,Zs,a2,Zs,zaT (by simp; omega),Zs,zB (by omega)];rfl
        · cases hb'; simp; omega) (λb _=>by simp only [zS,cond_false])
    rw [hL,zfa,Zs];have:∀ (l:List Int) (b:List Int),l.foldl (λb c=>b++[zh5 c]) b=b++l.map zh5:=by
      intro l;induction l with
      | nil=>intro b; simp
      | cons a l ih=>intro b; rw [List.foldl_cons,ih]; simp
    rw [this]; rfl
theorem zpr:zeM p l home=some ((msC p l (zcW l home)).map zh5):=by
 unfold zeM msC;rw [zpq hp I,Zs];cases zh6 p l (zcW l home)<;>rfl
theorem zhx (K:zqi p l (zcW l home)):zaa p l home=some (zhh (msC p l (zcW l home)) (zcW l home)):=by
  unfold zaa;rw [zg7,Zs,zpr hp I,Zs];generalize zcW l home=c at *
  have hn:=K.C.n;have hm:=K.M.n;have hd:=K.C.d;have key:∀ k i:Nat,i+k=(msC p l c).length->Lp (λs17:List Int×Int=>
cond (decide (s17.2<(zr ((msC p l c).map zh5)))) (Zb (idx s17.1 s17.2) λx25=>
Zb (idx ((msC p l c).map zh5) s17.2) λx26=>
Zb (idx c.2.2.1 (w64 (s17.2+1))) λx27=>
Zb (zcY 8 s17.1 ([(w64 ((w64 (x25+x26))+x27))])) λx28=>
some (.inl (x28,(w64 (s17.2+1))))) (some (.inr s17.1))) k (rlN (i+1) (zfK (msC p l c) c),(i:Int)) (zhh (msC p l c) c):=by
    intro k;induction k with
    | zero=>
      intro i hi;refine Lp.done ?_;have:(i:Int)=(((msC p l c).map zh5).length:Nat):=by rw [List.length_map]; omega
      simp only [this,zS,cond_false];unfold zhh;rw [show i+1=c.2.1.length by omega]
    | succ k ih=>
      intro i hi;refine Lp.step ?_ (ih (i+1) (by omega));have hil:i<((msC p l c).map zh5).length:=by rw [List.length_map]; omega
      have a1:idx (rlN (i+1) (zfK (msC p l c) c)) (i:Int)=some (zfK (msC p l c) c i):=zgi (by omega);have a2:idx ((msC p l c).map zh5) (i:Int)=some (zh5 ((msC p l c).getD i 0)):=by
        have h2:i<(msC p l c).length:=by omega
        rw [zev,List.getElem?_map,List.getElem?_eq_getElem h2,show (msC p l c).getD i 0=(msC p l c)[i] by simp [List.getD,h2]];rfl
      have a3:idx c.2.2.1 ((i+1:Nat):Int)=some (dwl c (i+1)):=zt (l:=c.2.2.1) (i:=i+1) 0 (by omega);have b1:=zpn K.C K.M (k:=i) (by omega);have b2:=znp (K.M.b i);have b3:=K.C.dw (i+1) (by omega);have a4:zcY 8 (rlN (i+1) (zfK (msC p l c) c)) [w64 (w64 (zfK (msC p l c) c i+zh5 ((msC p l c).getD i 0))+dwl c (i+1))]=some (rlN (i+1+1) (zfK (msC p l c) c)):=by
        rw [zaT (by rw [zgh]; simp; omega),zma (i+1),ze (n:=zfK (msC p l c) c i+_) (by omega) (by omega),ze (by omega) (by omega)];rfl
      simp only [zR hil,cond_true,a1,a2,Zs,zB (show i<9223372036854775807 by omega),a3,a4]
  have hL:=(key (msC p l c).length 0 (by omega)).big (by simp only [big]; omega);have h0:rlN (0+1) (zfK (msC p l c) c)=[0]:=rfl;rw [h0,show ((0:Nat):Int)=0 from rfl] at hL;rw [hL]; rfl
theorem zj8 (K:zqi p l (zcW l home)):za9 p l home=some (zct p l (zcW l home)):=by
 unfold za9;rw [zhx hp I K];simp only [Zs,zhZ K]
end
section
variable {p:Plan} {l:Line} (hv:zaN p=true) (H:zpo p l)
include hv H
theorem zuK:zdX p l=some (zdO p l):=by
  have hp:=zcy hv;have key:∀ home:Bool,∀ s:Int,s=cond home 1 0->(Zb (zcM p l (s==1)) λy14=>
cond (!y14.2) (some (.inr (.inr false))) (Zb (zaa p l (s==1)) λy17=>
Zb (idx y17 (w64 ((zr y17)-1))) λx19=>
cond (decide (x19>50000)) (some (.inr (.inr false))) (some (.inl (w64 (s+1))))))=some (if okC p l (zcW l home) then (.inl (w64 (s+1)):Int⊕(Unit⊕Bool)) else .inr (.inr false)):=by
    intro home s hs;have he:(s==1)=home:=by subst hs; cases home<;>rfl
    rw [he,zpq hp (H.c hv home),Zs];cases hc:zh6 p l (zcW l home) with
    | none=>
      have:okC p l (zcW l home)=false:=by unfold okC; rw [hc]
      rw [this]; rfl
    | some ms=>
      obtain ⟨C,M⟩:=zor hc (H.c hv home).b;have hm:msC p l (zcW l home)=ms:=by unfold msC; rw [hc]; rfl
      simp only [Bool.not_true,cond_false];cases hok:okC p l (zcW l home) with
      | true=>
        have K:=zxa hok (H.c hv home).b;rw [zhx hp (H.c hv home) K,Zs,zhZ K,Zs,decide_eq_false (by have:=K.l2; omega),cond_false,if_pos rfl]
      | false=>
        have h2:¬ zfK ms (zcW l home) ((zcW l home).2.1.length-1)<=50000:=by
          unfold okC at hok;rw [hc] at hok;simpa using hok
        have hof:zaa p l home=some (zhh ms (zcW l home)):=by
          unfold zaa;rw [zg7,Zs,zpr hp (H.c hv home),Zs,hm];generalize zcW l home=c at *
          have hn:=C.n;have hml:=M.n;have hd:=C.d;have key:∀ k i:Nat,i+k=ms.length->Lp (λs17:List Int×Int=>
cond (decide (s17.2<(zr (ms.map zh5)))) (Zb (idx s17.1 s17.2) λx25=>
Zb (idx (ms.map zh5) s17.2) λx26=>
Zb (idx c.2.2.1 (w64 (s17.2+1))) λx27=>
Zb (zcY 8 s17.1 ([(w64 ((w64 (x25+x26))+x27))])) λx28=>
some (.inl (x28,(w64 (s17.2+1))))) (some (.inr s17.1))) k (rlN (i+1) (zfK ms c),(i:Int)) (zhh ms c):=by
            intro k;induction k with
            | zero=>
              intro i hi;refine Lp.done ?_;have:(i:Int)=((ms.map zh5).length:Nat):=by rw [List.length_map]; omega
              simp only [this,zS,cond_false];unfold zhh;rw [show i+1=c.2.1.length by omega]
            | succ k ih=>
              intro i hi;refine Lp.step ?_ (ih (i+1) (by omega));have hil:i<(ms.map zh5).length:=by rw [List.length_map]; omega
              have a1:idx (rlN (i+1) (zfK ms c)) (i:Int)=some (zfK ms c i):=zgi (by omega);have a2:idx (ms.map zh5) (i:Int)=some (zh5 (ms.getD i 0)):=by
                have h2:i<ms.length:=by omega
                rw [zev,List.getElem?_map,List.getElem?_eq_getElem h2,show ms.getD i 0=ms[i] by simp [List.getD,h2]];rfl
              have a3:idx c.2.2.1 ((i+1:Nat):Int)=some (dwl c (i+1)):=zt (l:=c.2.2.1) (i:=i+1) 0 (by omega);have b1:=zpn C M (k:=i) (by omega);have b2:=znp (M.b i);have b3:=C.dw (i+1) (by omega);have a4:zcY 8 (rlN (i+1) (zfK ms c)) [w64 (w64 (zfK ms c i+zh5 (ms.getD i 0))+dwl c (i+1))]=some (rlN (i+1+1) (zfK ms c)):=by
                rw [zaT (by rw [zgh]; simp; omega),zma (i+1),ze (n:=zfK ms c i+_) (by omega) (by omega),ze (by omega) (by omega)];rfl
              simp only [zR hil,cond_true,a1,a2,Zs,zB (show i<9223372036854775807 by omega),a3,a4]
          have hL:=(key ms.length 0 (by omega)).big (by simp only [big]; omega);have h0:rlN (0+1) (zfK ms c)=[0]:=rfl;rw [h0,show ((0:Nat):Int)=0 from rfl] at hL;rw [hL]; rfl
        have hn:=C.n;have hla:idx (zhh ms (zcW l home)) (w64 (zr (zhh ms (zcW l home))-1))=some (zfK ms (zcW l home) ((zcW l home).2.1.length-1)):=by
          rw [zu,zpp,ze (by omega) (by omega),show ((zcW l home).2.1.length:Int)-1=(((zcW l home).2.1.length-1:Nat):Int) by omega];exact zgi (by omega)
        rw [hof,Zs,hla,Zs,decide_eq_true (by omega),cond_true];rfl
  unfold zdX;rw [zzo,Zs];unfold zdO;cases inB l.2.2.2.2.1 0 3600 with
  | false=>rfl
  | true=>
  simp only [Bool.not_true,cond_false,Bool.true_and];have k0:=key false 0 rfl;have k1:=key true 1 rfl;have h:=zdf (f:=λs11:Int=>
cond (decide (s11<2)) (Zb (zcM p l (s11==1)) λy14=>
cond (!y14.2) (some (.inr (.inr false))) (Zb (zaa p l (s11==1)) λy17=>
Zb (idx y17 (w64 ((zr y17)-1))) λx19=>
cond (decide (x19>50000)) (some (.inr (.inr false))) (some (.inl (w64 (s11+1)))))) (some (.inr (.inl ():Unit⊕Bool)))) (λk=>(k:Int)) 2 (λk=>okC p l (zcW l (k==1))) (.inr false) (.inl ()) (s0:=0) rfl (by simp only [big]; omega) (λi hi=>by
      match i,hi with
      | 0,_=>exact k0
      | 1,_=>exact k1) rfl
  rw [h,Zs];show alt _ _ (if (List.range 2).all (λk=>okC p l (zcW l (k==1)))=true then _ else _)=_;have e:(List.range 2).all (λk=>okC p l (zcW l (k==1)))=(okC p l l.1&&okC p l l.2.1):=by
    show (okC p l l.1&&(okC p l l.2.1&&true))=_;rw [Bool.and_true]
  rw [e];cases (okC p l l.1&&okC p l l.2.1)<;>rfl
theorem zns (K:zqj p l):zdq p l=some (zkh p l):=by
 have hp:=zcy hv;have h1:=K.o.l1;have h2:=K.o.l2;have h3:=K.h.l1;have h4:=K.h.l2;have h5:=K.y;unfold zdq;rw [zj8 hp (H.c hv false) K.o,zj8 hp (H.c hv true) K.h];simp only [Zs];show some (w64 (w64 (zct p l l.1+zct p l l.2.1)+w64 (2*l.2.2.2.2.1)))=_;rw [ze (n:=zct p l l.1+_) (by omega) (by omega),ze (n:=2*_) (by omega) (by omega),ze (by omega) (by omega)];rfl
end
end Go.Ai.Sx
/- Service: what the program says of a line; small plans. -/
namespace Go.Ai.Sx
open Option renaming bind->Zb,bind_some->Zs
theorem zxb (home:Bool):zdD home=some (cond home 1 0):=by cases home<;>rfl
section
variable {p:Plan} {l:Line} (H:zpo p l)
include H
theorem zuL (home:Bool):za1 p l home=some (if (zaN p&&zdO p l)=true then (zhh (msC p l (zcW l home)) (zcW l home),0) else ([],2)):=by
 unfold za1;rw [zjc H,Zs,zxb];cases (zaN p&&zdO p l) with
 | false=>rfl
 | true=>cases home<;>rfl
theorem zyJ:zcC p l=some (if (zaN p&&zdO p l)=true then (zkh p l,0) else (0,2)):=by
 unfold zcC;rw [zjc H,Zs];cases hv:zaN p with
 | false=>rfl
 | true=>
 cases hl:zdO p l with
 | false=>rfl
 | true=>
  have K:=zuJ H hv hl;simp only [Bool.and_self,if_true,Bool.not_true,cond_false,Zs,zmc K]
theorem zAb (h:Int):zbF p l h=some (if (zaN p&&zdO p l&&inB h 30 7200)=true then (zh0 p l h,0) else (0,2)):=by
 unfold zbF;rw [zjc H,Zs];cases hv:zaN p with
 | false=>rfl
 | true=>
 cases hl:zdO p l with
 | false=>rfl
 | true=>
  have K:=zuJ H hv hl;simp only [Bool.and_self,if_true,Bool.not_true,cond_false,zgL,Zs,Bool.true_and];cases hi:inB h 30 7200 with
  | false=>rfl
  | true=>
   have hi:=zau.1 hi;simp only [Bool.not_true,cond_false,zjd K (show 1<=h/\h<=1000000000000 by omega),Zs,if_true]
end
theorem zso {f:Nat->Int}:∀ (k a:Nat),(∀ i,a<=i->i<a+k->0<=f i)->∀ i,a<=i->i<a+k->f i<=zh3 f a k
 | 0,a,_,i,h1,h2=>by omega
 | k+1,a,h,i,h1,h2=>by
  show f i<=f a+zh3 f (a+1) k;by_cases e:i=a
  . subst e;have h3:=(sumR_nn k (i+1) λj h4 h5=>h j (by omega) (by omega));omega
  . have:=zso k (a+1) (λj h4 h5=>h j (by omega) (by omega)) i (by omega) (by omega);have:=h a (by omega) (by omega);omega
where sumR_nn {f:Nat->Int}:∀ (k a:Nat),(∀ i,a<=i->i<a+k->0<=f i)->0<=zh3 f a k
 | 0,a,_=>by simp [zh3]
 | k+1,a,h=>by
  show 0<=f a+zh3 f (a+1) k;have h1:=h a (by omega) (by omega);have h2:=sumR_nn k (a+1) λj h4 h5=>h j (by omega) (by omega);omega
structure zAc (p:Plan):Prop where
 n:p.1.length<=12
 r:p.2.1.length<=12
 l:zaN p=true->∀ i:Nat,i<p.2.1.length->zhf p i<=200000
theorem zps {A:Type} {xs:List A} (hl:xs.length<=12) (g:A->Bool):∃ r,iter (σ:=(Int)) (τ:=Unit⊕(Bool)) (λs8=>
cond (decide (s8<(zr xs))) (Zb (idx xs s8) λx11=>
cond (g x11) (some (.inr (.inr false))) (some (.inl (w64 (s8+1))))) (some (.inr (.inl ())))) big 0=some r/\(r=.inl ()\/r=.inr false):=by
 have hT:Tot (λr:Unit⊕Bool=>r=.inl ()\/r=.inr false) (iter (σ:=(Int)) (τ:=Unit⊕(Bool)) (λs8=>
cond (decide (s8<(zr xs))) (Zb (idx xs s8) λx11=>
cond (g x11) (some (.inr (.inr false))) (some (.inl (w64 (s8+1))))) (some (.inr (.inl ())))) big 0):=by
  refine Tot.iter (λs=>∃ k:Nat,s=(k:Int)/\k<=xs.length) _ (λs=>xs.length-s.toNat) ⟨0,rfl,by omega⟩ (by simp only [big]; omega) ?_
  rintro s ⟨k,rfl,hk⟩
  by_cases h:k<xs.length
  . rw [zR h,cond_true,zev,List.getElem?_eq_getElem h,Zs,zB (by omega)];cases g xs[k] with
    | true=>exact Tot.some (.inr rfl)
    | false=>exact Tot.some ⟨⟨k+1,rfl,by omega⟩,by simp only [Int.toNat_natCast]; omega⟩
  . rw [decide_eq_false (by rw [zu]; omega),cond_false];exact Tot.some (.inl rfl)
 exact hT
theorem zsp (p:Plan):∃ b,zd7 p=some b/\(b=true->zAc p):=by
  unfold zd7;by_cases h1:zr p.1>12
  · rw [decide_eq_true h1]; exact ⟨false,rfl,λh=>by cases h⟩
  by_cases h2:zr p.2.1>12
  · rw [decide_eq_false h1,decide_eq_true h2]; exact ⟨false,rfl,λh=>by cases h⟩
  rw [decide_eq_false h1,decide_eq_false h2];rw [zu] at h1 h2;simp only [cond_false,Zs];obtain ⟨r1,e1,q1⟩:=zps (xs:=p.1) (by omega) (λx11=>decide ((zr x11.2.2.1)>6));obtain ⟨r2,e2,q2⟩:=zps (xs:=p.2.1) (by omega) (λx11=>decide ((zr x11.2.2.1)>10));rw [e1,Zs];rcases q1 with rfl | rfl;rotate_left
  · exact ⟨false,rfl,λh=>by cases h⟩
  rw [zbP,e2,Zs];rcases q2 with rfl | rfl;rotate_left
  · exact ⟨false,rfl,λh=>by cases h⟩
  rw [zbP,zj1,Zs];cases hv:zaN p with
  | false=>exact ⟨true,rfl,λ_=>⟨by omega,by omega,λh=>by rw [hv] at h; cases h⟩⟩
  | true=>
  have hp:=zcy hv;rw [cond_true];have hlen:∀ i:Nat,i<p.2.1.length->1<=zhf p i/\zhf p i<=31000000:=λi hi=>zj4 hp ⟨by omega,by omega⟩;have key:∀ (k i:Nat) (s:Int),i+k=p.2.1.length->0<=s/\s<=31000000*i->Lp (λs33:Int×Int=>
cond (decide (s33.2<(zr p.2.1))) (Zb (zaI p s33.2) λy36=>
some (.inl ((w64 (s33.1+y36)),(w64 (s33.2+1))))) (some (.inr s33.1))) k (s,(i:Int)) (s+zh3 (λi=>zhf p i) i k):=by
    intro k;induction k with
    | zero=>
      intro i s hi hs;have:i=p.2.1.length:=by omega
      subst this;refine Lp.done ?_;simp only [zS,cond_false,zh3];rw [Int.add_zero]
    | succ k ih=>
      intro i s hi hs;have hil:i<p.2.1.length:=by omega
      have hl:=hlen i hil;have hr:=ih (i+1) (s+zhf p i) (by omega) (by omega);rw [Int.add_assoc] at hr;refine Lp.step ?_ hr;simp only [zR hil,cond_true,ziv hp (show 0<=(i:Int)/\(i:Int)<p.2.1.length by omega),Zs];rw [ze (n:=s+_) (by omega) (by omega),zB (by omega)]
  have hL:=(key p.2.1.length 0 0 (by omega) (by omega)).big (by simp only [big]; omega);rw [show ((0:Nat):Int)=0 from rfl] at hL;rw [hL,Zs];refine ⟨_,rfl,λh=>⟨by omega,by omega,λ_ i hi=>?_⟩⟩;have h:=of_decide_eq_true h;have:=zso (f:=λi=>zhf p i) p.2.1.length 0 (λj _ h5=>by have:=hlen j (by omega); omega) i (by omega) (by omega);omega
theorem zj9 {A:Prop} [Decidable A] {x:Option Bool} {Q:Prop} (h:∃ b,x=some b/\(b=true->Q)):∃ b,cond (decide A) x (some false)=some b/\(b=true->A/\Q):=by
 by_cases hA:A
 . rw [decide_eq_true hA];obtain ⟨b,h1,h2⟩:=h;exact ⟨b,h1,λhb=>⟨hA,h2 hb⟩⟩
 . rw [decide_eq_false hA];exact ⟨false,rfl,λh=>by cases h⟩
structure zyK (l:Line):Prop where
 w1:l.1.1.length<=12
 w2:l.2.1.1.length<=12
 s1:l.1.2.1.length<=6
 s2:l.2.1.2.1.length<=6
theorem zsq (l:Line):∃ b,zcQ l=some b/\(b=true->zyK l):=by
 unfold zcQ;have h0:∃ b,(some (decide (l.2.2.1.1<=4000)):Option Bool)=some b/\(b=true->True):=⟨_,rfl,λ_=>trivial⟩;obtain ⟨b,h1,h2⟩:=zj9 (A:=zr l.1.1<=12) (zj9 (A:=zr l.2.1.1<=12) (zj9 (A:=zr l.1.2.1<=6) (zj9 (A:=zr l.2.1.2.1<=6) (zj9 (A:=zr l.1.2.2.1<=8) (zj9 (A:=zr l.2.1.2.2.1<=8) (zj9 (A:=zr l.2.2.1.2.2.2.2.2.2.2.2.2.1<=10) (zj9 (A:=l.2.2.1.2.2.2.2.1>=200) (zj9 (A:=l.2.2.1.2.2.2.1>=200) h0))))))));refine ⟨b, ?_,λhb=>?_⟩
 . rw [h1]; rfl
 . obtain ⟨a,b,c,d,_⟩:=h2 hb;rw [zu] at a b c d;exact ⟨by omega,by omega,by omega,by omega⟩
theorem zAd {p:Plan} {l:Line} (S:zAc p) (h:zyK l):zpo p l:=by
 have hb:∀ way:List zL,way.length<=12->zaN p=true->zkf p way=true->wlS p way<=248000000:=by
  intro way hn hv hw;have W:=zgJ hw;have hp:=zcy hv;have:=(zis (f:=λi=>zhf p (way.getD i M0).1) (B:=200000) way.length 0 λi _ hi=>by
   have hm:=W.m i (by omega);have h1:=S.l hv (way.getD i M0).1.toNat (by omega);rw [Int.toNat_of_nonneg hm.1] at h1;have h2:=zj4 hp hm;omega).2
  have e:wlS p way=zh3 (λi=>zhf p (way.getD i M0).1) 0 way.length:=rfl;rw [e];omega
 have a:=h.w1;have b:=h.w2;have c:=h.s1;have d:=h.s2;exact ⟨by omega,by omega,by omega,by omega,hb _ a,hb _ b⟩
end Go.Ai.Sx
/- Service: services,in the program and in the reference. -/
namespace Go.Ai.Sx
open Option renaming bind->Zb,bind_some->Zs
def hd0 (s:Service) (i:Nat):Int:=s.2.1.getD i 0
def of0 (s:Service) (i:Nat):Int:=s.2.2.1.getD i 0
def L0:Line:=(([],[],[],()),([],[],[],()),(0,0,0,0,0,0,0,0,0,[],()),0,0,())
def ln0 (s:Service) (i:Nat):Line:=s.1.getD i L0
def hoB (s:Service) (i:Nat):Bool:=inB (hd0 s i) 30 7200&&inB (of0 s i) 0 (hd0 s i-1)
def zqb (p:Plan) (s:Service):Bool:=zaN p&&(inB (zr s.1) 1 20&&(decide (s.2.1.length=s.1.length)&&(decide (s.2.2.1.length=s.1.length)&&((List.range s.1.length).all λi=>zdO p (ln0 s i)&&hoB s i))))
structure zqk (p:Plan) (s:Service):Prop where
 n:s.1.length<=9223372036854775807
 h:s.2.1.length<=9223372036854775807
 l:∀ i,i<s.1.length->zpo p (ln0 s i)
theorem zuM {p:Plan} {ls:List Line} (hI:∀ i,i<ls.length->zpo p (ls.getD i L0)):zdd p ls=some (if (inB (zr ls) 1 20&&(List.range ls.length).all λi=>zaN p&&zdO p (ls.getD i L0))=true then (ls.map (rnS p),true) else ([],false)):=by
  unfold zdd;rw [zgL,Zs];cases hi:inB (zr ls) 1 20 with
  | false=>rfl
  | true=>
  have hi:=zau.1 hi;rw [zu] at hi;simp only [Bool.not_true,cond_false,Bool.true_and];have key:∀ k i:Nat,i+k=ls.length->Lp (λs10:List zn×Int=>
cond (decide (s10.2<(zr ls))) (Zb (idx ls s10.2) λx13=>
Zb (zbE p x13) λy15=>
cond (!y15.2) (some (.inr (.inr ([],false)))) (Zb (y15.1) λp16=>
Zb (zcY 8 s10.1 ([p16])) λx17=>
some (.inl (x17,(w64 (s10.2+1)))))) (some (.inr (.inl s10.1:List zn⊕(List zn×Bool))))) k ((ls.take i).map (rnS p),(i:Int)) (if ((List.range' i k).all λi=>zaN p&&zdO p (ls.getD i L0))=true then .inl (ls.map (rnS p)) else .inr ([],false)):=by
    intro k;induction k with
    | zero=>
      intro i hi;have:i=ls.length:=by omega
      subst this;refine Lp.done ?_;simp only [zS,cond_false,List.take_length];rfl
    | succ k ih=>
      intro i hi;have hil:i<ls.length:=by omega
      have a1:idx ls (i:Int)=some (ls.getD i L0):=zt L0 hil;rw [List.range'_succ,List.all_cons];have ho:=zjc (hI i hil);cases hb:(zaN p&&zdO p (ls.getD i L0)) with
      | false=>
        rw [hb] at ho;refine Lp.done ?_;simp only [zR hil,cond_true,a1,Zs,ho,Bool.false_eq_true,if_false,Bool.not_false,Bool.false_and]
      | true=>
        rw [hb] at ho;rw [Bool.true_and];refine Lp.step ?_ (ih (i+1) (by omega));have htk:(ls.take (i+1)).map (rnS p)=(ls.take i).map (rnS p)++[rnS p (ls.getD i L0)]:=by
          rw [List.take_add_one,List.map_append];simp [List.getD,hil]
        simp only [zR hil,cond_true,a1,Zs,ho,if_true,Bool.not_true,cond_false];rw [zaT (by rw [List.length_map,List.length_take]; simp; omega),Zs,zB (by omega),htk]
  have hL:=(key ls.length 0 (by omega)).big (by simp only [big]; omega);rw [show ((0:Nat):Int)=0 from rfl,← List.range_eq_range'] at hL;rw [show (ls.take 0).map (rnS p)=[] from rfl] at hL;rw [hL,Zs];cases ((List.range ls.length).all λi=>zaN p&&zdO p (ls.getD i L0))<;>rfl
theorem znt {n:Nat} {f g:Nat->Bool}:((List.range n).all λi=>f i&&g i)=((List.range n).all f&&(List.range n).all g):=by
 rw [Bool.eq_iff_iff,Bool.and_eq_true,List.all_eq_true,List.all_eq_true,List.all_eq_true];constructor
 . intro h;refine ⟨λx hx=>?_,λx hx=>?_⟩
   . have:=h x hx; rw [Bool.and_eq_true] at this; exact this.1
   . have:=h x hx; rw [Bool.and_eq_true] at this; exact this.2
 . intro h x hx;rw [h.1 x hx,h.2 x hx]; rfl
theorem zk8 {p:Plan} {s:Service} (H:zqk p s):zcE p s=some (if zqb p s=true then (s.1.map (rnS p),true) else ([],false)):=by
  unfold zcE zqb;have hh:=H.h;have hn:=H.n;by_cases h1:s.2.1.length=s.1.length;rotate_left
  · have e1:(zr s.2.1 !=zr s.1)=true:=by rw [zu,zu]; simp only [bne_iff_ne,ne_eq]; omega
    rw [e1,decide_eq_false h1];simp
  have e1:(zr s.2.1 !=zr s.1)=false:=by rw [zu,zu,h1]; exact bne_self_eq_false _
  by_cases h2:s.2.2.1.length=s.1.length;rotate_left
  · have e2:(zr s.2.2.1 !=zr s.1)=true:=by rw [zu,zu]; simp only [bne_iff_ne,ne_eq]; omega
    rw [e1,e2,decide_eq_false h2];simp
  have e2:(zr s.2.2.1 !=zr s.1)=false:=by rw [zu,zu,h2]; exact bne_self_eq_false _
  rw [e1,e2,decide_eq_true h1,decide_eq_true h2];simp only [cond_false,Zs,Bool.true_and];have h:=zdf (f:=λs17:Int=>
cond (decide (s17<(zr s.2.1))) (Zb (idx s.2.1 s17) λx20=>
Zb (zX x20 30 7200) λy25=>
cond (!y25) (some (.inr (.inr ([],false)))) (Zb (idx s.2.2.1 s17) λx28=>
Zb (zX x28 0 (w64 (x20-1))) λy29=>
cond (!y29) (some (.inr (.inr ([],false)))) (some (.inl (w64 (s17+1)))))) (some (.inr (.inl ():Unit⊕(List zn×Bool))))) (λk=>(k:Int)) s.2.1.length (hoB s) (.inr ([],false)) (.inl ()) (s0:=0) rfl (by simp only [big]; omega) (λi hi=>by
      have a1:idx s.2.1 (i:Int)=some (hd0 s i):=zt 0 hi;have a2:idx s.2.2.1 (i:Int)=some (of0 s i):=zt 0 (by omega);unfold hoB;simp only [zR hi,cond_true,a1,a2,Zs,zgL];cases hb:inB (hd0 s i) 30 7200 with
      | false=>rfl
      | true=>
        have hb:=zau.1 hb;simp only [Bool.not_true,cond_false,Bool.true_and];rw [ze (by omega) (by omega),zB (by omega)];cases inB (of0 s i) 0 (hd0 s i-1)<;>rfl) (by simp only [zS,cond_false])
  rw [h,Zs,h1,znt];cases hA:(List.range s.1.length).all (hoB s) with
  | false=>
    simp;rfl
  | true=>
  simp only [if_true,zbP];rw [zuM H.l];have hr:=znt (n:=s.1.length) (f:=λ_=>zaN p) (g:=λi=>zdO p (ln0 s i));unfold ln0 at hr;rw [hr];unfold ln0;cases hi:inB (zr s.1) 1 20 with
  | false=>simp
  | true=>
  have hi:=zau.1 hi;rw [zu] at hi;have hv:((List.range s.1.length).all λ_=>zaN p)=zaN p:=by
    obtain ⟨m,hm⟩:∃ m,s.1.length=m+1:=⟨s.1.length-1,by omega⟩;rw [hm,Bool.eq_iff_iff,List.all_eq_true];exact ⟨λh=>h 0 (List.mem_range.2 (by omega)),λh _ _=>h⟩
  rw [hv];simp only [Bool.and_true,Bool.true_and,Zs]
structure zsY (p:Plan) (s:Service):Prop where
 v:zaN p=true
 n:1<=s.1.length/\s.1.length<=20
 h:s.2.1.length=s.1.length
 o:s.2.2.1.length=s.1.length
 l:∀ i,i<s.1.length->zdO p (ln0 s i)=true
 hb:∀ i,i<s.1.length->30<=hd0 s i/\hd0 s i<=7200
 ob:∀ i,i<s.1.length->0<=of0 s i/\of0 s i<=hd0 s i-1
theorem zxc {p:Plan} {s:Service} (h:zqb p s=true):zsY p s:=by
 unfold zqb at h;simp only [Bool.and_eq_true,decide_eq_true_eq] at h;obtain ⟨h1,h2,h3,h4,h5⟩:=h;have h2:=zau.1 h2;rw [zu] at h2;have h6:∀ i,i<s.1.length->zdO p (ln0 s i)=true/\hoB s i=true:=λi hi=>by
  have:=List.all_eq_true.1 h5 i (List.mem_range.2 hi);rwa [Bool.and_eq_true] at this
 refine ⟨h1,by omega,h3,h4,λi hi=>(h6 i hi).1,λi hi=>?_,λi hi=>?_⟩
 . have:=(h6 i hi).2;unfold hoB at this;rw [Bool.and_eq_true] at this;exact zau.1 this.1
 . have:=(h6 i hi).2;unfold hoB at this;rw [Bool.and_eq_true] at this;exact zau.1 this.2
theorem zos {p:Plan} {s:Service} (H:zqk p s):zdc p s=some (zqb p s):=by
  unfold zdc zqb;rw [zj1,Zs];cases hv:zaN p with
  | false=>rfl
  | true=>
  simp only [Bool.not_true,cond_false,zzo,Zs];cases hi:inB (zr s.1) 1 20 with
  | false=>rfl
  | true=>
  have hi:=zau.1 hi;rw [zu] at hi;by_cases h1:s.2.1.length=s.1.length;rotate_left
  · have e1:(zr s.2.1 !=zr s.1)=true:=by rw [zu,zu]; simp only [bne_iff_ne,ne_eq]; omega
    rw [e1,decide_eq_false h1];rfl
  have e1:(zr s.2.1 !=zr s.1)=false:=by rw [zu,zu,h1]; exact bne_self_eq_false _
  by_cases h2:s.2.2.1.length=s.1.length;rotate_left
  · have e2:(zr s.2.2.1 !=zr s.1)=true:=by rw [zu,zu]; simp only [bne_iff_ne,ne_eq]; omega
    rw [e1,e2,decide_eq_true h1,decide_eq_false h2];rfl
  have e2:(zr s.2.2.1 !=zr s.1)=false:=by rw [zu,zu,h2]; exact bne_self_eq_false _
  rw [e1,e2,decide_eq_true h1,decide_eq_true h2];simp only [Bool.not_true,cond_false,Zs,Bool.true_and];have h:=zdf (f:=λs44:Int=>
cond (decide (s44<(zr s.1))) (Zb (idx s.1 s44) λx65=>
Zb (zdX p x65) λy66=>
cond (!y66) (some (.inr (.inr false))) (Zb (idx s.2.1 s44) λx69=>
cond (!(inB x69 30 7200)) (some (.inr (.inr false))) (Zb (idx s.2.2.1 s44) λx73=>
Zb (idx s.2.1 s44) λx74=>
cond (!(inB x73 0 (w64 (x74-1)))) (some (.inr (.inr false))) (some (.inl (w64 (s44+1))))))) (some (.inr (.inl ():Unit⊕Bool)))) (λk=>(k:Int)) s.1.length (λi=>zdO p (ln0 s i)&&hoB s i) (.inr false) (.inl ()) (s0:=0) rfl (by simp only [big]; omega) (λi hi=>by
      have a0:idx s.1 (i:Int)=some (ln0 s i):=zt L0 hi;have a1:idx s.2.1 (i:Int)=some (hd0 s i):=zt 0 (by omega);have a2:idx s.2.2.1 (i:Int)=some (of0 s i):=zt 0 (by omega);unfold hoB;simp only [zR hi,cond_true,a0,a1,a2,Zs,zuK hv (H.l i hi)];cases zdO p (ln0 s i) with
      | false=>rfl
      | true=>
      cases hb:inB (hd0 s i) 30 7200 with
      | false=>rfl
      | true=>
        have hb:=zau.1 hb;simp only [Bool.not_true,cond_false,Bool.true_and];rw [ze (by omega) (by omega),zB (by omega)];cases inB (of0 s i) 0 (hd0 s i-1)<;>rfl) (by simp only [zS,cond_false])
  rw [h,Zs];cases ((List.range s.1.length).all λi=>zdO p (ln0 s i)&&hoB s i)<;>rfl
structure zAe (p:Plan) (s:Service):Prop where
 S:zAc p
 l:∀ i,i<s.1.length->zyK (ln0 s i)
 n:s.1.length<=3
 h:s.2.1.length<=4
 o:s.2.2.1.length<=4
theorem zAe.sv {p:Plan} {s:Service} (F:zAe p s):zqk p s:=by
 have a:=F.n;have b:=F.h;exact ⟨by omega,by omega,λi hi=>zAd F.S (F.l i hi)⟩
theorem zxd (p:Plan) (s:Service) (hs:s.1.length<=9223372036854775807):∃ b,zfp p s=some b/\(b=true->zAe p s):=by
  unfold zfp;have hT:Tot (λr:Unit⊕Bool=>(r=.inl ()/\∀ i,i<s.1.length->zyK (ln0 s i))\/r=.inr false) (iter (σ:=(Int)) (τ:=Unit⊕(Bool)) (λs5=>
cond (decide (s5<(zr s.1))) (Zb (idx s.1 s5) λx8=>
Zb (zcQ x8) λy9=>
cond (!y9) (some (.inr (.inr false))) (some (.inl (w64 (s5+1))))) (some (.inr (.inl ())))) big 0):=by
    refine Tot.iter (λx=>∃ k:Nat,x=(k:Int)/\k<=s.1.length/\∀ i,i<k->zyK (ln0 s i)) _ (λx=>s.1.length-x.toNat) ⟨0,rfl,by omega,λi hi=>by omega⟩ (by simp only [big]; omega) ?_
    rintro x ⟨k,rfl,hk,hA⟩
    by_cases h:k<s.1.length
    · obtain ⟨b,h1,h2⟩:=zsq (ln0 s k);rw [zR h,cond_true,zt L0 h,Zs,show zcQ (s.1.getD k L0)=some b from h1,Zs,zB (by omega)];cases b with
      | false=>exact Tot.some (.inr rfl)
      | true=>
        refine Tot.some ⟨⟨k+1,rfl,by omega,λi hi=>?_⟩,by simp only [Int.toNat_natCast]; omega⟩;by_cases e:i=k
        · subst e; exact h2 rfl
        · exact hA i (by omega)
    · have:k=s.1.length:=by omega
      subst this;rw [zS,cond_false];exact Tot.some (.inl ⟨rfl,hA⟩)
  obtain ⟨r,h1,h2⟩:=hT;rw [h1,Zs];rcases h2 with ⟨rfl,hA⟩ | rfl;rotate_left
  · exact ⟨false,rfl,λh=>by cases h⟩
  rw [zbP];obtain ⟨b1,e1,q1⟩:=zsp p;rw [e1];cases b1 with
  | false=>exact ⟨false,rfl,λh=>by cases h⟩
  | true=>
  obtain ⟨b,g1,g2⟩:=zj9 (A:=zr s.1<=3) (zj9 (A:=zr s.2.1<=4) (Q:=zr s.2.2.1<=4) (x:=some (decide (zr s.2.2.1<=4))) ⟨_,rfl,λh=>of_decide_eq_true h⟩);simp only [Zs,cond_true];refine ⟨b,by rw [g1]; rfl,λhb=>?_⟩;obtain ⟨a1,a2,a3⟩:=g2 hb;rw [zu] at a1 a2 a3;exact ⟨q1 rfl,hA,by omega,by omega,by omega⟩
end Go.Ai.Sx
/- Service: the first departures,and waits. -/
namespace Go.Ai.Sx
open Option renaming bind->Zb,bind_some->Zs
theorem zsr {A:Type} (x:Option A):(Zb x λy=>some y)=x:=by cases x<;>rfl
theorem znu {n h:Int} (hh:0<h) (h2:h<=1000000000000):zba n h=some (n%h):=by
 have:=zsi (n:=n) hh h2;unfold zba;simp only [zsr];exact this
theorem zot {n h:Int} (hh:0<h) (h2:h<=1000000000000):zcR n h=some (n%h):=by
 have:=zsi (n:=n) hh h2;unfold zcR;simp only [zsr];exact this
def zfI (p:Plan) (l:Line) (home:Bool) (h o:Int):Int:=cond home (o+zct p l l.1+l.2.2.2.2.1+(zh0 p l h*h-zkh p l)/2) o
section
variable {p:Plan} {l:Line} (K:zqj p l) {h o:Int} (hh:30<=h/\h<=7200) (ho:0<=o/\o<=100000)
include K hh ho
theorem znv (home:Bool):o<=zfI p l home h o/\zfI p l home h o<=o+60000:=by
 obtain ⟨c1,c2,c3,c4,c5⟩:=znr K (h:=h) (by omega);have h1:=K.o.l1;have h2:=K.o.l2;have h5:=K.y;unfold zfI;cases home with
 | false=>simp only [cond_false]; omega
 | true=>simp only [cond_true]; omega
theorem zyL (home:Bool):zaP (rnS p l) (cond home 1 0) h o=some (zfI p l home h o):=by
 obtain ⟨c1,c2,c3,c4,c5⟩:=znr K (h:=h) (by omega);have hb:=znq K;have h1:=K.o.l1;have h2:=K.o.l2;have h5:=K.y;unfold zaP;cases home with
 | false=>rfl
 | true=>
  simp only [cond_true,show ((1:Int)==0)=false from rfl,cond_false];rw [show zz (rnS p l) 0=_ from zj7 K false,zjd K (by omega),zmc K];simp only [Zs,cond_false];rw [ze (n:=zh0 p l h*h) (by omega) (by omega),ze (n:=zh0 p l h*h-_) (by omega) (by omega),zbQ ⟨by omega,by omega⟩ (by omega),Zs];show some (w64 (w64 (w64 (o+zct p l l.1)+l.2.2.2.2.1)+(zh0 p l h*h-zkh p l)/2))=_;rw [ze (n:=o+_) (by omega) (by omega),ze (n:=o+_+_) (by omega) (by omega),ze (by omega) (by omega)];rfl
end
section
variable {p:Plan} {s:Service} (V:zsY p s) (H:zqk p s)
include V H
theorem lnK {i:Nat} (hi:i<s.1.length):zqj p (ln0 s i):=zuJ (H.l i hi) V.v (V.l i hi)
theorem zpt {i:Nat} (hi:i<s.1.length) {h:Int} (hh:30<=h/\h<=7200):zde p (ln0 s i) h=some (zh0 p (ln0 s i) h):=by
 have K:=lnK V H hi;have:=znq K;unfold zde;rw [zns V.v (H.l i hi) K,Zs,ze (n:=zkh p _+h) (by omega) (by omega),ze (by omega) (by omega),zbQ ⟨by omega,by omega⟩ (by omega)];rfl
theorem zss {i:Nat} (hi:i<s.1.length) (home:Bool):za9 p (ln0 s i) home=some (zct p (ln0 s i) (zcW (ln0 s i) home)):=by
 have K:=lnK V H hi;refine zj8 (zcy V.v) ((H.l i hi).c V.v home) ?_;cases home
 . exact K.o
 . exact K.h
theorem zyM {i:Nat} (hi:i<s.1.length) (home:Bool):zaa p (ln0 s i) home=some (zhh (msC p (ln0 s i) (zcW (ln0 s i) home)) (zcW (ln0 s i) home)):=by
 have K:=lnK V H hi;refine zhx (zcy V.v) ((H.l i hi).c V.v home) ?_;cases home
 . exact K.o
 . exact K.h
theorem zpu {i:Nat} (hi:i<s.1.length) (home:Bool):zbO p s (i:Int) home=some (zfI p (ln0 s i) home (hd0 s i) (of0 s i)):=by
 have K:=lnK V H hi;have hh:=V.hb i hi;have hob:=V.ob i hi;have hlh:=V.h;have hlo:=V.o;obtain ⟨c1,c2,c3,c4,c5⟩:=znr K (h:=hd0 s i) (by omega);have hb:=znq K;have h1:=K.o.l1;have h2:=K.o.l2;have h5:=K.y;have a0:idx s.1 (i:Int)=some (ln0 s i):=zt L0 hi;have a1:idx s.2.1 (i:Int)=some (hd0 s i):=zt (l:=s.2.1) 0 (by omega);have a2:idx s.2.2.1 (i:Int)=some (of0 s i):=zt (l:=s.2.2.1) 0 (by omega);unfold zbO;rw [a0,Zs];cases home with
 | false=>simp only [Bool.not_false,cond_true,a2,Zs]; rfl
 | true=>
  simp only [Bool.not_true,cond_false,a1,a2,Zs,zpt V H hi hh,zns V.v (H.l i hi) K,zss V H hi false];rw [ze (n:=zh0 p _ _*_) (by omega) (by omega),ze (n:=zh0 p _ _*_-_) (by omega) (by omega),zbQ ⟨by omega,by omega⟩ (by omega),Zs];show some (w64 (w64 (w64 (of0 s i+zct p (ln0 s i) (ln0 s i).1)+(ln0 s i).2.2.2.2.1)+(zh0 p (ln0 s i) (hd0 s i)*hd0 s i-zkh p (ln0 s i))/2))=_;rw [ze (n:=of0 s i+_) (by omega) (by omega),ze (n:=of0 s i+_+_) (by omega) (by omega),ze (by omega) (by omega)];rfl
theorem zxe:zqb p s=true:=by
 have hn:=V.n;unfold zqb;rw [V.v,decide_eq_true V.h,decide_eq_true V.o,zau.2 (show 1<=zr s.1/\zr s.1<=20 by rw [zu]; omega)];simp only [Bool.true_and];rw [List.all_eq_true];intro i hi;have hi:=List.mem_range.1 hi;rw [V.l i hi,Bool.true_and];unfold hoB;rw [zau.2 (V.hb i hi),zau.2 (V.ob i hi)]; rfl
end
section
variable {p:Plan} {ls:List Line} (hn:1<=ls.length/\ls.length<=20) (hK:∀ i,i<ls.length->zqj p (ls.getD i L0))
include hn hK
omit hn hK in
theorem zyN {i:Int} (hi:0<=i/\i<ls.length):idx (ls.map (rnS p)) i=some (rnS p (ls.getD i.toNat L0)):=by
 obtain ⟨k,rfl⟩:∃ k:Nat,i=(k:Int):=⟨i.toNat,by omega⟩;have h2:k<ls.length:=by omega
 rw [Int.toNat_natCast,zev,List.getElem?_map,List.getElem?_eq_getElem h2];simp [List.getD,h2]
end
end Go.Ai.Sx
/- Service: departures,works,and which trips may run. -/
namespace Go.Ai.Sx
open Option renaming bind->Zb,bind_some->Zs
def wkB (p:Plan) (x:Works):Bool:=inB x.1 0 (p.2.1.length-1)&&(inB x.2.1 0 x.2.2.1&&!decide (x.2.2.1>200000))
def zsZ (p:Plan) (w:List Works):Bool:=decide (zr w<=100)&&w.all (wkB p)
def W0:Works:=(0,0,0,())
theorem zk9 {A:Type} (l:List A) (q:A->Bool) (d:A):((List.range l.length).all λi=>q (l.getD i d))=l.all q:=by
 rw [Bool.eq_iff_iff,List.all_eq_true,List.all_eq_true];constructor
 . intro h x hx;obtain ⟨i,hi,rfl⟩:=List.getElem_of_mem hx;have:=h i (List.mem_range.2 hi);rwa [show l.getD i d=l[i] by simp [List.getD,hi]] at this
 . intro h i hi;have hi:=List.mem_range.1 hi;rw [show l.getD i d=l[i] by simp [List.getD,hi]];exact h _ (List.getElem_mem hi)
theorem zla {p:Plan} (hp:zh4 p) (w:List Works) (hw:w.length<=9223372036854775807):zbD p w=some (zsZ p w):=by
 unfold zbD zsZ;by_cases h:zr w<=100
 . rw [decide_eq_true h];have hR:=hp.r;obtain ⟨k,g1,g2⟩:=zfV w hw (λx=>zaF x p) (λx=>!wkB p x) (λx _=>by
    unfold zaF wkB;simp only [zgL,Zs];rw [zu,ze (by omega) (by omega)];cases inB x.1 0 ((p.2.1.length:Int)-1) with
    | false=>rfl
    | true=>
    cases inB x.2.1 0 x.2.2.1 with
    | false=>rfl
    | true=>cases decide (x.2.2.1>200000)<;>rfl)
   unfold zM zI;simp only [cond_true,Bool.true_and];rw [g1];simp only [Zs,g2];rw [zjV w _ W0,Bool.not_not];simp only [Bool.not_not];rw [zk9 w (wkB p) W0]
 . rw [decide_eq_false h]; rfl
theorem zst {p:Plan} (hp:zh4 p) (w:List Works) (hw:w.length<=9223372036854775807):zdr p w=some (zsZ p w):=by
  unfold zdr zsZ;have hR:=hp.r;have h:=zdf (f:=λs29:Int=>
cond (decide (s29<(zr w))) (Zb (idx w s29) λx48=>
Zb (zbT x48.1 0 (w64 ((zr p.2.1)-1))) λy49=>
cond (!y49) (some (.inr (.inr false))) (Zb (idx w s29) λx52=>
Zb (idx w s29) λx53=>
Zb (zbT x52.2.1 0 x53.2.2.1) λy54=>
cond (!y54) (some (.inr (.inr false))) (Zb (idx w s29) λx57=>
cond (decide (x57.2.2.1>200000)) (some (.inr (.inr false))) (some (.inl (w64 (s29+1))))))) (some (.inr (.inl ():Unit⊕Bool)))) (λk=>(k:Int)) w.length (λi=>wkB p (w.getD i W0)) (.inr false) (.inl ()) (s0:=0) rfl (by simp only [big]; omega) (λi hi=>by
      unfold wkB;simp only [zR hi,cond_true,zt W0 hi,Zs,zzo,zB (show i<9223372036854775807 by omega)];rw [zu,ze (n:=(p.2.1.length:Int)-1) (by omega) (by omega)];cases inB (w.getD i W0).1 0 ((p.2.1.length:Int)-1) with
      | false=>rfl
      | true=>
      cases inB (w.getD i W0).2.1 0 (w.getD i W0).2.2.1 with
      | false=>rfl
      | true=>cases decide ((w.getD i W0).2.2.1>200000)<;>rfl) (by simp only [zS,cond_false])
  rw [h,Zs,zk9 w (wkB p) W0];cases w.all (wkB p) with
  | false=>rw [Bool.and_false]; rfl
  | true=>rw [Bool.and_true]; rfl
def onB (way:List zL) (x:Works):Bool:=way.any λm=>m.1==x.1
def zs0 (way:List zL) (t last:Int) (x:Works):Bool:=onB way x&&(decide (t<x.2.2.1)&&decide (x.2.1<t+last))
def zxz (way:List zL) (w:List Works) (t last:Int):Bool:=!(w.any (zs0 way t last))
section
variable {p:Plan} {l:Line} (K:zqj p l)
include K
theorem zyO (home:Bool) {t:Int} (ht:-1000000000<=t/\t<=1000000000) (w:List Works) (hw:w.length<=9223372036854775807):zaf (rnS p l) (cond home 1 0) t w=some (zxz (zcW l home).1 w t (zct p l (zcW l home))):=by
 have KC:zqi p l (zcW l home):=by cases home; exact K.o; exact K.h
 have h1:=KC.l1;have h2:=KC.l2;have hW:=(zgJ KC.C.w).n;have hla:zz (rnS p l) (cond home 1 0)=some (zct p l (zcW l home)):=by
  have:=zj7 K home;rw [this]; cases home<;>rfl
 have hcx:idx [l.1,l.2.1] (cond home 1 0)=some (zcW l home):=by cases home<;>rfl
 unfold zaf;rw [show zby (rnS p l).1=some [l.1,l.2.1] from rfl,Zs,hcx,Zs];obtain ⟨k,g1,g2⟩:=zfV w hw (λx=>zae x (zcW l home).1 t (rnS p l) (cond home 1 0)) (zs0 (zcW l home).1 t (zct p l (zcW l home))) (λx _=>by
  unfold zae zs0 onB;obtain ⟨k,q1,q2⟩:=zfV (zcW l home).1 (by omega) (λm=>zaJ m x) (λm=>m.1==x.1) (λm _=>rfl);unfold zat zZ;rw [q1];simp only [Zs,q2];cases ((zcW l home).1.any λm=>m.1==x.1) with
  | false=>rfl
  | true=>
  cases decide (t<x.2.2.1) with
  | false=>rfl
  | true=>
   simp only [cond_true,hla,Zs,Bool.true_and];rw [ze (by omega) (by omega)])
 unfold zM zI;rw [g1];simp only [Zs,g2];rfl
end
theorem zxf {s:Service} {w:List Works} (hw:w.length<=9223372036854775807) {i:Nat} (hi:i<s.1.length) (home:Bool) (hway:(zcW (ln0 s i) home).1.length<=9223372036854775807) {car t last:Int} (ht:-1000000000<=t/\t<=1000000000) (hl:0<=last/\last<=1000000):zdN s w ((i:Int),home,car,t,()) last=some (zxz (zcW (ln0 s i) home).1 w t last):=by
  unfold zdN zxz;rw [show idx s.1 (i:Int)=some (ln0 s i) from zt L0 hi,Zs,zg7,Zs];generalize (zcW (ln0 s i) home).1=way at *
  have inner:∀ x:Works,∀ j:Nat,j<w.length->w.getD j W0=x->iter (σ:=(Int)) (τ:=Unit⊕(Bool)) (λs81=>
cond (decide (s81<(zr way))) (Zb (idx way s81) λx96=>
Zb (idx w (j:Int)) λx97=>
cond (x96.1==x97.1) (Zb (idx w (j:Int)) λx99=>
cond (decide (t<x99.2.2.1)) (Zb (idx w (j:Int)) λx101=>
cond (decide (x101.2.1<(w64 (t+last)))) (some (.inr (.inr false))) (some (.inl (w64 (s81+1))))) (some (.inl (w64 (s81+1))))) (some (.inl (w64 (s81+1))))) (some (.inr (.inl ())))) big 0=some (if zs0 way t last x then .inr false else .inl ()):=by
    intro x j hj hx;have a1:idx w (j:Int)=some x:=by rw [← hx]; exact zt W0 hj
    have h:=zdf (f:=λs81:Int=>
cond (decide (s81<(zr way))) (Zb (idx way s81) λx96=>
Zb (idx w (j:Int)) λx97=>
cond (x96.1==x97.1) (Zb (idx w (j:Int)) λx99=>
cond (decide (t<x99.2.2.1)) (Zb (idx w (j:Int)) λx101=>
cond (decide (x101.2.1<(w64 (t+last)))) (some (.inr (.inr false))) (some (.inl (w64 (s81+1))))) (some (.inl (w64 (s81+1))))) (some (.inl (w64 (s81+1))))) (some (.inr (.inl ():Unit⊕Bool)))) (λk=>(k:Int)) way.length (λk=>!((way.getD k M0).1==x.1&&(decide (t<x.2.2.1)&&decide (x.2.1<t+last)))) (.inr false) (.inl ()) (s0:=0) rfl (by simp only [big]; omega) (λk hk=>by
        simp only [zR hk,cond_true,zt M0 hk,a1,Zs,zB (show k<9223372036854775807 by omega)];rw [ze (n:=t+last) (by omega) (by omega)];cases ((way.getD k M0).1==x.1)<;>cases decide (t<x.2.2.1)<;>cases decide (x.2.1<t+last)<;>rfl) (by simp only [zS,cond_false])
    rw [h];have e:((List.range way.length).all λk=>!((way.getD k M0).1==x.1&&(decide (t<x.2.2.1)&&decide (x.2.1<t+last))))=!zs0 way t last x:=by
      unfold zs0 onB;rw [zjV way _ M0];cases (decide (t<x.2.2.1)&&decide (x.2.1<t+last)) with
      | true=>simp only [Bool.and_true,Bool.not_not]
      | false=>simp
    rw [e];cases zs0 way t last x<;>rfl
  have h:=zdf (f:=λs56:Int=>
cond (decide (s56<(zr w))) (Zb (iter (σ:=(Int)) (τ:=Unit⊕(Bool)) (λs81=>
cond (decide (s81<(zr way))) (Zb (idx way s81) λx96=>
Zb (idx w s56) λx97=>
cond (x96.1==x97.1) (Zb (idx w s56) λx99=>
cond (decide (t<x99.2.2.1)) (Zb (idx w s56) λx101=>
cond (decide (x101.2.1<(w64 (t+last)))) (some (.inr (.inr false))) (some (.inl (w64 (s81+1))))) (some (.inl (w64 (s81+1))))) (some (.inl (w64 (s81+1))))) (some (.inr (.inl ())))) big 0) λt105=>
alt (λb107=>some (.inl (w64 (s56+1)))) (λb108=>some (.inr (.inr b108))) t105) (some (.inr (.inl ():Unit⊕Bool)))) (λk=>(k:Int)) w.length (λj=>!zs0 way t last (w.getD j W0)) (.inr false) (.inl ()) (s0:=0) rfl (by simp only [big]; omega) (λj hj=>by
      simp only [zR hj,cond_true];rw [inner (w.getD j W0) j hj rfl,Zs,zB (by omega)];cases zs0 way t last (w.getD j W0)<;>rfl) (by simp only [zS,cond_false])
  simp only [];rw [h,Zs,zjV w _ W0,Bool.not_not];cases ((List.range w.length).all λj=>!zs0 way t last (w.getD j W0))<;>rfl
def zhy (p:Plan) (l:Line) (home:Bool) (h o from_:Int):Int:=-((zfI p l home h o-from_)/h)
def zeU (p:Plan) (l:Line) (home:Bool) (h o from_:Int) (j:Nat):Int:=zfI p l home h o+(zhy p l home h o from_+j)*h
def zxA (p:Plan) (l:Line) (home:Bool) (h o from_:Int) (j:Nat):Int:=(zhy p l home h o from_+j)%zh0 p l h
section
variable {p:Plan} {l:Line} (K:zqj p l) {h o from_:Int} (hh:30<=h/\h<=7200) (ho:0<=o/\o<=100000) (hf:0<=from_/\from_<=1000000) (home:Bool)
include K hh ho hf
theorem zgM:from_+(zfI p l home h o-from_)%h=zeU p l home h o from_ 0:=by
 have:=zsj (base:=zfI p l home h o) (start:=from_) (h:=h);rw [this];unfold zeU zhy;rw [show (-((zfI p l home h o-from_)/h)+((0:Nat):Int))=-((zfI p l home h o-from_)/h) by omega]
omit K hh ho hf in
theorem zg8 (j:Nat):zeU p l home h o from_ j+h=zeU p l home h o from_ (j+1):=by
 unfold zeU;rw [show zhy p l home h o from_+((j+1:Nat):Int)=(zhy p l home h o from_+j)+1 by omega,Int.add_mul (zhy p l home h o from_+j) 1 h,Int.one_mul];omega
theorem zh1 (j:Nat):from_+j*30<=zeU p l home h o from_ j/\from_<=zeU p l home h o from_ j:=by
 induction j with
 | zero=>
  have h1:=zgM K hh ho hf home;have h2:=Int.emod_nonneg (zfI p l home h o-from_) (show h≠0 by omega);omega
 | succ j ih=>
  rw [← zg8 home j];omega
theorem zsu:zeU p l home h o from_ 0<from_+h:=by
 have h1:=zgM K hh ho hf home;have h2:=Int.emod_lt_of_pos (zfI p l home h o-from_) (show 0<h by omega);omega
theorem zxg {σ τ:Type} {step:σ->(Int×Int)->Option (σ⊕τ)} {N:Nat} (hN:N<1000000) (S:Nat->σ) (z:τ) (hb:zeU p l home h o from_ N<=1000000000) (hs:∀ j,j<N->step (S j) (zeU p l home h o from_ j,zxA p l home h o from_ j)=some (.inl (S (j+1)))) (he:step (S N) (zeU p l home h o from_ N,zxA p l home h o from_ N)=some (.inr z)):zx step (S 0) (rnS p l) (cond home 1 0) h o from_=some (.inr z):=by
  have hB:=znv K hh ho home;obtain ⟨c1,c2,c3,c4,c5⟩:=znr K (h:=h) (by omega);unfold zx;rw [zyL K hh ho home,Zs,ze (n:=zfI p l home h o-from_) (by omega) (by omega),znu (by omega) (by omega),Zs];have h2:=Int.emod_lt_of_pos (zfI p l home h o-from_) (show 0<h by omega);have h3:=Int.emod_nonneg (zfI p l home h o-from_) (show h≠0 by omega);rw [ze (n:=from_+_) (by omega) (by omega),zgM K hh ho hf home];have hmono:∀ j,j<=N->zeU p l home h o from_ j<=zeU p l home h o from_ N:=by
    intro j hj;induction N with
    | zero=>
      have:j=0:=by omega
      subst this; exact Int.le_refl _
    | succ N ih=>
      by_cases e:j=N+1
      · subst e; exact Int.le_refl _
      · have h5:zeU p l home h o from_ j<=zeU p l home h o from_ N:=by
          have h7:∀ a b:Nat,a<=b->zeU p l home h o from_ a<=zeU p l home h o from_ b:=by
            intro a b hab;induction b with
            | zero=>
              have:a=0:=by omega
              subst this; exact Int.le_refl _
            | succ b ihb=>
              by_cases e2:a=b+1
              · subst e2; exact Int.le_refl _
              · have:=ihb (by omega);rw [← zg8 home b]; omega
          exact h7 j N (by omega)
        rw [← zg8 home N]; omega
  have hcar:∀ j,j<=N->(Zb (zcr .i64 (w64 (zeU p l home h o from_ j-zfI p l home h o)) h) λx36=>zba x36 (zh0 p l h))=some (zxA p l home h o from_ j):=by
    intro j hj;have h5:=hmono j hj;have h6:=zh1 K hh ho hf home j;have e:zeU p l home h o from_ j-zfI p l home h o=(zhy p l home h o from_+j)*h:=by unfold zeU; omega
    have e2:((zhy p l home h o from_+j)*h).tdiv h=zhy p l home h o from_+j:=zvo (by omega);have hq:=zoh (a:=(zhy p l home h o from_+j)*h) (A:=1000000000) (b:=h) (by omega) ⟨by omega,by omega⟩;have e3:zcr .i64 (w64 (zeU p l home h o from_ j-zfI p l home h o)) h=some (zhy p l home h o from_+j):=by
      rw [ze (by omega) (by omega),e];unfold zcr;rw [if_neg (by omega),e2];rw [e2] at hq;exact congrArg some (ze (by omega) (by omega))
    rw [e3,Zs,znu (by omega) (by omega)];rfl
  have key:∀ k i:Nat,i+k=N->Lp (λs28:Int×(σ⊕τ)=>
Zb (zcr .i64 (w64 (s28.1-zfI p l home h o)) h) λx36=>
Zb (zaO (rnS p l) h) λy37=>
Zb (zba x36 y37) λy38=>
Zb (goL s28.2) λs39=>
Zb (step s39 (s28.1,y38)) λy40=>
cond (!(y40).isLeft) (some (.inr y40)) (some (.inl ((w64 (s28.1+h)),y40)))) k (zeU p l home h o from_ i,.inl (S i)) (.inr z):=by
    intro k;induction k with
    | zero=>
      intro i hi;have:i=N:=by omega
      subst this;have hc:=hcar i (Nat.le_refl _);cases hd:zcr .i64 (w64 (zeU p l home h o from_ i-zfI p l home h o)) h with
      | none=>rw [hd] at hc; cases hc
      | some q=>
        rw [hd,Zs] at hc;refine Lp.done ?_;simp only [hd,Zs,zjd K (show 1<=h/\h<=1000000000000 by omega),hc,goL,he];rfl
    | succ k ih=>
      intro i hi;have hc:=hcar i (by omega);have h5:=hmono i (by omega);have h6:=zh1 K hh ho hf home i;cases hd:zcr .i64 (w64 (zeU p l home h o from_ i-zfI p l home h o)) h with
      | none=>rw [hd] at hc; cases hc
      | some q=>
        rw [hd,Zs] at hc;refine Lp.step ?_ (ih (i+1) (by omega));simp only [hd,Zs,zjd K (show 1<=h/\h<=1000000000000 by omega),hc,goL,hs i (by omega)];rw [ze (n:=zeU p l home h o from_ i+h) (by omega) (by omega),zg8];rfl
  rw [(key N 0 (by omega)).big (by simp only [big]; omega)];rfl
end
end Go.Ai.Sx
/- Service: extra cars. -/
namespace Go.Ai.Sx
open Option renaming bind->Zb,bind_some->Zs
section
variable {c:Course} {ms:List Int} {p:Plan} (C:zsm p c) (M:zzp c ms) {f:Int} (hf:100<=f/\f<=400)
include C M hf
end
section
variable {p:Plan} {l:Line} {home:Bool} (K:zqi p l (zcW l home)) {f:Int} (hf:100<=f/\f<=400)
include K hf
end
section
variable {n:Nat} {X O:Nat->Int} {h gap D base:Int} (hn:n<=1000) (hh:30<=h/\h<=7200) (hg:1<=gap/\gap<=3600) (hX:∀ i,i<n->0<=X i/\X i<=10000000) (hO:∀ i,i<n->0<=O i/\O i<=10000000) (hD:0<=D/\D<=10000000) (hB:0<=base/\base<=10000000)
include hn hh hg hX hO hD hB
end
section
variable {p:Plan} {l:Line} {home:Bool} (KL:zqj p l) {h o f gap D:Int} (hh:30<=h/\h<=7200) (ho:0<=o/\o<=100000) (hf:100<=f/\f<=400) (hg:1<=gap/\gap<=3600) (hD:0<=D/\D<=1000000)
include KL hh ho hf hg hD
omit hh ho hf hg hD in
theorem csO:zqi p l (zcW l home):=by
 cases home
 . exact KL.o
 . exact KL.h
end
end Go.Ai.Sx
/- Service: the law of slots. -/
namespace Go.Ai.Sx
open Option renaming bind->Zb,bind_some->Zs
structure zAP (p:Plan) (s:Service) (line f gap:Int):Prop where
 V:zsY p s
 l:0<=line/\line<s.1.length
 f:100<=f/\f<=400
 g:1<=gap/\gap<=3600
section
variable {p:Plan} {s:Service} (H:zqk p s) {line f gap:Int} (S:zAP p s line f gap)
include H S
end
theorem zsv {A:Prop} [Decidable A] {x:Option Bool} {Q:Prop} (h:∃ b,x=some b/\(b=false↔Q)):∃ b,cond (decide A) (some true) x=some b/\(b=false↔¬ A/\Q):=by
 by_cases hA:A
 . rw [decide_eq_true hA];exact ⟨true,rfl,by simp [hA]⟩
 . rw [decide_eq_false hA];obtain ⟨b,h1,h2⟩:=h;exact ⟨b,h1,by rw [h2]; simp [hA]⟩
end Go.Ai.Sx
/- Service: the last trip. -/
namespace Go.Ai.Sx
open Option renaming bind->Zb,bind_some->Zs
structure zxh (p:Plan) (l:Line) (home:Bool) (h o from_ last before:Int) (N:Nat):Prop where
 b:N<300000
 i:∀ j,j<N->zeU p l home h o from_ j+last<=before
 e:before<zeU p l home h o from_ N+last
section
variable {p:Plan} {l:Line} (K:zqj p l) {h o from_:Int} (hh:30<=h/\h<=7200) (ho:0<=o/\o<=100000) (hf:0<=from_/\from_<=1000000) (home:Bool)
include K hh ho hf
theorem zvs {last before:Int} (hl:0<=last/\last<=1000000) (hb:0<=before/\before<=200000) {N:Nat} (C:zxh p l home h o from_ last before N):∀ j,j<=N->0<=zeU p l home h o from_ j/\zeU p l home h o from_ j<=2000000:=by
 intro j hj;have h1:=zh1 K hh ho hf home j;refine ⟨by omega, ?_⟩;cases j with
 | zero=>
  have:=zsu K hh ho hf home;omega
 | succ j=>
  have:=C.i j (by omega);have h2:=zg8 (p:=p) (l:=l) (h:=h) (o:=o) (from_:=from_) home j;omega
end
theorem zAf {a n:Int} (hn:30<=n/\n<=7200) (ha:-100000000<=a/\a<=100000000):ze8 a n=some (-((-a)/n)):=by
 unfold ze8;have h1:=Int.emod_nonneg (-a) (show n≠0 by omega);have h2:=Int.emod_lt_of_pos (-a) (show 0<n by omega);have h3:=zvn (a:=a) (n:=n);have h4:(-((-a)/n)*n).tdiv n=-((-a)/n):=zvo (by omega);have hq:=zoh (a:=-((-a)/n)*n) (A:=100000000) (b:=n) (by omega) ⟨by omega,by omega⟩;rw [show w64 (0-a)=-a by rw [ze (by omega) (by omega)]; omega,zot (by omega) (by omega),Zs,ze (n:=a+_) (by omega) (by omega),h3];unfold zcr;rw [if_neg (by omega),h4,Zs];rw [h4] at hq;exact congrArg some (ze (by omega) (by omega))
section
variable {p:Plan} {s:Service} (V:zsY p s) (H:zqk p s) {line:Int} (hl:0<=line/\line<s.1.length) {w:List Works} (hw:w.length<=9223372036854775807) (home:Bool) {before:Int} (hb:0<=before/\before<=200000)
include V H hl hb
include hw in
include hw in
end
end Go.Ai.Sx
/- Sorting: swapping ranges and rotating. -/
namespace Go.Ai.Sx
open Option renaming bind->Zb,bind_some->Zs
theorem zgj {A:Type} (L:List A) (x:A) (R:List A):idx (L++x::R) (L.length:Int)=some x:=by
 rw [zev]; simp
theorem zgN {A:Type} (L:List A) (x y:A) (R:List A):(L++x::R).set L.length y=L++y::R:=by
 simp
section
variable {cmp:(Trip×Trip)->Option Int}
theorem zou (P X Q Y S:List Trip) (hn:Y.length=X.length) (hl:(P++X++Q++Y++S).length<1000000000000) :
    zl (P++X++Q++Y++S) P.length ((P.length+X.length+Q.length:Nat):Int) X.length cmp=some (P++Y++Q++X++S):=by
  unfold zl;simp only [List.length_append] at hl;have key:∀ (X2 Y2 X1 Y1:List Trip),X=X1++X2->Y=Y1++Y2->X1.length=Y1.length->X2.length=Y2.length ->
      Lp (λs11:Int×List Trip=>
cond (decide (s11.1<(X.length:Int))) (Zb (idx s11.2 (w64 (((P.length+X.length+Q.length:Nat):Int)+s11.1))) λx14=>
Zb (idx s11.2 (w64 ((P.length:Int)+s11.1))) λx15=>
Zb (idx s11.2 (w64 ((P.length:Int)+s11.1))) λ_=>
Zb (idx ((s11.2).set (Int.toNat (w64 ((P.length:Int)+s11.1))) x14) (w64 (((P.length+X.length+Q.length:Nat):Int)+s11.1))) λ_=>
some (.inl ((w64 (s11.1+1)),((s11.2).set (Int.toNat (w64 ((P.length:Int)+s11.1))) x14).set (Int.toNat (w64 (((P.length+X.length+Q.length:Nat):Int)+s11.1))) x15))) (some (.inr s11.2))) X2.length ((X1.length:Int),P++Y1++X2++Q++X1++Y2++S) (P++Y++Q++X++S):=by
    intro X2;induction X2 with
    | nil=>
      intro Y2 X1 Y1 hX hY h1 h2;have hY2:Y2=[]:=List.length_eq_zero_iff.1 (by simpa using h2.symm);subst hY2;simp only [List.append_nil] at hX hY ⊢;subst hX hY;refine Lp.done ?_;simp only [Int.lt_irrefl,decide_false,cond_false]
    | cons x X2 ih=>
      intro Y2 X1 Y1 hX hY h1 h2;cases Y2 with
      | nil=>cases h2
      | cons y Y2=>
        have hlx:X.length=X1.length+(X2.length+1):=by rw [hX]; simp
        have hr:=ih Y2 (X1++[x]) (Y1++[y]) (by rw [hX]; simp) (by rw [hY]; simp) (by simp [h1]) (by simpa using h2);refine Lp.step ?_ hr;have ea:w64 ((P.length:Int)+(X1.length:Int))=((P.length+X1.length:Nat):Int):=by rw [ze (by omega) (by omega)]; omega
        have eb:w64 (((P.length+X.length+Q.length:Nat):Int)+(X1.length:Int))=((P.length+X.length+Q.length+X1.length:Nat):Int):=by rw [ze (by omega) (by omega)]; omega
        simp only [ea,eb,Int.toNat_natCast];rw [decide_eq_true (by omega),cond_true];have e1:idx (P++Y1++x::X2++Q++X1++y::Y2++S) ((P.length+X.length+Q.length+X1.length:Nat):Int)=some y:=by
          have e:P++Y1++x::X2++Q++X1++y::Y2++S=(P++Y1++x::X2++Q++X1)++y::(Y2++S):=by simp
          have hl2:P.length+X.length+Q.length+X1.length=(P++Y1++x::X2++Q++X1).length:=by simp; omega
          rw [e,hl2]; exact zgj _ _ _
        have e2:∀ z:Trip,idx (P++Y1++z::X2++Q++X1++y::Y2++S) ((P.length+X1.length:Nat):Int)=some z:=by
          intro z;have e:P++Y1++z::X2++Q++X1++y::Y2++S=(P++Y1)++z::(X2++Q++X1++y::Y2++S):=by simp
          have hl2:P.length+X1.length=(P++Y1).length:=by simp; omega
          rw [e,hl2]; exact zgj _ _ _
        have e3:(P++Y1++x::X2++Q++X1++y::Y2++S).set (P.length+X1.length) y=P++Y1++y::X2++Q++X1++y::Y2++S:=by
          have e:∀ z,P++Y1++z::X2++Q++X1++y::Y2++S=(P++Y1)++z::(X2++Q++X1++y::Y2++S):=by simp
          have hl2:P.length+X1.length=(P++Y1).length:=by simp; omega
          rw [e,hl2,zgN,← e]
        have e4:∀ z:Trip,(P++Y1++y::X2++Q++X1++z::Y2++S).set (P.length+X.length+Q.length+X1.length) x=P++Y1++y::X2++Q++X1++x::Y2++S:=by
          intro z;have e:∀ u,P++Y1++y::X2++Q++X1++u::Y2++S=(P++Y1++y::X2++Q++X1)++u::(Y2++S):=by simp
          have hl2:P.length+X.length+Q.length+X1.length=(P++Y1++y::X2++Q++X1).length:=by simp; omega
          rw [e,hl2,zgN,← e]
        have e5:idx (P++Y1++y::X2++Q++X1++y::Y2++S) ((P.length+X.length+Q.length+X1.length:Nat):Int)=some y:=by
          have e:P++Y1++y::X2++Q++X1++y::Y2++S=(P++Y1++y::X2++Q++X1)++y::(Y2++S):=by simp
          have hl2:P.length+X.length+Q.length+X1.length=(P++Y1++y::X2++Q++X1).length:=by simp; omega
          rw [e,hl2]; exact zgj _ _ _
        rw [e1,Zs,e2 x,Zs,Zs,e3,e5,Zs,e4 y,zB (by omega)];have e6:P++Y1++y::X2++Q++X1++x::Y2++S=P++(Y1++[y])++X2++Q++(X1++[x])++Y2++S:=by simp
        rw [e6];simp
  have hL:=key X Y [] [] rfl rfl rfl hn.symm;simp only [List.append_nil,List.length_nil] at hL;have hB:=hL.big (by simp only [big]; omega);exact congrArg (λo=>Zb o λt18=>some t18) hB
theorem zyP (P U V S:List Trip) (hl:(P++U++V++S).length<1000000000000) (hU:U≠[]) (hV:V≠[]) :
    zJ (P++U++V++S) P.length ((P.length+U.length:Nat):Int) ((P.length+U.length+V.length:Nat):Int) cmp=some (P++V++U++S):=by
  unfold zJ;have key:∀ (n:Nat) (P' U' V' S':List Trip),U'.length+V'.length<=n->U'≠[]->V'≠[]->(P'++U'++V'++S').length<1000000000000->P'.length+U'.length=P.length+U.length ->
      ∃ (i:Int) (D:List Trip),Lp (λs13:Int×Int×List Trip=>
cond (s13.1 !=s13.2.1) (cond (decide (s13.1>s13.2.1)) (Zb (zl s13.2.2 (w64 (((P.length+U.length:Nat):Int)-s13.1)) ((P.length+U.length:Nat):Int) s13.2.1 cmp) λy17=>
some (.inl ((w64 (s13.1-s13.2.1)),s13.2.1,y17))) (Zb (zl s13.2.2 (w64 (((P.length+U.length:Nat):Int)-s13.1)) (w64 ((w64 (((P.length+U.length:Nat):Int)+s13.2.1))-s13.1)) s13.1 cmp) λy19=>
some (.inl (s13.1,(w64 (s13.2.1-s13.1)),y19)))) (some (.inr (s13.1,s13.2.2)))) n ((U'.length:Int),(V'.length:Int),P'++U'++V'++S') (i,D)/\zl D (w64 (((P.length+U.length:Nat):Int)-i)) ((P.length+U.length:Nat):Int) i cmp=some (P'++V'++U'++S'):=by
    intro n;induction n with
    | zero=>
      intro P' U' V' S' h _ hv;exact absurd (List.length_eq_zero_iff.1 (by omega)) hv
    | succ n ih=>
      intro P' U' V' S' h hu hv hlen hm;have hul:1<=U'.length:=by have:=List.length_pos_iff.2 hu; omega
      have hvl:1<=V'.length:=by have:=List.length_pos_iff.2 hv; omega
      have hlen2:=hlen;simp only [List.length_append] at hlen2;have em:w64 (((P.length+U.length:Nat):Int)-(U'.length:Int))=(P'.length:Int):=by rw [ze (by omega) (by omega)]; omega
      rcases Nat.lt_trichotomy U'.length V'.length with hc | hc | hc
      · -- the second block is longer
        obtain ⟨V1,V2,rfl,hv2⟩:∃ V1 V2,V'=V1++V2/\V2.length=U'.length:=⟨V'.take (V'.length-U'.length),V'.drop (V'.length-U'.length),(List.take_append_drop _ _).symm,by simp; omega⟩;rw [List.length_append] at hc hvl h;simp only [List.length_append] at hlen2;have hv2n:V2≠[]:=by intro e; rw [e] at hv2; simp at hv2; omega
        have hv1n:V1≠[]:=by intro e; rw [e] at hc; simp at hc; omega
        obtain ⟨i,D,h1,h2⟩:=ih P' V2 V1 (U'++S') (by omega) hv2n hv1n (by simp only [List.length_append] at hlen ⊢; omega) (by omega);refine ⟨i,D,Lp.step ?_ h1, ?_⟩
        · have hsw:=zou (cmp:=cmp) P' U' V1 V2 S' hv2 (by simp only [List.length_append] at hlen ⊢; omega);have ne:((U'.length:Int)!=(((V1++V2).length:Nat):Int))=true:=by rw [List.length_append]; simp; omega
          simp only [em,ne,cond_true];rw [List.length_append,decide_eq_false (by omega),cond_false];have e1:w64 (w64 (((P.length+U.length:Nat):Int)+((V1.length+V2.length:Nat):Int))-(U'.length:Int))=((P'.length+U'.length+V1.length:Nat):Int):=by
            rw [ze (n:=((P.length+U.length:Nat):Int)+_) (by omega) (by omega),ze (by omega) (by omega)]; omega
          have e2:w64 (((V1.length+V2.length:Nat):Int)-(U'.length:Int))=(V1.length:Int):=by rw [ze (by omega) (by omega)]; omega
          have e3:P'++U'++(V1++V2)++S'=P'++U'++V1++V2++S':=by simp
          rw [e1,e2,e3,hsw,Zs,hv2];have e4:P'++V2++V1++U'++S'=P'++V2++V1++(U'++S'):=by simp
          rw [e4]
        · rw [h2]; simp
      · -- equal
        refine ⟨(U'.length:Int),P'++U'++V'++S',Lp.done ?_, ?_⟩
        · have ne:((U'.length:Int)!=(V'.length:Int))=false:=by simp; omega
          simp only [ne,cond_false]
        · rw [em];have hsw:=zou (cmp:=cmp) P' U' [] V' S' hc.symm (by simpa using hlen);simp only [List.append_nil,List.length_nil,Nat.add_zero,hm] at hsw;exact hsw
      · -- the first block is longer
        obtain ⟨U1,U2,rfl,hu1⟩:∃ U1 U2,U'=U1++U2/\U1.length=V'.length:=⟨U'.take V'.length,U'.drop V'.length,(List.take_append_drop _ _).symm,by simp; omega⟩;rw [List.length_append] at hc hul h hm;simp only [List.length_append] at hlen2;have hu1n:U1≠[]:=by intro e; rw [e] at hu1; simp at hu1; omega
        have hu2n:U2≠[]:=by intro e; rw [e] at hc; simp at hc; omega
        obtain ⟨i,D,h1,h2⟩:=ih (P'++V') U2 U1 S' (by omega) hu2n hu1n (by simp only [List.length_append] at hlen ⊢; omega) (by simp only [List.length_append]; omega);refine ⟨i,D,Lp.step ?_ h1, ?_⟩
        · have hsw:=zou (cmp:=cmp) P' U1 U2 V' S' hu1.symm (by simp only [List.length_append] at hlen ⊢; omega);rw [List.length_append] at em;have ne:((((U1++U2).length:Nat):Int)!=(V'.length:Int))=true:=by rw [List.length_append]; simp; omega
          simp only [ne,cond_true];rw [List.length_append,decide_eq_true (by omega),cond_true,em];have e2:w64 (((U1.length+U2.length:Nat):Int)-(V'.length:Int))=(U2.length:Int):=by rw [ze (by omega) (by omega)]; omega
          have e3:P'++(U1++U2)++V'++S'=P'++U1++U2++V'++S':=by simp
          have e5:P'.length+U1.length+U2.length=P.length+U.length:=by omega
          rw [e5] at hsw;rw [e2,e3,← hu1,hsw,Zs]
        · rw [h2]; simp
  obtain ⟨i,D,h1,h2⟩:=key (U.length+V.length) P U V S (Nat.le_refl _) hU hV hl rfl;simp only [List.length_append] at hl;have e1:w64 (((P.length+U.length:Nat):Int)-(P.length:Int))=(U.length:Int):=by rw [ze (by omega) (by omega)]; omega
  have e2:w64 (((P.length+U.length+V.length:Nat):Int)-((P.length+U.length:Nat):Int))=(V.length:Int):=by rw [ze (by omega) (by omega)]; omega
  rw [e1,e2];have hB:=h1.big (by simp only [big]; omega);refine (congrArg (λo=>Zb o λt21:Int×List Trip=>Zb (zl t21.2 (w64 (((P.length+U.length:Nat):Int)-t21.1)) ((P.length+U.length:Nat):Int) t21.1 cmp) λy23=>some y23) hB).trans ?_;rw [Zs,h2,Zs]
end
end Go.Ai.Sx
/- Sorting: in order,with equal ones in their order; insertion. -/
namespace Go.Ai.Sx
open Option renaming bind->Zb,bind_some->Zs
def zcV (key:Trip->Int) (l m:List Trip):Prop:=∀ v:Int,m.filter (λx=>key x==v)=l.filter (λx=>key x==v)
def zfr (key:Trip->Int) (l:List Trip):Prop:=l.Pairwise λa b=>key a<=key b
theorem zcV.refl {key:Trip->Int} (l:List Trip):zcV key l l:=λ_=>rfl
theorem zcV.trans {key:Trip->Int} {l m n:List Trip} (h1:zcV key l m) (h2:zcV key m n):zcV key l n:=λv=>(h2 v).trans (h1 v)
theorem zcV.append {key:Trip->Int} {l m l' m':List Trip} (h1:zcV key l m) (h2:zcV key l' m'):zcV key (l++l') (m++m'):=λv=>by
 rw [List.filter_append,List.filter_append,h1 v,h2 v]
theorem zcV.mem {key:Trip->Int} {l m:List Trip} (h:zcV key l m) {x:Trip}:x∈m↔x∈l:=by
 have h1:=h (key x);constructor
 . intro hx;have:x∈m.filter (λy=>key y==key x):=List.mem_filter.2 ⟨hx,by simp⟩;rw [h1] at this;exact (List.mem_filter.1 this).1
 . intro hx;have:x∈l.filter (λy=>key y==key x):=List.mem_filter.2 ⟨hx,by simp⟩;rw [← h1] at this;exact (List.mem_filter.1 this).1
theorem zhz {key:Trip->Int} {l:List Trip} {v:Int} (h:∀ x∈l,key x≠v):l.filter (λx=>key x==v)=[]:=by
 rw [List.filter_eq_nil_iff];intro x hx;simpa using h x hx
theorem zcV.swap {key:Trip->Int} {U V:List Trip} (h:∀ u∈U,∀ v∈V,key v<key u):zcV key (U++V) (V++U):=λk=>by
 rw [List.filter_append,List.filter_append];by_cases hu:∃ u∈U,key u=k
 . obtain ⟨u,h1,h2⟩:=hu;rw [zhz (l:=V) (v:=k) (λv hv=>by have:=h u h1 v hv; omega)];simp
 . rw [zhz (l:=U) (v:=k) (λu hu1 he=>hu ⟨u,hu1,he⟩)];simp
theorem zcV.len {key:Trip->Int}:∀ {l m:List Trip},zcV key l m->m.length=l.length
 | [],m,h=>by
  cases m with
  | nil=>rfl
  | cons x m=>exact absurd ((h.mem (x:=x)).1 (by simp)) (by simp)
 | a::l,m,h=>by
  have hm:a∈m:=(h.mem).2 (by simp);have h1:=h (key a)
  -- the first one of a's key in m is a
  obtain ⟨m1,b,m2,rfl,hb,hn⟩:∃ m1 b m2,m=m1++b::m2/\key b=key a/\∀ x∈m1,key x≠key a:=by
   clear h1 h;induction m with
   | nil=>simp at hm
   | cons c m ih=>
    by_cases hc:key c=key a
    ·exact ⟨[],c,m,rfl,hc,by simp⟩
    ·have hm2:a∈m:=by
      rcases List.mem_cons.1 hm with rfl | h
      ·exact absurd rfl hc
      ·exact h
     obtain ⟨m1,b,m2,e,h2,h3⟩:=ih hm2;refine ⟨c::m1,b,m2,by rw [e]; rfl,h2,λx hx=>?_⟩;rcases List.mem_cons.1 hx with rfl | hx
     ·exact hc
     ·exact h3 x hx
  have hE:zcV key l (m1++m2):=λv=>by
   have h2:=h v;rw [List.filter_append,List.filter_cons,List.filter_cons] at h2;rw [List.filter_append];by_cases hv:key a=v
   ·subst hv;rw [zhz hn] at h2 ⊢;simp only [hb,beq_self_eq_true,if_true,List.nil_append,List.cons.injEq] at h2;simpa using h2.2
   ·simp only [hb,show (key a==v)=false by simpa using hv,Bool.false_eq_true,if_false] at h2;exact h2
  have:=zcV.len hE;simp only [List.length_append,List.length_cons] at this ⊢;omega
section
variable {cmp:(Trip×Trip)->Option Int} {key:Trip->Int} (hc:∀ x y,∃ v,cmp (x,y)=some v/\(v<0↔key x<key y))
include hc
theorem zka (x y:Trip) {A:Type} (f:Bool->Option A):(Zb (cmp (x,y)) λv=>f (decide (v<0)))=f (decide (key x<key y)):=by
 obtain ⟨v,h1,h2⟩:=hc x y;rw [h1,Zs];congr 1;exact decide_eq_decide.2 h2
def zxB (a_1:Int) (cmp_3:(Trip×Trip)->Option Int):(Int×List Trip)->Option ((Int×List Trip)⊕(List Trip)):=(λs126=>
cond (decide (s126.1>a_1)) (Zb (idx s126.2 s126.1) λx133=>
Zb (idx s126.2 (w64 (s126.1-1))) λx134=>
Zb (cmp_3 (x133,x134)) λy135=>
cond (decide (y135<0)) (Zb (idx s126.2 (w64 (s126.1-1))) λx137=>
Zb (idx s126.2 s126.1) λx138=>
Zb (idx s126.2 s126.1) λx139=>
Zb (idx ((s126.2).set (Int.toNat s126.1) x137) (w64 (s126.1-1))) λx140=>
some (.inl ((w64 (s126.1-1)),((s126.2).set (Int.toNat s126.1) x137).set (Int.toNat (w64 (s126.1-1))) x138))) (some (.inr s126.2))) (some (.inr s126.2)))
theorem zuN (P S:List Trip) (x:Trip):∀ (n:Nat) (L R:List Trip),L.length=n->zfr key (L++R)->(∀ r∈R,key x<key r)->(P++L++x::R++S).length<1000000000000 ->
    ∃ M,Lp (zxB P.length cmp) n (((P.length+L.length:Nat):Int),P++L++x::R++S) (P++M++S)/\zfr key M/\zcV key (L++x::R) M:=by
  intro n;induction n with
  | zero=>
    intro L R hL hs hr hl;have:L=[]:=List.length_eq_zero_iff.1 hL;subst this;refine ⟨x::R,Lp.done ?_, ?_,zcV.refl _⟩
    · unfold zxB;simp only [List.length_nil,Nat.add_zero,List.append_nil,decide_eq_false (show ¬ (P.length:Int)>P.length by omega),cond_false]
    · exact List.pairwise_cons.2 ⟨λr h=>by have:=hr r h; omega,by unfold zfr at hs; simpa using hs⟩
  | succ n ih=>
    intro L R hL hs hr hl;obtain ⟨L0,y,rfl⟩:∃ L0 y,L=L0++[y]:=by
      cases h:L.reverse with
      | nil=>rw [List.reverse_eq_nil_iff] at h; subst h; simp at hL
      | cons y l=>exact ⟨l.reverse,y,by rw [← List.reverse_reverse L,h]; simp⟩
    have hL0:L0.length=n:=by simpa using hL
    have hl2:=hl;simp only [List.length_append,List.length_cons,List.length_nil] at hl2;have i1:idx (P++(L0++[y])++x::R++S) ((P.length+(L0++[y]).length:Nat):Int)=some x:=by
      have e:P++(L0++[y])++x::R++S=(P++(L0++[y]))++x::(R++S):=by simp
      have hn:P.length+(L0++[y]).length=(P++(L0++[y])).length:=by simp
      rw [e,hn]; exact zgj _ _ _
    have em:w64 (((P.length+(L0++[y]).length:Nat):Int)-1)=((P.length+L0.length:Nat):Int):=by
      simp only [List.length_append,List.length_cons,List.length_nil];rw [ze (by omega) (by omega)]; omega
    have i2:∀ z,idx (P++(L0++[y])++z::R++S) ((P.length+L0.length:Nat):Int)=some y:=by
      intro z;have e:P++(L0++[y])++z::R++S=(P++L0)++y::(z::R++S):=by simp
      have hn:P.length+L0.length=(P++L0).length:=by simp
      rw [e,hn]; exact zgj _ _ _
    have hgt:decide (((P.length+(L0++[y]).length:Nat):Int)>(P.length:Int))=true:=decide_eq_true (by simp only [List.length_append,List.length_cons,List.length_nil]; omega);by_cases hk:key x<key y
    · have hr':∀ r∈y::R,key x<key r:=λr h=>by
        rcases List.mem_cons.1 h with rfl | h
        · exact hk
        · exact hr r h
      obtain ⟨M,h1,h2,h3⟩:=ih L0 (y::R) hL0 (by simpa using hs) hr' (by simp only [List.length_append,List.length_cons]; omega);refine ⟨M,Lp.step ?_ h1,h2, ?_⟩
      · unfold zxB;simp only [hgt,cond_true,i1,Zs,em,i2 x];rw [zka hc x y (λb=>cond b _ _),decide_eq_true hk,cond_true];have s1:(P++(L0++[y])++x::R++S).set (P.length+(L0++[y]).length) y=P++(L0++[y])++y::R++S:=by
          have e:∀ z,P++(L0++[y])++z::R++S=(P++(L0++[y]))++z::(R++S):=by simp
          have hn:P.length+(L0++[y]).length=(P++(L0++[y])).length:=by simp
          rw [e,hn,zgN,← e]
        have s2:(P++(L0++[y])++y::R++S).set (P.length+L0.length) x=P++L0++x::(y::R)++S:=by
          have e:P++(L0++[y])++y::R++S=(P++L0)++y::(y::R++S):=by simp
          have hn:P.length+L0.length=(P++L0).length:=by simp
          rw [e,hn,zgN]; simp
        simp only [Int.toNat_natCast,s1,i2 y,Zs,s2]
      · refine zcV.trans ?_ h3;have e1:L0++[y]++x::R=L0++(([y]++[x])++R):=by simp
        have e2:L0++x::y::R=L0++(([x]++[y])++R):=by simp
        rw [e1,e2];exact (zcV.refl L0).append ((zcV.swap (by simpa using hk)).append (zcV.refl R))
    · refine ⟨L0++[y]++x::R,Lp.done ?_, ?_,zcV.refl _⟩
      · unfold zxB;simp only [hgt,cond_true,i1,Zs,em,i2 x];rw [zka hc x y (λb=>cond b _ _),decide_eq_false hk,cond_false];simp
      · unfold zfr at *
        rw [List.append_assoc] at hs ⊢;rw [List.pairwise_append] at hs ⊢;obtain ⟨p1,p2,p3⟩:=hs;have p2':=List.pairwise_cons.1 (show List.Pairwise (λa b=>key a<=key b) (y::R) from p2);refine ⟨p1,List.pairwise_cons.2 ⟨λz hz=>?_,List.pairwise_cons.2 ⟨λr h=>by have:=hr r h; omega,p2'.2⟩⟩,λa ha z hz=>?_⟩
        · rcases List.mem_cons.1 hz with rfl | hz
          · omega
          · exact p2'.1 z hz
        · have hy:=p3 a ha y (by simp);have hz':z=y\/z=x\/z∈R:=by simpa using hz
          rcases hz' with rfl | rfl | h
          · exact hy
          · omega
          · exact p3 a ha z (by simp [h])
theorem zvt (P B S:List Trip) (hl:(P++B++S).length<1000000000000):∃ M,zy (P++B++S) P.length ((P.length+B.length:Nat):Int) cmp=some (P++M++S)/\zfr key M/\zcV key B M:=by
  unfold zy;have key2:∀ (B2 B1:List Trip),zfr key B1->B1++B2≠[]->(P++B1++B2++S).length<1000000000000->B1.length+B2.length=B.length ->
      ∃ M,Lp (λs95:Int×List Trip=>
cond (decide (s95.1<((P.length+B.length:Nat):Int))) (Zb (iter (zxB P.length cmp) big (s95.1,s95.2)) λt142=>
some (.inl ((w64 (s95.1+1)),t142))) (some (.inr s95.2))) B2.length (((P.length+B1.length:Nat):Int),P++B1++B2++S) (P++M++S)/\zfr key M/\zcV key (B1++B2) M:=by
    intro B2;induction B2 with
    | nil=>
      intro B1 hs _ hlen he;refine ⟨B1,Lp.done ?_,hs,by rw [List.append_nil]; exact zcV.refl _⟩;have:B1.length=B.length:=by simpa using he
      rw [this];simp
    | cons x B2 ih=>
      intro B1 hs _ hlen he;have hl2:=hlen;simp only [List.length_append,List.length_cons] at hl2 he;obtain ⟨M1,h1,h2,h3⟩:=zuN hc P (B2++S) x B1.length B1 [] rfl (by simpa using hs) (by simp) (by simp only [List.length_append,List.length_cons,List.length_nil]; omega);have hM1:M1.length=B1.length+1:=by rw [h3.len]; simp
      obtain ⟨M,h4,h5,h6⟩:=ih M1 h2 (by intro e; rw [(List.append_eq_nil_iff.1 e).1] at hM1; simp at hM1) (by simp only [List.length_append]; omega) (by omega);refine ⟨M,Lp.step ?_ h4,h5, ?_⟩
      · have e1:P++B1++x::B2++S=P++B1++[x]++(B2++S):=by simp
        simp only [decide_eq_true (show ((P.length+B1.length:Nat):Int)<((P.length+B.length:Nat):Int) by omega),cond_true,e1,h1.big (show B1.length<big by simp only [big]; omega),Zs];rw [zB (by omega),show P.length+B1.length+1=P.length+M1.length by omega];simp
      · have e2:B1++x::B2=(B1++[x])++B2:=by simp
        rw [e2];exact (h3.append (zcV.refl B2)).trans h6
  cases B with
  | nil=>
    refine ⟨[], ?_,List.Pairwise.nil,zcV.refl _⟩;have hl2:=hl;simp only [List.length_append] at hl2;have hL:Lp (λs95:Int×List Trip=>
cond (decide (s95.1<((P.length+([]:List Trip).length:Nat):Int))) (Zb (iter (zxB P.length cmp) big (s95.1,s95.2)) λt142=>
some (.inl ((w64 (s95.1+1)),t142))) (some (.inr s95.2))) 0 (w64 ((P.length:Int)+1),P++[]++S) (P++[]++S):=Lp.done (by
      rw [ze (by omega) (by omega)];simp only [List.length_nil,Nat.add_zero,decide_eq_false (show ¬ (P.length:Int)+1<(P.length:Int) by omega),cond_false])
    exact congrArg (λo=>Zb o λt144=>some t144) (hL.big (by simp only [big]; omega))
  | cons x B=>
    have hl2:=hl;simp only [List.length_append,List.length_cons] at hl2;obtain ⟨M,h1,h2,h3⟩:=key2 B [x] (List.pairwise_singleton _ _) (by simp) (by simp only [List.length_append,List.length_cons,List.length_nil]; omega) (by simp; omega);refine ⟨M, ?_,h2,h3⟩;have e1:P++[x]++B++S=P++x::B++S:=by simp
    have e2:w64 ((P.length:Int)+1)=((P.length+[x].length:Nat):Int):=zB (by omega);rw [e1,← e2] at h1;exact congrArg (λo=>Zb o λt144=>some t144) (h1.big (by simp only [big]; omega))
end
end Go.Ai.Sx
/- Sorting: merging two neighboring blocks. -/
namespace Go.Ai.Sx
open Option renaming bind->Zb,bind_some->Zs
def zAg (rec:(List Trip)->Int->Int->Int->((Trip×Trip)->Option (Int))->Option (List Trip)) (p_0:(List Trip)) (p_1:Int) (p_2:Int) (p_3:Int) (p_4:((Trip×Trip)->Option (Int))) (x_:Int) (t_:Int):Option (List Trip):=Zb (cond (decide (t_<p_2)) (some (decide (p_2<(w64 ((w64 ((x_)+p_2))-t_))))) (some false)) λc92=>
cond (c92) (Zb (zJ p_0 t_ p_2 (w64 ((w64 ((x_)+p_2))-t_)) p_4) λy95=>
Zb (cond (decide (p_1<t_)) (some (decide (t_<(x_)))) (some false)) λc98=>
cond (c98) (Zb (rec y95 p_1 t_ (x_) p_4) λy101=>
Zb (cond (decide ((x_)<(w64 ((w64 ((x_)+p_2))-t_)))) (some (decide ((w64 ((w64 ((x_)+p_2))-t_))<p_3))) (some false)) λc104=>
cond (c104) (Zb (rec y101 (x_) (w64 ((w64 ((x_)+p_2))-t_)) p_3 p_4) λy107=>
some y107) (some y101)) (Zb (cond (decide ((x_)<(w64 ((w64 ((x_)+p_2))-t_)))) (some (decide ((w64 ((w64 ((x_)+p_2))-t_))<p_3))) (some false)) λc110=>
cond (c110) (Zb (rec y95 (x_) (w64 ((w64 ((x_)+p_2))-t_)) p_3 p_4) λy113=>
some y113) (some y95))) (Zb (cond (decide (p_1<t_)) (some (decide (t_<(x_)))) (some false)) λc116=>
cond (c116) (Zb (rec p_0 p_1 t_ (x_) p_4) λy119=>
Zb (cond (decide ((x_)<(w64 ((w64 ((x_)+p_2))-t_)))) (some (decide ((w64 ((w64 ((x_)+p_2))-t_))<p_3))) (some false)) λc122=>
cond (c122) (Zb (rec y119 (x_) (w64 ((w64 ((x_)+p_2))-t_)) p_3 p_4) λy125=>
some y125) (some y119)) (Zb (cond (decide ((x_)<(w64 ((w64 ((x_)+p_2))-t_)))) (some (decide ((w64 ((w64 ((x_)+p_2))-t_))<p_3))) (some false)) λc128=>
cond (c128) (Zb (rec p_0 (x_) (w64 ((w64 ((x_)+p_2))-t_)) p_3 p_4) λy131=>
some y131) (some p_0)))
theorem zje {a b:Nat} (h:a+b<2000000000000):ziK .u64 (IntKind.u64.wrap (w64 ((a:Int)+(b:Int)))) 1=some (((a+b)/2:Nat):Int)/\w64 (((a+b)/2:Nat):Int)=(((a+b)/2:Nat):Int):=by
 have e1:w64 ((a:Int)+b)=((a+b:Nat):Int):=by rw [ze (by omega) (by omega)]; omega
 have e2:IntKind.u64.wrap ((a+b:Nat):Int)=((a+b:Nat):Int):=by simp only [IntKind.wrap,IntKind.bits,IntKind.signed]; simp; omega
 rw [e1,e2];unfold ziK;rw [if_pos (by omega)];refine ⟨?_,ze (by omega) (by omega)⟩;congr 1;simp [IntKind.bits];rw [Int.fdiv_eq_ediv_of_nonneg _ (by omega)]
theorem zmd {F:(Int×Int)->Option ((Int×Int)⊕Int)} {q:Nat->Bool} {lo hi:Nat} (hlh:lo<=hi) (hh:hi<1000000000000)
    (hf:∀ i j:Nat,lo<=i->i<j->j<=hi->F ((i:Int),(j:Int))=some (.inl (if q ((i+j)/2) then ((((i+j)/2+1:Nat):Int),(j:Int)) else ((i:Int),(((i+j)/2:Nat):Int)))))
    (he:∀ i:Nat,F ((i:Int),(i:Int))=some (.inr (i:Int))):∃ r:Nat,iter F big ((lo:Int),(hi:Int))=some (r:Int)/\lo<=r/\r<=hi/\(r=lo\/q (r-1)=true)/\(r=hi\/q r=false):=by
  have key:∀ (n i j:Nat),j-i<=n->lo<=i->i<=j->j<=hi->(i=lo\/q (i-1)=true)->(j=hi\/q j=false)->∃ r:Nat,Lp F n ((i:Int),(j:Int)) (r:Int)/\lo<=r/\r<=hi/\(r=lo\/q (r-1)=true)/\(r=hi\/q r=false):=by
    intro n;induction n with
    | zero=>
      intro i j h1 h2 h3 h4 h5 h6;have:i=j:=by omega
      subst this;exact ⟨i,Lp.done (he i),h2,h4,h5,h6⟩
    | succ n ih=>
      intro i j h1 h2 h3 h4 h5 h6;by_cases hij:i=j
      · subst hij;exact ⟨i,Lp.done (he i),h2,h4,h5,h6⟩
      · have hs:=hf i j h2 (by omega) h4;cases hq:q ((i+j)/2) with
        | true=>
          rw [hq,if_pos rfl] at hs;obtain ⟨r,h7,h8⟩:=ih ((i+j)/2+1) j (by omega) (by omega) (by omega) h4 (.inr (by simpa using hq)) h6;exact ⟨r,Lp.step hs h7,h8⟩
        | false=>
          rw [hq] at hs;simp only [Bool.false_eq_true,if_false] at hs;obtain ⟨r,h7,h8⟩:=ih i ((i+j)/2) (by omega) h2 (by omega) (by omega) h5 (.inr hq);exact ⟨r,Lp.step hs h7,h8⟩
  obtain ⟨r,h1,h2⟩:=key (hi-lo) lo hi (Nat.le_refl _) (Nat.le_refl _) hlh (Nat.le_refl _) (.inl rfl) (.inl rfl);exact ⟨r,h1.big (by simp only [big]; omega),h2⟩
section
variable {cmp:(Trip×Trip)->Option Int} {key:Trip->Int}
def zsw (key:Trip->Int) (cmp:(Trip×Trip)->Option Int) (n:Nat) (rec:(List Trip)->Int->Int->Int->((Trip×Trip)->Option (Int))->Option (List Trip)):Prop:=
 ∀ A B P S:List Trip,A≠[]->B≠[]->A.length+B.length<=n->zfr key A->zfr key B->(P++A++B++S).length<1000000000000->∃ M,rec (P++A++B++S) P.length ((P.length+A.length:Nat):Int) ((P.length+A.length+B.length:Nat):Int) cmp=some (P++M++S)/\zfr key M/\zcV key (A++B) M
theorem zgk {A B:List Trip}:zfr key (A++B)↔zfr key A/\zfr key B/\∀ a∈A,∀ b∈B,key a<=key b:=List.pairwise_append
theorem zxi {n:Nat} {rec:(List Trip)->Int->Int->Int->((Trip×Trip)->Option (Int))->Option (List Trip)} (hr:zsw key cmp n rec) (P A1 V U B2 S:List Trip)
    (hn1:A1.length+V.length<=n) (hn2:U.length+B2.length<=n) (hl:(P++A1++V++U++B2++S).length<1000000000000) (s1:zfr key A1) (s2:zfr key V) (s3:zfr key U) (s4:zfr key B2) :
    ∃ M1 M2,zfr key M1/\zfr key M2/\zcV key (A1++V) M1/\zcV key (U++B2) M2 /\
      (Zb (cond (decide ((P.length:Int)<((P.length+A1.length:Nat):Int))) (some (decide (((P.length+A1.length:Nat):Int)<((P.length+A1.length+V.length:Nat):Int)))) (some false)) λc98=>
cond (c98) (Zb (rec (P++A1++V++U++B2++S) P.length ((P.length+A1.length:Nat):Int) ((P.length+A1.length+V.length:Nat):Int) cmp) λy101=>
Zb (cond (decide (((P.length+A1.length+V.length:Nat):Int)<((P.length+A1.length+V.length+U.length:Nat):Int))) (some (decide (((P.length+A1.length+V.length+U.length:Nat):Int)<((P.length+A1.length+V.length+U.length+B2.length:Nat):Int)))) (some false)) λc104=>
cond (c104) (Zb (rec y101 ((P.length+A1.length+V.length:Nat):Int) ((P.length+A1.length+V.length+U.length:Nat):Int) ((P.length+A1.length+V.length+U.length+B2.length:Nat):Int) cmp) λy107=>
some y107) (some y101)) (Zb (cond (decide (((P.length+A1.length+V.length:Nat):Int)<((P.length+A1.length+V.length+U.length:Nat):Int))) (some (decide (((P.length+A1.length+V.length+U.length:Nat):Int)<((P.length+A1.length+V.length+U.length+B2.length:Nat):Int)))) (some false)) λc110=>
cond (c110) (Zb (rec (P++A1++V++U++B2++S) ((P.length+A1.length+V.length:Nat):Int) ((P.length+A1.length+V.length+U.length:Nat):Int) ((P.length+A1.length+V.length+U.length+B2.length:Nat):Int) cmp) λy113=>
some y113) (some (P++A1++V++U++B2++S))))=some (P++M1++M2++S):=by
  have hl2:=hl;simp only [List.length_append] at hl2
  -- the left one
  have left:∃ M1,zfr key M1/\zcV key (A1++V) M1/\(if 0<A1.length/\0<V.length then rec (P++A1++V++U++B2++S) P.length ((P.length+A1.length:Nat):Int) ((P.length+A1.length+V.length:Nat):Int) cmp=some (P++M1++U++B2++S) else M1=A1++V):=by
    by_cases h:0<A1.length/\0<V.length
    · obtain ⟨M,h1,h2,h3⟩:=hr A1 V P (U++B2++S) (List.length_pos_iff.1 h.1) (List.length_pos_iff.1 h.2) hn1 s1 s2 (by simp only [List.length_append]; omega);refine ⟨M,h2,h3, ?_⟩;rw [if_pos h];have e1:P++A1++V++U++B2++S=P++A1++V++(U++B2++S):=by simp
      rw [e1,h1]; simp
    · refine ⟨A1++V, ?_,zcV.refl _,by rw [if_neg h]⟩;by_cases ha:A1=[]
      · subst ha; simpa using s2
      · have hv:V=[]:=List.length_eq_zero_iff.1 (by have:=List.length_pos_iff.2 ha; omega);subst hv; simpa using s1
  obtain ⟨M1,m1,m2,m3⟩:=left;have hM1:M1.length=A1.length+V.length:=by rw [m2.len]; simp
  have right:∃ M2,zfr key M2/\zcV key (U++B2) M2/\(if 0<U.length/\0<B2.length then rec (P++M1++U++B2++S) ((P.length+A1.length+V.length:Nat):Int) ((P.length+A1.length+V.length+U.length:Nat):Int) ((P.length+A1.length+V.length+U.length+B2.length:Nat):Int) cmp=some (P++M1++M2++S) else M2=U++B2):=by
    by_cases h:0<U.length/\0<B2.length
    · obtain ⟨M,h1,h2,h3⟩:=hr U B2 (P++M1) S (List.length_pos_iff.1 h.1) (List.length_pos_iff.1 h.2) hn2 s3 s4 (by simp only [List.length_append]; omega);refine ⟨M,h2,h3, ?_⟩;rw [if_pos h];rw [List.length_append,hM1,show P.length+(A1.length+V.length)=P.length+A1.length+V.length by omega] at h1;exact h1
    · refine ⟨U++B2, ?_,zcV.refl _,by rw [if_neg h]⟩;by_cases ha:U=[]
      · subst ha; simpa using s4
      · have hv:B2=[]:=List.length_eq_zero_iff.1 (by have:=List.length_pos_iff.2 ha; omega);subst hv; simpa using s3
  obtain ⟨M2,m4,m5,m6⟩:=right;refine ⟨M1,M2,m1,m4,m2,m5, ?_⟩;have c1:(cond (decide ((P.length:Int)<((P.length+A1.length:Nat):Int))) (some (decide (((P.length+A1.length:Nat):Int)<((P.length+A1.length+V.length:Nat):Int)))) (some false):Option Bool)=some (decide (0<A1.length/\0<V.length)):=by
    by_cases h1:0<A1.length
    · rw [decide_eq_true (by omega),cond_true];congr 1;exact decide_eq_decide.2 ⟨λh=>⟨h1,by omega⟩,λh=>by omega⟩
    · rw [decide_eq_false (by omega),cond_false,decide_eq_false (by omega)]
  have c2:(cond (decide (((P.length+A1.length+V.length:Nat):Int)<((P.length+A1.length+V.length+U.length:Nat):Int))) (some (decide (((P.length+A1.length+V.length+U.length:Nat):Int)<((P.length+A1.length+V.length+U.length+B2.length:Nat):Int)))) (some false):Option Bool)=some (decide (0<U.length/\0<B2.length)):=by
    by_cases h1:0<U.length
    · rw [decide_eq_true (by omega),cond_true];congr 1;exact decide_eq_decide.2 ⟨λh=>⟨h1,by omega⟩,λh=>by omega⟩
    · rw [decide_eq_false (by omega),cond_false,decide_eq_false (by omega)]
  rw [c1,Zs];simp only [c2,Zs];by_cases h1:0<A1.length/\0<V.length
  · rw [if_pos h1] at m3;rw [decide_eq_true h1,cond_true,m3,Zs];by_cases h2:0<U.length/\0<B2.length
    · rw [if_pos h2] at m6;rw [decide_eq_true h2,cond_true,m6,Zs]
    · rw [if_neg h2] at m6;rw [decide_eq_false h2,cond_false,m6]; simp
  · rw [if_neg h1] at m3;rw [decide_eq_false h1,cond_false];have e1:P++A1++V++U++B2++S=P++M1++U++B2++S:=by rw [m3]; simp
    rw [e1];by_cases h2:0<U.length/\0<B2.length
    · rw [if_pos h2] at m6;rw [decide_eq_true h2,cond_true,m6,Zs]
    · rw [if_neg h2] at m6;rw [decide_eq_false h2,cond_false,m6]; simp
theorem zxj {n:Nat} {rec:(List Trip)->Int->Int->Int->((Trip×Trip)->Option (Int))->Option (List Trip)} (hr:zsw key cmp n rec) (P A1 U V B2 S:List Trip)
 (hn1:A1.length+V.length<=n) (hn2:U.length+B2.length<=n) (hl:(P++A1++U++V++B2++S).length<1000000000000) (sA:zfr key (A1++U)) (sB:zfr key (V++B2))
 (h1:∀ u∈U,∀ v∈V,key v<key u) (h2:∀ a∈A1,∀ b∈B2,key a<=key b) :
 ∃ M,zAg rec (P++A1++U++V++B2++S) P.length ((P.length+A1.length+U.length:Nat):Int) ((P.length+A1.length+U.length+V.length+B2.length:Nat):Int) cmp ((P.length+A1.length+V.length:Nat):Int) ((P.length+A1.length:Nat):Int)=some (P++M++S)/\zfr key M/\zcV key (A1++U++(V++B2)) M:=by
 have hl2:=hl;simp only [List.length_append] at hl2;obtain ⟨a1,a2,a3⟩:=zgk.1 sA;obtain ⟨b1,b2,b3⟩:=zgk.1 sB;obtain ⟨M1,M2,m1,m2,m3,m4,m5⟩:=zxi hr P A1 V U B2 S hn1 hn2 (by simp only [List.length_append]; omega) a1 b1 a2 b2;refine ⟨M1++M2, ?_,zgk.2 ⟨m1,m2,λx hx y hy=>?_⟩, ?_⟩
 . have eE:w64 (w64 (((P.length+A1.length+V.length:Nat):Int)+((P.length+A1.length+U.length:Nat):Int))-((P.length+A1.length:Nat):Int))=((P.length+A1.length+V.length+U.length:Nat):Int):=by
    rw [ze (n:=((P.length+A1.length+V.length:Nat):Int)+_) (by omega) (by omega),ze (by omega) (by omega)]; omega
   have eB:P.length+A1.length+U.length+V.length+B2.length=P.length+A1.length+V.length+U.length+B2.length:=by omega
   unfold zAg;rw [eE,eB];have c0:(cond (decide (((P.length+A1.length:Nat):Int)<((P.length+A1.length+U.length:Nat):Int))) (some (decide (((P.length+A1.length+U.length:Nat):Int)<((P.length+A1.length+V.length+U.length:Nat):Int)))) (some false):Option Bool)=some (decide (0<U.length/\0<V.length)):=by
    by_cases h1:0<U.length
    . rw [decide_eq_true (by omega),cond_true];congr 1;exact decide_eq_decide.2 ⟨λh=>⟨h1,by omega⟩,λh=>by omega⟩
    . rw [decide_eq_false (by omega),cond_false,decide_eq_false (by omega)]
   rw [c0,Zs];by_cases hc:0<U.length/\0<V.length
   . have hrot:=zyP (cmp:=cmp) (P++A1) U V (B2++S) (by simp only [List.length_append]; omega) (List.length_pos_iff.1 hc.1) (List.length_pos_iff.1 hc.2);have e1:P++A1++U++V++B2++S=P++A1++U++V++(B2++S):=by simp
     have e2:P++A1++V++U++(B2++S)=P++A1++V++U++B2++S:=by simp
     rw [List.length_append,← e1,e2,show P.length+A1.length+U.length+V.length=P.length+A1.length+V.length+U.length by omega] at hrot;rw [decide_eq_true hc,cond_true,hrot,Zs];refine m5.trans ?_;simp
   . have e1:P++A1++U++V++B2++S=P++A1++V++U++B2++S:=by
      by_cases hu:U=[]
      . subst hu; simp
      . have hv:V=[]:=List.length_eq_zero_iff.1 (by have:=List.length_pos_iff.2 hu; omega);subst hv; simp
     rw [decide_eq_false hc,cond_false,e1];refine m5.trans ?_;simp
 . have hx':=List.mem_append.1 ((m3.mem).1 hx);have hy':=List.mem_append.1 ((m4.mem).1 hy);rcases hx' with hx' | hx'<;>rcases hy' with hy' | hy'
   . exact a3 x hx' y hy'
   . exact h2 x hx' y hy'
   . have:=h1 y hy' x hx'; omega
   . exact b3 x hx' y hy'
 . have e1:A1++U++(V++B2)=A1++((U++V)++B2):=by simp
   have e2:zcV key (A1++((U++V)++B2)) (A1++((V++U)++B2)):=(zcV.refl A1).append ((zcV.swap h1).append (zcV.refl B2));have e3:A1++((V++U)++B2)=(A1++V)++(U++B2):=by simp
   rw [e1];rw [e3] at e2;exact e2.trans (m3.append m4)
end
end Go.Ai.Sx
/- Sorting: merging,whole. -/
namespace Go.Ai.Sx
open Option renaming bind->Zb,bind_some->Zs
def E0:Trip:=(0,false,0,0,())
theorem zuO {P A B S:List Trip} {i:Nat} (h:i<A.length):idx (P++A++B++S) ((P.length+i:Nat):Int)=some (A.getD i E0):=by
 rw [zev,List.append_assoc,List.append_assoc,List.getElem?_append_right (by omega),Nat.add_sub_cancel_left,List.getElem?_append_left h];simp [List.getD,h]
theorem zxk {P A B S:List Trip} {i:Nat} (h:i<B.length):idx (P++A++B++S) ((P.length+A.length+i:Nat):Int)=some (B.getD i E0):=by
 have e:P++A++B++S=(P++A)++B++[]++S:=by simp
 have hl:P.length+A.length=(P++A).length:=by simp
 rw [e,hl];have:=zuO (P:=P++A) (A:=B) (B:=[]) (S:=S) h;exact this
theorem zgO {key:Trip->Int} {A:List Trip} (hs:zfr key A) {i j:Nat} (h:i<=j) (hj:j<A.length):key (A.getD i E0)<=key (A.getD j E0):=by
 by_cases e:i=j
 . subst e; omega
 . have:=List.pairwise_iff_getElem.1 hs i j (by omega) hj (by omega);simpa [List.getD,hj,show i<A.length by omega] using this
theorem zpv {A:List Trip} {i:Nat} {x:Trip} (h:x∈A.take i):∃ j,j<i/\j<A.length/\x=A.getD j E0:=by
 obtain ⟨j,hj,rfl⟩:=List.getElem_of_mem h;have hj2:=hj;rw [List.length_take] at hj2;refine ⟨j,by omega,by omega, ?_⟩;simp [List.getD,show j<A.length by omega]
theorem zpw {A:List Trip} {i:Nat} {x:Trip} (h:x∈A.drop i):∃ j,i<=j/\j<A.length/\x=A.getD j E0:=by
 obtain ⟨j,hj,rfl⟩:=List.getElem_of_mem h;have hj2:=hj;rw [List.length_drop] at hj2;refine ⟨i+j,by omega,by omega, ?_⟩;simp [List.getD,show i+j<A.length by omega]
section
variable {cmp:(Trip×Trip)->Option Int} {key:Trip->Int} (hc:∀ x y,∃ v,cmp (x,y)=some v/\(v<0↔key x<key y))
include hc
theorem zvu {P A B S:List Trip} {lo hi mid:Nat} (hl:(P++A++B++S).length<1000000000000) (hlo:P.length<=lo) (hlh:lo<=hi) (hhi:hi<=P.length+A.length)
    (hq1:∀ c,lo<=c->c<hi->P.length+A.length<=mid+(P.length+A.length)-1-c/\mid+(P.length+A.length)-1-c<P.length+A.length+B.length) (hmid:mid<=P.length+A.length+B.length) :
    ∃ r:Nat,iter (σ:=(Int×Int)) (τ:=(Int)) ((λs139=>
cond (decide (s139.1<s139.2)) (Zb (ziK .u64 (IntKind.u64.wrap (w64 (s139.1+s139.2))) 1) λx142=>
Zb (idx (P++A++B++S) (w64 ((w64 ((w64 ((mid:Int)+((P.length+A.length:Nat):Int)))-1))-(w64 x142)))) λx143=>
Zb (idx (P++A++B++S) (w64 x142)) λx144=>
Zb (cmp (x143,x144)) λy145=>
cond (!(decide (y145<0))) (some (.inl ((w64 ((w64 x142)+1)),s139.2))) (some (.inl (s139.1,(w64 x142))))) (some (.inr s139.1))):(Int×Int)->Option ((Int×Int)⊕Int)) big ((lo:Int),(hi:Int))=some (r:Int)/\lo<=r/\r<=hi /\
      (r=lo\/key (A.getD (r-1-P.length) E0)<=key (B.getD (mid+(P.length+A.length)-r-(P.length+A.length)) E0))/\(r=hi\/key (B.getD (mid+(P.length+A.length)-1-r-(P.length+A.length)) E0)<key (A.getD (r-P.length) E0)):=by
  have hl2:=hl;simp only [List.length_append] at hl2;obtain ⟨r,h1,h2,h3,h4,h5⟩:=zmd (F:=(λs139=>
cond (decide (s139.1<s139.2)) (Zb (ziK .u64 (IntKind.u64.wrap (w64 (s139.1+s139.2))) 1) λx142=>
Zb (idx (P++A++B++S) (w64 ((w64 ((w64 ((mid:Int)+((P.length+A.length:Nat):Int)))-1))-(w64 x142)))) λx143=>
Zb (idx (P++A++B++S) (w64 x142)) λx144=>
Zb (cmp (x143,x144)) λy145=>
cond (!(decide (y145<0))) (some (.inl ((w64 ((w64 x142)+1)),s139.2))) (some (.inl (s139.1,(w64 x142))))) (some (.inr s139.1)))) (q:=λc=>!decide (key (B.getD (mid+(P.length+A.length)-1-c-(P.length+A.length)) E0)<key (A.getD (c-P.length) E0))) (lo:=lo) (hi:=hi) hlh (by omega) (λi j hi1 hij hj=>by
      obtain ⟨e1,e2⟩:=zje (a:=i) (b:=j) (by omega);obtain ⟨g1,g2⟩:=hq1 ((i+j)/2) (by omega) (by omega);simp only [];rw [decide_eq_true (by omega),cond_true,e1,Zs,e2];have e3:w64 (w64 (w64 ((mid:Int)+((P.length+A.length:Nat):Int))-1)-(((i+j)/2:Nat):Int))=((P.length+A.length+(mid+(P.length+A.length)-1-(i+j)/2-(P.length+A.length)):Nat):Int):=by
        rw [ze (n:=(mid:Int)+_) (by omega) (by omega),ze (n:=(mid:Int)+_-1) (by omega) (by omega),ze (by omega) (by omega)]; omega
      rw [e3,zxk (by omega),Zs];have e4:(((i+j)/2:Nat):Int)=((P.length+((i+j)/2-P.length):Nat):Int):=by omega
      rw [e4,zuO (by omega),Zs,zka hc _ _ (λb=>cond (!b) _ _),← e4];rw [zB (by omega)];cases decide (key (B.getD (mid+(P.length+A.length)-1-(i+j)/2-(P.length+A.length)) E0)<key (A.getD ((i+j)/2-P.length) E0))<;>rfl)
    (λi=>by simp only [decide_eq_false (show ¬ (i:Int)<i by omega),cond_false])
  refine ⟨r,h1,h2,h3, ?_, ?_⟩
  · rcases h4 with h | h
    · exact .inl h
    · by_cases e:r=lo
      · exact .inl e
      · right;simp only [Bool.not_eq_true',decide_eq_false_iff_not] at h;rw [show mid+(P.length+A.length)-1-(r-1)-(P.length+A.length)=mid+(P.length+A.length)-r-(P.length+A.length) by omega] at h;omega
  · rcases h5 with h | h
    · exact .inl h
    · right;simpa using h
end
end Go.Ai.Sx
/- Sorting: merging,the general case. -/
namespace Go.Ai.Sx
open Option renaming bind->Zb,bind_some->Zs
section
variable {cmp:(Trip×Trip)->Option Int} {key:Trip->Int}
theorem zsx {n:Nat} {rec:(List Trip)->Int->Int->Int->((Trip×Trip)->Option (Int))->Option (List Trip)} (hr:zsw key cmp n rec) {P A B S:List Trip} {r mid:Nat} (hA:zfr key A) (hB:zfr key B) (hl:(P++A++B++S).length<1000000000000)
 (r1:P.length<=r) (r2:r<=P.length+A.length) (r3:r<=mid) (r4:mid-r<=B.length) (m1:mid-P.length<=n) (m2:P.length+A.length+B.length-mid<=n)
 (q1:r=P.length\/mid-r=B.length\/key (A.getD (r-1-P.length) E0)<=key (B.getD (mid-r) E0)) (q2:r=P.length+A.length\/mid=r\/key (B.getD (mid-1-r) E0)<key (A.getD (r-P.length) E0)) :
 ∃ M,zAg rec (P++A++B++S) P.length ((P.length+A.length:Nat):Int) ((P.length+A.length+B.length:Nat):Int) cmp (mid:Int) (r:Int)=some (P++M++S)/\zfr key M/\zcV key (A++B) M:=by
 have hl2:=hl;simp only [List.length_append] at hl2;have eA:A.take (r-P.length)++A.drop (r-P.length)=A:=List.take_append_drop _ _;have eB:B.take (mid-r)++B.drop (mid-r)=B:=List.take_append_drop _ _;have lA1:(A.take (r-P.length)).length=r-P.length:=by rw [List.length_take]; omega
 have lU:(A.drop (r-P.length)).length=A.length-(r-P.length):=List.length_drop;have lV:(B.take (mid-r)).length=mid-r:=by rw [List.length_take]; omega
 have lB2:(B.drop (mid-r)).length=B.length-(mid-r):=List.length_drop;obtain ⟨M,h1,h2,h3⟩:=zxj hr P (A.take (r-P.length)) (A.drop (r-P.length)) (B.take (mid-r)) (B.drop (mid-r)) S (by omega) (by omega) (by simp only [List.length_append]; omega) (by rw [eA]; exact hA) (by rw [eB]; exact hB)
  (λu hu v hv=>by
   obtain ⟨j,j1,j2,rfl⟩:=zpw hu;obtain ⟨i,i1,i2,rfl⟩:=zpv hv;have a1:=zgO hA (i:=r-P.length) (j:=j) j1 j2;have a2:=zgO hB (i:=i) (j:=mid-1-r) (by omega) (by omega);rcases q2 with h | h | h<;>omega)
  (λx hx y hy=>by
   obtain ⟨j,j1,j2,rfl⟩:=zpv hx;obtain ⟨i,i1,i2,rfl⟩:=zpw hy;have a1:=zgO hA (i:=j) (j:=r-1-P.length) (by omega) (by omega);have a2:=zgO hB (i:=mid-r) (j:=i) i1 i2;rcases q1 with h | h | h<;>omega)
 have eL:P++A.take (r-P.length)++A.drop (r-P.length)++B.take (mid-r)++B.drop (mid-r)++S=P++A++B++S:=by
  rw [List.append_assoc P,eA,List.append_assoc (P++A),eB]
 rw [eL,lA1,lU,lV,lB2,show P.length+(r-P.length)=r by omega,show r+(A.length-(r-P.length))=P.length+A.length by omega,show P.length+A.length+(mid-r)+(B.length-(mid-r))=P.length+A.length+B.length by omega,show r+(mid-r)=mid by omega] at h1;rw [eA,eB] at h3;exact ⟨M,h1,h2,h3⟩
end
section
variable {cmp:(Trip×Trip)->Option Int} {key:Trip->Int} (hc:∀ x y,∃ v,cmp (x,y)=some v/\(v<0↔key x<key y))
include hc
theorem zxl {n:Nat} {rec:(List Trip)->Int->Int->Int->((Trip×Trip)->Option (Int))->Option (List Trip)} (hr:zsw key cmp n rec) {P A B S:List Trip} (hA:zfr key A) (hB:zfr key B) (hl:(P++A++B++S).length<1000000000000) (la:2<=A.length) (lb:2<=B.length) (hn:A.length+B.length<=n+1) :
 ∃ M,zk rec (P++A++B++S) P.length ((P.length+A.length:Nat):Int) ((P.length+A.length+B.length:Nat):Int) cmp=some (P++M++S)/\zfr key M/\zcV key (A++B) M:=by
 have hl2:=hl;simp only [List.length_append] at hl2;have w1:(w64 (((P.length+A.length:Nat):Int)-(P.length:Int))==1)=false:=by rw [ze (by omega) (by omega)]; simp; omega
 have w2:(w64 (((P.length+A.length+B.length:Nat):Int)-((P.length+A.length:Nat):Int))==1)=false:=by rw [ze (by omega) (by omega)]; simp; omega
 obtain ⟨e1,e2⟩:=zje (a:=P.length) (b:=P.length+A.length+B.length) (by omega);obtain ⟨mid,hmid⟩:∃ mid,(P.length+(P.length+A.length+B.length))/2=mid:=⟨_,rfl⟩;rw [hmid] at e1 e2;unfold zk;rw [w1,w2,cond_false,cond_false,e1,Zs,e2];by_cases hm:P.length+A.length>mid
 . rw [decide_eq_true (show ((P.length+A.length:Nat):Int)>(mid:Int) by omega),cond_true];have elo:w64 (w64 ((mid:Int)+((P.length+A.length:Nat):Int))-((P.length+A.length+B.length:Nat):Int))=((mid-B.length:Nat):Int):=by
    rw [ze (n:=(mid:Int)+_) (by omega) (by omega),ze (by omega) (by omega)]; omega
   rw [elo];obtain ⟨r,h1,h2,h3,h4,h5⟩:=zvu hc (P:=P) (A:=A) (B:=B) (S:=S) (lo:=mid-B.length) (hi:=mid) (mid:=mid) hl (by omega) (by omega) (by omega) (λc _ _=>by omega) (by omega);rw [h1,Zs];refine zsx hr (r:=r) (mid:=mid) hA hB hl (by omega) (by omega) h3 (by omega) (by omega) (by omega) ?_ ?_
   . rcases h4 with h | h
     . right; left; omega
     . right; right;rw [show mid+(P.length+A.length)-r-(P.length+A.length)=mid-r by omega] at h;exact h
   . rcases h5 with h | h
     . right; left; exact h.symm
     . right; right;rw [show mid+(P.length+A.length)-1-r-(P.length+A.length)=mid-1-r by omega] at h;exact h
 . rw [decide_eq_false (show ¬ ((P.length+A.length:Nat):Int)>(mid:Int) by omega),cond_false];obtain ⟨r,h1,h2,h3,h4,h5⟩:=zvu hc (P:=P) (A:=A) (B:=B) (S:=S) (lo:=P.length) (hi:=P.length+A.length) (mid:=mid) hl (by omega) (by omega) (by omega) (λc _ _=>by omega) (by omega);rw [h1,Zs];refine zsx hr (r:=r) (mid:=mid) hA hB hl (by omega) (by omega) (by omega) (by omega) (by omega) (by omega) ?_ ?_
   . rcases h4 with h | h
     . left; exact h
     . right; right;rw [show mid+(P.length+A.length)-r-(P.length+A.length)=mid-r by omega] at h;exact h
   . rcases h5 with h | h
     . left; exact h
     . right; right;rw [show mid+(P.length+A.length)-1-r-(P.length+A.length)=mid-1-r by omega] at h;exact h
end
end Go.Ai.Sx