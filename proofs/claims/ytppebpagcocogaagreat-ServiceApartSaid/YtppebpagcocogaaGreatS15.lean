/- Service: a course and its running times. -/
import Derived.Test.YtppebpagcocogaaGreatS14
import Derived.KernelRfl
set_option linter.unusedSimpArgs false
set_option linter.unusedVariables false
set_option linter.unusedSectionVars false
namespace Go.Ai.Sx
open Option renaming bind->Zb,bind_some->Zs
theorem zdU (n a b:Int):zl n a b=some (inB n a b):=zfl n a b
theorem zy4 (n a b:Int):zaY n a b=some (inB n a b):=zfl n a b
theorem zoQ {A:Type} {n:Nat} {f:Nat->A} {i:Nat} {v:A}:(rlN n f).set i v=rlN n fun x=>if x=i then v else f x:=by
 apply List.ext_getElem?;intro j;unfold rlN;rw [List.getElem?_set];by_cases h:i=j
 ·subst h;by_cases h2:i<n
  ·simp [h2]
  ·simp [h2]
 ·by_cases h2:j<n
  ·simp [h,h2,Ne.symm h]
  ·simp [h,h2]
theorem zen {A:Type} {n:Nat} {f g:Nat->A} (h:∀ i,i<n->f i=g i):rlN n f=rlN n g:=List.map_congr_left fun i hi=>h i (List.mem_range.1 hi)
theorem zcq {A:Type} {n:Nat} {f:Nat->A} {i:Nat} (h:i<n):idx (rlN n f) (i:Int)=some (f i):=by
 rw [zeD]; unfold rlN; simp [h]
theorem zmA {A:Type} (n:Nat) (x:A):List.replicate n x=rlN n fun _=>x:=by
 apply List.ext_getElem?;intro j;unfold rlN;rw [List.getElem?_replicate];by_cases h:j<n<;>simp [h]
def dwl (c:Course) (i:Nat):Int:=c.2.2.1.getD i 0
def stB (p:Plan) (c:Course) (i:Nat):Bool:=inB (zdD c.2.1 i) 1 (wlS p c.1)&&(decide (i=0)||!decide (zdD c.2.1 i≤zdD c.2.1 (i-1)))&&inB (dwl c i) 0 600
def znQ (c:Course):Bool:=inB (zn c.2.1) 2 60&&(decide (c.2.2.1.length=c.2.1.length)&&((dwl c 0==0)&&(dwl c (c.2.1.length-1)==0)))
def zvN (p:Plan) (c:Course):Bool:=zkA p c.1&&(znQ c&&(List.range c.2.1.length).all (stB p c))
theorem zsH (c:Course) (e:Int) (he:2≤c.2.1.length->c.2.1.length≤60->c.2.2.1.length=c.2.1.length->e=((c.2.1.length-1:Nat):Int)):(cond (!(inB (zn c.2.1) 2 60)) (some true) (cond (zn c.2.2.1 !=zn c.2.1) (some true) (Zb (idx c.2.2.1 0) fun x14=>
cond (x14 !=0) (some true) (Zb (idx c.2.2.1 e) fun x16=>
some (x16 !=0)))))=some (!znQ c):=by
 unfold znQ;cases h1:inB (zn c.2.1) 2 60 with
 | false=>rfl
 | true=>
 have h1:=zD.1 h1;rw [zm] at h1;by_cases h2:c.2.2.1.length=c.2.1.length
 ·have e1:(zn c.2.2.1 !=zn c.2.1)=false:=by rw [zm,zm,h2]; exact bne_self_eq_false _
  rw [e1,decide_eq_true h2,he (by omega) (by omega) h2];have hp:0<c.2.2.1.length:=by omega
  have i0:idx c.2.2.1 0=some (dwl c 0):=zp (l:=c.2.2.1) (i:=0) 0 hp;rw [i0,zp (l:=c.2.2.1) (i:=c.2.1.length-1) 0 (by omega)];show cond (dwl c 0 !=0) (some true) (some (dwl c (c.2.1.length-1)!=0))=_;unfold bne;cases (dwl c 0==0)<;>rfl
 ·have e1:(zn c.2.2.1 !=zn c.2.1)=true:=by
   rw [zm,zm];simp only [bne_iff_ne,ne_eq];omega
  rw [e1,decide_eq_false h2];rfl
theorem zjv {c:Course} (h:znQ c=true):(2≤c.2.1.length∧c.2.1.length≤60)∧c.2.2.1.length=c.2.1.length∧dwl c 0=0∧dwl c (c.2.1.length-1)=0:=by
 unfold znQ at h;simp only [Bool.and_eq_true,decide_eq_true_eq,beq_iff_eq] at h;obtain ⟨h1,h2,h3,h4⟩:=h;have h1:=zD.1 h1;rw [zm] at h1;exact ⟨by omega,h2,h3,h4⟩
structure zsI (p:Plan) (c:Course):Prop where
 w:zkA p c.1=true
 n:2≤c.2.1.length∧c.2.1.length≤60
 d:c.2.2.1.length=c.2.1.length
 d0:dwl c 0=0
 dn:dwl c (c.2.1.length-1)=0
 st:∀ i,i<c.2.1.length->1≤zdD c.2.1 i∧zdD c.2.1 i≤wlS p c.1
 dw:∀ i,i<c.2.1.length->0≤dwl c i∧dwl c i≤600
theorem zy5 {p:Plan} {c:Course} (h:zvN p c=true):zsI p c:=by
 unfold zvN at h;simp only [Bool.and_eq_true] at h;obtain ⟨h1,h2,h3⟩:=h;obtain ⟨a,b,c1,d⟩:=zjv h2;have hs:∀ i,i<c.2.1.length->stB p c i=true:=fun i hi=>List.all_eq_true.1 h3 i (List.mem_range.2 hi);refine ⟨h1,a,b,c1,d,fun i hi=>?_,fun i hi=>?_⟩
 ·have:=hs i hi;unfold stB at this;simp only [Bool.and_eq_true] at this;exact zD.1 this.1.1
 ·have:=hs i hi;unfold stB at this;simp only [Bool.and_eq_true] at this;exact zD.1 this.2
def zep (ms:Int):Int:=max 1 ((ms+999)/1000)
theorem zlt {ms:Int} (h:0≤ms∧ms≤3600000):1≤zep ms∧zep ms≤3600:=by unfold zep; omega
def zpM (p:Plan) (l:Line) (c:Course):Option (List Int):=
 if ze2 p c.1 l.2.2.1 l.2.2.2.1 c.2.1 then (zhl p c.1 l.2.2.1 l.2.2.2.1 c.2.1).map (fun gs=>gs.map (·.1)) else none
theorem zvO {p:Plan} {l:Line} {c:Course} {ms:List Int} (h:zpM p l c=some ms) (hb:wlS p c.1≤248000000):ms.length=c.2.1.length-1∧∀ m∈ms,0≤m∧m≤3600000:=by
 unfold zpM at h;split at h
 ·rename_i hs;cases hl:zhl p c.1 l.2.2.1 l.2.2.2.1 c.2.1 with
  | none=>rw [hl] at h; cases h
  | some gs=>
   rw [hl] at h;cases h;refine ⟨by rw [List.length_map]; exact zmz (ziM hs hb) hl,fun m hm=>?_⟩;obtain ⟨g,hg,rfl⟩:=List.mem_map.1 hm;exact zxE hl g hg
 ·cases h
theorem zA0 (p:Plan) (l:Line) (c:Course) (hw:c.1.length≤9223372036854775807) (hn:c.2.1.length≤60) (hb:wlS p c.1≤248000000):∃ e:Int,zbV p c.1 l.2.2.1 l.2.2.2.1 c.2.1=some (match zpM p l c with | some ms=>(ms,0) | none=>([],e))∧(zpM p l c=none->e≠0):=by
 unfold zpM;cases hs:ze2 p c.1 l.2.2.1 l.2.2.2.1 c.2.1 with
 | false=>exact ⟨2,zy3 hw (by omega) hs,fun _=>by omega⟩
 | true=>
  refine ⟨4, ?_,fun _=>by omega⟩;rw [zxD hs hb];cases zhl p c.1 l.2.2.1 l.2.2.2.1 c.2.1<;>rfl
theorem zAg (p:Plan) (l:Line) (c:Course) (hw:c.1.length≤9223372036854775807) (hn:c.2.1.length≤60) (hb:wlS p c.1≤248000000):zfC p c.1 l.2.2.1 l.2.2.2.1 c.2.1=some (match zpM p l c with | some ms=>(ms,true) | none=>([],false)):=by
  unfold zfC zpM;rw [zsw p c.1 l.2.2.1 l.2.2.2.1 c.2.1 hw (by omega)];cases hs:ze2 p c.1 l.2.2.1 l.2.2.2.1 c.2.1 with
  | false=>rfl
  | true=>
    have R:=ziM hs hb;simp only [Zs,Bool.not_true,cond_false,if_true];rw [zqA R];cases hl:zhl p c.1 l.2.2.1 l.2.2.2.1 c.2.1 with
    | none=>rfl
    | some gs=>
      have hlen:=zmz R hl;have hL:=zcR (f:=fun s7:List Int×Int=>
cond (decide (s7.2<(zn gs))) (Zb (idx gs s7.2) fun x10=>
Zb (zdQ 8 s7.1 ([x10.1])) fun x13=>
some (.inl (x13,(w64 (s7.2+1))))) (some (.inr s7.1))) gs (fun i b=>(b,(i:Int))) (fun _ b c=>(.inl (b++[c.1]):List Int⊕List Int)) (fun b=>b) (fun i b=>b.length=i) [] (s0:=([],0)) rfl (by omega) rfl (fun i h b hb=>by
        refine ⟨?_,fun b' hb'=>?_⟩
        · simp only [];rw [zN h,cond_true,zeD,List.getElem?_eq_getElem h,Zs,za5 (by simp; omega),Zs,zx (by omega)]
        · cases hb'; simp; omega) (fun b _=>by simp only [zO,cond_false])
      simp only [Zs];rw [hL,zfm,Zs];have:∀ (l:List Leg) (b:List Int),l.foldl (fun b c=>b++[c.1]) b=b++l.map (·.1):=by
        intro l;induction l with
        | nil=>intro b; simp
        | cons a l ih=>intro b; rw [List.foldl_cons,ih]; simp
      rw [this]; rfl
end Go.Ai.Sx

/- Service: the run of a course. -/
namespace Go.Ai.Sx
open Option renaming bind->Zb,bind_some->Zs
def zsJ (ms:List Int) (k:Nat):Int:=if k=0 then 0 else zep (ms.getD (k-1) 0)
def zdE (ms:List Int) (c:Course):Nat->Int
 | 0=>0
 | k+1=>zdE ms c k+zep (ms.getD k 0)+dwl c (k+1)
def zfF (ms:List Int) (c:Course):List Int:=rlN c.2.1.length (zdE ms c)
def zpN (ms:List Int) (c:Course):List Int:=rlN c.2.1.length (zsJ ms)
def zii (p:Plan) (l:Line) (c:Course):Option (List Int):=if zvN p c then zpM p l c else none
structure zzt (c:Course) (ms:List Int):Prop where
 n:ms.length=c.2.1.length-1
 b:∀ k,0≤ms.getD k 0∧ms.getD k 0≤3600000
theorem zoR {p:Plan} {l:Line} {c:Course} {ms:List Int} (h:zii p l c=some ms) (hb:zkA p c.1=true->wlS p c.1≤248000000):zsI p c∧zzt c ms:=by
 unfold zii at h;split at h
 ·rename_i hc;have C:=zy5 hc;obtain ⟨h1,h2⟩:=zvO h (hb C.w);refine ⟨C,h1,fun k=>?_⟩;by_cases hk:k<ms.length
  ·rw [show ms.getD k 0=ms[k] by simp [List.getD,hk]];exact h2 _ (List.getElem_mem hk)
  ·rw [show ms.getD k 0=0 by simp [List.getD,hk]]; omega
 ·cases h
section
variable {p:Plan} {l:Line} {c:Course} {ms:List Int} (C:zsI p c) (M:zzt c ms)
include C M
theorem zgb:∀ {k:Nat},k<c.2.1.length->0≤zdE ms c k∧zdE ms c k≤4200*k
 | 0,_=>by simp [zdE]
 | k+1,hk=>by
  have h1:=zgb (k:=k) (by omega);have h2:=zlt (M.b k);have h3:=C.dw (k+1) hk;simp only [zdE];omega
theorem zsK {i j:Nat} (h:i<j) (hj:j<c.2.1.length):zdE ms c i+1≤zdE ms c j:=by
 induction j with
 | zero=>omega
 | succ j ih=>
  have h2:=zlt (M.b j);have h3:=C.dw (j+1) hj;simp only [zdE];by_cases e:i=j
  ·subst e; omega
  ·have:=ih (by omega) (by omega); omega
theorem zu5:∀ (k i:Nat),i+k=c.2.1.length-1->Lp (fun s106:Int×List Int×List Int=>
cond (decide (s106.1<(zn ms))) (Zb (idx ms s106.1) fun x109=>
Zb (zcb .i64 (w64 (x109+999)) 1000) fun x110=>
Zb (idx s106.2.2 (w64 (s106.1+1))) fun x111=>
Zb (idx s106.2.1 s106.1) fun x116=>
Zb (idx ((s106.2.2).set (Int.toNat (w64 (s106.1+1))) (max 1 x110)) (w64 (s106.1+1))) fun x117=>
Zb (idx c.2.2.1 (w64 (s106.1+1))) fun x118=>
Zb (idx s106.2.1 (w64 (s106.1+1))) fun x119=>
some (.inl ((w64 (s106.1+1)),(s106.2.1).set (Int.toNat (w64 (s106.1+1))) (w64 ((w64 (x116+x117))+x118)),(s106.2.2).set (Int.toNat (w64 (s106.1+1))) (max 1 x110)))) (some (.inr (s106.2.1,s106.2.2)))) k ((i:Int),rlN c.2.1.length (fun k=>if k≤i then zdE ms c k else 0),rlN c.2.1.length (fun k=>if k≤i then zsJ ms k else 0)) (zfF ms c,zpN ms c):=by
 intro k;have hn:=C.n;have hd:=C.d;have hm:=M.n;induction k with
 | zero=>
  intro i hi;refine Lp.done ?_;simp only [];rw [show (i:Int)=(ms.length:Nat) by omega,zO,cond_false];have e1:rlN c.2.1.length (fun k=>if k≤i then zdE ms c k else 0)=zfF ms c:=zen fun k hk=>by rw [if_pos (by omega)]
  have e2:rlN c.2.1.length (fun k=>if k≤i then zsJ ms k else 0)=zpN ms c:=zen fun k hk=>by rw [if_pos (by omega)]
  rw [e1,e2]
 | succ k ih=>
  intro i hi;have hil:i<ms.length:=by omega
  refine Lp.step ?_ (ih (i+1) (by omega));have a1:idx ms (i:Int)=some (ms.getD i 0):=zp 0 hil;have hb:=M.b i;have hs:=zlt hb;have a2:zcb .i64 (w64 (ms.getD i 0+999)) 1000=some ((ms.getD i 0+999)/1000):=by
   rw [zd (by omega) (by omega),zbJ ⟨by omega,by omega⟩ (by omega)]
  have a3:idx (rlN c.2.1.length (fun k=>if k≤i then zsJ ms k else 0)) ((i+1:Nat):Int)=some 0:=by
   rw [zcq (by omega),if_neg (by omega)]
  have a4:idx (rlN c.2.1.length (fun k=>if k≤i then zdE ms c k else 0)) ((i:Nat):Int)=some (zdE ms c i):=by
   rw [zcq (by omega),if_pos (by omega)]
  have a5:idx (rlN c.2.1.length (fun k=>if k≤i then zdE ms c k else 0)) ((i+1:Nat):Int)=some 0:=by
   rw [zcq (by omega),if_neg (by omega)]
  have a6:idx c.2.2.1 ((i+1:Nat):Int)=some (dwl c (i+1)):=zp 0 (by omega);have hsec:max 1 ((ms.getD i 0+999)/1000)=zep (ms.getD i 0):=rfl;have b1:(rlN c.2.1.length (fun k=>if k≤i then zsJ ms k else 0)).set (i+1) (zep (ms.getD i 0))=rlN c.2.1.length (fun k=>if k≤i+1 then zsJ ms k else 0):=by
   rw [zoQ];refine zen fun k hk=>?_;by_cases e:k=i+1
   ·subst e;rw [if_pos rfl,if_pos (by omega)];unfold zsJ;rw [if_neg (by omega)]; rfl
   ·rw [if_neg e];by_cases e2:k≤i
    ·rw [if_pos e2,if_pos (by omega)]
    ·rw [if_neg e2,if_neg (by omega)]
  have hob:=zgb C M (k:=i) (by omega);have hdb:=C.dw (i+1) (by omega);have b2:(rlN c.2.1.length (fun k=>if k≤i then zdE ms c k else 0)).set (i+1) (w64 (w64 (zdE ms c i+zep (ms.getD i 0))+dwl c (i+1)))=rlN c.2.1.length (fun k=>if k≤i+1 then zdE ms c k else 0):=by
   rw [zoQ,zd (n:=zdE ms c i+_) (by omega) (by omega),zd (by omega) (by omega)];refine zen fun k hk=>?_;by_cases e:k=i+1
   ·subst e;rw [if_pos rfl,if_pos (by omega)]; rfl
   ·rw [if_neg e];by_cases e2:k≤i
    ·rw [if_pos e2,if_pos (by omega)]
    ·rw [if_neg e2,if_neg (by omega)]
  have a7:idx (rlN c.2.1.length (fun k=>if k≤i+1 then zsJ ms k else 0)) ((i+1:Nat):Int)=some (zep (ms.getD i 0)):=by
   rw [zcq (by omega),if_pos (by omega)];unfold zsJ;rw [if_neg (by omega)]; rfl
  simp only [zN hil,cond_true,a1,Zs,a2,zx (show i<9223372036854775807 by omega),a3,a4,hsec,Int.toNat_natCast,b1,a7,a6,a5,b2]
end
theorem zsL {p:Plan} {l:Line} {c:Course} (hv:zaP p=true) (hp:zib p) (hwl:c.1.length≤9223372036854775807) (hsl:c.2.1.length≤9223372036854775807) (hb:zkA p c.1=true->wlS p c.1≤248000000):zbk p l c=some (match zii p l c with | some ms=>(zpN ms c,zfF ms c,decide (zdE ms c (c.2.1.length-1)≤50000)) | none=>([],[],false)):=by
  unfold zbk;rw [zi6 p hwl,hv,Bool.true_and,Zs];unfold zii zvN;cases hw:zkA p c.1 with
  | false=>rfl
  | true=>
  have hb:=hb hw;simp only [if_true,show ((0:Int)!=0)=false from rfl,cond_false,zdU,Zs];rw [zsH c _ (fun h1 h2 _=>by rw [zm,zd (by omega) (by omega)]; omega),Zs];cases hh:znQ c with
  | false=>rfl
  | true=>
  obtain ⟨hn,hd,hd0,hdn⟩:=zjv hh;simp only [Bool.not_true,cond_false,Bool.true_and];have h:=zb5 (f:=fun s42:Int=>
cond (decide (s42<(zn c.2.1))) (Zb (idx c.2.1 s42) fun x45=>
cond (!(inB x45 1 (wlS p c.1))) (some (.inr (.inr ([],[],false)))) (cond (decide (s42>0)) (Zb (idx c.2.1 (w64 (s42-1))) fun x59=>
cond (decide (x45≤x59)) (some (.inr (.inr ([],[],false)))) (Zb (idx c.2.2.1 s42) fun x62=>
cond (!(inB x62 0 600)) (some (.inr (.inr ([],[],false)))) (some (.inl (w64 (s42+1)))))) (Zb (idx c.2.2.1 s42) fun x65=>
cond (!(inB x65 0 600)) (some (.inr (.inr ([],[],false)))) (some (.inl (w64 (s42+1))))))) (some (.inr (.inl ():Unit⊕(List Int×List Int×Bool))))) (fun k=>(k:Int)) c.2.1.length (stB p c) (.inr ([],[],false)) (.inl ()) (s0:=0) rfl (by simp only [big]; omega) (fun i hi=>by
      have a1:idx c.2.1 (i:Int)=some (zdD c.2.1 i):=zp 0 hi;have a2:idx c.2.2.1 (i:Int)=some (dwl c i):=zp 0 (by omega);unfold stB;by_cases h0:i=0
      · subst h0;simp only [zN hi,cond_true,a1,a2,Zs,decide_eq_false (show ¬ (((0:Nat):Int)>0) by omega),cond_false,decide_eq_true (show (0:Nat)=0 from rfl),Bool.true_or,Bool.and_true,zx (show 0<9223372036854775807 by omega)];cases inB (zdD c.2.1 0) 1 (wlS p c.1)<;>cases inB (dwl c 0) 0 600<;>rfl
      · have a3:idx c.2.1 (w64 ((i:Int)-1))=some (zdD c.2.1 (i-1)):=by
          rw [zd (by omega) (by omega),show (i:Int)-1=((i-1:Nat):Int) by omega];exact zp 0 (by omega)
        simp only [zN hi,cond_true,a1,a2,a3,Zs,decide_eq_true (show (i:Int)>0 by omega),decide_eq_false h0,Bool.false_or,zx (show i<9223372036854775807 by omega)];cases inB (zdD c.2.1 i) 1 (wlS p c.1)<;>cases decide (zdD c.2.1 i≤zdD c.2.1 (i-1))<;>cases inB (dwl c i) 0 600<;>rfl) (by simp only [zO,cond_false])
  rw [h,Zs];cases hs:(List.range c.2.1.length).all (stB p c) with
  | false=>rfl
  | true=>
  simp only [if_true,zbu];obtain ⟨e,hR,he⟩:=zA0 p l c hwl (by omega) hb;rw [hR,Zs];cases hl:zpM p l c with
  | none=>
    have he:=he hl;have:(e !=0)=true:=by simpa using he
    simp only [this,cond_true,Zs]
  | some ms=>
    have hrs:zii p l c=some ms:=by
      unfold zii zvN;rw [hw,hh,hs];exact hl
    obtain ⟨C,M⟩:=zoR hrs (fun _=>hb);have hm:=M.n;have e1:(zn ms !=w64 (zn c.2.1-1))=false:=by
      rw [zm,zm,zd (by omega) (by omega),hm];have:((c.2.1.length-1:Nat):Int)=(c.2.1.length:Int)-1:=by omega
      rw [this]; exact bne_self_eq_false _
    simp only [show ((0:Int)!=0)=false from rfl,cond_false,Zs,e1];have em:mkO 8 (zn c.2.1) (0:Int)=some (List.replicate c.2.1.length 0):=by
      rw [zpr (by rw [zm]; omega),zm,Int.toNat_natCast]
    simp only [em,Zs];have hL:=(zu5 C M (c.2.1.length-1) 0 (by omega)).big (by simp only [big]; omega);have z1:List.replicate c.2.1.length (0:Int)=rlN c.2.1.length (fun k=>if k≤0 then zdE ms c k else 0):=by
      rw [zmA];refine zen fun k hk=>?_;by_cases e:k=0
      · subst e; rfl
      · rw [if_neg (by omega)]
    have z2:List.replicate c.2.1.length (0:Int)=rlN c.2.1.length (fun k=>if k≤0 then zsJ ms k else 0):=by
      rw [zmA];refine zen fun k hk=>?_;by_cases e:k=0
      · subst e; rfl
      · rw [if_neg (by omega)]
    rw [← z1,← z2] at hL;rw [show ((0:Nat):Int)=0 from rfl] at hL;rw [hL,Zs];have e2:idx (zfF ms c) (w64 (zn c.2.1-1))=some (zdE ms c (c.2.1.length-1)):=by
      rw [zm,zd (by omega) (by omega),show (c.2.1.length:Int)-1=((c.2.1.length-1:Nat):Int) by omega];exact zcq (by omega)
    rw [e2,Zs]
end Go.Ai.Sx

/- Service: a line; its offsets,its round and its cars,in the program and in the reference. -/
namespace Go.Ai.Sx
open Option renaming bind->Zb,bind_some->Zs
def okC (p:Plan) (l:Line) (c:Course):Bool:=match zii p l c with | some ms=>decide (zdE ms c (c.2.1.length-1)≤50000) | none=>false
def zd5 (p:Plan) (l:Line):Bool:=inB l.2.2.2.2.1 0 3600&&(okC p l l.1&&okC p l l.2.1)
def msC (p:Plan) (l:Line) (c:Course):List Int:=(zii p l c).getD []
def rnS (p:Plan) (l:Line):zk:=(l,[zpN (msC p l l.1) l.1,zpN (msC p l l.2.1) l.2.1],[zfF (msC p l l.1) l.1,zfF (msC p l l.2.1) l.2.1],())
structure zqN (p:Plan) (l:Line):Prop where
 w1:l.1.1.length≤9223372036854775807
 s1:l.1.2.1.length≤9223372036854775807
 w2:l.2.1.1.length≤9223372036854775807
 s2:l.2.1.2.1.length≤9223372036854775807
 b1:zaP p=true->zkA p l.1.1=true->wlS p l.1.1≤248000000
 b2:zaP p=true->zkA p l.2.1.1=true->wlS p l.2.1.1≤248000000
def zu6 (p_0:Plan) (l_1:Line) (y10:List Course):(Int×(List Int)×(List Int)×(List Int)×(List Int))->Option ((Int×(List Int)×(List Int)×(List Int)×(List Int))⊕(((List Int)×(List Int)×(List Int)×(List Int))⊕((Option zk)×Bool×(List Int)×(List Int)×(List Int)×(List Int)))):=(fun s39=>
cond (decide (s39.1<2)) (Zb (idx y10 s39.1) fun x42=>
Zb (zbk p_0 l_1 x42) fun y49=>
Zb (idx [(),()] s39.1) fun x52=>
Zb (idx [(),()] s39.1) fun x53=>
cond (!y49.2.2) (some (.inr (.inr ((none:Option zk),false,cond (s39.1==0) y49.1 s39.2.1,cond (s39.1==1) y49.1 s39.2.2.1,cond (s39.1==0) y49.2.1 s39.2.2.2.1,cond (s39.1==1) y49.2.1 s39.2.2.2.2)))) (some (.inl ((w64 (s39.1+1)),cond (s39.1==0) y49.1 s39.2.1,cond (s39.1==1) y49.1 s39.2.2.1,cond (s39.1==0) y49.2.1 s39.2.2.2.1,cond (s39.1==1) y49.2.1 s39.2.2.2.2)))) (some (.inr (.inl (s39.2.1,s39.2.2.1,s39.2.2.2.1,s39.2.2.2.2)))))
theorem zvP {p:Plan} {l:Line} {y:List Course} {c:Course} {i:Int} {r0 r1 o0 o1:List Int} (hi:i=0∨i=1) (hy:idx y i=some c) {r o:List Int} (hr:zbk p l c=some (r,o,false)):∃ T,zu6 p l y (i,r0,r1,o0,o1)=some (.inr (.inr (none,false,T))):=by
 unfold zu6;rcases hi with rfl | rfl
 ·simp only [show decide ((0:Int)<2)=true from rfl,cond_true,hy,hr,Zs];exact ⟨_,rfl⟩
 ·simp only [show decide ((1:Int)<2)=true from rfl,cond_true,hy,hr,Zs];exact ⟨_,rfl⟩
theorem zu7 {p:Plan} {l:Line} {r0 r1 o0 o1:List Int} {b0 b1:Bool} (h0:zbk p l l.1=some (r0,o0,b0)) (h1:zbk p l l.2.1=some (r1,o1,b1)):∃ T,iter (zu6 p l [l.1,l.2.1]) big (0,[],[],[],[])=some (if (b0&&b1)=true then .inl (r0,r1,o0,o1) else .inr (none,false,T)):=by
 cases b0 with
 | false=>
  obtain ⟨T,hT⟩:=zvP (r0:=[]) (r1:=[]) (o0:=[]) (o1:=[]) (y:=[l.1,l.2.1]) (.inl rfl) rfl h0;exact ⟨T,(Lp.done (N:=0) hT).big (by simp only [big]; omega)⟩
 | true=>
  have s0:zu6 p l [l.1,l.2.1] (0,[],[],[],[])=some (.inl (1,r0,[],o0,[])):=by
   unfold zu6;simp only [show decide ((0:Int)<2)=true from rfl,cond_true,show idx [l.1,l.2.1] (0:Int)=some l.1 from rfl,h0,Zs];rfl
  cases b1 with
  | false=>
   obtain ⟨T,hT⟩:=zvP (r0:=r0) (r1:=[]) (o0:=o0) (o1:=[]) (y:=[l.1,l.2.1]) (i:=1) (.inr rfl) rfl h1;exact ⟨T,(Lp.step s0 (Lp.done (N:=0) hT)).big (by simp only [big]; omega)⟩
  | true=>
   have s1:zu6 p l [l.1,l.2.1] (1,r0,[],o0,[])=some (.inl (2,r0,r1,o0,o1)):=by
    unfold zu6;simp only [show decide ((1:Int)<2)=true from rfl,cond_true,show idx [l.1,l.2.1] (1:Int)=some l.2.1 from rfl,h1,Zs];rfl
   have s2:zu6 p l [l.1,l.2.1] (2,r0,r1,o0,o1)=some (.inr (.inl (r0,r1,o0,o1))):=rfl;exact ⟨([],[],[],[]),(Lp.step s0 (Lp.step s1 (Lp.done (N:=0) s2))).big (by simp only [big]; omega)⟩
theorem zjw {p:Plan} {l:Line} (H:zqN p l):zbL p l=some (if (zaP p&&zd5 p l)=true then (some (rnS p l),true) else (none,false)):=by
 unfold zbL;rw [znB,Zs];cases hv:zaP p with
 | false=>rfl
 | true=>
 have hp:=zbY hv;simp only [if_true,show ((0:Int)!=0)=false from rfl,cond_false,zdU,Zs,Bool.true_and];unfold zd5;cases hy:inB l.2.2.2.2.1 0 3600 with
 | false=>rfl
 | true=>
 simp only [Bool.not_true,cond_false,Bool.true_and,show zaj l=some [l.1,l.2.1] from rfl,Zs];have e0:=zsL hv hp (l:=l) H.w1 H.s1 (H.b1 hv);have e1:=zsL hv hp (l:=l) H.w2 H.s2 (H.b2 hv);have f0:zbk p l l.1=some ((match zii p l l.1 with | some ms=>zpN ms l.1 | none=>[]),(match zii p l l.1 with | some ms=>zfF ms l.1 | none=>[]),okC p l l.1):=by
  rw [e0]; unfold okC;cases zii p l l.1<;>rfl
 have f1:zbk p l l.2.1=some ((match zii p l l.2.1 with | some ms=>zpN ms l.2.1 | none=>[]),(match zii p l l.2.1 with | some ms=>zfF ms l.2.1 | none=>[]),okC p l l.2.1):=by
  rw [e1]; unfold okC;cases zii p l l.2.1<;>rfl
 obtain ⟨T,hT⟩:=zu7 f0 f1;unfold zu6 at hT;rw [hT,Zs];cases h0:okC p l l.1 with
 | false=>rfl
 | true=>
 cases h1:okC p l l.2.1 with
 | false=>rfl
 | true=>
 simp only [Bool.and_self,if_true,zbu];unfold rnS msC;have g0:∃ ms,zii p l l.1=some ms:=by
  unfold okC at h0;cases hc:zii p l l.1 with
  | none=>rw [hc] at h0; cases h0
  | some ms=>exact ⟨ms,rfl⟩
 have g1:∃ ms,zii p l l.2.1=some ms:=by
  unfold okC at h1;cases hc:zii p l l.2.1 with
  | none=>rw [hc] at h1; cases h1
  | some ms=>exact ⟨ms,rfl⟩
 obtain ⟨m0,g0⟩:=g0;obtain ⟨m1,g1⟩:=g1;rw [g0,g1];rfl
def zc4 (p:Plan) (l:Line) (c:Course):Int:=zdE (msC p l c) c (c.2.1.length-1)
def zkC (p:Plan) (l:Line):Int:=zc4 p l l.1+zc4 p l l.2.1+2*l.2.2.2.2.1
structure znR (p:Plan) (l:Line) (c:Course):Prop where
 e:zii p l c=some (msC p l c)
 C:zsI p c
 M:zzt c (msC p l c)
 l1:1≤zc4 p l c
 l2:zc4 p l c≤50000
structure zpO (p:Plan) (l:Line):Prop where
 y:0≤l.2.2.2.2.1∧l.2.2.2.2.1≤3600
 o:znR p l l.1
 h:znR p l l.2.1
theorem zxH {p:Plan} {l:Line} {c:Course} (h:okC p l c=true) (hb:zkA p c.1=true->wlS p c.1≤248000000):znR p l c:=by
 unfold okC at h;cases hc:zii p l c with
 | none=>rw [hc] at h; cases h
 | some ms=>
  rw [hc] at h;simp only [decide_eq_true_eq] at h;obtain ⟨C,M⟩:=zoR hc hb;have hm:msC p l c=ms:=by unfold msC; rw [hc]; rfl
  have hn:=C.n;have h1:=zsK C M (i:=0) (j:=c.2.1.length-1) (by omega) (by omega);simp only [zdE] at h1;exact ⟨by rw [hm]; exact hc,C,by rw [hm]; exact M,by unfold zc4; rw [hm]; omega,by unfold zc4; rw [hm]; omega⟩
theorem zxI {p:Plan} {l:Line} (H:zqN p l) (hv:zaP p=true) (h:zd5 p l=true):zpO p l:=by
 unfold zd5 at h;simp only [Bool.and_eq_true] at h;exact ⟨zD.1 h.1,zxH h.2.1 (H.b1 hv),zxH h.2.2 (H.b2 hv)⟩
theorem zgr (ms:List Int) (c:Course):(zfF ms c).length=c.2.1.length:=zdp _ _
theorem zu8 (ms:List Int) (c:Course):(zpN ms c).length=c.2.1.length:=zdp _ _
theorem zgY {p:Plan} {l:Line} {c:Course} (h:znR p l c):idx (zfF (msC p l c) c) (w64 (zn (zfF (msC p l c) c)-1))=some (zc4 p l c):=by
 have hn:=h.C.n;rw [zm,zgr,zd (by omega) (by omega),show (c.2.1.length:Int)-1=((c.2.1.length-1:Nat):Int) by omega];exact zcq (by omega)
section
variable {p:Plan} {l:Line} (K:zpO p l)
include K
theorem zkt (s:Bool):zy (rnS p l) (cond s 1 0)=some (cond s (zc4 p l l.2.1) (zc4 p l l.1)):=by
 unfold zy;cases s with
 | false=>
  simp only [cond_false];rw [show idx (rnS p l).2.2.1 (0:Int)=some (zfF (msC p l l.1) l.1) from rfl];simp only [Zs,zgY K.o]
 | true=>
  simp only [cond_true];rw [show idx (rnS p l).2.2.1 (1:Int)=some (zfF (msC p l l.2.1) l.2.1) from rfl];simp only [Zs,zgY K.h]
theorem znS:2≤zkC p l∧zkC p l≤107200:=by
 have h1:=K.o.l1;have h2:=K.o.l2;have h3:=K.h.l1;have h4:=K.h.l2;have h5:=K.y;unfold zkC;omega
theorem zmB:zaX (rnS p l)=some (zkC p l):=by
 have h1:=K.o.l1;have h2:=K.o.l2;have h3:=K.h.l1;have h4:=K.h.l2;have h5:=K.y;unfold zaX;rw [show zy (rnS p l) 0=_ from zkt K false,show zy (rnS p l) 1=_ from zkt K true];simp only [Zs,cond_true,cond_false];show some (w64 (w64 (zc4 p l l.1+zc4 p l l.2.1)+w64 (2*l.2.2.2.2.1)))=_;rw [zd (n:=zc4 p l l.1+_) (by omega) (by omega),zd (n:=2*_) (by omega) (by omega),zd (by omega) (by omega)];rfl
def zhJ (p:Plan) (l:Line) (h:Int):Int:=(zkC p l+h-1)/h
theorem zjx {h:Int} (hh:1≤h∧h≤1000000000000):zaK (rnS p l) h=some (zhJ p l h):=by
 have:=znS K;unfold zaK;rw [zmB K,Zs,zd (n:=zkC p l+h) (by omega) (by omega),zd (by omega) (by omega),zbJ ⟨by omega,by omega⟩ (by omega)];rfl
theorem znT {h:Int} (hh:1≤h):1≤zhJ p l h∧zhJ p l h≤107200∧(zhJ p l h-1)*h<zkC p l∧zkC p l≤zhJ p l h*h∧zhJ p l h*h≤zkC p l+h-1:=by
 have hb:=znS K;obtain ⟨h1,h2⟩:=zxG (r:=zkC p l) (show 0<h by omega);have h3:zhJ p l h*h≤zkC p l+h-1:=Int.ediv_mul_le _ (by omega);have h4:1≤zhJ p l h:=by
  unfold zhJ;rw [Int.le_ediv_iff_mul_le (by omega)];omega
 have h5:zhJ p l h≤zkC p l:=by
  have:(zhJ p l h-1)*1≤(zhJ p l h-1)*h:=Int.mul_le_mul_of_nonneg_left (by omega) (by omega);have h6:(zhJ p l h-1)*h<zkC p l:=h1;omega
 exact ⟨h4,by omega,h1,h2,h3⟩
end
end Go.Ai.Sx

/- Service: the reference's lines; small plans. -/
namespace Go.Ai.Sx
open Option renaming bind->Zb,bind_some->Zs
def zI (l:Line) (home:Bool):Course:=cond home l.2.1 l.1
structure CIn (p:Plan) (c:Course):Prop where
 w:c.1.length≤9223372036854775807
 s:c.2.1.length≤9223372036854775807
 b:zkA p c.1=true->wlS p c.1≤248000000
theorem zqN.c {p:Plan} {l:Line} (H:zqN p l) (hv:zaP p=true) (home:Bool):CIn p (zI l home):=by
 cases home
 ·exact ⟨H.w1,H.s1,H.b1 hv⟩
 ·exact ⟨H.w2,H.s2,H.b2 hv⟩
theorem zeE (l:Line) (home:Bool):zbN l home=some (zI l home):=by cases home<;>rfl
section
variable {p:Plan} {l:Line} {home:Bool} (hp:zib p) (I:CIn p (zI l home))
include hp I
theorem zpP:zcW p l home=some (match zii p l (zI l home) with | some ms=>(ms.map zep,true) | none=>([],false)):=by
  unfold zcW;rw [zeE,Zs];have hwl:=I.w;have hsl:=I.s;have hb:=I.b;generalize zI l home=c at *
  rw [zsl hp hwl,Zs];unfold zii zvN;cases hw:zkA p c.1 with
  | false=>rfl
  | true=>
  have hb:=hb hw;have hwo:=zgW hw;simp only [Bool.not_true,cond_false,zy4,Zs];have hhd:znQ c=true->(2≤c.2.1.length∧c.2.1.length≤60)∧c.2.2.1.length=c.2.1.length:=fun h=>⟨(zjv h).1,(zjv h).2.1⟩;rw [zsH c _ (fun h1 h2 h3=>by rw [zm,zd (by omega) (by omega)]; omega),Zs];cases hh:znQ c with
  | false=>rfl
  | true=>
  obtain ⟨hn,hd⟩:=hhd hh;simp only [Bool.not_true,cond_false,Bool.true_and,zvH hp hwo,Zs];have h:=zb5 (f:=fun s56:Int=>
cond (decide (s56<(zn c.2.1))) (Zb (idx c.2.1 s56) fun x79=>
cond (!(inB x79 1 (wlS p c.1))) (some (.inr (.inr ([],false)))) (Zb (idx c.2.2.1 s56) fun x84=>
cond (!(inB x84 0 600)) (some (.inr (.inr ([],false)))) (cond (decide (s56>0)) (Zb (idx c.2.1 s56) fun x89=>
Zb (idx c.2.1 (w64 (s56-1))) fun x90=>
cond (decide (x89≤x90)) (some (.inr (.inr ([],false)))) (some (.inl (w64 (s56+1))))) (some (.inl (w64 (s56+1))))))) (some (.inr (.inl ():Unit⊕(List Int×Bool))))) (fun k=>(k:Int)) c.2.1.length (stB p c) (.inr ([],false)) (.inl ()) (s0:=0) rfl (by simp only [big]; omega) (fun i hi=>by
      have a1:idx c.2.1 (i:Int)=some (zdD c.2.1 i):=zp 0 hi;have a2:idx c.2.2.1 (i:Int)=some (dwl c i):=zp 0 (by omega);unfold stB;by_cases h0:i=0
      · subst h0;simp only [zN hi,cond_true,a1,a2,Zs,decide_eq_false (show ¬ (((0:Nat):Int)>0) by omega),cond_false,decide_eq_true (show (0:Nat)=0 from rfl),Bool.true_or,Bool.and_true,zx (show 0<9223372036854775807 by omega)];cases inB (zdD c.2.1 0) 1 (wlS p c.1)<;>cases inB (dwl c 0) 0 600<;>rfl
      · have a3:idx c.2.1 (w64 ((i:Int)-1))=some (zdD c.2.1 (i-1)):=by
          rw [zd (by omega) (by omega),show (i:Int)-1=((i-1:Nat):Int) by omega];exact zp 0 (by omega)
        simp only [zN hi,cond_true,a1,a2,a3,Zs,decide_eq_true (show (i:Int)>0 by omega),decide_eq_false h0,Bool.false_or,zx (show i<9223372036854775807 by omega)];cases inB (zdD c.2.1 i) 1 (wlS p c.1)<;>cases decide (zdD c.2.1 i≤zdD c.2.1 (i-1))<;>cases inB (dwl c i) 0 600<;>rfl) (by simp only [zO,cond_false])
  rw [h,Zs];cases hs:(List.range c.2.1.length).all (stB p c) with
  | false=>rfl
  | true=>
  simp only [if_true,zbu,zAg p l c hwl (by omega) hb,Zs];cases hl:zpM p l c with
  | none=>rfl
  | some ms=>
    obtain ⟨m1,m2⟩:=zvO hl hb;simp only [Bool.not_true,cond_false];have hL:=zcR (f:=fun s105:List Int×Int=>
cond (decide (s105.2<(zn ms))) (Zb (idx ms s105.2) fun x108=>
Zb (zcb .i64 (w64 (x108+999)) 1000) fun x109=>
Zb (zdQ 8 s105.1 ([(max 1 x109)])) fun x110=>
some (.inl (x110,(w64 (s105.2+1))))) (some (.inr s105.1))) ms (fun i b=>(b,(i:Int))) (fun _ b c=>(.inl (b++[zep c]):List Int⊕List Int)) (fun b=>b) (fun i b=>b.length=i) [] (s0:=([],0)) rfl (by omega) rfl (fun i h b hb=>by
        refine ⟨?_,fun b' hb'=>?_⟩
        · have hm:=m2 _ (List.getElem_mem h);have a2:zcb .i64 (w64 (ms[i]+999)) 1000=some ((ms[i]+999)/1000):=by
            rw [zd (by omega) (by omega),zbJ ⟨by omega,by omega⟩ (by omega)]
          simp only [];rw [zN h,cond_true,zeD,List.getElem?_eq_getElem h,Zs,a2,Zs,za5 (by simp; omega),Zs,zx (by omega)];rfl
        · cases hb'; simp; omega) (fun b _=>by simp only [zO,cond_false])
    rw [hL,zfm,Zs];have:∀ (l:List Int) (b:List Int),l.foldl (fun b c=>b++[zep c]) b=b++l.map zep:=by
      intro l;induction l with
      | nil=>intro b; simp
      | cons a l ih=>intro b; rw [List.foldl_cons,ih]; simp
    rw [this]; rfl
theorem zjy:zdm p l home=some ((msC p l (zI l home)).map zep):=by
 unfold zdm msC;rw [zpP hp I,Zs];cases zii p l (zI l home)<;>rfl
theorem zhK (K:znR p l (zI l home)):zX p l home=some (zfF (msC p l (zI l home)) (zI l home)):=by
  unfold zX;rw [zeE,Zs,zjy hp I,Zs];generalize zI l home=c at *
  have hn:=K.C.n;have hm:=K.M.n;have hd:=K.C.d;have key:∀ k i:Nat,i+k=(msC p l c).length->Lp (fun s17:List Int×Int=>
cond (decide (s17.2<(zn ((msC p l c).map zep)))) (Zb (idx s17.1 s17.2) fun x25=>
Zb (idx ((msC p l c).map zep) s17.2) fun x26=>
Zb (idx c.2.2.1 (w64 (s17.2+1))) fun x27=>
Zb (zdQ 8 s17.1 ([(w64 ((w64 (x25+x26))+x27))])) fun x28=>
some (.inl (x28,(w64 (s17.2+1))))) (some (.inr s17.1))) k (rlN (i+1) (zdE (msC p l c) c),(i:Int)) (zfF (msC p l c) c):=by
    intro k;induction k with
    | zero=>
      intro i hi;refine Lp.done ?_;have:(i:Int)=(((msC p l c).map zep).length:Nat):=by rw [List.length_map]; omega
      simp only [this,zO,cond_false];unfold zfF;rw [show i+1=c.2.1.length by omega]
    | succ k ih=>
      intro i hi;refine Lp.step ?_ (ih (i+1) (by omega));have hil:i<((msC p l c).map zep).length:=by rw [List.length_map]; omega
      have a1:idx (rlN (i+1) (zdE (msC p l c) c)) (i:Int)=some (zdE (msC p l c) c i):=zcq (by omega);have a2:idx ((msC p l c).map zep) (i:Int)=some (zep ((msC p l c).getD i 0)):=by
        have h2:i<(msC p l c).length:=by omega
        rw [zeD,List.getElem?_map,List.getElem?_eq_getElem h2,show (msC p l c).getD i 0=(msC p l c)[i] by simp [List.getD,h2]];rfl
      have a3:idx c.2.2.1 ((i+1:Nat):Int)=some (dwl c (i+1)):=zp (l:=c.2.2.1) (i:=i+1) 0 (by omega);have b1:=zgb K.C K.M (k:=i) (by omega);have b2:=zlt (K.M.b i);have b3:=K.C.dw (i+1) (by omega);have a4:zdQ 8 (rlN (i+1) (zdE (msC p l c) c)) [w64 (w64 (zdE (msC p l c) c i+zep ((msC p l c).getD i 0))+dwl c (i+1))]=some (rlN (i+1+1) (zdE (msC p l c) c)):=by
        rw [za5 (by rw [zdp]; simp; omega),zju (i+1),zd (n:=zdE (msC p l c) c i+_) (by omega) (by omega),zd (by omega) (by omega)];rfl
      simp only [zN hil,cond_true,a1,a2,Zs,zx (show i<9223372036854775807 by omega),a3,a4]
  have hL:=(key (msC p l c).length 0 (by omega)).big (by simp only [big]; omega);have h0:rlN (0+1) (zdE (msC p l c) c)=[0]:=rfl;rw [h0,show ((0:Nat):Int)=0 from rfl] at hL;rw [hL]; rfl
theorem zku (K:znR p l (zI l home)):zas p l home=some (zc4 p l (zI l home)):=by
 unfold zas;rw [zhK hp I K];simp only [Zs,zgY K]
end
section
variable {p:Plan} {l:Line} (hv:zaP p=true) (H:zqN p l)
include hv H
theorem zu9:zd2 p l=some (zd5 p l):=by
  have hp:=zbY hv;have key:∀ home:Bool,∀ s:Int,s=cond home 1 0->(Zb (zcW p l (s==1)) fun y14=>
cond (!y14.2) (some (.inr (.inr false))) (Zb (zX p l (s==1)) fun y17=>
Zb (idx y17 (w64 ((zn y17)-1))) fun x19=>
cond (decide (x19>50000)) (some (.inr (.inr false))) (some (.inl (w64 (s+1))))))=some (if okC p l (zI l home) then (.inl (w64 (s+1)):Int⊕(Unit⊕Bool)) else .inr (.inr false)):=by
    intro home s hs;have he:(s==1)=home:=by subst hs; cases home<;>rfl
    rw [he,zpP hp (H.c hv home),Zs];cases hc:zii p l (zI l home) with
    | none=>
      have:okC p l (zI l home)=false:=by unfold okC; rw [hc]
      rw [this]; rfl
    | some ms=>
      obtain ⟨C,M⟩:=zoR hc (H.c hv home).b;have hm:msC p l (zI l home)=ms:=by unfold msC; rw [hc]; rfl
      simp only [Bool.not_true,cond_false];cases hok:okC p l (zI l home) with
      | true=>
        have K:=zxH hok (H.c hv home).b;rw [zhK hp (H.c hv home) K,Zs,zgY K,Zs,decide_eq_false (by have:=K.l2; omega),cond_false,if_pos rfl]
      | false=>
        have h2:¬ zdE ms (zI l home) ((zI l home).2.1.length-1)≤50000:=by
          unfold okC at hok;rw [hc] at hok;simpa using hok
        have hof:zX p l home=some (zfF ms (zI l home)):=by
          unfold zX;rw [zeE,Zs,zjy hp (H.c hv home),Zs,hm];generalize zI l home=c at *
          have hn:=C.n;have hml:=M.n;have hd:=C.d;have key:∀ k i:Nat,i+k=ms.length->Lp (fun s17:List Int×Int=>
cond (decide (s17.2<(zn (ms.map zep)))) (Zb (idx s17.1 s17.2) fun x25=>
Zb (idx (ms.map zep) s17.2) fun x26=>
Zb (idx c.2.2.1 (w64 (s17.2+1))) fun x27=>
Zb (zdQ 8 s17.1 ([(w64 ((w64 (x25+x26))+x27))])) fun x28=>
some (.inl (x28,(w64 (s17.2+1))))) (some (.inr s17.1))) k (rlN (i+1) (zdE ms c),(i:Int)) (zfF ms c):=by
            intro k;induction k with
            | zero=>
              intro i hi;refine Lp.done ?_;have:(i:Int)=((ms.map zep).length:Nat):=by rw [List.length_map]; omega
              simp only [this,zO,cond_false];unfold zfF;rw [show i+1=c.2.1.length by omega]
            | succ k ih=>
              intro i hi;refine Lp.step ?_ (ih (i+1) (by omega));have hil:i<(ms.map zep).length:=by rw [List.length_map]; omega
              have a1:idx (rlN (i+1) (zdE ms c)) (i:Int)=some (zdE ms c i):=zcq (by omega);have a2:idx (ms.map zep) (i:Int)=some (zep (ms.getD i 0)):=by
                have h2:i<ms.length:=by omega
                rw [zeD,List.getElem?_map,List.getElem?_eq_getElem h2,show ms.getD i 0=ms[i] by simp [List.getD,h2]];rfl
              have a3:idx c.2.2.1 ((i+1:Nat):Int)=some (dwl c (i+1)):=zp (l:=c.2.2.1) (i:=i+1) 0 (by omega);have b1:=zgb C M (k:=i) (by omega);have b2:=zlt (M.b i);have b3:=C.dw (i+1) (by omega);have a4:zdQ 8 (rlN (i+1) (zdE ms c)) [w64 (w64 (zdE ms c i+zep (ms.getD i 0))+dwl c (i+1))]=some (rlN (i+1+1) (zdE ms c)):=by
                rw [za5 (by rw [zdp]; simp; omega),zju (i+1),zd (n:=zdE ms c i+_) (by omega) (by omega),zd (by omega) (by omega)];rfl
              simp only [zN hil,cond_true,a1,a2,Zs,zx (show i<9223372036854775807 by omega),a3,a4]
          have hL:=(key ms.length 0 (by omega)).big (by simp only [big]; omega);have h0:rlN (0+1) (zdE ms c)=[0]:=rfl;rw [h0,show ((0:Nat):Int)=0 from rfl] at hL;rw [hL]; rfl
        have hn:=C.n;have hla:idx (zfF ms (zI l home)) (w64 (zn (zfF ms (zI l home))-1))=some (zdE ms (zI l home) ((zI l home).2.1.length-1)):=by
          rw [zm,zgr,zd (by omega) (by omega),show ((zI l home).2.1.length:Int)-1=(((zI l home).2.1.length-1:Nat):Int) by omega];exact zcq (by omega)
        rw [hof,Zs,hla,Zs,decide_eq_true (by omega),cond_true];rfl
  unfold zd2;rw [zy4,Zs];unfold zd5;cases inB l.2.2.2.2.1 0 3600 with
  | false=>rfl
  | true=>
  simp only [Bool.not_true,cond_false,Bool.true_and];have k0:=key false 0 rfl;have k1:=key true 1 rfl;have h:=zb5 (f:=fun s11:Int=>
cond (decide (s11<2)) (Zb (zcW p l (s11==1)) fun y14=>
cond (!y14.2) (some (.inr (.inr false))) (Zb (zX p l (s11==1)) fun y17=>
Zb (idx y17 (w64 ((zn y17)-1))) fun x19=>
cond (decide (x19>50000)) (some (.inr (.inr false))) (some (.inl (w64 (s11+1)))))) (some (.inr (.inl ():Unit⊕Bool)))) (fun k=>(k:Int)) 2 (fun k=>okC p l (zI l (k==1))) (.inr false) (.inl ()) (s0:=0) rfl (by simp only [big]; omega) (fun i hi=>by
      match i,hi with
      | 0,_=>exact k0
      | 1,_=>exact k1) rfl
  rw [h,Zs];show alt _ _ (if (List.range 2).all (fun k=>okC p l (zI l (k==1)))=true then _ else _)=_;have e:(List.range 2).all (fun k=>okC p l (zI l (k==1)))=(okC p l l.1&&okC p l l.2.1):=by
    show (okC p l l.1&&(okC p l l.2.1&&true))=_;rw [Bool.and_true]
  rw [e];cases (okC p l l.1&&okC p l l.2.1)<;>rfl
theorem znU (K:zpO p l):zcy p l=some (zkC p l):=by
 have hp:=zbY hv;have h1:=K.o.l1;have h2:=K.o.l2;have h3:=K.h.l1;have h4:=K.h.l2;have h5:=K.y;unfold zcy;rw [zku hp (H.c hv false) K.o,zku hp (H.c hv true) K.h];simp only [Zs];show some (w64 (w64 (zc4 p l l.1+zc4 p l l.2.1)+w64 (2*l.2.2.2.2.1)))=_;rw [zd (n:=zc4 p l l.1+_) (by omega) (by omega),zd (n:=2*_) (by omega) (by omega),zd (by omega) (by omega)];rfl
end
end Go.Ai.Sx

/- Service: what the program says of a line; small plans. -/
namespace Go.Ai.Sx
open Option renaming bind->Zb,bind_some->Zs
theorem ziN (home:Bool):zaz home=some (cond home 1 0):=by cases home<;>rfl
section
variable {p:Plan} {l:Line} (H:zqN p l)
include H
theorem zpQ (home:Bool):zav p l home=some (if (zaP p&&zd5 p l)=true then (zfF (msC p l (zI l home)) (zI l home),0) else ([],2)):=by
 unfold zav;rw [zjw H,Zs,ziN];cases (zaP p&&zd5 p l) with
 | false=>rfl
 | true=>cases home<;>rfl
theorem zy6:zcO p l=some (if (zaP p&&zd5 p l)=true then (zkC p l,0) else (0,2)):=by
 unfold zcO;rw [zjw H,Zs];cases hv:zaP p with
 | false=>rfl
 | true=>
 cases hl:zd5 p l with
 | false=>rfl
 | true=>
  have K:=zxI H hv hl;simp only [Bool.and_self,if_true,Bool.not_true,cond_false,Zs,zmB K]
theorem zAh (h:Int):zbM p l h=some (if (zaP p&&zd5 p l&&inB h 30 7200)=true then (zhJ p l h,0) else (0,2)):=by
 unfold zbM;rw [zjw H,Zs];cases hv:zaP p with
 | false=>rfl
 | true=>
 cases hl:zd5 p l with
 | false=>rfl
 | true=>
  have K:=zxI H hv hl;simp only [Bool.and_self,if_true,Bool.not_true,cond_false,zdU,Zs,Bool.true_and];cases hi:inB h 30 7200 with
  | false=>rfl
  | true=>
   have hi:=zD.1 hi;simp only [Bool.not_true,cond_false,zjx K (show 1≤h∧h≤1000000000000 by omega),Zs,if_true]
end
theorem zsM {f:Nat->Int}:∀ (k a:Nat),(∀ i,a≤i->i<a+k->0≤f i)->∀ i,a≤i->i<a+k->f i≤zih f a k
 | 0,a,_,i,h1,h2=>by omega
 | k+1,a,h,i,h1,h2=>by
  show f i≤f a+zih f (a+1) k;by_cases e:i=a
  ·subst e;have h3:=(sumR_nn k (i+1) fun j h4 h5=>h j (by omega) (by omega));omega
  ·have:=zsM k (a+1) (fun j h4 h5=>h j (by omega) (by omega)) i (by omega) (by omega);have:=h a (by omega) (by omega);omega
where sumR_nn {f:Nat->Int}:∀ (k a:Nat),(∀ i,a≤i->i<a+k->0≤f i)->0≤zih f a k
 | 0,a,_=>by simp [zih]
 | k+1,a,h=>by
  show 0≤f a+zih f (a+1) k;have h1:=h a (by omega) (by omega);have h2:=sumR_nn k (a+1) fun j h4 h5=>h j (by omega) (by omega);omega
structure zAi (p:Plan):Prop where
 n:p.1.length≤12
 r:p.2.1.length≤12
 l:zaP p=true->∀ i:Nat,i<p.2.1.length->zhs p i≤200000
theorem zpR {A:Type} {xs:List A} (hl:xs.length≤12) (g:A->Bool):∃ r,iter (σ:=(Int)) (τ:=Unit⊕(Bool)) (fun s8=>
cond (decide (s8<(zn xs))) (Zb (idx xs s8) fun x11=>
cond (g x11) (some (.inr (.inr false))) (some (.inl (w64 (s8+1))))) (some (.inr (.inl ())))) big 0=some r∧(r=.inl ()∨r=.inr false):=by
  have hT:Tot (fun r:Unit⊕Bool=>r=.inl ()∨r=.inr false) (iter (σ:=(Int)) (τ:=Unit⊕(Bool)) (fun s8=>
cond (decide (s8<(zn xs))) (Zb (idx xs s8) fun x11=>
cond (g x11) (some (.inr (.inr false))) (some (.inl (w64 (s8+1))))) (some (.inr (.inl ())))) big 0):=by
    refine Tot.iter (fun s=>∃ k:Nat,s=(k:Int)∧k≤xs.length) _ (fun s=>xs.length-s.toNat) ⟨0,rfl,by omega⟩ (by simp only [big]; omega) ?_
    rintro s ⟨k,rfl,hk⟩
    by_cases h:k<xs.length
    · rw [zN h,cond_true,zeD,List.getElem?_eq_getElem h,Zs,zx (by omega)];cases g xs[k] with
      | true=>exact Tot.some (.inr rfl)
      | false=>exact Tot.some ⟨⟨k+1,rfl,by omega⟩,by simp only [Int.toNat_natCast]; omega⟩
    · rw [decide_eq_false (by rw [zm]; omega),cond_false];exact Tot.some (.inl rfl)
  exact hT
theorem zsN (p:Plan):∃ b,zed p=some b∧(b=true->zAi p):=by
  unfold zed;by_cases h1:zn p.1>12
  · rw [decide_eq_true h1]; exact ⟨false,rfl,fun h=>by cases h⟩
  by_cases h2:zn p.2.1>12
  · rw [decide_eq_false h1,decide_eq_true h2]; exact ⟨false,rfl,fun h=>by cases h⟩
  rw [decide_eq_false h1,decide_eq_false h2];rw [zm] at h1 h2;simp only [cond_false,Zs];obtain ⟨r1,e1,q1⟩:=zpR (xs:=p.1) (by omega) (fun x11=>decide ((zn x11.2.2.1)>6));obtain ⟨r2,e2,q2⟩:=zpR (xs:=p.2.1) (by omega) (fun x11=>decide ((zn x11.2.2.1)>10));rw [e1,Zs];rcases q1 with rfl | rfl;rotate_left
  · exact ⟨false,rfl,fun h=>by cases h⟩
  rw [zbu,e2,Zs];rcases q2 with rfl | rfl;rotate_left
  · exact ⟨false,rfl,fun h=>by cases h⟩
  rw [zbu,zkn,Zs];cases hv:zaP p with
  | false=>exact ⟨true,rfl,fun _=>⟨by omega,by omega,fun h=>by rw [hv] at h; cases h⟩⟩
  | true=>
  have hp:=zbY hv;rw [cond_true];have hlen:∀ i:Nat,i<p.2.1.length->1≤zhs p i∧zhs p i≤31000000:=fun i hi=>zkq hp ⟨by omega,by omega⟩;have key:∀ (k i:Nat) (s:Int),i+k=p.2.1.length->0≤s∧s≤31000000*i->Lp (fun s33:Int×Int=>
cond (decide (s33.2<(zn p.2.1))) (Zb (zaH p s33.2) fun y36=>
some (.inl ((w64 (s33.1+y36)),(w64 (s33.2+1))))) (some (.inr s33.1))) k (s,(i:Int)) (s+zih (fun i=>zhs p i) i k):=by
    intro k;induction k with
    | zero=>
      intro i s hi hs;have:i=p.2.1.length:=by omega
      subst this;refine Lp.done ?_;simp only [zO,cond_false,zih];rw [Int.add_zero]
    | succ k ih=>
      intro i s hi hs;have hil:i<p.2.1.length:=by omega
      have hl:=hlen i hil;have hr:=ih (i+1) (s+zhs p i) (by omega) (by omega);rw [Int.add_assoc] at hr;refine Lp.step ?_ hr;simp only [zN hil,cond_true,ziK hp (show 0≤(i:Int)∧(i:Int)<p.2.1.length by omega),Zs];rw [zd (n:=s+_) (by omega) (by omega),zx (by omega)]
  have hL:=(key p.2.1.length 0 0 (by omega) (by omega)).big (by simp only [big]; omega);rw [show ((0:Nat):Int)=0 from rfl] at hL;rw [hL,Zs];refine ⟨_,rfl,fun h=>⟨by omega,by omega,fun _ i hi=>?_⟩⟩;have h:=of_decide_eq_true h;have:=zsM (f:=fun i=>zhs p i) p.2.1.length 0 (fun j _ h5=>by have:=hlen j (by omega); omega) i (by omega) (by omega);omega
theorem zkv {A:Prop} [Decidable A] {x:Option Bool} {Q:Prop} (h:∃ b,x=some b∧(b=true->Q)):∃ b,cond (decide A) x (some false)=some b∧(b=true->A∧Q):=by
 by_cases hA:A
 ·rw [decide_eq_true hA];obtain ⟨b,h1,h2⟩:=h;exact ⟨b,h1,fun hb=>⟨hA,h2 hb⟩⟩
 ·rw [decide_eq_false hA];exact ⟨false,rfl,fun h=>by cases h⟩
structure zy7 (l:Line):Prop where
 w1:l.1.1.length≤12
 w2:l.2.1.1.length≤12
 s1:l.1.2.1.length≤6
 s2:l.2.1.2.1.length≤6
theorem zsO (l:Line):∃ b,zc2 l=some b∧(b=true->zy7 l):=by
 unfold zc2;have h0:∃ b,(some (decide (l.2.2.1.1≤4000)):Option Bool)=some b∧(b=true->True):=⟨_,rfl,fun _=>trivial⟩;obtain ⟨b,h1,h2⟩:=zkv (A:=zn l.1.1≤12) (zkv (A:=zn l.2.1.1≤12) (zkv (A:=zn l.1.2.1≤6) (zkv (A:=zn l.2.1.2.1≤6) (zkv (A:=zn l.1.2.2.1≤8) (zkv (A:=zn l.2.1.2.2.1≤8) (zkv (A:=zn l.2.2.1.2.2.2.2.2.2.2.2.2.1≤10) (zkv (A:=l.2.2.1.2.2.2.2.1≥200) (zkv (A:=l.2.2.1.2.2.2.1≥200) h0))))))));refine ⟨b, ?_,fun hb=>?_⟩
 ·rw [h1]; rfl
 ·obtain ⟨a,b,c,d,_⟩:=h2 hb;rw [zm] at a b c d;exact ⟨by omega,by omega,by omega,by omega⟩
theorem zAj {p:Plan} {l:Line} (S:zAi p) (h:zy7 l):zqN p l:=by
 have hb:∀ way:List zG,way.length≤12->zaP p=true->zkA p way=true->wlS p way≤248000000:=by
  intro way hn hv hw;have W:=zgW hw;have hp:=zbY hv;have:=(ziH (f:=fun i=>zhs p (way.getD i M0).1) (B:=200000) way.length 0 fun i _ hi=>by
   have hm:=W.m i (by omega);have h1:=S.l hv (way.getD i M0).1.toNat (by omega);rw [Int.toNat_of_nonneg hm.1] at h1;have h2:=zkq hp hm;omega).2
  have e:wlS p way=zih (fun i=>zhs p (way.getD i M0).1) 0 way.length:=rfl;rw [e];omega
 have a:=h.w1;have b:=h.w2;have c:=h.s1;have d:=h.s2;exact ⟨by omega,by omega,by omega,by omega,hb _ a,hb _ b⟩
end Go.Ai.Sx

/- Service: services,in the program and in the reference. -/
namespace Go.Ai.Sx
open Option renaming bind->Zb,bind_some->Zs
def hd0 (s:Service) (i:Nat):Int:=s.2.1.getD i 0
def of0 (s:Service) (i:Nat):Int:=s.2.2.1.getD i 0
def L0:Line:=(([],[],[],()),([],[],[],()),(0,0,0,0,0,0,0,0,0,[],()),0,0,())
def ln0 (s:Service) (i:Nat):Line:=s.1.getD i L0
def hoB (s:Service) (i:Nat):Bool:=inB (hd0 s i) 30 7200&&inB (of0 s i) 0 (hd0 s i-1)
def zkD (p:Plan) (s:Service):Bool:=zaP p&&(inB (zn s.1) 1 20&&(decide (s.2.1.length=s.1.length)&&(decide (s.2.2.1.length=s.1.length)&&((List.range s.1.length).all fun i=>zd5 p (ln0 s i)&&hoB s i))))
structure zva (p:Plan) (s:Service):Prop where
 n:s.1.length≤9223372036854775807
 h:s.2.1.length≤9223372036854775807
 l:∀ i,i<s.1.length->zqN p (ln0 s i)
theorem zvb {p:Plan} {ls:List Line} (hI:∀ i,i<ls.length->zqN p (ls.getD i L0)):zdo p ls=some (if (inB (zn ls) 1 20&&(List.range ls.length).all fun i=>zaP p&&zd5 p (ls.getD i L0))=true then (ls.map (rnS p),true) else ([],false)):=by
  unfold zdo;rw [zdU,Zs];cases hi:inB (zn ls) 1 20 with
  | false=>rfl
  | true=>
  have hi:=zD.1 hi;rw [zm] at hi;simp only [Bool.not_true,cond_false,Bool.true_and];have key:∀ k i:Nat,i+k=ls.length->Lp (fun s10:List zk×Int=>
cond (decide (s10.2<(zn ls))) (Zb (idx ls s10.2) fun x13=>
Zb (zbL p x13) fun y15=>
cond (!y15.2) (some (.inr (.inr ([],false)))) (Zb (y15.1) fun p16=>
Zb (zdQ 8 s10.1 ([p16])) fun x17=>
some (.inl (x17,(w64 (s10.2+1)))))) (some (.inr (.inl s10.1:List zk⊕(List zk×Bool))))) k ((ls.take i).map (rnS p),(i:Int)) (if ((List.range' i k).all fun i=>zaP p&&zd5 p (ls.getD i L0))=true then .inl (ls.map (rnS p)) else .inr ([],false)):=by
    intro k;induction k with
    | zero=>
      intro i hi;have:i=ls.length:=by omega
      subst this;refine Lp.done ?_;simp only [zO,cond_false,List.take_length];rfl
    | succ k ih=>
      intro i hi;have hil:i<ls.length:=by omega
      have a1:idx ls (i:Int)=some (ls.getD i L0):=zp L0 hil;rw [List.range'_succ,List.all_cons];have ho:=zjw (hI i hil);cases hb:(zaP p&&zd5 p (ls.getD i L0)) with
      | false=>
        rw [hb] at ho;refine Lp.done ?_;simp only [zN hil,cond_true,a1,Zs,ho,Bool.false_eq_true,if_false,Bool.not_false,Bool.false_and]
      | true=>
        rw [hb] at ho;rw [Bool.true_and];refine Lp.step ?_ (ih (i+1) (by omega));have htk:(ls.take (i+1)).map (rnS p)=(ls.take i).map (rnS p)++[rnS p (ls.getD i L0)]:=by
          rw [List.take_add_one,List.map_append];simp [List.getD,hil]
        simp only [zN hil,cond_true,a1,Zs,ho,if_true,Bool.not_true,cond_false];rw [za5 (by rw [List.length_map,List.length_take]; simp; omega),Zs,zx (by omega),htk]
  have hL:=(key ls.length 0 (by omega)).big (by simp only [big]; omega);rw [show ((0:Nat):Int)=0 from rfl,← List.range_eq_range'] at hL;rw [show (ls.take 0).map (rnS p)=[] from rfl] at hL;rw [hL,Zs];cases ((List.range ls.length).all fun i=>zaP p&&zd5 p (ls.getD i L0))<;>rfl
theorem znV {n:Nat} {f g:Nat->Bool}:((List.range n).all fun i=>f i&&g i)=((List.range n).all f&&(List.range n).all g):=by
 rw [Bool.eq_iff_iff,Bool.and_eq_true,List.all_eq_true,List.all_eq_true,List.all_eq_true];constructor
 ·intro h;refine ⟨fun x hx=>?_,fun x hx=>?_⟩
  ·have:=h x hx; rw [Bool.and_eq_true] at this; exact this.1
  ·have:=h x hx; rw [Bool.and_eq_true] at this; exact this.2
 ·intro h x hx;rw [h.1 x hx,h.2 x hx]; rfl
theorem zeF {p:Plan} {s:Service} (H:zva p s):za8 p s=some (if zkD p s=true then (s.1.map (rnS p),true) else ([],false)):=by
  unfold za8 zkD;have hh:=H.h;have hn:=H.n;by_cases h1:s.2.1.length=s.1.length;rotate_left
  · have e1:(zn s.2.1 !=zn s.1)=true:=by rw [zm,zm]; simp only [bne_iff_ne,ne_eq]; omega
    rw [e1,decide_eq_false h1];simp
  have e1:(zn s.2.1 !=zn s.1)=false:=by rw [zm,zm,h1]; exact bne_self_eq_false _
  by_cases h2:s.2.2.1.length=s.1.length;rotate_left
  · have e2:(zn s.2.2.1 !=zn s.1)=true:=by rw [zm,zm]; simp only [bne_iff_ne,ne_eq]; omega
    rw [e1,e2,decide_eq_false h2];simp
  have e2:(zn s.2.2.1 !=zn s.1)=false:=by rw [zm,zm,h2]; exact bne_self_eq_false _
  rw [e1,e2,decide_eq_true h1,decide_eq_true h2];simp only [cond_false,Zs,Bool.true_and];have h:=zb5 (f:=fun s17:Int=>
cond (decide (s17<(zn s.2.1))) (Zb (idx s.2.1 s17) fun x20=>
Zb (zl x20 30 7200) fun y25=>
cond (!y25) (some (.inr (.inr ([],false)))) (Zb (idx s.2.2.1 s17) fun x28=>
Zb (zl x28 0 (w64 (x20-1))) fun y29=>
cond (!y29) (some (.inr (.inr ([],false)))) (some (.inl (w64 (s17+1)))))) (some (.inr (.inl ():Unit⊕(List zk×Bool))))) (fun k=>(k:Int)) s.2.1.length (hoB s) (.inr ([],false)) (.inl ()) (s0:=0) rfl (by simp only [big]; omega) (fun i hi=>by
      have a1:idx s.2.1 (i:Int)=some (hd0 s i):=zp 0 hi;have a2:idx s.2.2.1 (i:Int)=some (of0 s i):=zp 0 (by omega);unfold hoB;simp only [zN hi,cond_true,a1,a2,Zs,zdU];cases hb:inB (hd0 s i) 30 7200 with
      | false=>rfl
      | true=>
        have hb:=zD.1 hb;simp only [Bool.not_true,cond_false,Bool.true_and];rw [zd (by omega) (by omega),zx (by omega)];cases inB (of0 s i) 0 (hd0 s i-1)<;>rfl) (by simp only [zO,cond_false])
  rw [h,Zs,h1,znV];cases hA:(List.range s.1.length).all (hoB s) with
  | false=>
    simp;rfl
  | true=>
  simp only [if_true,zbu];rw [zvb H.l];have hr:=znV (n:=s.1.length) (f:=fun _=>zaP p) (g:=fun i=>zd5 p (ln0 s i));unfold ln0 at hr;rw [hr];unfold ln0;cases hi:inB (zn s.1) 1 20 with
  | false=>simp
  | true=>
  have hi:=zD.1 hi;rw [zm] at hi;have hv:((List.range s.1.length).all fun _=>zaP p)=zaP p:=by
    obtain ⟨m,hm⟩:∃ m,s.1.length=m+1:=⟨s.1.length-1,by omega⟩;rw [hm,Bool.eq_iff_iff,List.all_eq_true];exact ⟨fun h=>h 0 (List.mem_range.2 (by omega)),fun h _ _=>h⟩
  rw [hv];simp only [Bool.and_true,Bool.true_and,Zs]
structure zy8 (p:Plan) (s:Service):Prop where
 v:zaP p=true
 n:1≤s.1.length∧s.1.length≤20
 h:s.2.1.length=s.1.length
 o:s.2.2.1.length=s.1.length
 l:∀ i,i<s.1.length->zd5 p (ln0 s i)=true
 hb:∀ i,i<s.1.length->30≤hd0 s i∧hd0 s i≤7200
 ob:∀ i,i<s.1.length->0≤of0 s i∧of0 s i≤hd0 s i-1
theorem zqB {p:Plan} {s:Service} (h:zkD p s=true):zy8 p s:=by
 unfold zkD at h;simp only [Bool.and_eq_true,decide_eq_true_eq] at h;obtain ⟨h1,h2,h3,h4,h5⟩:=h;have h2:=zD.1 h2;rw [zm] at h2;have h6:∀ i,i<s.1.length->zd5 p (ln0 s i)=true∧hoB s i=true:=fun i hi=>by
  have:=List.all_eq_true.1 h5 i (List.mem_range.2 hi);rwa [Bool.and_eq_true] at this
 refine ⟨h1,by omega,h3,h4,fun i hi=>(h6 i hi).1,fun i hi=>?_,fun i hi=>?_⟩
 ·have:=(h6 i hi).2;unfold hoB at this;rw [Bool.and_eq_true] at this;exact zD.1 this.1
 ·have:=(h6 i hi).2;unfold hoB at this;rw [Bool.and_eq_true] at this;exact zD.1 this.2
theorem zgs {p:Plan} {s:Service} (H:zva p s):zbW p s=some (zkD p s):=by
  unfold zbW zkD;rw [zkn,Zs];cases hv:zaP p with
  | false=>rfl
  | true=>
  simp only [Bool.not_true,cond_false,zy4,Zs];cases hi:inB (zn s.1) 1 20 with
  | false=>rfl
  | true=>
  have hi:=zD.1 hi;rw [zm] at hi;by_cases h1:s.2.1.length=s.1.length;rotate_left
  · have e1:(zn s.2.1 !=zn s.1)=true:=by rw [zm,zm]; simp only [bne_iff_ne,ne_eq]; omega
    rw [e1,decide_eq_false h1];rfl
  have e1:(zn s.2.1 !=zn s.1)=false:=by rw [zm,zm,h1]; exact bne_self_eq_false _
  by_cases h2:s.2.2.1.length=s.1.length;rotate_left
  · have e2:(zn s.2.2.1 !=zn s.1)=true:=by rw [zm,zm]; simp only [bne_iff_ne,ne_eq]; omega
    rw [e1,e2,decide_eq_true h1,decide_eq_false h2];rfl
  have e2:(zn s.2.2.1 !=zn s.1)=false:=by rw [zm,zm,h2]; exact bne_self_eq_false _
  rw [e1,e2,decide_eq_true h1,decide_eq_true h2];simp only [Bool.not_true,cond_false,Zs,Bool.true_and];have h:=zb5 (f:=fun s44:Int=>
cond (decide (s44<(zn s.1))) (Zb (idx s.1 s44) fun x65=>
Zb (zd2 p x65) fun y66=>
cond (!y66) (some (.inr (.inr false))) (Zb (idx s.2.1 s44) fun x69=>
cond (!(inB x69 30 7200)) (some (.inr (.inr false))) (Zb (idx s.2.2.1 s44) fun x73=>
Zb (idx s.2.1 s44) fun x74=>
cond (!(inB x73 0 (w64 (x74-1)))) (some (.inr (.inr false))) (some (.inl (w64 (s44+1))))))) (some (.inr (.inl ():Unit⊕Bool)))) (fun k=>(k:Int)) s.1.length (fun i=>zd5 p (ln0 s i)&&hoB s i) (.inr false) (.inl ()) (s0:=0) rfl (by simp only [big]; omega) (fun i hi=>by
      have a0:idx s.1 (i:Int)=some (ln0 s i):=zp L0 hi;have a1:idx s.2.1 (i:Int)=some (hd0 s i):=zp 0 (by omega);have a2:idx s.2.2.1 (i:Int)=some (of0 s i):=zp 0 (by omega);unfold hoB;simp only [zN hi,cond_true,a0,a1,a2,Zs,zu9 hv (H.l i hi)];cases zd5 p (ln0 s i) with
      | false=>rfl
      | true=>
      cases hb:inB (hd0 s i) 30 7200 with
      | false=>rfl
      | true=>
        have hb:=zD.1 hb;simp only [Bool.not_true,cond_false,Bool.true_and];rw [zd (by omega) (by omega),zx (by omega)];cases inB (of0 s i) 0 (hd0 s i-1)<;>rfl) (by simp only [zO,cond_false])
  rw [h,Zs];cases ((List.range s.1.length).all fun i=>zd5 p (ln0 s i)&&hoB s i)<;>rfl
structure zAk (p:Plan) (s:Service):Prop where
 S:zAi p
 l:∀ i,i<s.1.length->zy7 (ln0 s i)
 n:s.1.length≤3
 h:s.2.1.length≤4
 o:s.2.2.1.length≤4
theorem zAk.sv {p:Plan} {s:Service} (F:zAk p s):zva p s:=by
 have a:=F.n;have b:=F.h;exact ⟨by omega,by omega,fun i hi=>zAj F.S (F.l i hi)⟩
theorem zmC (p:Plan) (s:Service) (hs:s.1.length≤9223372036854775807):∃ b,zdn p s=some b∧(b=true->zAk p s):=by
  unfold zdn;have hT:Tot (fun r:Unit⊕Bool=>(r=.inl ()∧∀ i,i<s.1.length->zy7 (ln0 s i))∨r=.inr false) (iter (σ:=(Int)) (τ:=Unit⊕(Bool)) (fun s5=>
cond (decide (s5<(zn s.1))) (Zb (idx s.1 s5) fun x8=>
Zb (zc2 x8) fun y9=>
cond (!y9) (some (.inr (.inr false))) (some (.inl (w64 (s5+1))))) (some (.inr (.inl ())))) big 0):=by
    refine Tot.iter (fun x=>∃ k:Nat,x=(k:Int)∧k≤s.1.length∧∀ i,i<k->zy7 (ln0 s i)) _ (fun x=>s.1.length-x.toNat) ⟨0,rfl,by omega,fun i hi=>by omega⟩ (by simp only [big]; omega) ?_
    rintro x ⟨k,rfl,hk,hA⟩
    by_cases h:k<s.1.length
    · obtain ⟨b,h1,h2⟩:=zsO (ln0 s k);rw [zN h,cond_true,zp L0 h,Zs,show zc2 (s.1.getD k L0)=some b from h1,Zs,zx (by omega)];cases b with
      | false=>exact Tot.some (.inr rfl)
      | true=>
        refine Tot.some ⟨⟨k+1,rfl,by omega,fun i hi=>?_⟩,by simp only [Int.toNat_natCast]; omega⟩;by_cases e:i=k
        · subst e; exact h2 rfl
        · exact hA i (by omega)
    · have:k=s.1.length:=by omega
      subst this;rw [zO,cond_false];exact Tot.some (.inl ⟨rfl,hA⟩)
  obtain ⟨r,h1,h2⟩:=hT;rw [h1,Zs];rcases h2 with ⟨rfl,hA⟩ | rfl;rotate_left
  · exact ⟨false,rfl,fun h=>by cases h⟩
  rw [zbu];obtain ⟨b1,e1,q1⟩:=zsN p;rw [e1];cases b1 with
  | false=>exact ⟨false,rfl,fun h=>by cases h⟩
  | true=>
  obtain ⟨b,g1,g2⟩:=zkv (A:=zn s.1≤3) (zkv (A:=zn s.2.1≤4) (Q:=zn s.2.2.1≤4) (x:=some (decide (zn s.2.2.1≤4))) ⟨_,rfl,fun h=>of_decide_eq_true h⟩);simp only [Zs,cond_true];refine ⟨b,by rw [g1]; rfl,fun hb=>?_⟩;obtain ⟨a1,a2,a3⟩:=g2 hb;rw [zm] at a1 a2 a3;exact ⟨q1 rfl,hA,by omega,by omega,by omega⟩
end Go.Ai.Sx

/- Service: the first departures,and waits. -/
namespace Go.Ai.Sx
open Option renaming bind->Zb,bind_some->Zs
theorem zsP {A:Type} (x:Option A):(Zb x fun y=>some y)=x:=by cases x<;>rfl
theorem zic {n h:Int} (hh:0<h) (h2:h≤1000000000000):zat n h=some (n%h):=by
 have:=zsE (n:=n) hh h2;unfold zat;simp only [zsP];exact this
theorem zhL {n h:Int} (hh:0<h) (h2:h≤1000000000000):zaL n h=some (n%h):=by
 have:=zsE (n:=n) hh h2;unfold zaL;simp only [zsP];exact this
def zfG (p:Plan) (l:Line) (home:Bool) (h o:Int):Int:=cond home (o+zc4 p l l.1+l.2.2.2.2.1+(zhJ p l h*h-zkC p l)/2) o
section
variable {p:Plan} {l:Line} (K:zpO p l) {h o:Int} (hh:30≤h∧h≤7200) (ho:0≤o∧o≤100000)
include K hh ho
theorem zgZ (home:Bool):o≤zfG p l home h o∧zfG p l home h o≤o+60000:=by
 obtain ⟨c1,c2,c3,c4,c5⟩:=znT K (h:=h) (by omega);have h1:=K.o.l1;have h2:=K.o.l2;have h5:=K.y;unfold zfG;cases home with
 | false=>simp only [cond_false]; omega
 | true=>simp only [cond_true]; omega
theorem zpS (home:Bool):z4 (rnS p l) (cond home 1 0) h o=some (zfG p l home h o):=by
 obtain ⟨c1,c2,c3,c4,c5⟩:=znT K (h:=h) (by omega);have hb:=znS K;have h1:=K.o.l1;have h2:=K.o.l2;have h5:=K.y;unfold z4;cases home with
 | false=>rfl
 | true=>
  simp only [cond_true,show ((1:Int)==0)=false from rfl,cond_false];rw [show zy (rnS p l) 0=_ from zkt K false,zjx K (by omega),zmB K];simp only [Zs,cond_false];rw [zd (n:=zhJ p l h*h) (by omega) (by omega),zd (n:=zhJ p l h*h-_) (by omega) (by omega),zbJ ⟨by omega,by omega⟩ (by omega),Zs];show some (w64 (w64 (w64 (o+zc4 p l l.1)+l.2.2.2.2.1)+(zhJ p l h*h-zkC p l)/2))=_;rw [zd (n:=o+_) (by omega) (by omega),zd (n:=o+_+_) (by omega) (by omega),zd (by omega) (by omega)];rfl
end
section
variable {p:Plan} {s:Service} (V:zy8 p s) (H:zva p s)
include V H
theorem lnK {i:Nat} (hi:i<s.1.length):zpO p (ln0 s i):=zxI (H.l i hi) V.v (V.l i hi)
theorem zpT {i:Nat} (hi:i<s.1.length) {h:Int} (hh:30≤h∧h≤7200):zcz p (ln0 s i) h=some (zhJ p (ln0 s i) h):=by
 have K:=lnK V H hi;have:=znS K;unfold zcz;rw [znU V.v (H.l i hi) K,Zs,zd (n:=zkC p _+h) (by omega) (by omega),zd (by omega) (by omega),zbJ ⟨by omega,by omega⟩ (by omega)];rfl
theorem zsQ {i:Nat} (hi:i<s.1.length) (home:Bool):zas p (ln0 s i) home=some (zc4 p (ln0 s i) (zI (ln0 s i) home)):=by
 have K:=lnK V H hi;refine zku (zbY V.v) ((H.l i hi).c V.v home) ?_;cases home
 ·exact K.o
 ·exact K.h
theorem zvc {i:Nat} (hi:i<s.1.length) (home:Bool):zX p (ln0 s i) home=some (zfF (msC p (ln0 s i) (zI (ln0 s i) home)) (zI (ln0 s i) home)):=by
 have K:=lnK V H hi;refine zhK (zbY V.v) ((H.l i hi).c V.v home) ?_;cases home
 ·exact K.o
 ·exact K.h
theorem zhj {i:Nat} (hi:i<s.1.length) (home:Bool):z8 p s (i:Int) home=some (zfG p (ln0 s i) home (hd0 s i) (of0 s i)):=by
 have K:=lnK V H hi;have hh:=V.hb i hi;have hob:=V.ob i hi;have hlh:=V.h;have hlo:=V.o;obtain ⟨c1,c2,c3,c4,c5⟩:=znT K (h:=hd0 s i) (by omega);have hb:=znS K;have h1:=K.o.l1;have h2:=K.o.l2;have h5:=K.y;have a0:idx s.1 (i:Int)=some (ln0 s i):=zp L0 hi;have a1:idx s.2.1 (i:Int)=some (hd0 s i):=zp (l:=s.2.1) 0 (by omega);have a2:idx s.2.2.1 (i:Int)=some (of0 s i):=zp (l:=s.2.2.1) 0 (by omega);unfold z8;rw [a0,Zs];cases home with
 | false=>simp only [Bool.not_false,cond_true,a2,Zs]; rfl
 | true=>
  simp only [Bool.not_true,cond_false,a1,a2,Zs,zpT V H hi hh,znU V.v (H.l i hi) K,zsQ V H hi false];rw [zd (n:=zhJ p _ _*_) (by omega) (by omega),zd (n:=zhJ p _ _*_-_) (by omega) (by omega),zbJ ⟨by omega,by omega⟩ (by omega),Zs];show some (w64 (w64 (w64 (of0 s i+zc4 p (ln0 s i) (ln0 s i).1)+(ln0 s i).2.2.2.2.1)+(zhJ p (ln0 s i) (hd0 s i)*hd0 s i-zkC p (ln0 s i))/2))=_;rw [zd (n:=of0 s i+_) (by omega) (by omega),zd (n:=of0 s i+_+_) (by omega) (by omega),zd (by omega) (by omega)];rfl
theorem zsR:zkD p s=true:=by
 have hn:=V.n;unfold zkD;rw [V.v,decide_eq_true V.h,decide_eq_true V.o,zD.2 (show 1≤zn s.1∧zn s.1≤20 by rw [zm]; omega)];simp only [Bool.true_and];rw [List.all_eq_true];intro i hi;have hi:=List.mem_range.1 hi;rw [V.l i hi,Bool.true_and];unfold hoB;rw [zD.2 (V.hb i hi),zD.2 (V.ob i hi)]; rfl
end
def zcY (s:List Line) (i:Int) (home:Bool):Int:=((zI (s.getD i.toNat L0) home).2.1.length:Nat)
def cnB (ls:List Line) (c:Connection):Bool:=inB c.1 0 (ls.length-1)&&(inB c.2.2.2.1 0 (ls.length-1)&&(inB c.2.2.2.2.2.2.1 0 c.2.2.2.2.2.2.2.1&&(!decide (c.2.2.2.2.2.2.2.1>7200)&&(inB c.2.2.1 1 (zcY ls c.1 c.2.1-1)&&inB c.2.2.2.2.2.1 0 (zcY ls c.2.2.2.1 c.2.2.2.2.1-2)))))
def zkw (ls:List Line) (l:List Connection):Bool:=l.all (cnB ls)&&decide (zn l≤60)
def zvd (all_0:List zk) (x43:Connection) (s40:Int):Option (Int⊕(Unit⊕Bool)):=
Zb (zl x43.1 0 (w64 ((zn all_0)-1))) fun y51=>
cond (!y51) (some (.inr (.inr false))) (Zb (zl x43.2.2.2.1 0 (w64 ((zn all_0)-1))) fun y54=>
cond (!y54) (some (.inr (.inr false))) (Zb (zl x43.2.2.2.2.2.2.1 0 x43.2.2.2.2.2.2.2.1) fun y57=>
cond (!y57) (some (.inr (.inr false))) (cond (decide (x43.2.2.2.2.2.2.2.1>7200)) (some (.inr (.inr false))) (Zb (idx all_0 x43.1) fun x67=>
Zb (zaz x43.2.1) fun y68=>
Zb (idx x67.2.2.1 y68) fun x69=>
Zb (idx all_0 x43.2.2.2.1) fun x70=>
Zb (zaz x43.2.2.2.2.1) fun y71=>
Zb (idx x70.2.2.1 y71) fun x72=>
Zb (zl x43.2.2.1 1 (w64 ((zn x69)-1))) fun y76=>
cond (!y76) (some (.inr (.inr false))) (Zb (zl x43.2.2.2.2.2.1 0 (w64 ((zn x72)-2))) fun y79=>
cond (!y79) (some (.inr (.inr false))) (some (.inl (w64 (s40+1)))))))))
section
variable {p:Plan} {ls:List Line} (hn:1≤ls.length∧ls.length≤20) (hK:∀ i,i<ls.length->zpO p (ls.getD i L0))
include hn hK
theorem zid {i:Int} (hi:0≤i∧i<ls.length) (home:Bool):2≤zcY ls i home∧zcY ls i home≤60:=by
 have K:=hK i.toNat (by omega);unfold zcY;cases home with
 | false=>have:=K.o.C.n; simp only [zI,cond_false]; omega
 | true=>have:=K.h.C.n; simp only [zI,cond_true]; omega
omit hn hK in
theorem zlu {i:Int} (hi:0≤i∧i<ls.length):idx (ls.map (rnS p)) i=some (rnS p (ls.getD i.toNat L0)):=by
 obtain ⟨k,rfl⟩:∃ k:Nat,i=(k:Int):=⟨i.toNat,by omega⟩;have h2:k<ls.length:=by omega
 rw [Int.toNat_natCast,zeD,List.getElem?_map,List.getElem?_eq_getElem h2];simp [List.getD,h2]
omit hn hK in
theorem zsS (l:Line) (home:Bool):idx (rnS p l).2.2.1 (cond home 1 0)=some (zfF (msC p l (zI l home)) (zI l home)):=by cases home<;>rfl
omit hn hK in
theorem zy9 (l:Line) (home:Bool):idx (rnS p l).2.1 (cond home 1 0)=some (zpN (msC p l (zI l home)) (zI l home)):=by cases home<;>rfl
theorem zsT (c:Connection) (i:Nat) (hi:i<9223372036854775807):zvd (ls.map (rnS p)) c (i:Int)=some (if cnB ls c then .inl ((i+1:Nat):Int) else .inr (.inr false)):=by
 unfold zvd cnB;have hw:w64 (zn (ls.map (rnS p))-1)=(ls.length:Int)-1:=by rw [zm,List.length_map,zd (by omega) (by omega)]
 simp only [zdU,Zs,hw];cases h1:inB c.1 0 ((ls.length:Int)-1) with
 | false=>rfl
 | true=>
 cases h2:inB c.2.2.2.1 0 ((ls.length:Int)-1) with
 | false=>rfl
 | true=>
 cases h3:inB c.2.2.2.2.2.2.1 0 c.2.2.2.2.2.2.2.1 with
 | false=>rfl
 | true=>
 cases h4:decide (c.2.2.2.2.2.2.2.1>7200) with
 | true=>rfl
 | false=>
 have h1:=zD.1 h1;have h2:=zD.1 h2;have b1:=zid hn hK (i:=c.1) (by omega) c.2.1;have b2:=zid hn hK (i:=c.2.2.2.1) (by omega) c.2.2.2.2.1;simp only [Bool.not_true,Bool.not_false,cond_false,Bool.true_and,zlu (p:=p) (ls:=ls) (i:=c.1) (by omega),zlu (p:=p) (ls:=ls) (i:=c.2.2.2.1) (by omega),Zs,ziN,zsS];have e1:w64 (zn (zfF (msC p (ls.getD c.1.toNat L0) (zI (ls.getD c.1.toNat L0) c.2.1)) (zI (ls.getD c.1.toNat L0) c.2.1))-1)=zcY ls c.1 c.2.1-1:=by
  rw [zm,zgr];exact zd (by unfold zcY at b1; omega) (by unfold zcY at b1; omega)
 have e2:w64 (zn (zfF (msC p (ls.getD c.2.2.2.1.toNat L0) (zI (ls.getD c.2.2.2.1.toNat L0) c.2.2.2.2.1)) (zI (ls.getD c.2.2.2.1.toNat L0) c.2.2.2.2.1))-2)=zcY ls c.2.2.2.1 c.2.2.2.2.1-2:=by
  rw [zm,zgr];exact zd (by unfold zcY at b2; omega) (by unfold zcY at b2; omega)
 rw [e1,e2,zx hi];cases inB c.2.2.1 1 (zcY ls c.1 c.2.1-1)<;>cases inB c.2.2.2.2.2.1 0 (zcY ls c.2.2.2.1 c.2.2.2.2.1-2)<;>rfl
theorem znW {A:Type} (l:List A) (q:A->Bool) (d:A):((List.range l.length).all fun i=>q (l.getD i d))=l.all q:=by
 rw [Bool.eq_iff_iff,List.all_eq_true,List.all_eq_true];constructor
 ·intro h x hx;obtain ⟨i,hi,rfl⟩:=List.getElem_of_mem hx;have:=h i (List.mem_range.2 hi);rwa [show l.getD i d=l[i] by simp [List.getD,hi]] at this
 ·intro h i hi;have hi:=List.mem_range.1 hi;rw [show l.getD i d=l[i] by simp [List.getD,hi]];exact h _ (List.getElem_mem hi)
def C0:Connection:=(0,false,0,0,false,0,0,0,())
theorem zie (l:List Connection) (hl:l.length≤9223372036854775807):zbp (ls.map (rnS p)) l=some (zkw ls l):=by
  unfold zbp zkw;have h:=zb5 (f:=fun s40:Int=>
cond (decide (s40<(zn l))) (Zb (idx l s40) fun x43=>zvd (ls.map (rnS p)) x43 s40) (some (.inr (.inl ():Unit⊕Bool)))) (fun k=>(k:Int)) l.length (fun i=>cnB ls (l.getD i C0)) (.inr false) (.inl ()) (s0:=0) rfl (by simp only [big]; omega) (fun i hi=>by
      simp only [zN hi,cond_true,zp C0 hi,Zs];exact zsT hn hK _ i (by omega)) (by simp only [zO,cond_false])
  unfold zvd at h;rw [h,Zs,znW hn hK];cases l.all (cnB ls)<;>rfl
theorem zpU (c:Connection):zbl ls c=some (cnB ls c):=by
 unfold zbl cnB;have hw:w64 (zn ls-1)=(ls.length:Int)-1:=by rw [zm,zd (by omega) (by omega)]
 simp only [zy4,Zs,hw];cases h1:inB c.1 0 ((ls.length:Int)-1) with
 | false=>rfl
 | true=>
 cases h2:inB c.2.2.2.1 0 ((ls.length:Int)-1) with
 | false=>rfl
 | true=>
 cases h3:inB c.2.2.2.2.2.2.1 0 c.2.2.2.2.2.2.2.1 with
 | false=>rfl
 | true=>
 cases h4:decide (c.2.2.2.2.2.2.2.1>7200) with
 | true=>rfl
 | false=>
 have h1:=zD.1 h1;have h2:=zD.1 h2;have b1:=zid hn hK (i:=c.1) (by omega) c.2.1;have b2:=zid hn hK (i:=c.2.2.2.1) (by omega) c.2.2.2.2.1;have a1:idx ls c.1=some (ls.getD c.1.toNat L0):=za1 (by omega) (by omega);have a2:idx ls c.2.2.2.1=some (ls.getD c.2.2.2.1.toNat L0):=za1 (by omega) (by omega);have e1:w64 (zn (zI (ls.getD c.1.toNat L0) c.2.1).2.1-1)=zcY ls c.1 c.2.1-1:=zd (by unfold zcY at b1; rw [zm]; omega) (by unfold zcY at b1; rw [zm]; omega);have e2:w64 (zn (zI (ls.getD c.2.2.2.1.toNat L0) c.2.2.2.2.1).2.1-2)=zcY ls c.2.2.2.1 c.2.2.2.2.1-2:=zd (by unfold zcY at b2; rw [zm]; omega) (by unfold zcY at b2; rw [zm]; omega);simp only [Bool.not_true,Bool.not_false,cond_false,Bool.true_and,Zs,a1,a2,zeE,e1,e2];cases inB c.2.2.1 1 (zcY ls c.1 c.2.1-1)<;>cases inB c.2.2.2.2.2.1 0 (zcY ls c.2.2.2.1 c.2.2.2.2.1-2)<;>rfl
theorem zsU (l:List Connection) (hl:l.length≤9223372036854775807):zbH ls l=some (zkw ls l):=by
  unfold zbH zkw;have h:=zb5 (f:=fun s5:Int=>
cond (decide (s5<(zn l))) (Zb (idx l s5) fun x8=>
Zb (zbl ls x8) fun y9=>
cond (!y9) (some (.inr (.inr false))) (some (.inl (w64 (s5+1))))) (some (.inr (.inl ():Unit⊕Bool)))) (fun k=>(k:Int)) l.length (fun i=>cnB ls (l.getD i C0)) (.inr false) (.inl ()) (s0:=0) rfl (by simp only [big]; omega) (fun i hi=>by
      simp only [zN hi,cond_true,zp C0 hi,Zs,zpU hn hK,zx (show i<9223372036854775807 by omega)];cases cnB ls (l.getD i C0)<;>rfl) (by simp only [zO,cond_false])
  rw [h,Zs,znW hn hK];cases l.all (cnB ls)<;>rfl
end
end Go.Ai.Sx

/- Service: the examples of the chapter. -/
namespace Go.Ai.Sx
open Option renaming bind->Zb,bind_some->Zs
def sP (n:Int):Plan:=(([(((0,0,()),1,[((0,false,()):zo)],0,()):zcp),((((n,0,()):Spot),1,[((0,true,()):zo)],0,()):zcp)],[((0,1,[],8000,0,()):Rail)],()):Plan)
def sT:Train:=(1000,1000,8000,2000,2000,1000000,0,0,0,[1000],())
def sL (n:Int):Line:=(([((0,false,()):zG)],[1000,n/2,n],[0,20,0],()),([((0,true,()):zG)],[1000,n/2,n],[0,10,0],()),sT,0,30,())
theorem sl0:(zhl (sP 21000) (sL 21000).1.1 sT 0 (sL 21000).1.2.1).map (·.map (·.1))=some [4400,4600]:=by kernel_rfl
theorem sl1:(zhl (sP 21000) (sL 21000).2.1.1 sT 0 (sL 21000).2.1.2.1).map (·.map (·.1))=some [4400,4600]:=by kernel_rfl
theorem sv:zaP (sP 21000)=true:=by kernel_rfl
theorem ss0:ze2 (sP 21000) (sL 21000).1.1 sT 0 (sL 21000).1.2.1=true:=by kernel_rfl
theorem ss1:ze2 (sP 21000) (sL 21000).2.1.1 sT 0 (sL 21000).2.1.2.1=true:=by kernel_rfl
theorem sc0:zvN (sP 21000) (sL 21000).1=true:=by kernel_rfl
theorem sc1:zvN (sP 21000) (sL 21000).2.1=true:=by kernel_rfl
theorem sw0:wlS (sP 21000) (sL 21000).1.1=21000:=by kernel_rfl
theorem sw1:wlS (sP 21000) (sL 21000).2.1.1=21000:=by kernel_rfl
theorem sI:zqN (sP 21000) (sL 21000):=⟨by decide,by decide,by decide,by decide,fun _ _=>by rw [sw0]; omega,fun _ _=>by rw [sw1]; omega⟩
theorem lg0:zpM (sP 21000) (sL 21000) (sL 21000).1=some [4400,4600]:=by
 unfold zpM;rw [if_pos (show ze2 (sP 21000) (sL 21000).1.1 (sL 21000).2.2.1 (sL 21000).2.2.2.1 (sL 21000).1.2.1=true from ss0)];exact sl0
theorem lg1:zpM (sP 21000) (sL 21000) (sL 21000).2.1=some [4400,4600]:=by
 unfold zpM;rw [if_pos (show ze2 (sP 21000) (sL 21000).2.1.1 (sL 21000).2.2.1 (sL 21000).2.2.2.1 (sL 21000).2.1.2.1=true from ss1)];exact sl1
theorem sr0:zii (sP 21000) (sL 21000) (sL 21000).1=some [4400,4600]:=by unfold zii; rw [if_pos sc0]; exact lg0
theorem sr1:zii (sP 21000) (sL 21000) (sL 21000).2.1=some [4400,4600]:=by unfold zii; rw [if_pos sc1]; exact lg1
theorem sm0:msC (sP 21000) (sL 21000) (sL 21000).1=[4400,4600]:=by unfold msC; rw [sr0]; rfl
theorem sm1:msC (sP 21000) (sL 21000) (sL 21000).2.1=[4400,4600]:=by unfold msC; rw [sr1]; rfl
theorem zsV:zd5 (sP 21000) (sL 21000)=true:=by
 unfold zd5 okC;rw [sr0,sr1];kernel_rfl
theorem zBn:zc4 (sP 21000) (sL 21000) (sL 21000).1=30:=by unfold zc4; rw [sm0]; kernel_rfl
theorem zBo:zc4 (sP 21000) (sL 21000) (sL 21000).2.1=20:=by unfold zc4; rw [sm1]; kernel_rfl
theorem srd:zkC (sP 21000) (sL 21000)=110:=by unfold zkC; rw [zBn,zBo]; rfl
theorem zsW:zdL 21000=some (sP 21000,sL 21000):=by kernel_rfl
theorem zsX {p:Plan} {l:Line} (hs:zdL 21000=some (p,l)) (hR:zbV p l.1.1 l.2.2.1 0 l.1.2.1=some ([4400,4600],0)) (hO:zav p l false=some ([0,25,30],0)) (hX:zav p l true=some ([0,15,20],0)) (hN:zcO p l=some (110,0)) (hC:zbM p l 110=some (1,0)) (hD:zbM p l 109=some (2,0)):zu=some true:=by
 unfold zu;rw [hs,Zs];simp only [hR,hO,hX,hN,Zs];rw [show w64 (110-1)=109 from rfl];simp only [hC,hD,Zs];rfl
theorem kR:zbV (sP 21000) (sL 21000).1.1 (sL 21000).2.2.1 0 (sL 21000).1.2.1=some ([4400,4600],0):=by
 obtain ⟨e,h1,_⟩:=zA0 (sP 21000) (sL 21000) (sL 21000).1 sI.w1 (by decide) (by rw [sw0]; omega);rw [lg0] at h1;exact h1
theorem kB {p:Plan} {l:Line} (hv:zaP p=true) (hl:zd5 p l=true):(zaP p&&zd5 p l)=true:=by rw [hv,hl]; rfl
theorem ko:zfF (msC (sP 21000) (sL 21000) (sL 21000).1) (sL 21000).1=[0,25,30]:=by rw [sm0]; kernel_rfl
theorem kx:zfF (msC (sP 21000) (sL 21000) (sL 21000).2.1) (sL 21000).2.1=[0,15,20]:=by rw [sm1]; kernel_rfl
theorem kO {p:Plan} {l:Line} (H:zqN p l) (hv:zaP p=true) (hl:zd5 p l=true) {home:Bool} {o:List Int} (h:zfF (msC p l (zI l home)) (zI l home)=o):zav p l home=some (o,0):=by
 rw [zpQ H,if_pos (kB hv hl),h]
theorem kC {p:Plan} {l:Line} (H:zqN p l) (hv:zaP p=true) (hl:zd5 p l=true) {h c:Int} (hi:inB h 30 7200=true) (hc:(zkC p l+h-1)/h=c):zbM p l h=some (c,0):=by
 rw [zAh H,if_pos (by rw [kB hv hl,hi]; rfl)];unfold zhJ;rw [hc]
theorem zpV:zu=some true:=
 zsX zsW kR (kO sI sv zsV ko) (kO sI sv zsV kx) (by rw [zy6 sI,if_pos (kB sv zsV),srd]) (kC sI sv zsV rfl (by rw [srd]; rfl)) (kC sI sv zsV rfl (by rw [srd]; rfl))
end Go.Ai.Sx
