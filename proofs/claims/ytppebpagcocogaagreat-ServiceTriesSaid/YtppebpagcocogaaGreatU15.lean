/- Service: a course and its running times. -/
import Derived.Test.YtppebpagcocogaaGreatU14
set_option linter.unusedSimpArgs false
set_option linter.unusedVariables false
set_option linter.unusedSectionVars false
namespace Go.Ai.Sx
open Option renaming bind->Zb,bind_some->Zs
theorem zhw (n a b:Int):zw n a b=some (inB n a b):=zfc n a b
theorem zzH (n a b:Int):zbu n a b=some (inB n a b):=zfc n a b
theorem zsV {A:Type} {n:Nat} {f:Nat->A} {i:Nat} {v:A}:(rlN n f).set i v=rlN n λx=>if x=i then v else f x:=by
 apply List.ext_getElem?;intro j;unfold rlN;rw [List.getElem?_set];by_cases h:i=j
 . subst h;by_cases h2:i<n
   . simp [h2]
   . simp [h2]
 . by_cases h2:j<n
   . simp [h,h2,Ne.symm h]
   . simp [h,h2]
theorem zfX {A:Type} {n:Nat} {f g:Nat->A} (h:∀ i,i<n->f i=g i):rlN n f=rlN n g:=List.map_congr_left λi hi=>h i (List.mem_range.1 hi)
theorem zet {A:Type} {n:Nat} {f:Nat->A} {i:Nat} (h:i<n):idx (rlN n f) (i:Int)=some (f i):=by
 rw [zdd]; unfold rlN; simp [h]
theorem zp1 {A:Type} (n:Nat) (x:A):List.replicate n x=rlN n λ_=>x:=by
 apply List.ext_getElem?;intro j;unfold rlN;rw [List.getElem?_replicate];by_cases h:j<n<;>simp [h]
def dwl (c:Course) (i:Nat):Int:=c.2.2.1.getD i 0
def stB (p:Plan) (c:Course) (i:Nat):Bool:=inB (zdo c.2.1 i) 1 (wlS p c.1)&&(decide (i=0)||!decide (zdo c.2.1 i<=zdo c.2.1 (i-1)))&&inB (dwl c i) 0 600
def znR (c:Course):Bool:=inB (zm c.2.1) 2 60&&(decide (c.2.2.1.length=c.2.1.length)&&((dwl c 0==0)&&(dwl c (c.2.1.length-1)==0)))
def zvT (p:Plan) (c:Course):Bool:=zkD p c.1&&(znR c&&(List.range c.2.1.length).all (stB p c))
theorem zsW (c:Course) (e:Int) (he:2<=c.2.1.length->c.2.1.length<=60->c.2.2.1.length=c.2.1.length->e=((c.2.1.length-1:Nat):Int)):(cond (!(inB (zm c.2.1) 2 60)) (some true) (cond (zm c.2.2.1 !=zm c.2.1) (some true) (Zb (idx c.2.2.1 0) λx14=>
cond (x14 !=0) (some true) (Zb (idx c.2.2.1 e) λx16=>
some (x16 !=0)))))=some (!znR c):=by
 unfold znR;cases h1:inB (zm c.2.1) 2 60 with
 | false=>rfl
 | true=>
 have h1:=zI.1 h1;rw [zp] at h1;by_cases h2:c.2.2.1.length=c.2.1.length
 . have e1:(zm c.2.2.1 !=zm c.2.1)=false:=by rw [zp,zp,h2]; exact bne_self_eq_false _
   rw [e1,decide_eq_true h2,he (by omega) (by omega) h2];have hp:0<c.2.2.1.length:=by omega
   have i0:idx c.2.2.1 0=some (dwl c 0):=zn (l:=c.2.2.1) (i:=0) 0 hp;rw [i0,zn (l:=c.2.2.1) (i:=c.2.1.length-1) 0 (by omega)];show cond (dwl c 0 !=0) (some true) (some (dwl c (c.2.1.length-1)!=0))=_;unfold bne;cases (dwl c 0==0)<;>rfl
 . have e1:(zm c.2.2.1 !=zm c.2.1)=true:=by
    rw [zp,zp];simp only [bne_iff_ne,ne_eq];omega
   rw [e1,decide_eq_false h2];rfl
theorem zju {c:Course} (h:znR c=true):(2<=c.2.1.length/\c.2.1.length<=60)/\c.2.2.1.length=c.2.1.length/\dwl c 0=0/\dwl c (c.2.1.length-1)=0:=by
 unfold znR at h;simp only [Bool.and_eq_true,decide_eq_true_eq,beq_iff_eq] at h;obtain ⟨h1,h2,h3,h4⟩:=h;have h1:=zI.1 h1;rw [zp] at h1;exact ⟨by omega,h2,h3,h4⟩
structure zvf (p:Plan) (c:Course):Prop where
 w:zkD p c.1=true
 n:2<=c.2.1.length/\c.2.1.length<=60
 d:c.2.2.1.length=c.2.1.length
 d0:dwl c 0=0
 dn:dwl c (c.2.1.length-1)=0
 st:∀ i,i<c.2.1.length->1<=zdo c.2.1 i/\zdo c.2.1 i<=wlS p c.1
 dw:∀ i,i<c.2.1.length->0<=dwl c i/\dwl c i<=600
theorem zzl {p:Plan} {c:Course} (h:zvT p c=true):zvf p c:=by
 unfold zvT at h;simp only [Bool.and_eq_true] at h;obtain ⟨h1,h2,h3⟩:=h;obtain ⟨a,b,c1,d⟩:=zju h2;have hs:∀ i,i<c.2.1.length->stB p c i=true:=λi hi=>List.all_eq_true.1 h3 i (List.mem_range.2 hi);refine ⟨h1,a,b,c1,d,λi hi=>?_,λi hi=>?_⟩
 . have:=hs i hi;unfold stB at this;simp only [Bool.and_eq_true] at this;exact zI.1 this.1.1
 . have:=hs i hi;unfold stB at this;simp only [Bool.and_eq_true] at this;exact zI.1 this.2
def zic (ms:Int):Int:=max 1 ((ms+999)/1000)
theorem znS {ms:Int} (h:0<=ms/\ms<=3600000):1<=zic ms/\zic ms<=3600:=by unfold zic; omega
def zp2 (p:Plan) (l:Line) (c:Course):Option (List Int):=
 if zeO p c.1 l.2.2.1 l.2.2.2.1 c.2.1 then (zg4 p c.1 l.2.2.1 l.2.2.2.1 c.2.1).map (λgs=>gs.map (·.1)) else none
theorem zvU {p:Plan} {l:Line} {c:Course} {ms:List Int} (h:zp2 p l c=some ms) (hb:wlS p c.1<=248000000):ms.length=c.2.1.length-1/\∀ m∈ms,0<=m/\m<=3600000:=by
 unfold zp2 at h;split at h
 . rename_i hs;cases hl:zg4 p c.1 l.2.2.1 l.2.2.2.1 c.2.1 with
   | none=>rw [hl] at h; cases h
   | some gs=>
    rw [hl] at h;cases h;refine ⟨by rw [List.length_map]; exact zmy (ziP hs hb) hl,λm hm=>?_⟩;obtain ⟨g,hg,rfl⟩:=List.mem_map.1 hm;exact zxU hl g hg
 . cases h
theorem zBc (p:Plan) (l:Line) (c:Course) (hw:c.1.length<=9223372036854775807) (hn:c.2.1.length<=60) (hb:wlS p c.1<=248000000):∃ e:Int,zbK p c.1 l.2.2.1 l.2.2.2.1 c.2.1=some (match zp2 p l c with | some ms=>(ms,0) | none=>([],e))/\(zp2 p l c=none->e≠0):=by
 unfold zp2;cases hs:zeO p c.1 l.2.2.1 l.2.2.2.1 c.2.1 with
 | false=>exact ⟨2,zzk hw (by omega) hs,λ_=>by omega⟩
 | true=>
  refine ⟨4, ?_,λ_=>by omega⟩;rw [zxT hs hb];cases zg4 p c.1 l.2.2.1 l.2.2.2.1 c.2.1<;>rfl
theorem zAy (p:Plan) (l:Line) (c:Course) (hw:c.1.length<=9223372036854775807) (hn:c.2.1.length<=60) (hb:wlS p c.1<=248000000):zfr p c.1 l.2.2.1 l.2.2.2.1 c.2.1=some (match zp2 p l c with | some ms=>(ms,true) | none=>([],false)):=by
  unfold zfr zp2;rw [zsM p c.1 l.2.2.1 l.2.2.2.1 c.2.1 hw (by omega)];cases hs:zeO p c.1 l.2.2.1 l.2.2.2.1 c.2.1 with
  | false=>rfl
  | true=>
    have R:=ziP hs hb;simp only [Zs,Bool.not_true,cond_false,if_true];rw [zqK R];cases hl:zg4 p c.1 l.2.2.1 l.2.2.2.1 c.2.1 with
    | none=>rfl
    | some gs=>
      have hlen:=zmy R hl;have hL:=zcE (f:=λs7:List Int×Int=>
cond (decide (s7.2<(zm gs))) (Zb (idx gs s7.2) λx10=>
Zb (zdp 8 s7.1 ([x10.1])) λx13=>
some (.inl (x13,(w64 (s7.2+1))))) (some (.inr s7.1))) gs (λi b=>(b,(i:Int))) (λ_ b c=>(.inl (b++[c.1]):List Int⊕List Int)) (λb=>b) (λi b=>b.length=i) [] (s0:=([],0)) rfl (by omega) rfl (λi h b hb=>by
        refine ⟨?_,λb' hb'=>?_⟩
        · simp only [];rw [zF h,cond_true,zdd,List.getElem?_eq_getElem h,Zs,zaF (by simp; omega),Zs,zy (by omega)]
        · cases hb'; simp; omega) (λb _=>by simp only [zG,cond_false])
      simp only [Zs];rw [hL,zfd,Zs];have:∀ (l:List Leg) (b:List Int),l.foldl (λb c=>b++[c.1]) b=b++l.map (·.1):=by
        intro l;induction l with
        | nil=>intro b; simp
        | cons a l ih=>intro b; rw [List.foldl_cons,ih]; simp
      rw [this]; rfl
end Go.Ai.Sx
/- Service: the run of a course. -/
namespace Go.Ai.Sx
open Option renaming bind->Zb,bind_some->Zs
def ztu (ms:List Int) (k:Nat):Int:=if k=0 then 0 else zic (ms.getD (k-1) 0)
def zex (ms:List Int) (c:Course):Nat->Int
 | 0=>0
 | k+1=>zex ms c k+zic (ms.getD k 0)+dwl c (k+1)
def zg5 (ms:List Int) (c:Course):List Int:=rlN c.2.1.length (zex ms c)
def zxX (ms:List Int) (c:Course):List Int:=rlN c.2.1.length (ztu ms)
def zid (p:Plan) (l:Line) (c:Course):Option (List Int):=if zvT p c then zp2 p l c else none
structure zAz (c:Course) (ms:List Int):Prop where
 n:ms.length=c.2.1.length-1
 b:∀ k,0<=ms.getD k 0/\ms.getD k 0<=3600000
theorem zo2 {p:Plan} {l:Line} {c:Course} {ms:List Int} (h:zid p l c=some ms) (hb:zkD p c.1=true->wlS p c.1<=248000000):zvf p c/\zAz c ms:=by
 unfold zid at h;split at h
 . rename_i hc;have C:=zzl hc;obtain ⟨h1,h2⟩:=zvU h (hb C.w);refine ⟨C,h1,λk=>?_⟩;by_cases hk:k<ms.length
   . rw [show ms.getD k 0=ms[k] by simp [List.getD,hk]];exact h2 _ (List.getElem_mem hk)
   . rw [show ms.getD k 0=0 by simp [List.getD,hk]]; omega
 . cases h
section
variable {p:Plan} {l:Line} {c:Course} {ms:List Int} (C:zvf p c) (M:zAz c ms)
include C M
theorem zhd:∀ {k:Nat},k<c.2.1.length->0<=zex ms c k/\zex ms c k<=4200*k
 | 0,_=>by simp [zex]
 | k+1,hk=>by
  have h1:=zhd (k:=k) (by omega);have h2:=znS (M.b k);have h3:=C.dw (k+1) hk;simp only [zex];omega
theorem zsX {i j:Nat} (h:i<j) (hj:j<c.2.1.length):zex ms c i+1<=zex ms c j:=by
 induction j with
 | zero=>omega
 | succ j ih=>
  have h2:=znS (M.b j);have h3:=C.dw (j+1) hj;simp only [zex];by_cases e:i=j
  . subst e; omega
  . have:=ih (by omega) (by omega); omega
theorem zvg:∀ (k i:Nat),i+k=c.2.1.length-1->Lp (λs106:Int×List Int×List Int=>
cond (decide (s106.1<(zm ms))) (Zb (idx ms s106.1) λx109=>
Zb (zc2 .i64 (w64 (x109+999)) 1000) λx110=>
Zb (idx s106.2.2 (w64 (s106.1+1))) λx111=>
Zb (idx s106.2.1 s106.1) λx116=>
Zb (idx ((s106.2.2).set (Int.toNat (w64 (s106.1+1))) (max 1 x110)) (w64 (s106.1+1))) λx117=>
Zb (idx c.2.2.1 (w64 (s106.1+1))) λx118=>
Zb (idx s106.2.1 (w64 (s106.1+1))) λx119=>
some (.inl ((w64 (s106.1+1)),(s106.2.1).set (Int.toNat (w64 (s106.1+1))) (w64 ((w64 (x116+x117))+x118)),(s106.2.2).set (Int.toNat (w64 (s106.1+1))) (max 1 x110)))) (some (.inr (s106.2.1,s106.2.2)))) k ((i:Int),rlN c.2.1.length (λk=>if k<=i then zex ms c k else 0),rlN c.2.1.length (λk=>if k<=i then ztu ms k else 0)) (zg5 ms c,zxX ms c):=by
 intro k;have hn:=C.n;have hd:=C.d;have hm:=M.n;induction k with
 | zero=>
  intro i hi;refine Lp.done ?_;simp only [];rw [show (i:Int)=(ms.length:Nat) by omega,zG,cond_false];have e1:rlN c.2.1.length (λk=>if k<=i then zex ms c k else 0)=zg5 ms c:=zfX λk hk=>by rw [if_pos (by omega)]
  have e2:rlN c.2.1.length (λk=>if k<=i then ztu ms k else 0)=zxX ms c:=zfX λk hk=>by rw [if_pos (by omega)]
  rw [e1,e2]
 | succ k ih=>
  intro i hi;have hil:i<ms.length:=by omega
  refine Lp.step ?_ (ih (i+1) (by omega));have a1:idx ms (i:Int)=some (ms.getD i 0):=zn 0 hil;have hb:=M.b i;have hs:=znS hb;have a2:zc2 .i64 (w64 (ms.getD i 0+999)) 1000=some ((ms.getD i 0+999)/1000):=by
   rw [zh (by omega) (by omega),zbV ⟨by omega,by omega⟩ (by omega)]
  have a3:idx (rlN c.2.1.length (λk=>if k<=i then ztu ms k else 0)) ((i+1:Nat):Int)=some 0:=by
   rw [zet (by omega),if_neg (by omega)]
  have a4:idx (rlN c.2.1.length (λk=>if k<=i then zex ms c k else 0)) ((i:Nat):Int)=some (zex ms c i):=by
   rw [zet (by omega),if_pos (by omega)]
  have a5:idx (rlN c.2.1.length (λk=>if k<=i then zex ms c k else 0)) ((i+1:Nat):Int)=some 0:=by
   rw [zet (by omega),if_neg (by omega)]
  have a6:idx c.2.2.1 ((i+1:Nat):Int)=some (dwl c (i+1)):=zn 0 (by omega);have hsec:max 1 ((ms.getD i 0+999)/1000)=zic (ms.getD i 0):=rfl;have b1:(rlN c.2.1.length (λk=>if k<=i then ztu ms k else 0)).set (i+1) (zic (ms.getD i 0))=rlN c.2.1.length (λk=>if k<=i+1 then ztu ms k else 0):=by
   rw [zsV];refine zfX λk hk=>?_;by_cases e:k=i+1
   ·subst e;rw [if_pos rfl,if_pos (by omega)];unfold ztu;rw [if_neg (by omega)]; rfl
   ·rw [if_neg e];by_cases e2:k<=i
    ·rw [if_pos e2,if_pos (by omega)]
    ·rw [if_neg e2,if_neg (by omega)]
  have hob:=zhd C M (k:=i) (by omega);have hdb:=C.dw (i+1) (by omega);have b2:(rlN c.2.1.length (λk=>if k<=i then zex ms c k else 0)).set (i+1) (w64 (w64 (zex ms c i+zic (ms.getD i 0))+dwl c (i+1)))=rlN c.2.1.length (λk=>if k<=i+1 then zex ms c k else 0):=by
   rw [zsV,zh (n:=zex ms c i+_) (by omega) (by omega),zh (by omega) (by omega)];refine zfX λk hk=>?_;by_cases e:k=i+1
   ·subst e;rw [if_pos rfl,if_pos (by omega)]; rfl
   ·rw [if_neg e];by_cases e2:k<=i
    ·rw [if_pos e2,if_pos (by omega)]
    ·rw [if_neg e2,if_neg (by omega)]
  have a7:idx (rlN c.2.1.length (λk=>if k<=i+1 then ztu ms k else 0)) ((i+1:Nat):Int)=some (zic (ms.getD i 0)):=by
   rw [zet (by omega),if_pos (by omega)];unfold ztu;rw [if_neg (by omega)]; rfl
  simp only [zF hil,cond_true,a1,Zs,a2,zy (show i<9223372036854775807 by omega),a3,a4,hsec,Int.toNat_natCast,b1,a7,a6,a5,b2]
end
theorem zsY {p:Plan} {l:Line} {c:Course} (hv:zat p=true) (hp:zi7 p) (hwl:c.1.length<=9223372036854775807) (hsl:c.2.1.length<=9223372036854775807) (hb:zkD p c.1=true->wlS p c.1<=248000000):za5 p l c=some (match zid p l c with | some ms=>(zxX ms c,zg5 ms c,decide (zex ms c (c.2.1.length-1)<=50000)) | none=>([],[],false)):=by
  unfold za5;rw [zi9 p hwl,hv,Bool.true_and,Zs];unfold zid zvT;cases hw:zkD p c.1 with
  | false=>rfl
  | true=>
  have hb:=hb hw;simp only [if_true,show ((0:Int)!=0)=false from rfl,cond_false,zhw,Zs];rw [zsW c _ (λh1 h2 _=>by rw [zp,zh (by omega) (by omega)]; omega),Zs];cases hh:znR c with
  | false=>rfl
  | true=>
  obtain ⟨hn,hd,hd0,hdn⟩:=zju hh;simp only [Bool.not_true,cond_false,Bool.true_and];have h:=zbn (f:=λs42:Int=>
cond (decide (s42<(zm c.2.1))) (Zb (idx c.2.1 s42) λx45=>
cond (!(inB x45 1 (wlS p c.1))) (some (.inr (.inr ([],[],false)))) (cond (decide (s42>0)) (Zb (idx c.2.1 (w64 (s42-1))) λx59=>
cond (decide (x45<=x59)) (some (.inr (.inr ([],[],false)))) (Zb (idx c.2.2.1 s42) λx62=>
cond (!(inB x62 0 600)) (some (.inr (.inr ([],[],false)))) (some (.inl (w64 (s42+1)))))) (Zb (idx c.2.2.1 s42) λx65=>
cond (!(inB x65 0 600)) (some (.inr (.inr ([],[],false)))) (some (.inl (w64 (s42+1))))))) (some (.inr (.inl ():Unit⊕(List Int×List Int×Bool))))) (λk=>(k:Int)) c.2.1.length (stB p c) (.inr ([],[],false)) (.inl ()) (s0:=0) rfl (by simp only [big]; omega) (λi hi=>by
      have a1:idx c.2.1 (i:Int)=some (zdo c.2.1 i):=zn 0 hi;have a2:idx c.2.2.1 (i:Int)=some (dwl c i):=zn 0 (by omega);unfold stB;by_cases h0:i=0
      · subst h0;simp only [zF hi,cond_true,a1,a2,Zs,decide_eq_false (show ¬ (((0:Nat):Int)>0) by omega),cond_false,decide_eq_true (show (0:Nat)=0 from rfl),Bool.true_or,Bool.and_true,zy (show 0<9223372036854775807 by omega)];cases inB (zdo c.2.1 0) 1 (wlS p c.1)<;>cases inB (dwl c 0) 0 600<;>rfl
      · have a3:idx c.2.1 (w64 ((i:Int)-1))=some (zdo c.2.1 (i-1)):=by
          rw [zh (by omega) (by omega),show (i:Int)-1=((i-1:Nat):Int) by omega];exact zn 0 (by omega)
        simp only [zF hi,cond_true,a1,a2,a3,Zs,decide_eq_true (show (i:Int)>0 by omega),decide_eq_false h0,Bool.false_or,zy (show i<9223372036854775807 by omega)];cases inB (zdo c.2.1 i) 1 (wlS p c.1)<;>cases decide (zdo c.2.1 i<=zdo c.2.1 (i-1))<;>cases inB (dwl c i) 0 600<;>rfl) (by simp only [zG,cond_false])
  rw [h,Zs];cases hs:(List.range c.2.1.length).all (stB p c) with
  | false=>rfl
  | true=>
  simp only [if_true,zaG];obtain ⟨e,hR,he⟩:=zBc p l c hwl (by omega) hb;rw [hR,Zs];cases hl:zp2 p l c with
  | none=>
    have he:=he hl;have:(e !=0)=true:=by simpa using he
    simp only [this,cond_true,Zs]
  | some ms=>
    have hrs:zid p l c=some ms:=by
      unfold zid zvT;rw [hw,hh,hs];exact hl
    obtain ⟨C,M⟩:=zo2 hrs (λ_=>hb);have hm:=M.n;have e1:(zm ms !=w64 (zm c.2.1-1))=false:=by
      rw [zp,zp,zh (by omega) (by omega),hm];have:((c.2.1.length-1:Nat):Int)=(c.2.1.length:Int)-1:=by omega
      rw [this]; exact bne_self_eq_false _
    simp only [show ((0:Int)!=0)=false from rfl,cond_false,Zs,e1];have em:mkO 8 (zm c.2.1) (0:Int)=some (List.replicate c.2.1.length 0):=by
      rw [zme (by rw [zp]; omega),zp,Int.toNat_natCast]
    simp only [em,Zs];have hL:=(zvg C M (c.2.1.length-1) 0 (by omega)).big (by simp only [big]; omega);have z1:List.replicate c.2.1.length (0:Int)=rlN c.2.1.length (λk=>if k<=0 then zex ms c k else 0):=by
      rw [zp1];refine zfX λk hk=>?_;by_cases e:k=0
      · subst e; rfl
      · rw [if_neg (by omega)]
    have z2:List.replicate c.2.1.length (0:Int)=rlN c.2.1.length (λk=>if k<=0 then ztu ms k else 0):=by
      rw [zp1];refine zfX λk hk=>?_;by_cases e:k=0
      · subst e; rfl
      · rw [if_neg (by omega)]
    rw [← z1,← z2] at hL;rw [show ((0:Nat):Int)=0 from rfl] at hL;rw [hL,Zs];have e2:idx (zg5 ms c) (w64 (zm c.2.1-1))=some (zex ms c (c.2.1.length-1)):=by
      rw [zp,zh (by omega) (by omega),show (c.2.1.length:Int)-1=((c.2.1.length-1:Nat):Int) by omega];exact zet (by omega)
    rw [e2,Zs]
end Go.Ai.Sx
/- Service: a line; its offsets,its round and its cars,in the program and in the reference. -/
namespace Go.Ai.Sx
open Option renaming bind->Zb,bind_some->Zs
def okC (p:Plan) (l:Line) (c:Course):Bool:=match zid p l c with | some ms=>decide (zex ms c (c.2.1.length-1)<=50000) | none=>false
def zdB (p:Plan) (l:Line):Bool:=inB l.2.2.2.2.1 0 3600&&(okC p l l.1&&okC p l l.2.1)
def msC (p:Plan) (l:Line) (c:Course):List Int:=(zid p l c).getD []
def rnS (p:Plan) (l:Line):zo:=(l,[zxX (msC p l l.1) l.1,zxX (msC p l l.2.1) l.2.1],[zg5 (msC p l l.1) l.1,zg5 (msC p l l.2.1) l.2.1],())
structure zmz (p:Plan) (l:Line):Prop where
 w1:l.1.1.length<=9223372036854775807
 s1:l.1.2.1.length<=9223372036854775807
 w2:l.2.1.1.length<=9223372036854775807
 s2:l.2.1.2.1.length<=9223372036854775807
 b1:zat p=true->zkD p l.1.1=true->wlS p l.1.1<=248000000
 b2:zat p=true->zkD p l.2.1.1=true->wlS p l.2.1.1<=248000000
def zvh (p_0:Plan) (l_1:Line) (y10:List Course):(Int×(List Int)×(List Int)×(List Int)×(List Int))->Option ((Int×(List Int)×(List Int)×(List Int)×(List Int))⊕(((List Int)×(List Int)×(List Int)×(List Int))⊕((Option zo)×Bool×(List Int)×(List Int)×(List Int)×(List Int)))):=(λs39=>
cond (decide (s39.1<2)) (Zb (idx y10 s39.1) λx42=>
Zb (za5 p_0 l_1 x42) λy49=>
Zb (idx [(),()] s39.1) λx52=>
Zb (idx [(),()] s39.1) λx53=>
cond (!y49.2.2) (some (.inr (.inr ((none:Option zo),false,cond (s39.1==0) y49.1 s39.2.1,cond (s39.1==1) y49.1 s39.2.2.1,cond (s39.1==0) y49.2.1 s39.2.2.2.1,cond (s39.1==1) y49.2.1 s39.2.2.2.2)))) (some (.inl ((w64 (s39.1+1)),cond (s39.1==0) y49.1 s39.2.1,cond (s39.1==1) y49.1 s39.2.2.1,cond (s39.1==0) y49.2.1 s39.2.2.2.1,cond (s39.1==1) y49.2.1 s39.2.2.2.2)))) (some (.inr (.inl (s39.2.1,s39.2.2.1,s39.2.2.2.1,s39.2.2.2.2)))))
theorem zvV {p:Plan} {l:Line} {y:List Course} {c:Course} {i:Int} {r0 r1 o0 o1:List Int} (hi:i=0\/i=1) (hy:idx y i=some c) {r o:List Int} (hr:za5 p l c=some (r,o,false)):∃ T,zvh p l y (i,r0,r1,o0,o1)=some (.inr (.inr (none,false,T))):=by
 unfold zvh;rcases hi with rfl | rfl
 . simp only [show decide ((0:Int)<2)=true from rfl,cond_true,hy,hr,Zs];exact ⟨_,rfl⟩
 . simp only [show decide ((1:Int)<2)=true from rfl,cond_true,hy,hr,Zs];exact ⟨_,rfl⟩
theorem zvi {p:Plan} {l:Line} {r0 r1 o0 o1:List Int} {b0 b1:Bool} (h0:za5 p l l.1=some (r0,o0,b0)) (h1:za5 p l l.2.1=some (r1,o1,b1)):∃ T,iter (zvh p l [l.1,l.2.1]) big (0,[],[],[],[])=some (if (b0&&b1)=true then .inl (r0,r1,o0,o1) else .inr (none,false,T)):=by
 cases b0 with
 | false=>
  obtain ⟨T,hT⟩:=zvV (r0:=[]) (r1:=[]) (o0:=[]) (o1:=[]) (y:=[l.1,l.2.1]) (.inl rfl) rfl h0;exact ⟨T,(Lp.done (N:=0) hT).big (by simp only [big]; omega)⟩
 | true=>
  have s0:zvh p l [l.1,l.2.1] (0,[],[],[],[])=some (.inl (1,r0,[],o0,[])):=by
   unfold zvh;simp only [show decide ((0:Int)<2)=true from rfl,cond_true,show idx [l.1,l.2.1] (0:Int)=some l.1 from rfl,h0,Zs];rfl
  cases b1 with
  | false=>
   obtain ⟨T,hT⟩:=zvV (r0:=r0) (r1:=[]) (o0:=o0) (o1:=[]) (y:=[l.1,l.2.1]) (i:=1) (.inr rfl) rfl h1;exact ⟨T,(Lp.step s0 (Lp.done (N:=0) hT)).big (by simp only [big]; omega)⟩
  | true=>
   have s1:zvh p l [l.1,l.2.1] (1,r0,[],o0,[])=some (.inl (2,r0,r1,o0,o1)):=by
    unfold zvh;simp only [show decide ((1:Int)<2)=true from rfl,cond_true,show idx [l.1,l.2.1] (1:Int)=some l.2.1 from rfl,h1,Zs];rfl
   have s2:zvh p l [l.1,l.2.1] (2,r0,r1,o0,o1)=some (.inr (.inl (r0,r1,o0,o1))):=rfl;exact ⟨([],[],[],[]),(Lp.step s0 (Lp.step s1 (Lp.done (N:=0) s2))).big (by simp only [big]; omega)⟩
theorem zjv {p:Plan} {l:Line} (H:zmz p l):zby p l=some (if (zat p&&zdB p l)=true then (some (rnS p l),true) else (none,false)):=by
 unfold zby;rw [znC,Zs];cases hv:zat p with
 | false=>rfl
 | true=>
 have hp:=zdm hv;simp only [if_true,show ((0:Int)!=0)=false from rfl,cond_false,zhw,Zs,Bool.true_and];unfold zdB;cases hy:inB l.2.2.2.2.1 0 3600 with
 | false=>rfl
 | true=>
 simp only [Bool.not_true,cond_false,Bool.true_and,show zaX l=some [l.1,l.2.1] from rfl,Zs];have e0:=zsY hv hp (l:=l) H.w1 H.s1 (H.b1 hv);have e1:=zsY hv hp (l:=l) H.w2 H.s2 (H.b2 hv);have f0:za5 p l l.1=some ((match zid p l l.1 with | some ms=>zxX ms l.1 | none=>[]),(match zid p l l.1 with | some ms=>zg5 ms l.1 | none=>[]),okC p l l.1):=by
  rw [e0]; unfold okC;cases zid p l l.1<;>rfl
 have f1:za5 p l l.2.1=some ((match zid p l l.2.1 with | some ms=>zxX ms l.2.1 | none=>[]),(match zid p l l.2.1 with | some ms=>zg5 ms l.2.1 | none=>[]),okC p l l.2.1):=by
  rw [e1]; unfold okC;cases zid p l l.2.1<;>rfl
 obtain ⟨T,hT⟩:=zvi f0 f1;unfold zvh at hT;rw [hT,Zs];cases h0:okC p l l.1 with
 | false=>rfl
 | true=>
 cases h1:okC p l l.2.1 with
 | false=>rfl
 | true=>
 simp only [Bool.and_self,if_true,zaG];unfold rnS msC;have g0:∃ ms,zid p l l.1=some ms:=by
  unfold okC at h0;cases hc:zid p l l.1 with
  | none=>rw [hc] at h0; cases h0
  | some ms=>exact ⟨ms,rfl⟩
 have g1:∃ ms,zid p l l.2.1=some ms:=by
  unfold okC at h1;cases hc:zid p l l.2.1 with
  | none=>rw [hc] at h1; cases h1
  | some ms=>exact ⟨ms,rfl⟩
 obtain ⟨m0,g0⟩:=g0;obtain ⟨m1,g1⟩:=g1;rw [g0,g1];rfl
def zeP (p:Plan) (l:Line) (c:Course):Int:=zex (msC p l c) c (c.2.1.length-1)
def zkF (p:Plan) (l:Line):Int:=zeP p l l.1+zeP p l l.2.1+2*l.2.2.2.2.1
structure zxY (p:Plan) (l:Line) (c:Course):Prop where
 e:zid p l c=some (msC p l c)
 C:zvf p c
 M:zAz c (msC p l c)
 l1:1<=zeP p l c
 l2:zeP p l c<=50000
structure zsZ (p:Plan) (l:Line):Prop where
 y:0<=l.2.2.2.2.1/\l.2.2.2.2.1<=3600
 o:zxY p l l.1
 h:zxY p l l.2.1
theorem zxZ {p:Plan} {l:Line} {c:Course} (h:okC p l c=true) (hb:zkD p c.1=true->wlS p c.1<=248000000):zxY p l c:=by
 unfold okC at h;cases hc:zid p l c with
 | none=>rw [hc] at h; cases h
 | some ms=>
  rw [hc] at h;simp only [decide_eq_true_eq] at h;obtain ⟨C,M⟩:=zo2 hc hb;have hm:msC p l c=ms:=by unfold msC; rw [hc]; rfl
  have hn:=C.n;have h1:=zsX C M (i:=0) (j:=c.2.1.length-1) (by omega) (by omega);simp only [zex] at h1;exact ⟨by rw [hm]; exact hc,C,by rw [hm]; exact M,by unfold zeP; rw [hm]; omega,by unfold zeP; rw [hm]; omega⟩
theorem zvj {p:Plan} {l:Line} (H:zmz p l) (hv:zat p=true) (h:zdB p l=true):zsZ p l:=by
 unfold zdB at h;simp only [Bool.and_eq_true] at h;exact ⟨zI.1 h.1,zxZ h.2.1 (H.b1 hv),zxZ h.2.2 (H.b2 hv)⟩
theorem zjw (ms:List Int) (c:Course):(zg5 ms c).length=c.2.1.length:=zgg _ _
theorem zh6 {p:Plan} {l:Line} {c:Course} (h:zxY p l c):idx (zg5 (msC p l c) c) (w64 (zm (zg5 (msC p l c) c)-1))=some (zeP p l c):=by
 have hn:=h.C.n;rw [zp,zjw,zh (by omega) (by omega),show (c.2.1.length:Int)-1=((c.2.1.length-1:Nat):Int) by omega];exact zet (by omega)
section
variable {p:Plan} {l:Line} (K:zsZ p l)
include K
theorem zo3 (s:Bool):zU (rnS p l) (cond s 1 0)=some (cond s (zeP p l l.2.1) (zeP p l l.1)):=by
 unfold zU;cases s with
 | false=>
  simp only [cond_false];rw [show idx (rnS p l).2.2.1 (0:Int)=some (zg5 (msC p l l.1) l.1) from rfl];simp only [Zs,zh6 K.o]
 | true=>
  simp only [cond_true];rw [show idx (rnS p l).2.2.1 (1:Int)=some (zg5 (msC p l l.2.1) l.2.1) from rfl];simp only [Zs,zh6 K.h]
theorem znT:2<=zkF p l/\zkF p l<=107200:=by
 have h1:=K.o.l1;have h2:=K.o.l2;have h3:=K.h.l1;have h4:=K.h.l2;have h5:=K.y;unfold zkF;omega
theorem zmA:zaL (rnS p l)=some (zkF p l):=by
 have h1:=K.o.l1;have h2:=K.o.l2;have h3:=K.h.l1;have h4:=K.h.l2;have h5:=K.y;unfold zaL;rw [show zU (rnS p l) 0=_ from zo3 K false,show zU (rnS p l) 1=_ from zo3 K true];simp only [Zs,cond_true,cond_false];show some (w64 (w64 (zeP p l l.1+zeP p l l.2.1)+w64 (2*l.2.2.2.2.1)))=_;rw [zh (n:=zeP p l l.1+_) (by omega) (by omega),zh (n:=2*_) (by omega) (by omega),zh (by omega) (by omega)];rfl
def zks (p:Plan) (l:Line) (h:Int):Int:=(zkF p l+h-1)/h
theorem zp3 {h:Int} (hh:1<=h/\h<=1000000000000):zbl (rnS p l) h=some (zks p l h):=by
 have:=znT K;unfold zbl;rw [zmA K,Zs,zh (n:=zkF p l+h) (by omega) (by omega),zh (by omega) (by omega),zbV ⟨by omega,by omega⟩ (by omega)];rfl
theorem zs0 {h:Int} (hh:1<=h):1<=zks p l h/\zks p l h<=107200/\(zks p l h-1)*h<zkF p l/\zkF p l<=zks p l h*h/\zks p l h*h<=zkF p l+h-1:=by
 have hb:=znT K;obtain ⟨h1,h2⟩:=zxW (r:=zkF p l) (show 0<h by omega);have h3:zks p l h*h<=zkF p l+h-1:=Int.ediv_mul_le _ (by omega);have h4:1<=zks p l h:=by
  unfold zks;rw [Int.le_ediv_iff_mul_le (by omega)];omega
 have h5:zks p l h<=zkF p l:=by
  have:(zks p l h-1)*1<=(zks p l h-1)*h:=Int.mul_le_mul_of_nonneg_left (by omega) (by omega);have h6:(zks p l h-1)*h<zkF p l:=h1;omega
 exact ⟨h4,by omega,h1,h2,h3⟩
end
end Go.Ai.Sx
/- Service: the reference's lines; small plans. -/
namespace Go.Ai.Sx
open Option renaming bind->Zb,bind_some->Zs
def zbS (l:Line) (home:Bool):Course:=cond home l.2.1 l.1
structure CIn (p:Plan) (c:Course):Prop where
 w:c.1.length<=9223372036854775807
 s:c.2.1.length<=9223372036854775807
 b:zkD p c.1=true->wlS p c.1<=248000000
theorem zmz.c {p:Plan} {l:Line} (H:zmz p l) (hv:zat p=true) (home:Bool):CIn p (zbS l home):=by
 cases home
 . exact ⟨H.w1,H.s1,H.b1 hv⟩
 . exact ⟨H.w2,H.s2,H.b2 hv⟩
theorem zfY (l:Line) (home:Bool):zcr l home=some (zbS l home):=by cases home<;>rfl
section
variable {p:Plan} {l:Line} {home:Bool} (hp:zi7 p) (I:CIn p (zbS l home))
include hp I
theorem zp4:zcL p l home=some (match zid p l (zbS l home) with | some ms=>(ms.map zic,true) | none=>([],false)):=by
  unfold zcL;rw [zfY,Zs];have hwl:=I.w;have hsl:=I.s;have hb:=I.b;generalize zbS l home=c at *
  rw [zsB hp hwl,Zs];unfold zid zvT;cases hw:zkD p c.1 with
  | false=>rfl
  | true=>
  have hb:=hb hw;have hwo:=ziM hw;simp only [Bool.not_true,cond_false,zzH,Zs];have hhd:znR c=true->(2<=c.2.1.length/\c.2.1.length<=60)/\c.2.2.1.length=c.2.1.length:=λh=>⟨(zju h).1,(zju h).2.1⟩;rw [zsW c _ (λh1 h2 h3=>by rw [zp,zh (by omega) (by omega)]; omega),Zs];cases hh:znR c with
  | false=>rfl
  | true=>
  obtain ⟨hn,hd⟩:=hhd hh;simp only [Bool.not_true,cond_false,Bool.true_and,zvO hp hwo,Zs];have h:=zbn (f:=λs56:Int=>
cond (decide (s56<(zm c.2.1))) (Zb (idx c.2.1 s56) λx79=>
cond (!(inB x79 1 (wlS p c.1))) (some (.inr (.inr ([],false)))) (Zb (idx c.2.2.1 s56) λx84=>
cond (!(inB x84 0 600)) (some (.inr (.inr ([],false)))) (cond (decide (s56>0)) (Zb (idx c.2.1 s56) λx89=>
Zb (idx c.2.1 (w64 (s56-1))) λx90=>
cond (decide (x89<=x90)) (some (.inr (.inr ([],false)))) (some (.inl (w64 (s56+1))))) (some (.inl (w64 (s56+1))))))) (some (.inr (.inl ():Unit⊕(List Int×Bool))))) (λk=>(k:Int)) c.2.1.length (stB p c) (.inr ([],false)) (.inl ()) (s0:=0) rfl (by simp only [big]; omega) (λi hi=>by
      have a1:idx c.2.1 (i:Int)=some (zdo c.2.1 i):=zn 0 hi;have a2:idx c.2.2.1 (i:Int)=some (dwl c i):=zn 0 (by omega);unfold stB;by_cases h0:i=0
      · subst h0;simp only [zF hi,cond_true,a1,a2,Zs,decide_eq_false (show ¬ (((0:Nat):Int)>0) by omega),cond_false,decide_eq_true (show (0:Nat)=0 from rfl),Bool.true_or,Bool.and_true,zy (show 0<9223372036854775807 by omega)];cases inB (zdo c.2.1 0) 1 (wlS p c.1)<;>cases inB (dwl c 0) 0 600<;>rfl
      · have a3:idx c.2.1 (w64 ((i:Int)-1))=some (zdo c.2.1 (i-1)):=by
          rw [zh (by omega) (by omega),show (i:Int)-1=((i-1:Nat):Int) by omega];exact zn 0 (by omega)
        simp only [zF hi,cond_true,a1,a2,a3,Zs,decide_eq_true (show (i:Int)>0 by omega),decide_eq_false h0,Bool.false_or,zy (show i<9223372036854775807 by omega)];cases inB (zdo c.2.1 i) 1 (wlS p c.1)<;>cases decide (zdo c.2.1 i<=zdo c.2.1 (i-1))<;>cases inB (dwl c i) 0 600<;>rfl) (by simp only [zG,cond_false])
  rw [h,Zs];cases hs:(List.range c.2.1.length).all (stB p c) with
  | false=>rfl
  | true=>
  simp only [if_true,zaG,zAy p l c hwl (by omega) hb,Zs];cases hl:zp2 p l c with
  | none=>rfl
  | some ms=>
    obtain ⟨m1,m2⟩:=zvU hl hb;simp only [Bool.not_true,cond_false];have hL:=zcE (f:=λs105:List Int×Int=>
cond (decide (s105.2<(zm ms))) (Zb (idx ms s105.2) λx108=>
Zb (zc2 .i64 (w64 (x108+999)) 1000) λx109=>
Zb (zdp 8 s105.1 ([(max 1 x109)])) λx110=>
some (.inl (x110,(w64 (s105.2+1))))) (some (.inr s105.1))) ms (λi b=>(b,(i:Int))) (λ_ b c=>(.inl (b++[zic c]):List Int⊕List Int)) (λb=>b) (λi b=>b.length=i) [] (s0:=([],0)) rfl (by omega) rfl (λi h b hb=>by
        refine ⟨?_,λb' hb'=>?_⟩
        · have hm:=m2 _ (List.getElem_mem h);have a2:zc2 .i64 (w64 (ms[i]+999)) 1000=some ((ms[i]+999)/1000):=by
            rw [zh (by omega) (by omega),zbV ⟨by omega,by omega⟩ (by omega)]
          simp only [];rw [zF h,cond_true,zdd,List.getElem?_eq_getElem h,Zs,a2,Zs,zaF (by simp; omega),Zs,zy (by omega)];rfl
        · cases hb'; simp; omega) (λb _=>by simp only [zG,cond_false])
    rw [hL,zfd,Zs];have:∀ (l:List Int) (b:List Int),l.foldl (λb c=>b++[zic c]) b=b++l.map zic:=by
      intro l;induction l with
      | nil=>intro b; simp
      | cons a l ih=>intro b; rw [List.foldl_cons,ih]; simp
    rw [this]; rfl
theorem zp5:zeJ p l home=some ((msC p l (zbS l home)).map zic):=by
 unfold zeJ msC;rw [zp4 hp I,Zs];cases zid p l (zbS l home)<;>rfl
theorem zhx (K:zxY p l (zbS l home)):zai p l home=some (zg5 (msC p l (zbS l home)) (zbS l home)):=by
  unfold zai;rw [zfY,Zs,zp5 hp I,Zs];generalize zbS l home=c at *
  have hn:=K.C.n;have hm:=K.M.n;have hd:=K.C.d;have key:∀ k i:Nat,i+k=(msC p l c).length->Lp (λs17:List Int×Int=>
cond (decide (s17.2<(zm ((msC p l c).map zic)))) (Zb (idx s17.1 s17.2) λx25=>
Zb (idx ((msC p l c).map zic) s17.2) λx26=>
Zb (idx c.2.2.1 (w64 (s17.2+1))) λx27=>
Zb (zdp 8 s17.1 ([(w64 ((w64 (x25+x26))+x27))])) λx28=>
some (.inl (x28,(w64 (s17.2+1))))) (some (.inr s17.1))) k (rlN (i+1) (zex (msC p l c) c),(i:Int)) (zg5 (msC p l c) c):=by
    intro k;induction k with
    | zero=>
      intro i hi;refine Lp.done ?_;have:(i:Int)=(((msC p l c).map zic).length:Nat):=by rw [List.length_map]; omega
      simp only [this,zG,cond_false];unfold zg5;rw [show i+1=c.2.1.length by omega]
    | succ k ih=>
      intro i hi;refine Lp.step ?_ (ih (i+1) (by omega));have hil:i<((msC p l c).map zic).length:=by rw [List.length_map]; omega
      have a1:idx (rlN (i+1) (zex (msC p l c) c)) (i:Int)=some (zex (msC p l c) c i):=zet (by omega);have a2:idx ((msC p l c).map zic) (i:Int)=some (zic ((msC p l c).getD i 0)):=by
        have h2:i<(msC p l c).length:=by omega
        rw [zdd,List.getElem?_map,List.getElem?_eq_getElem h2,show (msC p l c).getD i 0=(msC p l c)[i] by simp [List.getD,h2]];rfl
      have a3:idx c.2.2.1 ((i+1:Nat):Int)=some (dwl c (i+1)):=zn (l:=c.2.2.1) (i:=i+1) 0 (by omega);have b1:=zhd K.C K.M (k:=i) (by omega);have b2:=znS (K.M.b i);have b3:=K.C.dw (i+1) (by omega);have a4:zdp 8 (rlN (i+1) (zex (msC p l c) c)) [w64 (w64 (zex (msC p l c) c i+zic ((msC p l c).getD i 0))+dwl c (i+1))]=some (rlN (i+1+1) (zex (msC p l c) c)):=by
        rw [zaF (by rw [zgg]; simp; omega),zmx (i+1),zh (n:=zex (msC p l c) c i+_) (by omega) (by omega),zh (by omega) (by omega)];rfl
      simp only [zF hil,cond_true,a1,a2,Zs,zy (show i<9223372036854775807 by omega),a3,a4]
  have hL:=(key (msC p l c).length 0 (by omega)).big (by simp only [big]; omega);have h0:rlN (0+1) (zex (msC p l c) c)=[0]:=rfl;rw [h0,show ((0:Nat):Int)=0 from rfl] at hL;rw [hL]; rfl
theorem zkt (K:zxY p l (zbS l home)):zcj p l home=some (zeP p l (zbS l home)):=by
 unfold zcj;rw [zhx hp I K];simp only [Zs,zh6 K]
end
section
variable {p:Plan} {l:Line} (hv:zat p=true) (H:zmz p l)
include hv H
theorem zvk:zdQ p l=some (zdB p l):=by
  have hp:=zdm hv;have key:∀ home:Bool,∀ s:Int,s=cond home 1 0->(Zb (zcL p l (s==1)) λy14=>
cond (!y14.2) (some (.inr (.inr false))) (Zb (zai p l (s==1)) λy17=>
Zb (idx y17 (w64 ((zm y17)-1))) λx19=>
cond (decide (x19>50000)) (some (.inr (.inr false))) (some (.inl (w64 (s+1))))))=some (if okC p l (zbS l home) then (.inl (w64 (s+1)):Int⊕(Unit⊕Bool)) else .inr (.inr false)):=by
    intro home s hs;have he:(s==1)=home:=by subst hs; cases home<;>rfl
    rw [he,zp4 hp (H.c hv home),Zs];cases hc:zid p l (zbS l home) with
    | none=>
      have:okC p l (zbS l home)=false:=by unfold okC; rw [hc]
      rw [this]; rfl
    | some ms=>
      obtain ⟨C,M⟩:=zo2 hc (H.c hv home).b;have hm:msC p l (zbS l home)=ms:=by unfold msC; rw [hc]; rfl
      simp only [Bool.not_true,cond_false];cases hok:okC p l (zbS l home) with
      | true=>
        have K:=zxZ hok (H.c hv home).b;rw [zhx hp (H.c hv home) K,Zs,zh6 K,Zs,decide_eq_false (by have:=K.l2; omega),cond_false,if_pos rfl]
      | false=>
        have h2:¬ zex ms (zbS l home) ((zbS l home).2.1.length-1)<=50000:=by
          unfold okC at hok;rw [hc] at hok;simpa using hok
        have hof:zai p l home=some (zg5 ms (zbS l home)):=by
          unfold zai;rw [zfY,Zs,zp5 hp (H.c hv home),Zs,hm];generalize zbS l home=c at *
          have hn:=C.n;have hml:=M.n;have hd:=C.d;have key:∀ k i:Nat,i+k=ms.length->Lp (λs17:List Int×Int=>
cond (decide (s17.2<(zm (ms.map zic)))) (Zb (idx s17.1 s17.2) λx25=>
Zb (idx (ms.map zic) s17.2) λx26=>
Zb (idx c.2.2.1 (w64 (s17.2+1))) λx27=>
Zb (zdp 8 s17.1 ([(w64 ((w64 (x25+x26))+x27))])) λx28=>
some (.inl (x28,(w64 (s17.2+1))))) (some (.inr s17.1))) k (rlN (i+1) (zex ms c),(i:Int)) (zg5 ms c):=by
            intro k;induction k with
            | zero=>
              intro i hi;refine Lp.done ?_;have:(i:Int)=((ms.map zic).length:Nat):=by rw [List.length_map]; omega
              simp only [this,zG,cond_false];unfold zg5;rw [show i+1=c.2.1.length by omega]
            | succ k ih=>
              intro i hi;refine Lp.step ?_ (ih (i+1) (by omega));have hil:i<(ms.map zic).length:=by rw [List.length_map]; omega
              have a1:idx (rlN (i+1) (zex ms c)) (i:Int)=some (zex ms c i):=zet (by omega);have a2:idx (ms.map zic) (i:Int)=some (zic (ms.getD i 0)):=by
                have h2:i<ms.length:=by omega
                rw [zdd,List.getElem?_map,List.getElem?_eq_getElem h2,show ms.getD i 0=ms[i] by simp [List.getD,h2]];rfl
              have a3:idx c.2.2.1 ((i+1:Nat):Int)=some (dwl c (i+1)):=zn (l:=c.2.2.1) (i:=i+1) 0 (by omega);have b1:=zhd C M (k:=i) (by omega);have b2:=znS (M.b i);have b3:=C.dw (i+1) (by omega);have a4:zdp 8 (rlN (i+1) (zex ms c)) [w64 (w64 (zex ms c i+zic (ms.getD i 0))+dwl c (i+1))]=some (rlN (i+1+1) (zex ms c)):=by
                rw [zaF (by rw [zgg]; simp; omega),zmx (i+1),zh (n:=zex ms c i+_) (by omega) (by omega),zh (by omega) (by omega)];rfl
              simp only [zF hil,cond_true,a1,a2,Zs,zy (show i<9223372036854775807 by omega),a3,a4]
          have hL:=(key ms.length 0 (by omega)).big (by simp only [big]; omega);have h0:rlN (0+1) (zex ms c)=[0]:=rfl;rw [h0,show ((0:Nat):Int)=0 from rfl] at hL;rw [hL]; rfl
        have hn:=C.n;have hla:idx (zg5 ms (zbS l home)) (w64 (zm (zg5 ms (zbS l home))-1))=some (zex ms (zbS l home) ((zbS l home).2.1.length-1)):=by
          rw [zp,zjw,zh (by omega) (by omega),show ((zbS l home).2.1.length:Int)-1=(((zbS l home).2.1.length-1:Nat):Int) by omega];exact zet (by omega)
        rw [hof,Zs,hla,Zs,decide_eq_true (by omega),cond_true];rfl
  unfold zdQ;rw [zzH,Zs];unfold zdB;cases inB l.2.2.2.2.1 0 3600 with
  | false=>rfl
  | true=>
  simp only [Bool.not_true,cond_false,Bool.true_and];have k0:=key false 0 rfl;have k1:=key true 1 rfl;have h:=zbn (f:=λs11:Int=>
cond (decide (s11<2)) (Zb (zcL p l (s11==1)) λy14=>
cond (!y14.2) (some (.inr (.inr false))) (Zb (zai p l (s11==1)) λy17=>
Zb (idx y17 (w64 ((zm y17)-1))) λx19=>
cond (decide (x19>50000)) (some (.inr (.inr false))) (some (.inl (w64 (s11+1)))))) (some (.inr (.inl ():Unit⊕Bool)))) (λk=>(k:Int)) 2 (λk=>okC p l (zbS l (k==1))) (.inr false) (.inl ()) (s0:=0) rfl (by simp only [big]; omega) (λi hi=>by
      match i,hi with
      | 0,_=>exact k0
      | 1,_=>exact k1) rfl
  rw [h,Zs];show alt _ _ (if (List.range 2).all (λk=>okC p l (zbS l (k==1)))=true then _ else _)=_;have e:(List.range 2).all (λk=>okC p l (zbS l (k==1)))=(okC p l l.1&&okC p l l.2.1):=by
    show (okC p l l.1&&(okC p l l.2.1&&true))=_;rw [Bool.and_true]
  rw [e];cases (okC p l l.1&&okC p l l.2.1)<;>rfl
theorem znU (K:zsZ p l):zd8 p l=some (zkF p l):=by
 have hp:=zdm hv;have h1:=K.o.l1;have h2:=K.o.l2;have h3:=K.h.l1;have h4:=K.h.l2;have h5:=K.y;unfold zd8;rw [zkt hp (H.c hv false) K.o,zkt hp (H.c hv true) K.h];simp only [Zs];show some (w64 (w64 (zeP p l l.1+zeP p l l.2.1)+w64 (2*l.2.2.2.2.1)))=_;rw [zh (n:=zeP p l l.1+_) (by omega) (by omega),zh (n:=2*_) (by omega) (by omega),zh (by omega) (by omega)];rfl
end
end Go.Ai.Sx
/- Service: what the program says of a line; small plans. -/
namespace Go.Ai.Sx
open Option renaming bind->Zb,bind_some->Zs
theorem zo4 (home:Bool):zbz home=some (cond home 1 0):=by cases home<;>rfl
section
variable {p:Plan} {l:Line} (H:zmz p l)
include H
theorem zvl (home:Bool):zaK p l home=some (if (zat p&&zdB p l)=true then (zg5 (msC p l (zbS l home)) (zbS l home),0) else ([],2)):=by
 unfold zaK;rw [zjv H,Zs,zo4];cases (zat p&&zdB p l) with
 | false=>rfl
 | true=>cases home<;>rfl
theorem zzm:zcy p l=some (if (zat p&&zdB p l)=true then (zkF p l,0) else (0,2)):=by
 unfold zcy;rw [zjv H,Zs];cases hv:zat p with
 | false=>rfl
 | true=>
 cases hl:zdB p l with
 | false=>rfl
 | true=>
  have K:=zvj H hv hl;simp only [Bool.and_self,if_true,Bool.not_true,cond_false,Zs,zmA K]
theorem zAA (h:Int):zbA p l h=some (if (zat p&&zdB p l&&inB h 30 7200)=true then (zks p l h,0) else (0,2)):=by
 unfold zbA;rw [zjv H,Zs];cases hv:zat p with
 | false=>rfl
 | true=>
 cases hl:zdB p l with
 | false=>rfl
 | true=>
  have K:=zvj H hv hl;simp only [Bool.and_self,if_true,Bool.not_true,cond_false,zhw,Zs,Bool.true_and];cases hi:inB h 30 7200 with
  | false=>rfl
  | true=>
   have hi:=zI.1 hi;simp only [Bool.not_true,cond_false,zp3 K (show 1<=h/\h<=1000000000000 by omega),Zs,if_true]
end
theorem zs1 {f:Nat->Int}:∀ (k a:Nat),(∀ i,a<=i->i<a+k->0<=f i)->∀ i,a<=i->i<a+k->f i<=zib f a k
 | 0,a,_,i,h1,h2=>by omega
 | k+1,a,h,i,h1,h2=>by
  show f i<=f a+zib f (a+1) k;by_cases e:i=a
  . subst e;have h3:=(sumR_nn k (i+1) λj h4 h5=>h j (by omega) (by omega));omega
  . have:=zs1 k (a+1) (λj h4 h5=>h j (by omega) (by omega)) i (by omega) (by omega);have:=h a (by omega) (by omega);omega
where sumR_nn {f:Nat->Int}:∀ (k a:Nat),(∀ i,a<=i->i<a+k->0<=f i)->0<=zib f a k
 | 0,a,_=>by simp [zib]
 | k+1,a,h=>by
  show 0<=f a+zib f (a+1) k;have h1:=h a (by omega) (by omega);have h2:=sumR_nn k (a+1) λj h4 h5=>h j (by omega) (by omega);omega
structure zAB (p:Plan):Prop where
 n:p.1.length<=12
 r:p.2.1.length<=12
 l:zat p=true->∀ i:Nat,i<p.2.1.length->zhb p i<=200000
theorem zp6 {A:Type} {xs:List A} (hl:xs.length<=12) (g:A->Bool):∃ r,iter (σ:=(Int)) (τ:=Unit⊕(Bool)) (λs8=>
cond (decide (s8<(zm xs))) (Zb (idx xs s8) λx11=>
cond (g x11) (some (.inr (.inr false))) (some (.inl (w64 (s8+1))))) (some (.inr (.inl ())))) big 0=some r/\(r=.inl ()\/r=.inr false):=by
 have hT:Tot (λr:Unit⊕Bool=>r=.inl ()\/r=.inr false) (iter (σ:=(Int)) (τ:=Unit⊕(Bool)) (λs8=>
cond (decide (s8<(zm xs))) (Zb (idx xs s8) λx11=>
cond (g x11) (some (.inr (.inr false))) (some (.inl (w64 (s8+1))))) (some (.inr (.inl ())))) big 0):=by
  refine Tot.iter (λs=>∃ k:Nat,s=(k:Int)/\k<=xs.length) _ (λs=>xs.length-s.toNat) ⟨0,rfl,by omega⟩ (by simp only [big]; omega) ?_
  rintro s ⟨k,rfl,hk⟩
  by_cases h:k<xs.length
  . rw [zF h,cond_true,zdd,List.getElem?_eq_getElem h,Zs,zy (by omega)];cases g xs[k] with
    | true=>exact Tot.some (.inr rfl)
    | false=>exact Tot.some ⟨⟨k+1,rfl,by omega⟩,by simp only [Int.toNat_natCast]; omega⟩
  . rw [decide_eq_false (by rw [zp]; omega),cond_false];exact Tot.some (.inl rfl)
 exact hT
theorem zs2 (p:Plan):∃ b,zd1 p=some b/\(b=true->zAB p):=by
  unfold zd1;by_cases h1:zm p.1>12
  · rw [decide_eq_true h1]; exact ⟨false,rfl,λh=>by cases h⟩
  by_cases h2:zm p.2.1>12
  · rw [decide_eq_false h1,decide_eq_true h2]; exact ⟨false,rfl,λh=>by cases h⟩
  rw [decide_eq_false h1,decide_eq_false h2];rw [zp] at h1 h2;simp only [cond_false,Zs];obtain ⟨r1,e1,q1⟩:=zp6 (xs:=p.1) (by omega) (λx11=>decide ((zm x11.2.2.1)>6));obtain ⟨r2,e2,q2⟩:=zp6 (xs:=p.2.1) (by omega) (λx11=>decide ((zm x11.2.2.1)>10));rw [e1,Zs];rcases q1 with rfl | rfl;rotate_left
  · exact ⟨false,rfl,λh=>by cases h⟩
  rw [zaG,e2,Zs];rcases q2 with rfl | rfl;rotate_left
  · exact ⟨false,rfl,λh=>by cases h⟩
  rw [zaG,zkm,Zs];cases hv:zat p with
  | false=>exact ⟨true,rfl,λ_=>⟨by omega,by omega,λh=>by rw [hv] at h; cases h⟩⟩
  | true=>
  have hp:=zdm hv;rw [cond_true];have hlen:∀ i:Nat,i<p.2.1.length->1<=zhb p i/\zhb p i<=31000000:=λi hi=>zkp hp ⟨by omega,by omega⟩;have key:∀ (k i:Nat) (s:Int),i+k=p.2.1.length->0<=s/\s<=31000000*i->Lp (λs33:Int×Int=>
cond (decide (s33.2<(zm p.2.1))) (Zb (zaw p s33.2) λy36=>
some (.inl ((w64 (s33.1+y36)),(w64 (s33.2+1))))) (some (.inr s33.1))) k (s,(i:Int)) (s+zib (λi=>zhb p i) i k):=by
    intro k;induction k with
    | zero=>
      intro i s hi hs;have:i=p.2.1.length:=by omega
      subst this;refine Lp.done ?_;simp only [zG,cond_false,zib];rw [Int.add_zero]
    | succ k ih=>
      intro i s hi hs;have hil:i<p.2.1.length:=by omega
      have hl:=hlen i hil;have hr:=ih (i+1) (s+zhb p i) (by omega) (by omega);rw [Int.add_assoc] at hr;refine Lp.step ?_ hr;simp only [zF hil,cond_true,ziN hp (show 0<=(i:Int)/\(i:Int)<p.2.1.length by omega),Zs];rw [zh (n:=s+_) (by omega) (by omega),zy (by omega)]
  have hL:=(key p.2.1.length 0 0 (by omega) (by omega)).big (by simp only [big]; omega);rw [show ((0:Nat):Int)=0 from rfl] at hL;rw [hL,Zs];refine ⟨_,rfl,λh=>⟨by omega,by omega,λ_ i hi=>?_⟩⟩;have h:=of_decide_eq_true h;have:=zs1 (f:=λi=>zhb p i) p.2.1.length 0 (λj _ h5=>by have:=hlen j (by omega); omega) i (by omega) (by omega);omega
theorem zku {A:Prop} [Decidable A] {x:Option Bool} {Q:Prop} (h:∃ b,x=some b/\(b=true->Q)):∃ b,cond (decide A) x (some false)=some b/\(b=true->A/\Q):=by
 by_cases hA:A
 . rw [decide_eq_true hA];obtain ⟨b,h1,h2⟩:=h;exact ⟨b,h1,λhb=>⟨hA,h2 hb⟩⟩
 . rw [decide_eq_false hA];exact ⟨false,rfl,λh=>by cases h⟩
structure zzn (l:Line):Prop where
 w1:l.1.1.length<=12
 w2:l.2.1.1.length<=12
 s1:l.1.2.1.length<=6
 s2:l.2.1.2.1.length<=6
theorem zs3 (l:Line):∃ b,zcP l=some b/\(b=true->zzn l):=by
 unfold zcP;have h0:∃ b,(some (decide (l.2.2.1.1<=4000)):Option Bool)=some b/\(b=true->True):=⟨_,rfl,λ_=>trivial⟩;obtain ⟨b,h1,h2⟩:=zku (A:=zm l.1.1<=12) (zku (A:=zm l.2.1.1<=12) (zku (A:=zm l.1.2.1<=6) (zku (A:=zm l.2.1.2.1<=6) (zku (A:=zm l.1.2.2.1<=8) (zku (A:=zm l.2.1.2.2.1<=8) (zku (A:=zm l.2.2.1.2.2.2.2.2.2.2.2.2.1<=10) (zku (A:=l.2.2.1.2.2.2.2.1>=200) (zku (A:=l.2.2.1.2.2.2.1>=200) h0))))))));refine ⟨b, ?_,λhb=>?_⟩
 . rw [h1]; rfl
 . obtain ⟨a,b,c,d,_⟩:=h2 hb;rw [zp] at a b c d;exact ⟨by omega,by omega,by omega,by omega⟩
theorem zAC {p:Plan} {l:Line} (S:zAB p) (h:zzn l):zmz p l:=by
 have hb:∀ way:List zM,way.length<=12->zat p=true->zkD p way=true->wlS p way<=248000000:=by
  intro way hn hv hw;have W:=ziM hw;have hp:=zdm hv;have:=(ziJ (f:=λi=>zhb p (way.getD i M0).1) (B:=200000) way.length 0 λi _ hi=>by
   have hm:=W.m i (by omega);have h1:=S.l hv (way.getD i M0).1.toNat (by omega);rw [Int.toNat_of_nonneg hm.1] at h1;have h2:=zkp hp hm;omega).2
  have e:wlS p way=zib (λi=>zhb p (way.getD i M0).1) 0 way.length:=rfl;rw [e];omega
 have a:=h.w1;have b:=h.w2;have c:=h.s1;have d:=h.s2;exact ⟨by omega,by omega,by omega,by omega,hb _ a,hb _ b⟩
theorem zx0 (a:List Int) (hl:a.length<=1000000):zeK a a=some true:=by
  unfold zeK;rw [show (zm a !=zm a)=false from bne_self_eq_false _,cond_false];have h:=zbn (f:=λs8:Int=>
cond (decide (s8<(zm a))) (Zb (idx a s8) λx13=>
Zb (idx a s8) λx14=>
cond (x13 !=x14) (some (.inr (.inr false))) (some (.inl (w64 (s8+1))))) (some (.inr (.inl ():Unit⊕Bool)))) (λk=>(k:Int)) a.length (λ_=>true) (.inr false) (.inl ()) (s0:=0) rfl (by simp only [big]; omega) (λi hi=>by
      rw [zF hi,cond_true,zn 0 hi,Zs,Zs,bne_self_eq_false,cond_false,zy (by omega)];rfl) (by simp only [zG,cond_false])
  rw [h];simp;rfl
end Go.Ai.Sx
/- Service: services,in the program and in the reference. -/
namespace Go.Ai.Sx
open Option renaming bind->Zb,bind_some->Zs
def hd0 (s:Service) (i:Nat):Int:=s.2.1.getD i 0
def of0 (s:Service) (i:Nat):Int:=s.2.2.1.getD i 0
def L0:Line:=(([],[],[],()),([],[],[],()),(0,0,0,0,0,0,0,0,0,[],()),0,0,())
def ln0 (s:Service) (i:Nat):Line:=s.1.getD i L0
def hoB (s:Service) (i:Nat):Bool:=inB (hd0 s i) 30 7200&&inB (of0 s i) 0 (hd0 s i-1)
def zqL (p:Plan) (s:Service):Bool:=zat p&&(inB (zm s.1) 1 20&&(decide (s.2.1.length=s.1.length)&&(decide (s.2.2.1.length=s.1.length)&&((List.range s.1.length).all λi=>zdB p (ln0 s i)&&hoB s i))))
structure ztv (p:Plan) (s:Service):Prop where
 n:s.1.length<=9223372036854775807
 h:s.2.1.length<=9223372036854775807
 l:∀ i,i<s.1.length->zmz p (ln0 s i)
theorem zp7 {p:Plan} {ls:List Line} (hI:∀ i,i<ls.length->zmz p (ls.getD i L0)):zcB p ls=some (if (inB (zm ls) 1 20&&(List.range ls.length).all λi=>zat p&&zdB p (ls.getD i L0))=true then (ls.map (rnS p),true) else ([],false)):=by
  unfold zcB;rw [zhw,Zs];cases hi:inB (zm ls) 1 20 with
  | false=>rfl
  | true=>
  have hi:=zI.1 hi;rw [zp] at hi;simp only [Bool.not_true,cond_false,Bool.true_and];have key:∀ k i:Nat,i+k=ls.length->Lp (λs10:List zo×Int=>
cond (decide (s10.2<(zm ls))) (Zb (idx ls s10.2) λx13=>
Zb (zby p x13) λy15=>
cond (!y15.2) (some (.inr (.inr ([],false)))) (Zb (y15.1) λp16=>
Zb (zdp 8 s10.1 ([p16])) λx17=>
some (.inl (x17,(w64 (s10.2+1)))))) (some (.inr (.inl s10.1:List zo⊕(List zo×Bool))))) k ((ls.take i).map (rnS p),(i:Int)) (if ((List.range' i k).all λi=>zat p&&zdB p (ls.getD i L0))=true then .inl (ls.map (rnS p)) else .inr ([],false)):=by
    intro k;induction k with
    | zero=>
      intro i hi;have:i=ls.length:=by omega
      subst this;refine Lp.done ?_;simp only [zG,cond_false,List.take_length];rfl
    | succ k ih=>
      intro i hi;have hil:i<ls.length:=by omega
      have a1:idx ls (i:Int)=some (ls.getD i L0):=zn L0 hil;rw [List.range'_succ,List.all_cons];have ho:=zjv (hI i hil);cases hb:(zat p&&zdB p (ls.getD i L0)) with
      | false=>
        rw [hb] at ho;refine Lp.done ?_;simp only [zF hil,cond_true,a1,Zs,ho,Bool.false_eq_true,if_false,Bool.not_false,Bool.false_and]
      | true=>
        rw [hb] at ho;rw [Bool.true_and];refine Lp.step ?_ (ih (i+1) (by omega));have htk:(ls.take (i+1)).map (rnS p)=(ls.take i).map (rnS p)++[rnS p (ls.getD i L0)]:=by
          rw [List.take_add_one,List.map_append];simp [List.getD,hil]
        simp only [zF hil,cond_true,a1,Zs,ho,if_true,Bool.not_true,cond_false];rw [zaF (by rw [List.length_map,List.length_take]; simp; omega),Zs,zy (by omega),htk]
  have hL:=(key ls.length 0 (by omega)).big (by simp only [big]; omega);rw [show ((0:Nat):Int)=0 from rfl,← List.range_eq_range'] at hL;rw [show (ls.take 0).map (rnS p)=[] from rfl] at hL;rw [hL,Zs];cases ((List.range ls.length).all λi=>zat p&&zdB p (ls.getD i L0))<;>rfl
theorem znV {n:Nat} {f g:Nat->Bool}:((List.range n).all λi=>f i&&g i)=((List.range n).all f&&(List.range n).all g):=by
 rw [Bool.eq_iff_iff,Bool.and_eq_true,List.all_eq_true,List.all_eq_true,List.all_eq_true];constructor
 . intro h;refine ⟨λx hx=>?_,λx hx=>?_⟩
   . have:=h x hx; rw [Bool.and_eq_true] at this; exact this.1
   . have:=h x hx; rw [Bool.and_eq_true] at this; exact this.2
 . intro h x hx;rw [h.1 x hx,h.2 x hx]; rfl
theorem zlx {p:Plan} {s:Service} (H:ztv p s):zb2 p s=some (if zqL p s=true then (s.1.map (rnS p),true) else ([],false)):=by
  unfold zb2 zqL;have hh:=H.h;have hn:=H.n;by_cases h1:s.2.1.length=s.1.length;rotate_left
  · have e1:(zm s.2.1 !=zm s.1)=true:=by rw [zp,zp]; simp only [bne_iff_ne,ne_eq]; omega
    rw [e1,decide_eq_false h1];simp
  have e1:(zm s.2.1 !=zm s.1)=false:=by rw [zp,zp,h1]; exact bne_self_eq_false _
  by_cases h2:s.2.2.1.length=s.1.length;rotate_left
  · have e2:(zm s.2.2.1 !=zm s.1)=true:=by rw [zp,zp]; simp only [bne_iff_ne,ne_eq]; omega
    rw [e1,e2,decide_eq_false h2];simp
  have e2:(zm s.2.2.1 !=zm s.1)=false:=by rw [zp,zp,h2]; exact bne_self_eq_false _
  rw [e1,e2,decide_eq_true h1,decide_eq_true h2];simp only [cond_false,Zs,Bool.true_and];have h:=zbn (f:=λs17:Int=>
cond (decide (s17<(zm s.2.1))) (Zb (idx s.2.1 s17) λx20=>
Zb (zw x20 30 7200) λy25=>
cond (!y25) (some (.inr (.inr ([],false)))) (Zb (idx s.2.2.1 s17) λx28=>
Zb (zw x28 0 (w64 (x20-1))) λy29=>
cond (!y29) (some (.inr (.inr ([],false)))) (some (.inl (w64 (s17+1)))))) (some (.inr (.inl ():Unit⊕(List zo×Bool))))) (λk=>(k:Int)) s.2.1.length (hoB s) (.inr ([],false)) (.inl ()) (s0:=0) rfl (by simp only [big]; omega) (λi hi=>by
      have a1:idx s.2.1 (i:Int)=some (hd0 s i):=zn 0 hi;have a2:idx s.2.2.1 (i:Int)=some (of0 s i):=zn 0 (by omega);unfold hoB;simp only [zF hi,cond_true,a1,a2,Zs,zhw];cases hb:inB (hd0 s i) 30 7200 with
      | false=>rfl
      | true=>
        have hb:=zI.1 hb;simp only [Bool.not_true,cond_false,Bool.true_and];rw [zh (by omega) (by omega),zy (by omega)];cases inB (of0 s i) 0 (hd0 s i-1)<;>rfl) (by simp only [zG,cond_false])
  rw [h,Zs,h1,znV];cases hA:(List.range s.1.length).all (hoB s) with
  | false=>
    simp;rfl
  | true=>
  simp only [if_true,zaG];rw [zp7 H.l];have hr:=znV (n:=s.1.length) (f:=λ_=>zat p) (g:=λi=>zdB p (ln0 s i));unfold ln0 at hr;rw [hr];unfold ln0;cases hi:inB (zm s.1) 1 20 with
  | false=>simp
  | true=>
  have hi:=zI.1 hi;rw [zp] at hi;have hv:((List.range s.1.length).all λ_=>zat p)=zat p:=by
    obtain ⟨m,hm⟩:∃ m,s.1.length=m+1:=⟨s.1.length-1,by omega⟩;rw [hm,Bool.eq_iff_iff,List.all_eq_true];exact ⟨λh=>h 0 (List.mem_range.2 (by omega)),λh _ _=>h⟩
  rw [hv];simp only [Bool.and_true,Bool.true_and,Zs]
structure zvW (p:Plan) (s:Service):Prop where
 v:zat p=true
 n:1<=s.1.length/\s.1.length<=20
 h:s.2.1.length=s.1.length
 o:s.2.2.1.length=s.1.length
 l:∀ i,i<s.1.length->zdB p (ln0 s i)=true
 hb:∀ i,i<s.1.length->30<=hd0 s i/\hd0 s i<=7200
 ob:∀ i,i<s.1.length->0<=of0 s i/\of0 s i<=hd0 s i-1
theorem zx1 {p:Plan} {s:Service} (h:zqL p s=true):zvW p s:=by
 unfold zqL at h;simp only [Bool.and_eq_true,decide_eq_true_eq] at h;obtain ⟨h1,h2,h3,h4,h5⟩:=h;have h2:=zI.1 h2;rw [zp] at h2;have h6:∀ i,i<s.1.length->zdB p (ln0 s i)=true/\hoB s i=true:=λi hi=>by
  have:=List.all_eq_true.1 h5 i (List.mem_range.2 hi);rwa [Bool.and_eq_true] at this
 refine ⟨h1,by omega,h3,h4,λi hi=>(h6 i hi).1,λi hi=>?_,λi hi=>?_⟩
 . have:=(h6 i hi).2;unfold hoB at this;rw [Bool.and_eq_true] at this;exact zI.1 this.1
 . have:=(h6 i hi).2;unfold hoB at this;rw [Bool.and_eq_true] at this;exact zI.1 this.2
theorem zkv {p:Plan} {s:Service} (H:ztv p s):zcA p s=some (zqL p s):=by
  unfold zcA zqL;rw [zkm,Zs];cases hv:zat p with
  | false=>rfl
  | true=>
  simp only [Bool.not_true,cond_false,zzH,Zs];cases hi:inB (zm s.1) 1 20 with
  | false=>rfl
  | true=>
  have hi:=zI.1 hi;rw [zp] at hi;by_cases h1:s.2.1.length=s.1.length;rotate_left
  · have e1:(zm s.2.1 !=zm s.1)=true:=by rw [zp,zp]; simp only [bne_iff_ne,ne_eq]; omega
    rw [e1,decide_eq_false h1];rfl
  have e1:(zm s.2.1 !=zm s.1)=false:=by rw [zp,zp,h1]; exact bne_self_eq_false _
  by_cases h2:s.2.2.1.length=s.1.length;rotate_left
  · have e2:(zm s.2.2.1 !=zm s.1)=true:=by rw [zp,zp]; simp only [bne_iff_ne,ne_eq]; omega
    rw [e1,e2,decide_eq_true h1,decide_eq_false h2];rfl
  have e2:(zm s.2.2.1 !=zm s.1)=false:=by rw [zp,zp,h2]; exact bne_self_eq_false _
  rw [e1,e2,decide_eq_true h1,decide_eq_true h2];simp only [Bool.not_true,cond_false,Zs,Bool.true_and];have h:=zbn (f:=λs44:Int=>
cond (decide (s44<(zm s.1))) (Zb (idx s.1 s44) λx65=>
Zb (zdQ p x65) λy66=>
cond (!y66) (some (.inr (.inr false))) (Zb (idx s.2.1 s44) λx69=>
cond (!(inB x69 30 7200)) (some (.inr (.inr false))) (Zb (idx s.2.2.1 s44) λx73=>
Zb (idx s.2.1 s44) λx74=>
cond (!(inB x73 0 (w64 (x74-1)))) (some (.inr (.inr false))) (some (.inl (w64 (s44+1))))))) (some (.inr (.inl ():Unit⊕Bool)))) (λk=>(k:Int)) s.1.length (λi=>zdB p (ln0 s i)&&hoB s i) (.inr false) (.inl ()) (s0:=0) rfl (by simp only [big]; omega) (λi hi=>by
      have a0:idx s.1 (i:Int)=some (ln0 s i):=zn L0 hi;have a1:idx s.2.1 (i:Int)=some (hd0 s i):=zn 0 (by omega);have a2:idx s.2.2.1 (i:Int)=some (of0 s i):=zn 0 (by omega);unfold hoB;simp only [zF hi,cond_true,a0,a1,a2,Zs,zvk hv (H.l i hi)];cases zdB p (ln0 s i) with
      | false=>rfl
      | true=>
      cases hb:inB (hd0 s i) 30 7200 with
      | false=>rfl
      | true=>
        have hb:=zI.1 hb;simp only [Bool.not_true,cond_false,Bool.true_and];rw [zh (by omega) (by omega),zy (by omega)];cases inB (of0 s i) 0 (hd0 s i-1)<;>rfl) (by simp only [zG,cond_false])
  rw [h,Zs];cases ((List.range s.1.length).all λi=>zdB p (ln0 s i)&&hoB s i)<;>rfl
structure zAD (p:Plan) (s:Service):Prop where
 S:zAB p
 l:∀ i,i<s.1.length->zzn (ln0 s i)
 n:s.1.length<=3
 h:s.2.1.length<=4
 o:s.2.2.1.length<=4
theorem zAD.sv {p:Plan} {s:Service} (F:zAD p s):ztv p s:=by
 have a:=F.n;have b:=F.h;exact ⟨by omega,by omega,λi hi=>zAC F.S (F.l i hi)⟩
theorem zs4 (p:Plan) (s:Service) (hs:s.1.length<=9223372036854775807):∃ b,zer p s=some b/\(b=true->zAD p s):=by
  unfold zer;have hT:Tot (λr:Unit⊕Bool=>(r=.inl ()/\∀ i,i<s.1.length->zzn (ln0 s i))\/r=.inr false) (iter (σ:=(Int)) (τ:=Unit⊕(Bool)) (λs5=>
cond (decide (s5<(zm s.1))) (Zb (idx s.1 s5) λx8=>
Zb (zcP x8) λy9=>
cond (!y9) (some (.inr (.inr false))) (some (.inl (w64 (s5+1))))) (some (.inr (.inl ())))) big 0):=by
    refine Tot.iter (λx=>∃ k:Nat,x=(k:Int)/\k<=s.1.length/\∀ i,i<k->zzn (ln0 s i)) _ (λx=>s.1.length-x.toNat) ⟨0,rfl,by omega,λi hi=>by omega⟩ (by simp only [big]; omega) ?_
    rintro x ⟨k,rfl,hk,hA⟩
    by_cases h:k<s.1.length
    · obtain ⟨b,h1,h2⟩:=zs3 (ln0 s k);rw [zF h,cond_true,zn L0 h,Zs,show zcP (s.1.getD k L0)=some b from h1,Zs,zy (by omega)];cases b with
      | false=>exact Tot.some (.inr rfl)
      | true=>
        refine Tot.some ⟨⟨k+1,rfl,by omega,λi hi=>?_⟩,by simp only [Int.toNat_natCast]; omega⟩;by_cases e:i=k
        · subst e; exact h2 rfl
        · exact hA i (by omega)
    · have:k=s.1.length:=by omega
      subst this;rw [zG,cond_false];exact Tot.some (.inl ⟨rfl,hA⟩)
  obtain ⟨r,h1,h2⟩:=hT;rw [h1,Zs];rcases h2 with ⟨rfl,hA⟩ | rfl;rotate_left
  · exact ⟨false,rfl,λh=>by cases h⟩
  rw [zaG];obtain ⟨b1,e1,q1⟩:=zs2 p;rw [e1];cases b1 with
  | false=>exact ⟨false,rfl,λh=>by cases h⟩
  | true=>
  obtain ⟨b,g1,g2⟩:=zku (A:=zm s.1<=3) (zku (A:=zm s.2.1<=4) (Q:=zm s.2.2.1<=4) (x:=some (decide (zm s.2.2.1<=4))) ⟨_,rfl,λh=>of_decide_eq_true h⟩);simp only [Zs,cond_true];refine ⟨b,by rw [g1]; rfl,λhb=>?_⟩;obtain ⟨a1,a2,a3⟩:=g2 hb;rw [zp] at a1 a2 a3;exact ⟨q1 rfl,hA,by omega,by omega,by omega⟩
end Go.Ai.Sx
/- Service: the first departures,and waits. -/
namespace Go.Ai.Sx
open Option renaming bind->Zb,bind_some->Zs
theorem zs5 {A:Type} (x:Option A):(Zb x λy=>some y)=x:=by cases x<;>rfl
theorem zs6 {n h:Int} (hh:0<h) (h2:h<=1000000000000):zdF n h=some (n%h):=by
 have:=zsU (n:=n) hh h2;unfold zdF;simp only [zs5];exact this
theorem zs7 {n h:Int} (hh:0<h) (h2:h<=1000000000000):zes n h=some (n%h):=by
 have:=zsU (n:=n) hh h2;unfold zes;simp only [zs5];exact this
def zn4 (p:Plan) (l:Line) (home:Bool) (h o:Int):Int:=cond home (o+zeP p l l.1+l.2.2.2.2.1+(zks p l h*h-zkF p l)/2) o
section
variable {p:Plan} {l:Line} (K:zsZ p l) {h o:Int} (hh:30<=h/\h<=7200) (ho:0<=o/\o<=100000)
include K hh ho
theorem zly (home:Bool):o<=zn4 p l home h o/\zn4 p l home h o<=o+60000:=by
 obtain ⟨c1,c2,c3,c4,c5⟩:=zs0 K (h:=h) (by omega);have h1:=K.o.l1;have h2:=K.o.l2;have h5:=K.y;unfold zn4;cases home with
 | false=>simp only [cond_false]; omega
 | true=>simp only [cond_true]; omega
theorem zvX (home:Bool):zbm (rnS p l) (cond home 1 0) h o=some (zn4 p l home h o):=by
 obtain ⟨c1,c2,c3,c4,c5⟩:=zs0 K (h:=h) (by omega);have hb:=znT K;have h1:=K.o.l1;have h2:=K.o.l2;have h5:=K.y;unfold zbm;cases home with
 | false=>rfl
 | true=>
  simp only [cond_true,show ((1:Int)==0)=false from rfl,cond_false];rw [show zU (rnS p l) 0=_ from zo3 K false,zp3 K (by omega),zmA K];simp only [Zs,cond_false];rw [zh (n:=zks p l h*h) (by omega) (by omega),zh (n:=zks p l h*h-_) (by omega) (by omega),zbV ⟨by omega,by omega⟩ (by omega),Zs];show some (w64 (w64 (w64 (o+zeP p l l.1)+l.2.2.2.2.1)+(zks p l h*h-zkF p l)/2))=_;rw [zh (n:=o+_) (by omega) (by omega),zh (n:=o+_+_) (by omega) (by omega),zh (by omega) (by omega)];rfl
end
section
variable {p:Plan} {s:Service} (V:zvW p s) (H:ztv p s)
include V H
theorem lnK {i:Nat} (hi:i<s.1.length):zsZ p (ln0 s i):=zvj (H.l i hi) V.v (V.l i hi)
theorem zvm {i:Nat} (hi:i<s.1.length) {h:Int} (hh:30<=h/\h<=7200):zfD p (ln0 s i) h=some (zks p (ln0 s i) h):=by
 have K:=lnK V H hi;have:=znT K;unfold zfD;rw [znU V.v (H.l i hi) K,Zs,zh (n:=zkF p _+h) (by omega) (by omega),zh (by omega) (by omega),zbV ⟨by omega,by omega⟩ (by omega)];rfl
theorem zx2 {i:Nat} (hi:i<s.1.length) (home:Bool):zcj p (ln0 s i) home=some (zeP p (ln0 s i) (zbS (ln0 s i) home)):=by
 have K:=lnK V H hi;refine zkt (zdm V.v) ((H.l i hi).c V.v home) ?_;cases home
 . exact K.o
 . exact K.h
theorem zzo {i:Nat} (hi:i<s.1.length) (home:Bool):zai p (ln0 s i) home=some (zg5 (msC p (ln0 s i) (zbS (ln0 s i) home)) (zbS (ln0 s i) home)):=by
 have K:=lnK V H hi;refine zhx (zdm V.v) ((H.l i hi).c V.v home) ?_;cases home
 . exact K.o
 . exact K.h
theorem zp8 {i:Nat} (hi:i<s.1.length) (home:Bool):zdR p s (i:Int) home=some (zn4 p (ln0 s i) home (hd0 s i) (of0 s i)):=by
 have K:=lnK V H hi;have hh:=V.hb i hi;have hob:=V.ob i hi;have hlh:=V.h;have hlo:=V.o;obtain ⟨c1,c2,c3,c4,c5⟩:=zs0 K (h:=hd0 s i) (by omega);have hb:=znT K;have h1:=K.o.l1;have h2:=K.o.l2;have h5:=K.y;have a0:idx s.1 (i:Int)=some (ln0 s i):=zn L0 hi;have a1:idx s.2.1 (i:Int)=some (hd0 s i):=zn (l:=s.2.1) 0 (by omega);have a2:idx s.2.2.1 (i:Int)=some (of0 s i):=zn (l:=s.2.2.1) 0 (by omega);unfold zdR;rw [a0,Zs];cases home with
 | false=>simp only [Bool.not_false,cond_true,a2,Zs]; rfl
 | true=>
  simp only [Bool.not_true,cond_false,a1,a2,Zs,zvm V H hi hh,znU V.v (H.l i hi) K,zx2 V H hi false];rw [zh (n:=zks p _ _*_) (by omega) (by omega),zh (n:=zks p _ _*_-_) (by omega) (by omega),zbV ⟨by omega,by omega⟩ (by omega),Zs];show some (w64 (w64 (w64 (of0 s i+zeP p (ln0 s i) (ln0 s i).1)+(ln0 s i).2.2.2.2.1)+(zks p (ln0 s i) (hd0 s i)*hd0 s i-zkF p (ln0 s i))/2))=_;rw [zh (n:=of0 s i+_) (by omega) (by omega),zh (n:=of0 s i+_+_) (by omega) (by omega),zh (by omega) (by omega)];rfl
theorem zx3:zqL p s=true:=by
 have hn:=V.n;unfold zqL;rw [V.v,decide_eq_true V.h,decide_eq_true V.o,zI.2 (show 1<=zm s.1/\zm s.1<=20 by rw [zp]; omega)];simp only [Bool.true_and];rw [List.all_eq_true];intro i hi;have hi:=List.mem_range.1 hi;rw [V.l i hi,Bool.true_and];unfold hoB;rw [zI.2 (V.hb i hi),zI.2 (V.ob i hi)]; rfl
end
def zcF (s:List Line) (i:Int) (home:Bool):Int:=((zbS (s.getD i.toNat L0) home).2.1.length:Nat)
def cnB (ls:List Line) (c:Connection):Bool:=inB c.1 0 (ls.length-1)&&(inB c.2.2.2.1 0 (ls.length-1)&&(inB c.2.2.2.2.2.2.1 0 c.2.2.2.2.2.2.2.1&&(!decide (c.2.2.2.2.2.2.2.1>7200)&&(inB c.2.2.1 1 (zcF ls c.1 c.2.1-1)&&inB c.2.2.2.2.2.1 0 (zcF ls c.2.2.2.1 c.2.2.2.2.1-2)))))
def zgh (ls:List Line) (l:List Connection):Bool:=l.all (cnB ls)&&decide (zm l<=60)
def zvn (all_0:List zo) (x43:Connection) (s40:Int):Option (Int⊕(Unit⊕Bool)):=
Zb (zw x43.1 0 (w64 ((zm all_0)-1))) λy51=>
cond (!y51) (some (.inr (.inr false))) (Zb (zw x43.2.2.2.1 0 (w64 ((zm all_0)-1))) λy54=>
cond (!y54) (some (.inr (.inr false))) (Zb (zw x43.2.2.2.2.2.2.1 0 x43.2.2.2.2.2.2.2.1) λy57=>
cond (!y57) (some (.inr (.inr false))) (cond (decide (x43.2.2.2.2.2.2.2.1>7200)) (some (.inr (.inr false))) (Zb (idx all_0 x43.1) λx67=>
Zb (zbz x43.2.1) λy68=>
Zb (idx x67.2.2.1 y68) λx69=>
Zb (idx all_0 x43.2.2.2.1) λx70=>
Zb (zbz x43.2.2.2.2.1) λy71=>
Zb (idx x70.2.2.1 y71) λx72=>
Zb (zw x43.2.2.1 1 (w64 ((zm x69)-1))) λy76=>
cond (!y76) (some (.inr (.inr false))) (Zb (zw x43.2.2.2.2.2.1 0 (w64 ((zm x72)-2))) λy79=>
cond (!y79) (some (.inr (.inr false))) (some (.inl (w64 (s40+1)))))))))
section
variable {p:Plan} {ls:List Line} (hn:1<=ls.length/\ls.length<=20) (hK:∀ i,i<ls.length->zsZ p (ls.getD i L0))
include hn hK
theorem zh7 {i:Int} (hi:0<=i/\i<ls.length) (home:Bool):2<=zcF ls i home/\zcF ls i home<=60:=by
 have K:=hK i.toNat (by omega);unfold zcF;cases home with
 | false=>have:=K.o.C.n; simp only [zbS,cond_false]; omega
 | true=>have:=K.h.C.n; simp only [zbS,cond_true]; omega
omit hn hK in
theorem zp9 {i:Int} (hi:0<=i/\i<ls.length):idx (ls.map (rnS p)) i=some (rnS p (ls.getD i.toNat L0)):=by
 obtain ⟨k,rfl⟩:∃ k:Nat,i=(k:Int):=⟨i.toNat,by omega⟩;have h2:k<ls.length:=by omega
 rw [Int.toNat_natCast,zdd,List.getElem?_map,List.getElem?_eq_getElem h2];simp [List.getD,h2]
omit hn hK in
theorem zvY (l:Line) (home:Bool):idx (rnS p l).2.2.1 (cond home 1 0)=some (zg5 (msC p l (zbS l home)) (zbS l home)):=by cases home<;>rfl
theorem zs8 (c:Connection) (i:Nat) (hi:i<9223372036854775807):zvn (ls.map (rnS p)) c (i:Int)=some (if cnB ls c then .inl ((i+1:Nat):Int) else .inr (.inr false)):=by
 unfold zvn cnB;have hw:w64 (zm (ls.map (rnS p))-1)=(ls.length:Int)-1:=by rw [zp,List.length_map,zh (by omega) (by omega)]
 simp only [zhw,Zs,hw];cases h1:inB c.1 0 ((ls.length:Int)-1) with
 | false=>rfl
 | true=>
 cases h2:inB c.2.2.2.1 0 ((ls.length:Int)-1) with
 | false=>rfl
 | true=>
 cases h3:inB c.2.2.2.2.2.2.1 0 c.2.2.2.2.2.2.2.1 with
 | false=>rfl
 | true=>
 cases h4:decide (c.2.2.2.2.2.2.2.1>7200) with
 | true=>rfl
 | false=>
 have h1:=zI.1 h1;have h2:=zI.1 h2;have b1:=zh7 hn hK (i:=c.1) (by omega) c.2.1;have b2:=zh7 hn hK (i:=c.2.2.2.1) (by omega) c.2.2.2.2.1;simp only [Bool.not_true,Bool.not_false,cond_false,Bool.true_and,zp9 (p:=p) (ls:=ls) (i:=c.1) (by omega),zp9 (p:=p) (ls:=ls) (i:=c.2.2.2.1) (by omega),Zs,zo4,zvY];have e1:w64 (zm (zg5 (msC p (ls.getD c.1.toNat L0) (zbS (ls.getD c.1.toNat L0) c.2.1)) (zbS (ls.getD c.1.toNat L0) c.2.1))-1)=zcF ls c.1 c.2.1-1:=by
  rw [zp,zjw];exact zh (by unfold zcF at b1; omega) (by unfold zcF at b1; omega)
 have e2:w64 (zm (zg5 (msC p (ls.getD c.2.2.2.1.toNat L0) (zbS (ls.getD c.2.2.2.1.toNat L0) c.2.2.2.2.1)) (zbS (ls.getD c.2.2.2.1.toNat L0) c.2.2.2.2.1))-2)=zcF ls c.2.2.2.1 c.2.2.2.2.1-2:=by
  rw [zp,zjw];exact zh (by unfold zcF at b2; omega) (by unfold zcF at b2; omega)
 rw [e1,e2,zy hi];cases inB c.2.2.1 1 (zcF ls c.1 c.2.1-1)<;>cases inB c.2.2.2.2.2.1 0 (zcF ls c.2.2.2.1 c.2.2.2.2.1-2)<;>rfl
theorem znW {A:Type} (l:List A) (q:A->Bool) (d:A):((List.range l.length).all λi=>q (l.getD i d))=l.all q:=by
 rw [Bool.eq_iff_iff,List.all_eq_true,List.all_eq_true];constructor
 . intro h x hx;obtain ⟨i,hi,rfl⟩:=List.getElem_of_mem hx;have:=h i (List.mem_range.2 hi);rwa [show l.getD i d=l[i] by simp [List.getD,hi]] at this
 . intro h i hi;have hi:=List.mem_range.1 hi;rw [show l.getD i d=l[i] by simp [List.getD,hi]];exact h _ (List.getElem_mem hi)
def C0:Connection:=(0,false,0,0,false,0,0,0,())
theorem zgi (l:List Connection) (hl:l.length<=9223372036854775807):zaN (ls.map (rnS p)) l=some (zgh ls l):=by
  unfold zaN zgh;have h:=zbn (f:=λs40:Int=>
cond (decide (s40<(zm l))) (Zb (idx l s40) λx43=>zvn (ls.map (rnS p)) x43 s40) (some (.inr (.inl ():Unit⊕Bool)))) (λk=>(k:Int)) l.length (λi=>cnB ls (l.getD i C0)) (.inr false) (.inl ()) (s0:=0) rfl (by simp only [big]; omega) (λi hi=>by
      simp only [zF hi,cond_true,zn C0 hi,Zs];exact zs8 hn hK _ i (by omega)) (by simp only [zG,cond_false])
  unfold zvn at h;rw [h,Zs,znW hn hK];cases l.all (cnB ls)<;>rfl
theorem zvo (c:Connection):zaO ls c=some (cnB ls c):=by
 unfold zaO cnB;have hw:w64 (zm ls-1)=(ls.length:Int)-1:=by rw [zp,zh (by omega) (by omega)]
 simp only [zzH,Zs,hw];cases h1:inB c.1 0 ((ls.length:Int)-1) with
 | false=>rfl
 | true=>
 cases h2:inB c.2.2.2.1 0 ((ls.length:Int)-1) with
 | false=>rfl
 | true=>
 cases h3:inB c.2.2.2.2.2.2.1 0 c.2.2.2.2.2.2.2.1 with
 | false=>rfl
 | true=>
 cases h4:decide (c.2.2.2.2.2.2.2.1>7200) with
 | true=>rfl
 | false=>
 have h1:=zI.1 h1;have h2:=zI.1 h2;have b1:=zh7 hn hK (i:=c.1) (by omega) c.2.1;have b2:=zh7 hn hK (i:=c.2.2.2.1) (by omega) c.2.2.2.2.1;have a1:idx ls c.1=some (ls.getD c.1.toNat L0):=zbg (by omega) (by omega);have a2:idx ls c.2.2.2.1=some (ls.getD c.2.2.2.1.toNat L0):=zbg (by omega) (by omega);have e1:w64 (zm (zbS (ls.getD c.1.toNat L0) c.2.1).2.1-1)=zcF ls c.1 c.2.1-1:=zh (by unfold zcF at b1; rw [zp]; omega) (by unfold zcF at b1; rw [zp]; omega);have e2:w64 (zm (zbS (ls.getD c.2.2.2.1.toNat L0) c.2.2.2.2.1).2.1-2)=zcF ls c.2.2.2.1 c.2.2.2.2.1-2:=zh (by unfold zcF at b2; rw [zp]; omega) (by unfold zcF at b2; rw [zp]; omega);simp only [Bool.not_true,Bool.not_false,cond_false,Bool.true_and,Zs,a1,a2,zfY,e1,e2];cases inB c.2.2.1 1 (zcF ls c.1 c.2.1-1)<;>cases inB c.2.2.2.2.2.1 0 (zcF ls c.2.2.2.1 c.2.2.2.2.1-2)<;>rfl
theorem znX (l:List Connection) (hl:l.length<=9223372036854775807):zaE ls l=some (zgh ls l):=by
  unfold zaE zgh;have h:=zbn (f:=λs5:Int=>
cond (decide (s5<(zm l))) (Zb (idx l s5) λx8=>
Zb (zaO ls x8) λy9=>
cond (!y9) (some (.inr (.inr false))) (some (.inl (w64 (s5+1))))) (some (.inr (.inl ():Unit⊕Bool)))) (λk=>(k:Int)) l.length (λi=>cnB ls (l.getD i C0)) (.inr false) (.inl ()) (s0:=0) rfl (by simp only [big]; omega) (λi hi=>by
      simp only [zF hi,cond_true,zn C0 hi,Zs,zvo hn hK,zy (show i<9223372036854775807 by omega)];cases cnB ls (l.getD i C0)<;>rfl) (by simp only [zG,cond_false])
  rw [h,Zs,znW hn hK];cases l.all (cnB ls)<;>rfl
end
end Go.Ai.Sx
/- Service: the law of waits. -/
namespace Go.Ai.Sx
open Option renaming bind->Zb,bind_some->Zs
def zo5 (p:Plan) (l:Line) (home:Bool) (h o:Int) (k:Nat):Int:=zn4 p l home h o+zex (msC p l (zbS l home)) (zbS l home) k-dwl (zbS l home) k
def zo6 (p:Plan) (l:Line) (home:Bool) (h o:Int) (k:Nat):Int:=zn4 p l home h o+zex (msC p l (zbS l home)) (zbS l home) k
def zcG (p:Plan) (ls:List Line) (h:Int) (os:List Int) (c:Connection):Int:=zo6 p (ls.getD c.2.2.2.1.toNat L0) c.2.2.2.2.1 h (os.getD c.2.2.2.1.toNat 0) c.2.2.2.2.2.1.toNat-zo5 p (ls.getD c.1.toNat L0) c.2.1 h (os.getD c.1.toNat 0) c.2.2.1.toNat
def zcU (p:Plan) (ls:List Line) (h:Int) (os:List Int) (c:Connection):Int:=c.2.2.2.2.2.2.1+(zcG p ls h os c-c.2.2.2.2.2.2.1)%h
structure zBy (ls:List Line) (c:Connection):Prop where
 f:0<=c.1/\c.1<ls.length
 t:0<=c.2.2.2.1/\c.2.2.2.1<ls.length
 l:0<=c.2.2.2.2.2.2.1/\c.2.2.2.2.2.2.1<=c.2.2.2.2.2.2.2.1
 m:c.2.2.2.2.2.2.2.1<=7200
 fs:1<=c.2.2.1/\c.2.2.1<=zcF ls c.1 c.2.1-1
 ts:0<=c.2.2.2.2.2.1/\c.2.2.2.2.2.1<=zcF ls c.2.2.2.1 c.2.2.2.2.1-2
theorem zkP {ls:List Line} {c:Connection} (h:cnB ls c=true):zBy ls c:=by
 unfold cnB at h;simp only [Bool.and_eq_true,Bool.not_eq_true',decide_eq_false_iff_not] at h;obtain ⟨h1,h2,h3,h4,h5,h6⟩:=h;have h1:=zI.1 h1;have h2:=zI.1 h2;exact ⟨by omega,by omega,zI.1 h3,by omega,zI.1 h5,zI.1 h6⟩
section
variable {p:Plan} {ls:List Line} (hn:1<=ls.length/\ls.length<=20) (hK:∀ i,i<ls.length->zsZ p (ls.getD i L0)) {h:Int} (hh:30<=h/\h<=7200) {os:List Int} (hol:os.length=ls.length) (ho:∀ i,i<ls.length->0<=os.getD i 0/\os.getD i 0<=100000) {c:Connection} (hc:cnB ls c=true)
include hn hK hh hol ho hc
omit hn hh hol ho hc in
theorem csk {i:Nat} (hi:i<ls.length) (home:Bool):zxY p (ls.getD i L0) (zbS (ls.getD i L0) home):=by
 cases home
 . exact (hK i hi).o
 . exact (hK i hi).h
theorem zkw:-300000<=zcG p ls h os c/\zcG p ls h os c<=600000:=by
 have C:=zkP hc;have h1:=C.f;have h2:=C.t;have b1:=zly (hK c.1.toNat (by omega)) hh (ho c.1.toNat (by omega)) c.2.1;have b2:=zly (hK c.2.2.2.1.toNat (by omega)) hh (ho c.2.2.2.1.toNat (by omega)) c.2.2.2.2.1;have k1:=csk hK (i:=c.1.toNat) (by omega) c.2.1;have k2:=csk hK (i:=c.2.2.2.1.toNat) (by omega) c.2.2.2.2.1;have f1:=C.fs;have f2:=C.ts;unfold zcF at f1 f2;have o1:=zhd k1.C k1.M (k:=c.2.2.1.toNat) (by omega);have o2:=zhd k2.C k2.M (k:=c.2.2.2.2.2.1.toNat) (by omega);have d1:=k1.C.dw c.2.2.1.toNat (by omega);have n1:=k1.C.n;have n2:=k2.C.n;have o3:=ho c.1.toNat (by omega);have o4:=ho c.2.2.2.1.toNat (by omega);unfold zcG zo6 zo5;have l1:zex (msC p (ls.getD c.1.toNat L0) (zbS (ls.getD c.1.toNat L0) c.2.1)) (zbS (ls.getD c.1.toNat L0) c.2.1) c.2.2.1.toNat<=40000+10000:=by
  have hl:=k1.l2;unfold zeP at hl;by_cases e:c.2.2.1.toNat=(zbS (ls.getD c.1.toNat L0) c.2.1).2.1.length-1
  . rw [e]; exact hl
  . have:=zsX k1.C k1.M (i:=c.2.2.1.toNat) (j:=(zbS (ls.getD c.1.toNat L0) c.2.1).2.1.length-1) (by omega) (by omega);omega
 have l2:zex (msC p (ls.getD c.2.2.2.1.toNat L0) (zbS (ls.getD c.2.2.2.1.toNat L0) c.2.2.2.2.1)) (zbS (ls.getD c.2.2.2.1.toNat L0) c.2.2.2.2.1) c.2.2.2.2.2.1.toNat<=50000:=by
  have hl:=k2.l2;unfold zeP at hl;have:=zsX k2.C k2.M (i:=c.2.2.2.2.2.1.toNat) (j:=(zbS (ls.getD c.2.2.2.1.toNat L0) c.2.2.2.2.1).2.1.length-1) (by omega) (by omega);omega
 omega
theorem zkx:c.2.2.2.2.2.2.1<=zcU p ls h os c/\zcU p ls h os c<c.2.2.2.2.2.2.1+h:=by
 unfold zcU;have h1:=Int.emod_nonneg (zcG p ls h os c-c.2.2.2.2.2.2.1) (show h≠0 by omega);have h2:=Int.emod_lt_of_pos (zcG p ls h os c-c.2.2.2.2.2.2.1) (show 0<h by omega);omega
theorem zo7:zbC (ls.map (rnS p)) h os c=some (zcU p ls h os c):=by
 have C:=zkP hc;have h1:=C.f;have h2:=C.t;have hd:=zkw hn hK hh hol ho hc;have hw:=zkx hn hK hh hol ho hc;have b1:=zly (hK c.1.toNat (by omega)) hh (ho c.1.toNat (by omega)) c.2.1;have b2:=zly (hK c.2.2.2.1.toNat (by omega)) hh (ho c.2.2.2.1.toNat (by omega)) c.2.2.2.2.1;have k1:=csk hK (i:=c.1.toNat) (by omega) c.2.1;have k2:=csk hK (i:=c.2.2.2.1.toNat) (by omega) c.2.2.2.2.1;have f1:=C.fs;have f2:=C.ts;unfold zcF at f1 f2;have n1:=k1.C.n;have n2:=k2.C.n;have hdl:=k1.C.d;have o1:=zhd k1.C k1.M (k:=c.2.2.1.toNat) (by omega);have o2:=zhd k2.C k2.M (k:=c.2.2.2.2.2.1.toNat) (by omega);have d1:=k1.C.dw c.2.2.1.toNat (by omega);have o3:=ho c.1.toNat (by omega);have o4:=ho c.2.2.2.1.toNat (by omega);have hl:=C.l;have hm:=C.m;have e1:=zvX (hK c.1.toNat (by omega)) hh (ho c.1.toNat (by omega)) c.2.1;have e2:=zvX (hK c.2.2.2.1.toNat (by omega)) hh (ho c.2.2.2.1.toNat (by omega)) c.2.2.2.2.1;have a1:idx os c.1=some (os.getD c.1.toNat 0):=zbg (by omega) (by omega);have a2:idx os c.2.2.2.1=some (os.getD c.2.2.2.1.toNat 0):=zbg (by omega) (by omega);have a3:idx (zg5 (msC p (ls.getD c.1.toNat L0) (zbS (ls.getD c.1.toNat L0) c.2.1)) (zbS (ls.getD c.1.toNat L0) c.2.1)) c.2.2.1=some (zex (msC p (ls.getD c.1.toNat L0) (zbS (ls.getD c.1.toNat L0) c.2.1)) (zbS (ls.getD c.1.toNat L0) c.2.1) c.2.2.1.toNat):=by
  have:=zet (n:=(zbS (ls.getD c.1.toNat L0) c.2.1).2.1.length) (f:=zex (msC p (ls.getD c.1.toNat L0) (zbS (ls.getD c.1.toNat L0) c.2.1)) (zbS (ls.getD c.1.toNat L0) c.2.1)) (i:=c.2.2.1.toNat) (by omega);rwa [Int.toNat_of_nonneg (by omega)] at this
 have a4:idx (zg5 (msC p (ls.getD c.2.2.2.1.toNat L0) (zbS (ls.getD c.2.2.2.1.toNat L0) c.2.2.2.2.1)) (zbS (ls.getD c.2.2.2.1.toNat L0) c.2.2.2.2.1)) c.2.2.2.2.2.1=some (zex (msC p (ls.getD c.2.2.2.1.toNat L0) (zbS (ls.getD c.2.2.2.1.toNat L0) c.2.2.2.2.1)) (zbS (ls.getD c.2.2.2.1.toNat L0) c.2.2.2.2.1) c.2.2.2.2.2.1.toNat):=by
  have:=zet (n:=(zbS (ls.getD c.2.2.2.1.toNat L0) c.2.2.2.2.1).2.1.length) (f:=zex (msC p (ls.getD c.2.2.2.1.toNat L0) (zbS (ls.getD c.2.2.2.1.toNat L0) c.2.2.2.2.1)) (zbS (ls.getD c.2.2.2.1.toNat L0) c.2.2.2.2.1)) (i:=c.2.2.2.2.2.1.toNat) (by omega);rwa [Int.toNat_of_nonneg (by omega)] at this
 have a5:idx (zbS (ls.getD c.1.toNat L0) c.2.1).2.2.1 c.2.2.1=some (dwl (zbS (ls.getD c.1.toNat L0) c.2.1) c.2.2.1.toNat):=zbg (by omega) (by omega);have a6:(Zb (zaX (rnS p (ls.getD c.1.toNat L0)).1) λy20=>idx y20 (cond c.2.1 1 0))=some (zbS (ls.getD c.1.toNat L0) c.2.1):=by
  cases c.2.1<;>rfl
 rw [show zaX (rnS p (ls.getD c.1.toNat L0)).1=some [(ls.getD c.1.toNat L0).1,(ls.getD c.1.toNat L0).2.1] from rfl,Zs] at a6;unfold zbC;simp only [zp9 (p:=p) (ls:=ls) (i:=c.1) (by omega),zp9 (p:=p) (ls:=ls) (i:=c.2.2.2.1) (by omega),Zs,zo4,a1,a2,e1,e2,zvY,a3,a4,show zaX (rnS p (ls.getD c.1.toNat L0)).1=some [(ls.getD c.1.toNat L0).1,(ls.getD c.1.toNat L0).2.1] from rfl,a6,a5];have hdf:zo6 p (ls.getD c.2.2.2.1.toNat L0) c.2.2.2.2.1 h (os.getD c.2.2.2.1.toNat 0) c.2.2.2.2.2.1.toNat-zo5 p (ls.getD c.1.toNat L0) c.2.1 h (os.getD c.1.toNat 0) c.2.2.1.toNat=zcG p ls h os c:=rfl;unfold zo6 zo5 at hdf;rw [zh (n:=zn4 p (ls.getD c.2.2.2.1.toNat L0) c.2.2.2.2.1 h (os.getD c.2.2.2.1.toNat 0)+_) (by omega) (by omega),zh (n:=zn4 p (ls.getD c.1.toNat L0) c.2.1 h (os.getD c.1.toNat 0)+_) (by omega) (by omega),zh (n:=zn4 p (ls.getD c.1.toNat L0) c.2.1 h (os.getD c.1.toNat 0)+_-_) (by omega) (by omega)];rw [hdf,zh (n:=zcG p ls h os c) (by omega) (by omega),zh (n:=zcG p ls h os c-_) (by omega) (by omega),zs6 (by omega) (by omega),Zs];show some (w64 (zcU p ls h os c))=_;rw [zh (by omega) (by omega)]
end
def evL (l:List Int):Bool:=!(l.any λh=>h !=l.getD 0 0)
theorem zs9 (l:List Int) (hl:l.length<=9223372036854775807):zcX l=some (evL l):=by
 unfold zcX evL;rw [zi5 l hl _ (λh=>h !=l.getD 0 0) (λx hx=>by
  have:0<l.length:=List.length_pos_of_mem hx;unfold zdE;rw [show idx l (0:Int)=some (l.getD 0 0) from zn (l:=l) (i:=0) 0 this,Zs]),Zs]
theorem zvp (s:Service) (hl:1<=s.2.1.length/\s.2.1.length<=1000000):zeL s=some (evL s.2.1):=by
  unfold zeL;have h0:idx s.2.1 (0:Int)=some (s.2.1.getD 0 0):=zn (l:=s.2.1) (i:=0) 0 (by omega);have h:=zbn (f:=λs7:Int=>
cond (decide (s7<(zm s.2.1))) (Zb (idx s.2.1 s7) λx12=>
Zb (idx s.2.1 0) λx13=>
cond (x12 !=x13) (some (.inr (.inr false))) (some (.inl (w64 (s7+1))))) (some (.inr (.inl ():Unit⊕Bool)))) (λk=>((k+1:Nat):Int)) (s.2.1.length-1) (λk=>!(s.2.1.getD (k+1) 0 !=s.2.1.getD 0 0)) (.inr false) (.inl ()) (s0:=1) rfl (by simp only [big]; omega) (λi hi=>by
      have hil:i+1<s.2.1.length:=by omega
      simp only [zF hil,cond_true,zn 0 hil,h0,Zs,zy (show i+1<9223372036854775807 by omega)];cases (s.2.1.getD (i+1) 0 !=s.2.1.getD 0 0)<;>rfl) (by rw [show s.2.1.length-1+1=s.2.1.length by omega,zG]; rfl)
  rw [h,Zs];have e:((List.range (s.2.1.length-1)).all λk=>!(s.2.1.getD (k+1) 0 !=s.2.1.getD 0 0))=evL s.2.1:=by
    unfold evL;rw [Bool.eq_iff_iff,List.all_eq_true,Bool.not_eq_true',List.any_eq_false];constructor
    · intro h x hx;obtain ⟨i,hi,rfl⟩:=List.getElem_of_mem hx;by_cases h0:i=0
      · subst h0;rw [show s.2.1.getD 0 0=s.2.1[0] by simp [List.getD,hi]];simp
      · have:=h (i-1) (List.mem_range.2 (by omega));rw [show i-1+1=i by omega,show s.2.1.getD i 0=s.2.1[i] by simp [List.getD,hi]] at this;rw [Bool.not_eq_true'] at this;rw [this]; simp
    · intro h i hi;have hi:=List.mem_range.1 hi;have hil:i+1<s.2.1.length:=by omega
      have:=h s.2.1[i+1] (List.getElem_mem hil);rw [show s.2.1.getD (i+1) 0=s.2.1[i+1] by simp [List.getD,hil]];simpa using this
  rw [e];cases evL s.2.1<;>rfl
section
variable {p:Plan} {s:Service} (V:zvW p s) (H:ztv p s)
include V H
theorem svK:∀ i,i<s.1.length->zsZ p (s.1.getD i L0):=λi hi=>lnK V H hi
theorem zqM:∀ i,i<s.1.length->0<=s.2.2.1.getD i 0/\s.2.2.1.getD i 0<=100000:=λi hi=>by
 have h1:=V.ob i hi;have h2:=V.hb i hi;unfold of0 at h1;omega
theorem zx4 (he:evL s.2.1=true) {i:Nat} (hi:i<s.1.length):hd0 s i=hd0 s 0:=by
 unfold evL at he;rw [Bool.not_eq_true',List.any_eq_false] at he;have hl:=V.h;have hil:i<s.2.1.length:=by omega
 have:=he s.2.1[i] (List.getElem_mem hil);unfold hd0;rw [show s.2.1.getD i 0=s.2.1[i] by simp [List.getD,hil]];simpa using this
theorem zta (c:Connection):za0 p s c=some (if (evL s.2.1&&cnB s.1 c)=true then (zcU p s.1 (hd0 s 0) s.2.2.1 c,0) else (0,2)):=by
 have hl:=V.h;have hn:=V.n;have hB:zqL p s=true:=by
  unfold zqL;rw [V.v,decide_eq_true V.h,decide_eq_true V.o,zI.2 (show 1<=zm s.1/\zm s.1<=20 by rw [zp]; omega)];simp only [Bool.true_and];rw [List.all_eq_true];intro i hi;have hi:=List.mem_range.1 hi;rw [V.l i hi,Bool.true_and];unfold hoB;rw [zI.2 (V.hb i hi),zI.2 (V.ob i hi)]; rfl
 unfold za0;rw [zlx H,if_pos hB,Zs];simp only [Bool.not_true,cond_false,zs9 s.2.1 (by omega),Zs];cases he:evL s.2.1 with
 | false=>rfl
 | true=>
 simp only [Bool.not_true,cond_false,zgi hn (svK V H) [c] (by simp),Zs,Bool.true_and];have hcb:zgh s.1 [c]=cnB s.1 c:=by
  unfold zgh;rw [List.all_cons,List.all_nil,Bool.and_true,decide_eq_true (show zm [c]<=60 from (show (1:Int)<=60 by omega)),Bool.and_true]
 rw [hcb];cases hc:cnB s.1 c with
 | false=>rfl
 | true=>
 have h0:idx s.2.1 (0:Int)=some (hd0 s 0):=zn (l:=s.2.1) (i:=0) 0 (by omega);simp only [Bool.not_true,cond_false,h0,Zs,if_true,zo7 hn (svK V H) (V.hb 0 (by omega)) V.o (zqM V H) hc]
def zx5 (p:Plan) (s:Service) (l:List Connection):Bool:=!(l.any λc=>decide (zcU p s.1 (hd0 s 0) s.2.2.1 c>c.2.2.2.2.2.2.2.1))
theorem zqa (l:List Connection) (hll:l.length<=9223372036854775807):zcD p s l=some (if (evL s.2.1&&zgh s.1 l)=true then (zx5 p s l,0) else (false,2)):=by
 have hl:=V.h;have hn:=V.n;unfold zcD;rw [zlx H,if_pos (zx3 V H),Zs];simp only [Bool.not_true,cond_false,zs9 s.2.1 (by omega),Zs];cases he:evL s.2.1 with
 | false=>rfl
 | true=>
 simp only [Bool.not_true,cond_false,zgi hn (svK V H) l hll,Zs,Bool.true_and];cases hc:zgh s.1 l with
 | false=>rfl
 | true=>
 have hc2:l.all (cnB s.1)=true:=by unfold zgh at hc; rw [Bool.and_eq_true] at hc; exact hc.1
 have h0:idx s.2.1 (0:Int)=some (hd0 s 0):=zn (l:=s.2.1) (i:=0) 0 (by omega);obtain ⟨k,g1,g2⟩:=zh2 l hll (λx=>zcC x (s.1.map (rnS p)) s) (λc=>decide (zcU p s.1 (hd0 s 0) s.2.2.1 c>c.2.2.2.2.2.2.2.1)) (λc hcm=>by
  unfold zcC;have hcc:=List.all_eq_true.1 hc2 c hcm;simp only [h0,Zs,zo7 hn (svK V H) (V.hb 0 (by omega)) V.o (zqM V H) hcc])
 unfold zZ zQ;simp only [Bool.not_true,cond_false];rw [g1,Zs,g2];rfl
theorem znY (he:evL s.2.1=true) {c:Connection} (hc:cnB s.1 c=true):zcQ p s c=some (zcG p s.1 (hd0 s 0) s.2.2.1 c):=by
 have C:=zkP hc;have h1:=C.f;have h2:=C.t;have hn:=V.n;have hK:=svK V H;have hh:=V.hb 0 (by omega);have ho:=zqM V H;have hd:=zkw hn hK hh V.o ho hc;have b1:=zly (hK c.1.toNat (by omega)) hh (ho c.1.toNat (by omega)) c.2.1;have b2:=zly (hK c.2.2.2.1.toNat (by omega)) hh (ho c.2.2.2.1.toNat (by omega)) c.2.2.2.2.1;have k1:=csk hK (i:=c.1.toNat) (by omega) c.2.1;have k2:=csk hK (i:=c.2.2.2.1.toNat) (by omega) c.2.2.2.2.1;have f1:=C.fs;have f2:=C.ts;unfold zcF at f1 f2;have n1:=k1.C.n;have n2:=k2.C.n;have hdl:=k1.C.d;have o1:=zhd k1.C k1.M (k:=c.2.2.1.toNat) (by omega);have o2:=zhd k2.C k2.M (k:=c.2.2.2.2.2.1.toNat) (by omega);have d1:=k1.C.dw c.2.2.1.toNat (by omega);have o3:=ho c.1.toNat (by omega);have o4:=ho c.2.2.2.1.toNat (by omega);have e1:=zp8 V H (i:=c.1.toNat) (by omega) c.2.1;have e2:=zp8 V H (i:=c.2.2.2.1.toNat) (by omega) c.2.2.2.2.1;rw [zx4 V H he (by omega),Int.toNat_of_nonneg (by omega)] at e1 e2;have p1:=zzo V H (i:=c.1.toNat) (by omega) c.2.1;have p2:=zzo V H (i:=c.2.2.2.1.toNat) (by omega) c.2.2.2.2.1;unfold ln0 at e1 e2 p1 p2;unfold of0 at e1 e2;have l1:idx s.1 c.1=some (s.1.getD c.1.toNat L0):=zbg (by omega) (by omega);have l2:idx s.1 c.2.2.2.1=some (s.1.getD c.2.2.2.1.toNat L0):=zbg (by omega) (by omega);have a3:idx (zg5 (msC p (s.1.getD c.1.toNat L0) (zbS (s.1.getD c.1.toNat L0) c.2.1)) (zbS (s.1.getD c.1.toNat L0) c.2.1)) c.2.2.1=some (zex (msC p (s.1.getD c.1.toNat L0) (zbS (s.1.getD c.1.toNat L0) c.2.1)) (zbS (s.1.getD c.1.toNat L0) c.2.1) c.2.2.1.toNat):=by
  have:=zet (n:=(zbS (s.1.getD c.1.toNat L0) c.2.1).2.1.length) (f:=zex (msC p (s.1.getD c.1.toNat L0) (zbS (s.1.getD c.1.toNat L0) c.2.1)) (zbS (s.1.getD c.1.toNat L0) c.2.1)) (i:=c.2.2.1.toNat) (by omega);rwa [Int.toNat_of_nonneg (by omega)] at this
 have a4:idx (zg5 (msC p (s.1.getD c.2.2.2.1.toNat L0) (zbS (s.1.getD c.2.2.2.1.toNat L0) c.2.2.2.2.1)) (zbS (s.1.getD c.2.2.2.1.toNat L0) c.2.2.2.2.1)) c.2.2.2.2.2.1=some (zex (msC p (s.1.getD c.2.2.2.1.toNat L0) (zbS (s.1.getD c.2.2.2.1.toNat L0) c.2.2.2.2.1)) (zbS (s.1.getD c.2.2.2.1.toNat L0) c.2.2.2.2.1) c.2.2.2.2.2.1.toNat):=by
  have:=zet (n:=(zbS (s.1.getD c.2.2.2.1.toNat L0) c.2.2.2.2.1).2.1.length) (f:=zex (msC p (s.1.getD c.2.2.2.1.toNat L0) (zbS (s.1.getD c.2.2.2.1.toNat L0) c.2.2.2.2.1)) (zbS (s.1.getD c.2.2.2.1.toNat L0) c.2.2.2.2.1)) (i:=c.2.2.2.2.2.1.toNat) (by omega);rwa [Int.toNat_of_nonneg (by omega)] at this
 have a5:idx (zbS (s.1.getD c.1.toNat L0) c.2.1).2.2.1 c.2.2.1=some (dwl (zbS (s.1.getD c.1.toNat L0) c.2.1) c.2.2.1.toNat):=zbg (by omega) (by omega);unfold zcQ;simp only [l1,l2,e1,e2,p1,p2,Zs,a3,a4,zfY,a5];have hdf:zo6 p (s.1.getD c.2.2.2.1.toNat L0) c.2.2.2.2.1 (hd0 s 0) (s.2.2.1.getD c.2.2.2.1.toNat 0) c.2.2.2.2.2.1.toNat-zo5 p (s.1.getD c.1.toNat L0) c.2.1 (hd0 s 0) (s.2.2.1.getD c.1.toNat 0) c.2.2.1.toNat=zcG p s.1 (hd0 s 0) s.2.2.1 c:=rfl;unfold zo6 zo5 at hdf;rw [zh (n:=zn4 p (s.1.getD c.2.2.2.1.toNat L0) c.2.2.2.2.1 (hd0 s 0) (s.2.2.1.getD c.2.2.2.1.toNat 0)+_) (by omega) (by omega),zh (n:=zn4 p (s.1.getD c.1.toNat L0) c.2.1 (hd0 s 0) (s.2.2.1.getD c.1.toNat 0)+_) (by omega) (by omega),zh (n:=zn4 p (s.1.getD c.1.toNat L0) c.2.1 (hd0 s 0) (s.2.2.1.getD c.1.toNat 0)+_-_) (by omega) (by omega)];rw [hdf,zh (by omega) (by omega)]
theorem zvq (he:evL s.2.1=true) {c:Connection} (hc:cnB s.1 c=true):zeM p s c=some (zcU p s.1 (hd0 s 0) s.2.2.1 c):=by
 have C:=zkP hc;have hn:=V.n;have hl:=V.h;have hh:=V.hb 0 (by omega);have hd:=zkw hn (svK V H) hh V.o (zqM V H) hc;have hw:=zkx hn (svK V H) hh V.o (zqM V H) hc;have h1:=C.l;have h2:=C.m;have h0:idx s.2.1 (0:Int)=some (hd0 s 0):=zn (l:=s.2.1) (i:=0) 0 (by omega);unfold zeM;rw [znY V H he hc,Zs,h0,Zs,zh (n:=zcG p s.1 (hd0 s 0) s.2.2.1 c-_) (by omega) (by omega),zs7 (by omega) (by omega),Zs];show some (w64 (zcU p s.1 (hd0 s 0) s.2.2.1 c))=_;rw [zh (by omega) (by omega)]
end
end Go.Ai.Sx
/- Service: the search for offsets,in the program. -/
namespace Go.Ai.Sx
open Option renaming bind->Zb,bind_some->Zs
inductive zo8 where
 | found (o:List Int) (t:Int)
 | no (t:Int)
 | over
def zed (c:Connection):Int:=max c.1 c.2.2.2.1
def okP (p:Plan) (ls:List Line) (h:Int) (l:List Connection) (pre:List Int):Bool:=l.all λc=>!(zed c==(pre.length:Int)-1)||!decide (zcU p ls h pre c>c.2.2.2.2.2.2.2.1)
def lpS (ok:List Int->Bool) (f:List Int->Int->zo8) (pre:List Int) (h:Int):Nat->Int->zo8
 | 0,t=>.no t
 | r+1,t=>if t=100000 then .over else match (if ok (pre++[h-((r+1:Nat):Int)]) then f (pre++[h-((r+1:Nat):Int)]) (t+1) else .no (t+1)) with
  | .no t'=>lpS ok f pre h r t'
  | .found o t'=>.found o t'
  | .over=>.over
def srS (ok:List Int->Bool) (h:Int):Nat->List Int->Int->zo8
 | 0,pre,t=>.found pre t
 | k+1,pre,t=>lpS ok (srS ok h k) pre h h.toNat t
def zvZ:zo8->Prop
 | .found _ t=>0<=t/\t<=100000
 | .no t=>0<=t/\t<=100000
 | .over=>True
theorem zv0 {ok:List Int->Bool} {f:List Int->Int->zo8} (hf:∀ pre t,0<=t/\t<=100000->zvZ (f pre t)) (pre:List Int) (h:Int):∀ r t,0<=t/\t<=100000->zvZ (lpS ok f pre h r t)
 | 0,t,ht=>ht
 | r+1,t,ht=>by
  rw [lpS];by_cases h1:t=100000
  . rw [if_pos h1]; trivial
  . rw [if_neg h1];have hq:zvZ (if ok (pre++[h-((r+1:Nat):Int)]) then f (pre++[h-((r+1:Nat):Int)]) (t+1) else .no (t+1)):=by
     split
     . exact hf _ _ (by omega)
     . show 0<=t+1/\t+1<=100000;omega
    revert hq;cases (if ok (pre++[h-((r+1:Nat):Int)]) then f (pre++[h-((r+1:Nat):Int)]) (t+1) else .no (t+1)) with
    | found o t'=>exact λq=>q
    | no t'=>exact λq=>zv0 hf pre h r t' q
    | over=>exact λq=>q
theorem znZ {ok:List Int->Bool} {h:Int}:∀ k pre t,0<=t/\t<=100000->zvZ (srS ok h k pre t)
 | 0,_,_,ht=>ht
 | k+1,pre,t,ht=>zv0 (λpre t ht=>znZ k pre t ht) pre h _ t ht
structure zgj (N:Nat) (h:Int) (pre now:List Int):Prop where
 len:now.length=N
 tk:now.take pre.length=pre
 b:∀ x,x∈now->0<=x/\x<=h
def PR (N:Nat) (h:Int) (pre:List Int):zo8->((Bool×List Int×Int)⊕Unit)->Prop
 | .found o t,r=>r=.inl (true,o,t)
 | .no t,r=>∃ now,r=.inl (false,now,t)/\zgj N h pre now
 | .over,r=>r=.inr ()
def LR (N:Nat) (h:Int) (pre:List Int):zo8->((List Int×Int)⊕(Unit⊕(Bool×List Int×Int)))->Prop
 | .found o t,r=>r=.inr (.inr (true,o,t))
 | .no t,r=>∃ now,r=.inl (now,t)/\zgj N h pre now
 | .over,r=>r=.inr (.inl ())
theorem zv1 {N:Nat} {h x:Int} {pre now:List Int} (q:zgj N h (pre++[x]) now):now[pre.length]?=some x:=by
 have:=congrArg (λl=>l[pre.length]?) q.tk;simpa [List.getElem?_take] using this
theorem zky {N:Nat} {h x y:Int} {pre now:List Int} (q:zgj N h (pre++[x]) now) (hy:0<=y/\y<=h):zgj N h pre (now.set pre.length y)/\(pre.length<N->(now.set pre.length y)[pre.length]?=some y):=by
 refine ⟨⟨by rw [List.length_set]; exact q.len, ?_,λz hz=>?_⟩,λhl=>?_⟩
 . have:=congrArg (λl=>l.take pre.length) q.tk;simp only [List.take_take,List.length_append,List.length_singleton] at this;rw [show min pre.length (pre.length+1)=pre.length by omega,List.take_left] at this;rw [List.take_set_of_le (by omega)];exact this
 . rcases List.mem_or_eq_of_mem_set hz with a | rfl
   . exact q.b z a
   . exact hy
 . rw [List.getElem?_set];rw [if_pos rfl,if_pos (by rw [q.len]; exact hl)]
theorem zh8 {N:Nat} {h x:Int} {pre now:List Int} (q:zgj N h pre now) (hx:now[pre.length]?=some x):zgj N h (pre++[x]) now:=by
 refine ⟨q.len, ?_,q.b⟩;rw [List.length_append,List.length_singleton,List.take_add_one,q.tk,hx];rfl
theorem ztb {A:Type} (l:List A) (q:A->Bool) (d:A):((List.range l.length).all λi=>q (l.getD i d))=l.all q:=by
 rw [Bool.eq_iff_iff,List.all_eq_true,List.all_eq_true];constructor
 . intro h x hx;obtain ⟨i,hi,rfl⟩:=List.getElem_of_mem hx;have:=h i (List.mem_range.2 hi);rwa [show l.getD i d=l[i] by simp [List.getD,hi]] at this
 . intro h i hi;have hi:=List.mem_range.1 hi;rw [show l.getD i d=l[i] by simp [List.getD,hi]];exact h _ (List.getElem_mem hi)
theorem zjx {p:Plan} {ls:List Line} {h:Int} {pre now:List Int} (htk:now.take pre.length=pre) {c:Connection} (h1:0<=c.1/\c.1<pre.length) (h2:0<=c.2.2.2.1/\c.2.2.2.1<pre.length):zcU p ls h now c=zcU p ls h pre c:=by
 have e:∀ i:Nat,i<pre.length->now.getD i 0=pre.getD i 0:=λi hi=>by
  have:=congrArg (λl=>l[i]?) htk;simp only [List.getElem?_take,if_pos hi] at this;simp only [List.getD,this]
 unfold zcU zcG;rw [e c.1.toNat (by omega),e c.2.2.2.1.toNat (by omega)]
section
variable {p:Plan} {ls:List Line} (hn:1<=ls.length/\ls.length<=20) (hK:∀ i,i<ls.length->zsZ p (ls.getD i L0)) {h:Int} (hh:30<=h/\h<=7200) {l:List Connection} (hc:l.all (cnB ls)=true) (hll:l.length<=1000000)
include hn hK hh hc hll
theorem zv2 {pre now:List Int} (q:zgj ls.length h pre now) (hp:1<=pre.length):iter (σ:=(Int)) (τ:=Unit⊕(Bool)) (λs12=>
cond (decide (s12<(zm l))) (Zb (idx l s12) λx15=>
cond ((max x15.1 x15.2.2.2.1)==(w64 ((pre.length:Int)-1))) (Zb (zbC (ls.map (rnS p)) h now x15) λy22=>
cond (decide (y22>x15.2.2.2.2.2.2.2.1)) (some (.inr (.inr false))) (some (.inl (w64 (s12+1))))) (some (.inl (w64 (s12+1))))) (some (.inr (.inl ())))) big 0=some (if okP p ls h l pre then .inl () else .inr false):=by
  have hpl:pre.length<=now.length:=by
    have:=congrArg List.length q.tk;rw [List.length_take] at this;omega
  have hlen:=q.len;have key:=zbn (f:=λs12:Int=>
cond (decide (s12<(zm l))) (Zb (idx l s12) λx15=>
cond ((max x15.1 x15.2.2.2.1)==(w64 ((pre.length:Int)-1))) (Zb (zbC (ls.map (rnS p)) h now x15) λy22=>
cond (decide (y22>x15.2.2.2.2.2.2.2.1)) (some (.inr (.inr false))) (some (.inl (w64 (s12+1))))) (some (.inl (w64 (s12+1))))) (some (.inr (.inl ():Unit⊕Bool)))) (λk=>(k:Int)) l.length (λi=>!(zed (l.getD i C0)==(pre.length:Int)-1)||!decide (zcU p ls h pre (l.getD i C0)>(l.getD i C0).2.2.2.2.2.2.2.1)) (.inr false) (.inl ()) (s0:=0) rfl (by simp only [big]; omega) (λi hi=>by
      have hcc:cnB ls (l.getD i C0)=true:=by
        rw [show l.getD i C0=l[i] by simp [List.getD,hi]];exact List.all_eq_true.1 hc _ (List.getElem_mem hi)
      simp only [zF hi,cond_true,zn C0 hi,Zs,zy (show i<9223372036854775807 by omega)];rw [zh (n:=(pre.length:Int)-1) (by omega) (by omega)];show cond (zed (l.getD i C0)==(pre.length:Int)-1) _ _=_;cases he:(zed (l.getD i C0)==(pre.length:Int)-1) with
      | false=>rfl
      | true=>
        have he:=eq_of_beq he;have C:=zkP hcc;have c1:=C.f;have c2:=C.t;unfold zed at he;rw [cond_true,zo7 hn hK hh q.len (λi hi=>by
          have hb:=q.b (now.getD i 0) (by rw [show now.getD i 0=now[i] by simp [List.getD,show i<now.length by omega]]; exact List.getElem_mem _);omega) hcc,Zs,zjx q.tk (by omega) (by omega)]
        cases decide (zcU p ls h pre (l.getD i C0)>(l.getD i C0).2.2.2.2.2.2.2.1)<;>rfl) (by simp only [zG,cond_false])
  rw [key];have e:=ztb l (λc=>!(zed c==(pre.length:Int)-1)||!decide (zcU p ls h pre c>c.2.2.2.2.2.2.2.1)) C0;rw [e];rfl
theorem zx6:∀ (k:Nat) (pre now:List Int) (t:Int) (fuel:Nat),pre.length+k=ls.length->1<=pre.length->zgj ls.length h pre now->0<=t/\t<=100000->k<fuel ->
    Tot (PR ls.length h pre (if okP p ls h l pre then srS (okP p ls h l) h k pre t else .no t)) (zaV fuel (pre.length:Int) l (ls.map (rnS p)) h now ls t):=by
  intro k;induction k with
  | zero=>
    intro pre now t fuel hk hp q ht hf;obtain ⟨fuel,rfl⟩:∃ f,fuel=f+1:=⟨fuel-1,by omega⟩;rw [zaV];unfold zaY;rw [zv2 hn hK hh hc hll q hp,Zs];cases okP p ls h l pre with
    | false=>exact .some ⟨now,rfl,q⟩
    | true=>
      rw [if_pos rfl,if_pos rfl,zaG,show ((pre.length:Int)==zm ls)=true from by rw [zp]; exact beq_iff_eq.2 (by omega),cond_true];refine .some ?_;have e:now=pre:=by
        have h1:=q.tk;rw [List.take_of_length_le (by rw [q.len]; omega)] at h1;exact h1
      rw [e]; rfl
  | succ k ih=>
    intro pre now t fuel hk hp q ht hf;obtain ⟨fuel,rfl⟩:∃ f,fuel=f+1:=⟨fuel-1,by omega⟩;rw [zaV];unfold zaY;rw [zv2 hn hK hh hc hll q hp,Zs];cases okP p ls h l pre with
    | false=>exact .some ⟨now,rfl,q⟩
    | true=>
    rw [if_pos rfl,if_pos rfl,zaG,show ((pre.length:Int)==zm ls)=false from by rw [zp]; exact beq_eq_false_iff_ne.2 (by omega),cond_false];have hpn:pre.length<now.length:=by rw [q.len]; omega
    have hlen:=q.len;rw [zn 0 hpn,Zs];have key:∀ (r:Nat) (now:List Int) (t:Int) (x:Int),x+r=h->0<=x->zgj ls.length h pre now->now[pre.length]?=some x->0<=t/\t<=100000->∃ out,LR ls.length h pre (lpS (okP p ls h l) (srS (okP p ls h l) h k) pre h r t) out/\Lp (λs51:List Int×Int=>
Zb (idx s51.1 (pre.length:Int)) λx54=>
cond (decide (x54<h)) (cond (s51.2==100000) (some (.inr (.inr (.inl ())))) (Zb (zaV fuel (w64 ((pre.length:Int)+1)) l (ls.map (rnS p)) h s51.1 ls (w64 (s51.2+1))) λy57=>
alt (λy58=>cond (y58.1) (some (.inr (.inr (.inr (true,y58.2.1,y58.2.2))))) (Zb (idx y58.2.1 (pre.length:Int)) λx61=>
Zb (idx y58.2.1 (pre.length:Int)) λx62=>
some (.inl ((y58.2.1).set (Int.toNat (pre.length:Int)) (w64 (x61+1)),y58.2.2)))) (λy58=>some (.inr (.inr (.inl ())))) y57)) (some (.inr (.inl (s51.1,s51.2):(List Int×Int)⊕(Unit⊕(Bool×List Int×Int)))))) r (now,t) out:=by
      intro r;induction r with
      | zero=>
        intro now t x hx hx0 q hat ht;refine ⟨.inl (now,t),⟨now,rfl,q⟩,Lp.done ?_⟩;simp only [zdd,hat,Zs];rw [decide_eq_false (show ¬ x<h by omega),cond_false]
      | succ r ihr=>
        intro now t x hx hx0 q hat ht;have ex:h-((r+1:Nat):Int)=x:=by omega
        rw [lpS,ex];by_cases h1:t=100000
        · rw [if_pos h1];refine ⟨.inr (.inl ()),rfl,Lp.done ?_⟩;simp only [zdd,hat,Zs];rw [decide_eq_true (show x<h by omega),cond_true,h1];rfl
        · rw [if_neg h1];have q':=zh8 q hat;have hr:=ih (pre++[x]) now (t+1) fuel (by rw [List.length_append,List.length_singleton]; omega) (by rw [List.length_append,List.length_singleton]; omega) q' (by omega) (by omega);rw [List.length_append,List.length_singleton] at hr;have hbd:zvZ (if okP p ls h l (pre++[x]) then srS (okP p ls h l) h k (pre++[x]) (t+1) else .no (t+1)):=by
            split
            · exact znZ _ _ _ (by omega)
            · show 0<=t+1/\t+1<=100000;omega
          have hwn:w64 ((pre.length:Int)+1)=((pre.length+1:Nat):Int):=by rw [zh (by omega) (by omega)]; omega
          have hwt:w64 (t+1)=t+1:=zh (by omega) (by omega);revert hr hbd;cases (if okP p ls h l (pre++[x]) then srS (okP p ls h l) h k (pre++[x]) (t+1) else .no (t+1)) with
          | found o t'=>
            rintro ⟨y,e1,e2⟩ _
            refine ⟨.inr (.inr (true,o,t')),rfl,Lp.done ?_⟩;simp only [zdd,hat,Zs,hwn,hwt,e1];rw [decide_eq_true (show x<h by omega),cond_true,beq_eq_false_iff_ne.2 h1,cond_false,e2];rfl
          | over=>
            rintro ⟨y,e1,e2⟩ _
            refine ⟨.inr (.inl ()),rfl,Lp.done ?_⟩;simp only [zdd,hat,Zs,hwn,hwt,e1];rw [decide_eq_true (show x<h by omega),cond_true,beq_eq_false_iff_ne.2 h1,cond_false,e2];rfl
          | no t'=>
            rintro ⟨y,e1,now',e2,q2⟩ hb
            obtain ⟨q3,q4⟩:=zky q2 (y:=x+1) (by omega);obtain ⟨out,g1,g2⟩:=ihr (now'.set pre.length (x+1)) t' (x+1) (by omega) (by omega) q3 (q4 (by omega)) hb;refine ⟨out,g1,Lp.step ?_ g2⟩;have hat':=zv1 q2;simp only [zdd,hat,Zs,hwn,hwt,e1];rw [decide_eq_true (show x<h by omega),cond_true,beq_eq_false_iff_ne.2 h1,cond_false,e2,zaG];simp only [cond_false,hat',Zs,Int.toNat_natCast];rw [zh (by omega) (by omega)]
    have hset:zgj ls.length h pre (now.set pre.length 0)/\(now.set pre.length 0)[pre.length]?=some 0:=by
      have hx:now[pre.length]?=some now[pre.length]:=List.getElem?_eq_getElem hpn;obtain ⟨a,b⟩:=zky (zh8 q hx) (y:=0) (by omega);exact ⟨a,b (by omega)⟩
    obtain ⟨out,g1,g2⟩:=key h.toNat (now.set pre.length 0) t 0 (by omega) (by omega) hset.1 hset.2 ht;have g3:=g2.big (by simp only [big]; omega);rw [Int.toNat_natCast] at g3 ⊢;rw [g3,Zs,srS];revert g1;cases lpS (okP p ls h l) (srS (okP p ls h l) h k) pre h h.toNat t with
    | found o t'=>intro e; rw [show out=_ from e]; exact .some rfl
    | over=>intro e; rw [show out=_ from e]; exact .some rfl
    | no t'=>
      rintro ⟨now',e,q'⟩
      rw [e,zaG];have hpn':pre.length<now'.length:=by rw [q'.len]; omega
      rw [zn 0 hpn',Zs];refine .some ⟨now'.set pre.length 0,rfl, ?_⟩;have hx:now'[pre.length]?=some now'[pre.length]:=List.getElem?_eq_getElem hpn';exact (zky (zh8 q' hx) (y:=0) (by omega)).1
end
end Go.Ai.Sx
/- Service: the search for offsets,in the reference. -/
namespace Go.Ai.Sx
open Option renaming bind->Zb,bind_some->Zs
def z7 (n:Nat):List Int:=List.replicate n 0
theorem zqN (n i:Nat):(z7 n).getD i 0=0:=by
 unfold z7;simp only [List.getD,List.getElem?_replicate];split<;>rfl
theorem ztc (p:Plan) (l:Line) (home:Bool) (h o:Int):zn4 p l home h o=zn4 p l home h 0+o:=by
 unfold zn4;cases home
 . simp only [cond_false]; omega
 . simp only [cond_true]; omega
theorem zjy (p:Plan) (ls:List Line) (h:Int) (os:List Int) (n:Nat) (c:Connection):zcG p ls h os c=zcG p ls h (z7 n) c+os.getD c.2.2.2.1.toNat 0-os.getD c.1.toNat 0:=by
 unfold zcG zo6 zo5;rw [zqN,zqN,ztc p _ c.2.2.2.2.1 h (os.getD _ _),ztc p _ c.2.1 h (os.getD _ _)];omega
def RR (N:Nat) (h:Int) (pre:List Int):zo8->((Int×Bool)×List Int)->Prop
 | .found o t,r=>r=((t,true),o)
 | .no t,r=>∃ now,r=((t,false),now)/\zgj N h pre now
 | .over,r=>∃ now,r=((100001,false),now)
def LQ (N:Nat) (h:Int) (pre:List Int):zo8->((Int×List Int)⊕(Int×Bool×List Int))->Prop
 | .found o t,r=>r=.inr (t,true,o)
 | .no t,r=>∃ now,r=.inl (t,now)/\zgj N h pre now
 | .over,r=>∃ now,r=.inr (100001,false,now)
section
variable {p:Plan} {ls:List Line} (hn:1<=ls.length/\ls.length<=20) (hK:∀ i,i<ls.length->zsZ p (ls.getD i L0)) {h:Int} (hh:30<=h/\h<=7200) {l:List Connection} (hc:l.all (cnB ls)=true) (hll:l.length<=1000000)
include hn hK hh hc hll
theorem ztd {pre o:List Int} {x:Int} (q:zgj ls.length h (pre++[x]) o):zbe h l (l.map (zcG p ls h (z7 ls.length))) o (pre.length:Int)=some (okP p ls h l (pre++[x])):=by
  have hpl:pre.length+1<=o.length:=by
    have:=congrArg List.length q.tk;rw [List.length_take,List.length_append,List.length_singleton] at this;omega
  have hlen:=q.len;unfold zbe;have hpx:((pre++[x]).length:Int)=(pre.length:Int)+1:=by rw [List.length_append,List.length_singleton]; omega
  have key:=zbn (f:=λs21:Int=>
cond (decide (s21<(zm l))) (Zb (idx l s21) λx24=>
cond ((max x24.1 x24.2.2.2.1)==(pre.length:Int)) (Zb (idx (l.map (zcG p ls h (z7 ls.length))) s21) λx37=>
Zb (idx o x24.2.2.2.1) λx38=>
Zb (idx o x24.1) λx39=>
Zb (zes (w64 ((w64 ((w64 (x37+x38))-x39))-x24.2.2.2.2.2.2.1)) h) λy40=>
cond (decide ((w64 (x24.2.2.2.2.2.2.1+y40))>x24.2.2.2.2.2.2.2.1)) (some (.inr (.inr false))) (some (.inl (w64 (s21+1))))) (some (.inl (w64 (s21+1))))) (some (.inr (.inl ():Unit⊕Bool)))) (λk=>(k:Int)) l.length (λi=>!(zed (l.getD i C0)==(pre.length:Int))||!decide (zcU p ls h (pre++[x]) (l.getD i C0)>(l.getD i C0).2.2.2.2.2.2.2.1)) (.inr false) (.inl ()) (s0:=0) rfl (by simp only [big]; omega) (λi hi=>by
      have hcc:cnB ls (l.getD i C0)=true:=by
        rw [show l.getD i C0=l[i] by simp [List.getD,hi]];exact List.all_eq_true.1 hc _ (List.getElem_mem hi)
      simp only [zF hi,cond_true,zn C0 hi,Zs,zy (show i<9223372036854775807 by omega)];show cond (zed (l.getD i C0)==(pre.length:Int)) _ _=_;cases he:(zed (l.getD i C0)==(pre.length:Int)) with
      | false=>rfl
      | true=>
        have he:=eq_of_beq he;have C:=zkP hcc;have c1:=C.f;have c2:=C.t;have c3:=C.l;have c4:=C.m;unfold zed at he;have hob:∀ i,i<ls.length->0<=o.getD i 0/\o.getD i 0<=100000:=λi hi=>by
          have hb:=q.b (o.getD i 0) (by rw [show o.getD i 0=o[i] by simp [List.getD,show i<o.length by omega]]; exact List.getElem_mem _);omega
        have hd1:=zkw hn hK hh hlen hob hcc;have hd0:=zkw (os:=z7 ls.length) hn hK hh (by simp [z7]) (λi hi=>by rw [zqN]; omega) hcc;have hw:=zkx hn hK hh hlen hob hcc;have hlin:=zjy p ls h o ls.length (l.getD i C0);have a1:idx (l.map (zcG p ls h (z7 ls.length))) (i:Int)=some (zcG p ls h (z7 ls.length) (l.getD i C0)):=by
          rw [zdd,List.getElem?_map,List.getElem?_eq_getElem hi,show l.getD i C0=l[i] by simp [List.getD,hi]];rfl
        have a2:idx o (l.getD i C0).2.2.2.1=some (o.getD (l.getD i C0).2.2.2.1.toNat 0):=zbg (by omega) (by omega);have a3:idx o (l.getD i C0).1=some (o.getD (l.getD i C0).1.toNat 0):=zbg (by omega) (by omega);have b2:=hob (l.getD i C0).2.2.2.1.toNat (by omega);have b3:=hob (l.getD i C0).1.toNat (by omega);rw [cond_true,a1,Zs,a2,Zs,a3,Zs,zh (n:=zcG p ls h (z7 ls.length) (l.getD i C0)+_) (by omega) (by omega),zh (n:=zcG p ls h (z7 ls.length) (l.getD i C0)+_-_) (by omega) (by omega),← hlin,zh (n:=zcG p ls h o (l.getD i C0)-_) (by omega) (by omega),zs7 (by omega) (by omega),Zs];rw [show (l.getD i C0).2.2.2.2.2.2.1+(zcG p ls h o (l.getD i C0)-(l.getD i C0).2.2.2.2.2.2.1)%h=zcU p ls h o (l.getD i C0) from rfl,zh (by omega) (by omega),zjx q.tk (by omega) (by omega)];cases decide (zcU p ls h (pre++[x]) (l.getD i C0)>(l.getD i C0).2.2.2.2.2.2.2.1)<;>rfl) (by simp only [zG,cond_false])
  rw [key,Zs];have e:=ztb l (λc=>!(zed c==(pre.length:Int))||!decide (zcU p ls h (pre++[x]) c>c.2.2.2.2.2.2.2.1)) C0;rw [e];have e2:okP p ls h l (pre++[x])=l.all (λc=>!(zed c==(pre.length:Int))||!decide (zcU p ls h (pre++[x]) c>c.2.2.2.2.2.2.2.1)):=by
    unfold okP;rw [hpx,show (pre.length:Int)+1-1=(pre.length:Int) by omega]
  rw [e2];cases (l.all (λc=>!(zed c==(pre.length:Int))||!decide (zcU p ls h (pre++[x]) c>c.2.2.2.2.2.2.2.1)))<;>rfl
theorem zvr:∀ (k:Nat) (pre o:List Int) (t:Int) (fuel:Nat),pre.length+k=ls.length->1<=pre.length->zgj ls.length h pre o->0<=t/\t<=100000->k<fuel ->
    Tot (RR ls.length h pre (srS (okP p ls h l) h k pre t)) (zaH fuel h l (l.map (zcG p ls h (z7 ls.length))) o (pre.length:Int) t):=by
  intro k;induction k with
  | zero=>
    intro pre now t fuel hk hp q ht hf;obtain ⟨fuel,rfl⟩:∃ f,fuel=f+1:=⟨fuel-1,by omega⟩;rw [zaH];unfold zbw;rw [show ((pre.length:Int)==zm now)=true from by rw [zp,q.len]; exact beq_iff_eq.2 (by omega),cond_true];refine .some ?_;have e:now=pre:=by
      have h1:=q.tk;rw [List.take_of_length_le (by rw [q.len]; omega)] at h1;exact h1
    rw [e]; rfl
  | succ k ih=>
    intro pre now t fuel hk hp q ht hf;obtain ⟨fuel,rfl⟩:∃ f,fuel=f+1:=⟨fuel-1,by omega⟩;rw [zaH];unfold zbw;rw [show ((pre.length:Int)==zm now)=false from by rw [zp,q.len]; exact beq_eq_false_iff_ne.2 (by omega),cond_false];rw [show ((pre.length:Int)==0)=false from beq_eq_false_iff_ne.2 (by omega),cond_false];have hpn:pre.length<now.length:=by rw [q.len]; omega
    have hp0:decide ((pre.length:Int)>0)=true:=decide_eq_true (by omega);have key:∀ (r:Nat) (now:List Int) (t:Int) (x:Int),x+r=h->0<=x->zgj ls.length h pre now->0<=t/\t<=100000->∃ out,LQ ls.length h pre (lpS (okP p ls h l) (srS (okP p ls h l) h k) pre h r t) out/\Lp (λs119:Int×Int×List Int=>
cond (decide (s119.2.1<=(w64 (h-1)))) (cond (decide ((pre.length:Int)>0)) (cond (decide ((w64 (s119.1+1))>100000)) (some (.inr (.inr ((w64 (s119.1+1)),false,s119.2.2)))) (Zb (idx s119.2.2 (pre.length:Int)) λx124=>
Zb (zbe h l (l.map (zcG p ls h (z7 ls.length))) ((s119.2.2).set (Int.toNat (pre.length:Int)) s119.2.1) (pre.length:Int)) λy125=>
cond (!y125) (some (.inl ((w64 (s119.1+1)),(w64 (s119.2.1+1)),(s119.2.2).set (Int.toNat (pre.length:Int)) s119.2.1))) (Zb (zaH fuel h l (l.map (zcG p ls h (z7 ls.length))) ((s119.2.2).set (Int.toNat (pre.length:Int)) s119.2.1) (w64 ((pre.length:Int)+1)) (w64 (s119.1+1))) λy127=>
cond (y127.1.2) (some (.inr (.inr (y127.1.1,y127.1.2,y127.2)))) (cond (decide (y127.1.1>100000)) (some (.inr (.inr (y127.1.1,y127.1.2,y127.2)))) (some (.inl (y127.1.1,(w64 (s119.2.1+1)),y127.2))))))) (cond (decide (s119.1>100000)) (some (.inr (.inr (s119.1,false,s119.2.2)))) (Zb (idx s119.2.2 (pre.length:Int)) λx134=>
Zb (zbe h l (l.map (zcG p ls h (z7 ls.length))) ((s119.2.2).set (Int.toNat (pre.length:Int)) s119.2.1) (pre.length:Int)) λy135=>
cond (!y135) (some (.inl (s119.1,(w64 (s119.2.1+1)),(s119.2.2).set (Int.toNat (pre.length:Int)) s119.2.1))) (Zb (zaH fuel h l (l.map (zcG p ls h (z7 ls.length))) ((s119.2.2).set (Int.toNat (pre.length:Int)) s119.2.1) (w64 ((pre.length:Int)+1)) s119.1) λy137=>
cond (y137.1.2) (some (.inr (.inr (y137.1.1,y137.1.2,y137.2)))) (cond (decide (y137.1.1>100000)) (some (.inr (.inr (y137.1.1,y137.1.2,y137.2)))) (some (.inl (y137.1.1,(w64 (s119.2.1+1)),y137.2)))))))) (some (.inr (.inl (s119.1,s119.2.2):(Int×List Int)⊕(Int×Bool×List Int))))) r (t,x,now) out:=by
      intro r;induction r with
      | zero=>
        intro now t x hx hx0 q ht;refine ⟨.inl (t,now),⟨now,rfl,q⟩,Lp.done ?_⟩;simp only [];rw [zh (n:=h-1) (by omega) (by omega),decide_eq_false (show ¬ x<=h-1 by omega),cond_false]
      | succ r ihr=>
        intro now t x hx hx0 q ht;have ex:h-((r+1:Nat):Int)=x:=by omega
        have hw1:w64 (h-1)=h-1:=zh (by omega) (by omega);have hx1:decide (x<=h-1)=true:=decide_eq_true (by omega);have hwx:w64 (x+1)=x+1:=zh (by omega) (by omega);rw [lpS,ex];have hwt:w64 (t+1)=t+1:=zh (by omega) (by omega);by_cases h1:t=100000
        · rw [if_pos h1];refine ⟨.inr (100001,false,now),⟨now,rfl⟩,Lp.done ?_⟩;simp only [hw1,hx1,cond_true,hp0,hwt];subst h1;rfl
        · rw [if_neg h1];have hpn:pre.length<now.length:=by rw [q.len]; omega
          have hx':now[pre.length]?=some now[pre.length]:=List.getElem?_eq_getElem hpn;obtain ⟨qs,qa⟩:=zky (zh8 q hx') (y:=x) (by omega);have q':=zh8 qs (qa (by rw [← q.len]; exact hpn));have hkp:=ztd hn hK hh hc hll q';have hb1:zvZ (srS (okP p ls h l) h k (pre++[x]) (t+1)):=znZ _ _ _ (by omega);have hr:=ih (pre++[x]) (now.set pre.length x) (t+1) fuel (by rw [List.length_append,List.length_singleton]; omega) (by rw [List.length_append,List.length_singleton]; omega) q' (by omega) (by omega);rw [List.length_append,List.length_singleton] at hr;have hwn:w64 ((pre.length:Int)+1)=((pre.length+1:Nat):Int):=by rw [zh (by omega) (by omega)]; omega
          have ht1:decide (t+1>100000)=false:=decide_eq_false (by omega);cases hok:okP p ls h l (pre++[x]) with
          | false=>
            rw [hok] at hkp;obtain ⟨out,g1,g2⟩:=ihr (now.set pre.length x) (t+1) (x+1) (by omega) (by omega) qs (by omega);refine ⟨out,g1,Lp.step ?_ g2⟩;simp only [hw1,hx1,cond_true,hp0,hwt,ht1,cond_false,zn 0 hpn,Zs,Int.toNat_natCast,hkp,Bool.not_false,hwx]
          | true=>
            rw [hok] at hkp;rw [if_pos rfl];revert hr hb1;cases srS (okP p ls h l) h k (pre++[x]) (t+1) with
            | found o t'=>
              rintro hb1 ⟨y,e1,e2⟩
              refine ⟨.inr (t',true,o),rfl,Lp.done ?_⟩;simp only [hw1,hx1,cond_true,hp0,hwt,ht1,cond_false,zn 0 hpn,Zs,Int.toNat_natCast,hkp,Bool.not_true,hwn,e1];rw [show y=_ from e2];rfl
            | over=>
              rintro hb1 ⟨y,e1,now',e2⟩
              refine ⟨.inr (100001,false,now'),⟨now',rfl⟩,Lp.done ?_⟩;simp only [hw1,hx1,cond_true,hp0,hwt,ht1,cond_false,zn 0 hpn,Zs,Int.toNat_natCast,hkp,Bool.not_true,hwn,e1];rw [e2];rfl
            | no t'=>
              rintro hb1 ⟨y,e1,now',e2,q2⟩
              have hx2:now'[pre.length]?=some x:=zv1 q2;have q3:zgj ls.length h pre now':=by
                have a:=(zky q2 (y:=x) (by omega)).1;rwa [show now'.set pre.length x=now' from by
                  have hl2:pre.length<now'.length:=by rw [q2.len]; omega
                  rw [List.getElem?_eq_getElem hl2] at hx2;have:=Option.some.inj hx2;subst this;exact List.set_getElem_self hl2] at a
              obtain ⟨out,g1,g2⟩:=ihr now' t' (x+1) (by omega) (by omega) q3 hb1;refine ⟨out,g1,Lp.step ?_ g2⟩;simp only [hw1,hx1,cond_true,hp0,hwt,ht1,cond_false,zn 0 hpn,Zs,Int.toNat_natCast,hkp,Bool.not_true,hwn,e1];have hb2:0<=t'/\t'<=100000:=hb1;rw [e2];simp only [cond_false];rw [decide_eq_false (show ¬ t'>100000 by omega),cond_false,hwx]
    obtain ⟨out,g1,g2⟩:=key h.toNat now t 0 (by omega) (by omega) q ht;have g3:=g2.big (by simp only [big]; omega);rw [g3,Zs,srS];revert g1;cases lpS (okP p ls h l) (srS (okP p ls h l) h k) pre h h.toNat t with
    | found o t'=>intro e; rw [show out=_ from e]; exact .some rfl
    | over=>rintro ⟨now',e⟩; rw [e]; exact .some ⟨now',rfl⟩
    | no t'=>
      rintro ⟨now',e,q'⟩
      rw [e,zaG];exact .some ⟨now',rfl,q'⟩
def zkQ (p:Plan) (ls:List Line) (h:Int) (l:List Connection):zo8:=if okP p ls h l [0] then srS (okP p ls h l) h (ls.length-1) [0] 0 else .no 0
omit hn hK hc hll in
theorem zv3:zgj ls.length h [] (z7 ls.length):=by
 refine ⟨by simp [z7],rfl,λx hx=>?_⟩;have:=List.eq_of_mem_replicate hx;omega
omit hK hc hll in
theorem zte:zgj ls.length h [0] (z7 ls.length):=by
 refine ⟨by simp [z7], ?_,(zv3 hh).b⟩;unfold z7;obtain ⟨n,hn1⟩:∃ n,ls.length=n+1:=⟨ls.length-1,by omega⟩;rw [hn1,List.replicate_succ];rfl
theorem zx7 {fuel:Nat} (hf:ls.length<fuel):Tot (RR ls.length h [] (zkQ p ls h l)) (zaH fuel h l (l.map (zcG p ls h (z7 ls.length))) (z7 ls.length) 0 0):=by
  obtain ⟨fuel,rfl⟩:∃ f,fuel=f+1:=⟨fuel-1,by omega⟩;have hzl:(z7 ls.length).length=ls.length:=by simp [z7]
  rw [zaH];unfold zbw;rw [show ((0:Int)==zm (z7 ls.length))=false from by rw [zp,hzl]; exact beq_eq_false_iff_ne.2 (by omega),cond_false];rw [show ((0:Int)==0)=true from rfl,cond_true];have q:=zv3 (ls:=ls) hh;have q1:=zte hn hh;have hset:(z7 ls.length).set 0 0=z7 ls.length:=by
    unfold z7;obtain ⟨n,hn1⟩:∃ n,ls.length=n+1:=⟨ls.length-1,by omega⟩;rw [hn1,List.replicate_succ];rfl
  have hkp:=ztd hn hK hh hc hll (pre:=[]) (x:=0) q1;rw [show (([]:List Int).length:Int)=0 from rfl,show ([]:List Int)++[0]=[0] from rfl] at hkp;have h0:idx (z7 ls.length) (0:Int)=some 0:=by
    have:=zn (l:=z7 ls.length) (i:=0) (0:Int) (by omega);rwa [zqN] at this
  have step:∃ out,LQ ls.length h [] (zkQ p ls h l) out/\Lp (λs47:Int×Int×List Int=>
cond (decide (s47.2.1<=0)) (cond (decide ((0:Int)>0)) (cond (decide ((w64 (s47.1+1))>100000)) (some (.inr (.inr ((w64 (s47.1+1)),false,s47.2.2)))) (Zb (idx s47.2.2 0) λx52=>
Zb (zbe h l (l.map (zcG p ls h (z7 ls.length))) ((s47.2.2).set (Int.toNat 0) s47.2.1) 0) λy53=>
cond (!y53) (some (.inl ((w64 (s47.1+1)),(w64 (s47.2.1+1)),(s47.2.2).set (Int.toNat 0) s47.2.1))) (Zb (zaH fuel h l (l.map (zcG p ls h (z7 ls.length))) ((s47.2.2).set (Int.toNat 0) s47.2.1) (w64 (0+1)) (w64 (s47.1+1))) λy55=>
cond (y55.1.2) (some (.inr (.inr (y55.1.1,y55.1.2,y55.2)))) (cond (decide (y55.1.1>100000)) (some (.inr (.inr (y55.1.1,y55.1.2,y55.2)))) (some (.inl (y55.1.1,(w64 (s47.2.1+1)),y55.2))))))) (cond (decide (s47.1>100000)) (some (.inr (.inr (s47.1,false,s47.2.2)))) (Zb (idx s47.2.2 0) λx62=>
Zb (zbe h l (l.map (zcG p ls h (z7 ls.length))) ((s47.2.2).set (Int.toNat 0) s47.2.1) 0) λy63=>
cond (!y63) (some (.inl (s47.1,(w64 (s47.2.1+1)),(s47.2.2).set (Int.toNat 0) s47.2.1))) (Zb (zaH fuel h l (l.map (zcG p ls h (z7 ls.length))) ((s47.2.2).set (Int.toNat 0) s47.2.1) (w64 (0+1)) s47.1) λy65=>
cond (y65.1.2) (some (.inr (.inr (y65.1.1,y65.1.2,y65.2)))) (cond (decide (y65.1.1>100000)) (some (.inr (.inr (y65.1.1,y65.1.2,y65.2)))) (some (.inl (y65.1.1,(w64 (s47.2.1+1)),y65.2)))))))) (some (.inr (.inl (s47.1,s47.2.2):(Int×List Int)⊕(Int×Bool×List Int))))) 1 (0,0,z7 ls.length) out:=by
    have e0:Int.toNat 0=0:=rfl;have d1:decide ((0:Int)<=0)=true:=rfl;have d2:decide ((0:Int)>0)=false:=rfl;have d3:decide ((0:Int)>100000)=false:=rfl;have d4:w64 (0+1)=1:=by decide
    have d5:decide ((1:Int)<=0)=false:=rfl;unfold zkQ;cases hok:okP p ls h l [0] with
    | false=>
      rw [hok] at hkp;refine ⟨.inl (0,z7 ls.length),⟨z7 ls.length,rfl,q⟩,Lp.step (s':=(0,1,z7 ls.length)) ?_ (Lp.done ?_)⟩
      · simp only [e0,d1,d2,d3,d4,cond_true,cond_false,h0,Zs,hset,hkp,Bool.not_false]
      · simp only [d5,cond_false]
    | true=>
      rw [hok] at hkp;rw [if_pos rfl];have hb1:zvZ (srS (okP p ls h l) h (ls.length-1) [0] 0):=znZ _ _ _ (by omega);have hr:=zvr hn hK hh hc hll (ls.length-1) [0] (z7 ls.length) 0 fuel (by rw [List.length_singleton]; omega) (by rw [List.length_singleton]; omega) q1 (by omega) (by omega);rw [show (([0]:List Int).length:Int)=1 from rfl] at hr;revert hr hb1;cases srS (okP p ls h l) h (ls.length-1) [0] 0 with
      | found o t'=>
        rintro hb1 ⟨y,e1,e2⟩
        refine ⟨.inr (t',true,o),rfl,Lp.done ?_⟩;simp only [e0,d1,d2,d3,d4,cond_true,cond_false,h0,Zs,hset,hkp,Bool.not_true,e1];rw [show y=_ from e2];rfl
      | over=>
        rintro hb1 ⟨y,e1,now',e2⟩
        refine ⟨.inr (100001,false,now'),⟨now',rfl⟩,Lp.done ?_⟩;simp only [e0,d1,d2,d3,d4,cond_true,cond_false,h0,Zs,hset,hkp,Bool.not_true,e1];rw [e2];rfl
      | no t'=>
        rintro hb1 ⟨y,e1,now',e2,q2⟩
        have hb2:0<=t'/\t'<=100000:=hb1;refine ⟨.inl (t',now'),⟨now',rfl,⟨q2.len,rfl,q2.b⟩⟩,Lp.step (s':=(t',1,now')) ?_ (Lp.done ?_)⟩
        · simp only [e0,d1,d2,d3,d4,cond_true,cond_false,h0,Zs,hset,hkp,Bool.not_true,e1];rw [e2];simp only [cond_false];rw [decide_eq_false (show ¬ t'>100000 by omega),cond_false]
        · simp only [d5,cond_false]
  obtain ⟨out,g1,g2⟩:=step;have g3:=g2.big (by simp only [big]; omega);rw [g3,Zs];revert g1;cases zkQ p ls h l with
  | found o t'=>intro e; rw [show out=_ from e]; exact .some rfl
  | over=>rintro ⟨now',e⟩; rw [e]; exact .some ⟨now',rfl⟩
  | no t'=>
    rintro ⟨now',e,q'⟩
    rw [e,zaG];exact .some ⟨now',rfl,q'⟩
end
end Go.Ai.Sx