/- Service: a course and its running times. -/
import Derived.Test.YtppebpagcocogaaGreatQ14
import Derived.KernelRfl
set_option linter.unusedSimpArgs false
set_option linter.unusedVariables false
set_option linter.unusedSectionVars false
namespace Go.Ai.Sx
theorem zjN (n a b:Int):zae n a b=some (inB n a b):=zew n a b
theorem zAr (n a b:Int):zcw n a b=some (inB n a b):=zew n a b
theorem zsi {A:Type} {n:Nat} {f:Nat->A} {i:Nat} {v:A}:(rlN n f).set i v=rlN n fun x=>if x=i then v else f x:=by
 apply List.ext_getElem?;intro j;unfold rlN;rw [List.getElem?_set];by_cases h:i=j
 ·subst h;by_cases h2:i<n
  ·simp [h2]
  ·simp [h2]
 ·by_cases h2:j<n
  ·simp [h,h2,Ne.symm h]
  ·simp [h,h2]
theorem zfn {A:Type} {n:Nat} {f g:Nat->A} (h:∀ i,i<n->f i=g i):rlN n f=rlN n g:=List.map_congr_left fun i hi=>h i (List.mem_range.1 hi)
theorem zfC {A:Type} {n:Nat} {f:Nat->A} {i:Nat} (h:i<n):idx (rlN n f) (i:Int)=some (f i):=by
 rw [ze3]; unfold rlN; simp [h]
theorem zoK {A:Type} (n:Nat) (x:A):List.replicate n x=rlN n fun _=>x:=by
 apply List.ext_getElem?;intro j;unfold rlN;rw [List.getElem?_replicate];by_cases h:j<n<;>simp [h]
def dwl (c:Course) (i:Nat):Int:=c.2.2.1.getD i 0
def stB (p:Plan) (c:Course) (i:Nat):Bool:=inB (zc3 c.2.1 i) 1 (wlS p c.1)&&(decide (i=0)||!decide (zc3 c.2.1 i≤zc3 c.2.1 (i-1)))&&inB (dwl c i) 0 600
def zmW (c:Course):Bool:=inB (zz c.2.1) 2 60&&(decide (c.2.2.1.length=c.2.1.length)&&((dwl c 0==0)&&(dwl c (c.2.1.length-1)==0)))
def zuY (p:Plan) (c:Course):Bool:=zjR p c.1&&(zmW c&&(List.range c.2.1.length).all (stB p c))
theorem zsj (c:Course) (e:Int) (he:2≤c.2.1.length->c.2.1.length≤60->c.2.2.1.length=c.2.1.length->e=((c.2.1.length-1:Nat):Int)):(cond (!(inB (zz c.2.1) 2 60)) (some true) (cond (zz c.2.2.1 !=zz c.2.1) (some true) (Option.bind (idx c.2.2.1 0) fun x14 =>
cond ((x14 !=0)) (some true) (Option.bind (idx c.2.2.1 e) fun x16 =>
some ((x16 !=0))))))=some (!zmW c):=by
 unfold zmW;cases h1:inB (zz c.2.1) 2 60 with
 | false=>rfl
 | true =>
 have h1:=zaH.1 h1;rw [zE] at h1;by_cases h2:c.2.2.1.length=c.2.1.length
 ·have e1:(zz c.2.2.1 !=zz c.2.1)=false:=by rw [zE,zE,h2]; exact bne_self_eq_false _
  rw [e1,decide_eq_true h2,he (by omega) (by omega) h2];have hp:0<c.2.2.1.length:=by omega
  have i0:idx c.2.2.1 0=some (dwl c 0):=zI (l:=c.2.2.1) (i:=0) 0 hp;rw [i0,zI (l:=c.2.2.1) (i:=c.2.1.length-1) 0 (by omega)];show cond (dwl c 0 !=0) (some true) (some (dwl c (c.2.1.length-1)!=0))=_;unfold bne;cases (dwl c 0==0)<;>rfl
 ·have e1:(zz c.2.2.1 !=zz c.2.1)=true:=by
   rw [zE,zE];simp only [bne_iff_ne,ne_eq];omega
  rw [e1,decide_eq_false h2];rfl
theorem ziF {c:Course} (h:zmW c=true):(2≤c.2.1.length∧c.2.1.length≤60)∧c.2.2.1.length=c.2.1.length∧dwl c 0=0∧dwl c (c.2.1.length-1)=0:=by
 unfold zmW at h;simp only [Bool.and_eq_true,decide_eq_true_eq,beq_iff_eq] at h;obtain ⟨h1,h2,h3,h4⟩:=h;have h1:=zaH.1 h1;rw [zE] at h1;exact ⟨by omega,h2,h3,h4⟩
structure zun (p:Plan) (c:Course):Prop where
 w:zjR p c.1=true
 n:2≤c.2.1.length∧c.2.1.length≤60
 d:c.2.2.1.length=c.2.1.length
 d0:dwl c 0=0
 dn:dwl c (c.2.1.length-1)=0
 st:∀ i,i<c.2.1.length->1≤zc3 c.2.1 i∧zc3 c.2.1 i≤wlS p c.1
 dw:∀ i,i<c.2.1.length->0≤dwl c i∧dwl c i≤600
theorem zzp {p:Plan} {c:Course} (h:zuY p c=true):zun p c:=by
 unfold zuY at h;simp only [Bool.and_eq_true] at h;obtain ⟨h1,h2,h3⟩:=h;obtain ⟨a,b,c1,d⟩:=ziF h2;have hs:∀ i,i<c.2.1.length->stB p c i=true:=fun i hi=>List.all_eq_true.1 h3 i (List.mem_range.2 hi);refine ⟨h1,a,b,c1,d,fun i hi=>?_,fun i hi=>?_⟩
 ·have:=hs i hi;unfold stB at this;simp only [Bool.and_eq_true] at this;exact zaH.1 this.1.1
 ·have:=hs i hi;unfold stB at this;simp only [Bool.and_eq_true] at this;exact zaH.1 this.2
def zho (ms:Int):Int:=max 1 ((ms+999)/1000)
theorem zmX {ms:Int} (h:0≤ms∧ms≤3600000):1≤zho ms∧zho ms≤3600:=by unfold zho; omega
def zoL (p:Plan) (l:Line) (c:Course):Option (List Int) :=
 if zeh p c.1 l.2.2.1 l.2.2.2.1 c.2.1 then (zgq p c.1 l.2.2.1 l.2.2.2.1 c.2.1).map (fun gs=>gs.map (·.1)) else none
theorem zuZ {p:Plan} {l:Line} {c:Course} {ms:List Int} (h:zoL p l c=some ms) (hb:wlS p c.1≤248000000):ms.length=c.2.1.length-1∧∀ m∈ms,0≤m∧m≤3600000:=by
 unfold zoL at h;split at h
 ·rename_i hs;cases hl:zgq p c.1 l.2.2.1 l.2.2.2.1 c.2.1 with
  | none=>rw [hl] at h; cases h
  | some gs =>
   rw [hl] at h;cases h;refine ⟨by rw [List.length_map]; exact zlG (zhY hs hb) hl,fun m hm=>?_⟩;obtain ⟨g,hg,rfl⟩:=List.mem_map.1 hm;exact zxn hl g hg
 ·cases h
theorem zBM (p:Plan) (l:Line) (c:Course) (hw:c.1.length≤9223372036854775807) (hn:c.2.1.length≤60) (hb:wlS p c.1≤248000000):∃ e:Int,zbv p c.1 l.2.2.1 l.2.2.2.1 c.2.1=some (match zoL p l c with | some ms=>(ms,0) | none=>([],e))∧(zoL p l c=none->e≠0):=by
 unfold zoL;cases hs:zeh p c.1 l.2.2.1 l.2.2.2.1 c.2.1 with
 | false=>exact ⟨2,zzo hw (by omega) hs,fun _=>by omega⟩
 | true =>
  refine ⟨4, ?_,fun _=>by omega⟩;rw [zxm hs hb];cases zgq p c.1 l.2.2.1 l.2.2.2.1 c.2.1<;>rfl
theorem zAs (p:Plan) (l:Line) (c:Course) (hw:c.1.length≤9223372036854775807) (hn:c.2.1.length≤60) (hb:wlS p c.1≤248000000):zeH p c.1 l.2.2.1 l.2.2.2.1 c.2.1=some (match zoL p l c with | some ms=>(ms,true) | none=>([],false)):=by
  unfold zeH zoL;rw [zsb p c.1 l.2.2.1 l.2.2.2.1 c.2.1 hw (by omega)];cases hs:zeh p c.1 l.2.2.1 l.2.2.2.1 c.2.1 with
  | false=>rfl
  | true =>
    have R:=zhY hs hb;simp only [Option.bind_some,Bool.not_true,cond_false,if_true];rw [zpM R];cases hl:zgq p c.1 l.2.2.1 l.2.2.2.1 c.2.1 with
    | none=>rfl
    | some gs =>
      have hlen:=zlG R hl;have hL:=zcj (f:=fun s7:List Int×Int =>
cond ((decide (s7.2<(zz gs)))) (Option.bind (idx gs s7.2) fun x10 =>
Option.bind (zdJ 8 s7.1 ([x10.1])) fun x13 =>
some (.inl ((x13,(w64 (s7.2+1)))))) (some (.inr s7.1))) gs (fun i b=>(b,(i:Int))) (fun _ b c=>(.inl (b++[c.1]):List Int⊕List Int)) (fun b=>b) (fun i b=>b.length=i) [] (s0:=([],0)) rfl (by omega) rfl (fun i h b hb=>by
        refine ⟨?_,fun b' hb'=>?_⟩
        · simp only [];rw [zY h,cond_true,ze3,List.getElem?_eq_getElem h,Option.bind_some,zbl (by simp; omega),Option.bind_some,zN (by omega)]
        · cases hb'; simp; omega) (fun b _=>by simp only [z7,cond_false])
      simp only [Option.bind_some];rw [hL,zex,Option.bind_some];have:∀ (l:List Leg) (b:List Int),l.foldl (fun b c=>b++[c.1]) b=b++l.map (·.1):=by
        intro l;induction l with
        | nil=>intro b; simp
        | cons a l ih=>intro b; rw [List.foldl_cons,ih]; simp
      rw [this]; rfl
end Go.Ai.Sx

/- Service: the run of a course. -/
namespace Go.Ai.Sx
def zsB (ms:List Int) (k:Nat):Int:=if k=0 then 0 else zho (ms.getD (k-1) 0)
def ze7 (ms:List Int) (c:Course):Nat->Int
 | 0=>0
 | k+1=>ze7 ms c k+zho (ms.getD k 0)+dwl c (k+1)
def zin (ms:List Int) (c:Course):List Int:=rlN c.2.1.length (ze7 ms c)
def zxp (ms:List Int) (c:Course):List Int:=rlN c.2.1.length (zsB ms)
def zhp (p:Plan) (l:Line) (c:Course):Option (List Int):=if zuY p c then zoL p l c else none
structure zAt (c:Course) (ms:List Int):Prop where
 n:ms.length=c.2.1.length-1
 b:∀ k,0≤ms.getD k 0∧ms.getD k 0≤3600000
theorem znQ {p:Plan} {l:Line} {c:Course} {ms:List Int} (h:zhp p l c=some ms) (hb:zjR p c.1=true->wlS p c.1≤248000000):zun p c∧zAt c ms:=by
 unfold zhp at h;split at h
 ·rename_i hc;have C:=zzp hc;obtain ⟨h1,h2⟩:=zuZ h (hb C.w);refine ⟨C,h1,fun k=>?_⟩;by_cases hk:k<ms.length
  ·rw [show ms.getD k 0=ms[k] by simp [List.getD,hk]];exact h2 _ (List.getElem_mem hk)
  ·rw [show ms.getD k 0=0 by simp [List.getD,hk]]; omega
 ·cases h
section
variable {p:Plan} {l:Line} {c:Course} {ms:List Int} (C:zun p c) (M:zAt c ms)
include C M
theorem zoM:∀ {k:Nat},k<c.2.1.length->0≤ze7 ms c k∧ze7 ms c k≤4200*k
 | 0,_=>by simp [ze7]
 | k+1,hk=>by
  have h1:=zoM (k:=k) (by omega);have h2:=zmX (M.b k);have h3:=C.dw (k+1) hk;simp only [ze7];omega
theorem zzq {i j:Nat} (h:i<j) (hj:j<c.2.1.length):ze7 ms c i+1≤ze7 ms c j:=by
 induction j with
 | zero=>omega
 | succ j ih =>
  have h2:=zmX (M.b j);have h3:=C.dw (j+1) hj;simp only [ze7];by_cases e:i=j
  ·subst e; omega
  ·have:=ih (by omega) (by omega); omega
theorem zuo:∀ (k i:Nat),i+k=c.2.1.length-1->Lp (fun s106:Int×List Int×List Int =>
cond ((decide (s106.1<(zz ms)))) (Option.bind (idx ms s106.1) fun x109 =>
Option.bind (zcV .i64 ((w64 (x109+999))) 1000) fun x110 =>
Option.bind (idx s106.2.2 ((w64 (s106.1+1)))) fun x111 =>
Option.bind (idx s106.2.1 s106.1) fun x116 =>
Option.bind (idx ((s106.2.2).set (Int.toNat ((w64 (s106.1+1)))) ((max 1 x110))) ((w64 (s106.1+1)))) fun x117 =>
Option.bind (idx c.2.2.1 ((w64 (s106.1+1)))) fun x118 =>
Option.bind (idx s106.2.1 ((w64 (s106.1+1)))) fun x119 =>
some (.inl (((w64 (s106.1+1)),(s106.2.1).set (Int.toNat ((w64 (s106.1+1)))) ((w64 ((w64 (x116+x117))+x118))),(s106.2.2).set (Int.toNat ((w64 (s106.1+1)))) ((max 1 x110)))))) (some (.inr (((s106.2.1,s106.2.2)))))) k ((i:Int),rlN c.2.1.length (fun k=>if k≤i then ze7 ms c k else 0),rlN c.2.1.length (fun k=>if k≤i then zsB ms k else 0)) (zin ms c,zxp ms c):=by
 intro k;have hn:=C.n;have hd:=C.d;have hm:=M.n;induction k with
 | zero =>
  intro i hi;refine Lp.done ?_;simp only [];rw [show (i:Int)=(ms.length:Nat) by omega,z7,cond_false];have e1:rlN c.2.1.length (fun k=>if k≤i then ze7 ms c k else 0)=zin ms c:=zfn fun k hk=>by rw [if_pos (by omega)]
  have e2:rlN c.2.1.length (fun k=>if k≤i then zsB ms k else 0)=zxp ms c:=zfn fun k hk=>by rw [if_pos (by omega)]
  rw [e1,e2]
 | succ k ih =>
  intro i hi;have hil:i<ms.length:=by omega
  refine Lp.step ?_ (ih (i+1) (by omega));have a1:idx ms (i:Int)=some (ms.getD i 0):=zI 0 hil;have hb:=M.b i;have hs:=zmX hb;have a2:zcV .i64 (w64 (ms.getD i 0+999)) 1000=some ((ms.getD i 0+999)/1000):=by
   rw [zm (by omega) (by omega),zb8 ⟨by omega,by omega⟩ (by omega)]
  have a3:idx (rlN c.2.1.length (fun k=>if k≤i then zsB ms k else 0)) ((i+1:Nat):Int)=some 0:=by
   rw [zfC (by omega),if_neg (by omega)]
  have a4:idx (rlN c.2.1.length (fun k=>if k≤i then ze7 ms c k else 0)) ((i:Nat):Int)=some (ze7 ms c i):=by
   rw [zfC (by omega),if_pos (by omega)]
  have a5:idx (rlN c.2.1.length (fun k=>if k≤i then ze7 ms c k else 0)) ((i+1:Nat):Int)=some 0:=by
   rw [zfC (by omega),if_neg (by omega)]
  have a6:idx c.2.2.1 ((i+1:Nat):Int)=some (dwl c (i+1)):=zI 0 (by omega);have hsec:max 1 ((ms.getD i 0+999)/1000)=zho (ms.getD i 0):=rfl;have b1:(rlN c.2.1.length (fun k=>if k≤i then zsB ms k else 0)).set (i+1) (zho (ms.getD i 0))=rlN c.2.1.length (fun k=>if k≤i+1 then zsB ms k else 0):=by
   rw [zsi];refine zfn fun k hk=>?_;by_cases e:k=i+1
   ·subst e;rw [if_pos rfl,if_pos (by omega)];unfold zsB;rw [if_neg (by omega)]; rfl
   ·rw [if_neg e];by_cases e2:k≤i
    ·rw [if_pos e2,if_pos (by omega)]
    ·rw [if_neg e2,if_neg (by omega)]
  have hob:=zoM C M (k:=i) (by omega);have hdb:=C.dw (i+1) (by omega);have b2:(rlN c.2.1.length (fun k=>if k≤i then ze7 ms c k else 0)).set (i+1) (w64 (w64 (ze7 ms c i+zho (ms.getD i 0))+dwl c (i+1)))=rlN c.2.1.length (fun k=>if k≤i+1 then ze7 ms c k else 0):=by
   rw [zsi,zm (n:=ze7 ms c i+_) (by omega) (by omega),zm (by omega) (by omega)];refine zfn fun k hk=>?_;by_cases e:k=i+1
   ·subst e;rw [if_pos rfl,if_pos (by omega)]; rfl
   ·rw [if_neg e];by_cases e2:k≤i
    ·rw [if_pos e2,if_pos (by omega)]
    ·rw [if_neg e2,if_neg (by omega)]
  have a7:idx (rlN c.2.1.length (fun k=>if k≤i+1 then zsB ms k else 0)) ((i+1:Nat):Int)=some (zho (ms.getD i 0)):=by
   rw [zfC (by omega),if_pos (by omega)];unfold zsB;rw [if_neg (by omega)]; rfl
  simp only [zY hil,cond_true,a1,Option.bind_some,a2,zN (show i<9223372036854775807 by omega),a3,a4,hsec,Int.toNat_natCast,b1,a7,a6,a5,b2]
end
theorem zsk {p:Plan} {l:Line} {c:Course} (hv:zaG p=true) (hp:zic p) (hwl:c.1.length≤9223372036854775807) (hsl:c.2.1.length≤9223372036854775807) (hb:zjR p c.1=true->wlS p c.1≤248000000):za5 p l c=some (match zhp p l c with | some ms=>(zxp ms c,zin ms c,decide (ze7 ms c (c.2.1.length-1)≤50000)) | none=>([],[],false)):=by
  unfold za5;rw [zie p hwl,hv,Bool.true_and,Option.bind_some];unfold zhp zuY;cases hw:zjR p c.1 with
  | false=>rfl
  | true =>
  have hb:=hb hw;simp only [if_true,show ((0:Int)!=0)=false from rfl,cond_false,zjN,Option.bind_some];rw [zsj c _ (fun h1 h2 _=>by rw [zE,zm (by omega) (by omega)]; omega),Option.bind_some];cases hh:zmW c with
  | false=>rfl
  | true =>
  obtain ⟨hn,hd,hd0,hdn⟩:=ziF hh;simp only [Bool.not_true,cond_false,Bool.true_and];have h:=zef (f:=fun s42:Int =>
cond ((decide (s42<(zz c.2.1)))) (Option.bind (idx c.2.1 s42) fun x45 =>
cond ((!(inB x45 1 (wlS p c.1)))) (some (.inr ((.inr (([],[],false)))))) (cond ((decide (s42>0))) (Option.bind (idx c.2.1 ((w64 (s42-1)))) fun x59 =>
cond ((decide (x45≤x59))) (some (.inr ((.inr (([],[],false)))))) (Option.bind (idx c.2.2.1 s42) fun x62 =>
cond ((!(inB x62 0 600))) (some (.inr ((.inr (([],[],false)))))) (some (.inl ((w64 (s42+1))))))) (Option.bind (idx c.2.2.1 s42) fun x65 =>
cond ((!(inB x65 0 600))) (some (.inr ((.inr (([],[],false)))))) (some (.inl ((w64 (s42+1)))))))) (some (.inr ((.inl (()):Unit⊕(List Int×List Int×Bool)))))) (fun k=>(k:Int)) c.2.1.length (stB p c) (.inr ([],[],false)) (.inl ()) (s0:=0) rfl (by simp only [big]; omega) (fun i hi=>by
      have a1:idx c.2.1 (i:Int)=some (zc3 c.2.1 i):=zI 0 hi;have a2:idx c.2.2.1 (i:Int)=some (dwl c i):=zI 0 (by omega);unfold stB;by_cases h0:i=0
      · subst h0;simp only [zY hi,cond_true,a1,a2,Option.bind_some,decide_eq_false (show ¬ (((0:Nat):Int)>0) by omega),cond_false,decide_eq_true (show (0:Nat)=0 from rfl),Bool.true_or,Bool.and_true,zN (show 0<9223372036854775807 by omega)];cases inB (zc3 c.2.1 0) 1 (wlS p c.1)<;>cases inB (dwl c 0) 0 600<;>rfl
      · have a3:idx c.2.1 (w64 ((i:Int)-1))=some (zc3 c.2.1 (i-1)):=by
          rw [zm (by omega) (by omega),show (i:Int)-1=((i-1:Nat):Int) by omega];exact zI 0 (by omega)
        simp only [zY hi,cond_true,a1,a2,a3,Option.bind_some,decide_eq_true (show (i:Int)>0 by omega),decide_eq_false h0,Bool.false_or,zN (show i<9223372036854775807 by omega)];cases inB (zc3 c.2.1 i) 1 (wlS p c.1)<;>cases decide (zc3 c.2.1 i≤zc3 c.2.1 (i-1))<;>cases inB (dwl c i) 0 600<;>rfl) (by simp only [z7,cond_false])
  rw [h,Option.bind_some];cases hs:(List.range c.2.1.length).all (stB p c) with
  | false=>rfl
  | true =>
  simp only [if_true,zbx];obtain ⟨e,hR,he⟩:=zBM p l c hwl (by omega) hb;rw [hR,Option.bind_some];cases hl:zoL p l c with
  | none =>
    have he:=he hl;have:(e !=0)=true:=by simpa using he
    simp only [this,cond_true,Option.bind_some]
  | some ms =>
    have hrs:zhp p l c=some ms:=by
      unfold zhp zuY;rw [hw,hh,hs];exact hl
    obtain ⟨C,M⟩:=znQ hrs (fun _=>hb);have hm:=M.n;have e1:(zz ms !=w64 (zz c.2.1-1))=false:=by
      rw [zE,zE,zm (by omega) (by omega),hm];have:((c.2.1.length-1:Nat):Int)=(c.2.1.length:Int)-1:=by omega
      rw [this]; exact bne_self_eq_false _
    simp only [show ((0:Int)!=0)=false from rfl,cond_false,Option.bind_some,e1];have em:mkO 8 (zz c.2.1) (0:Int)=some (List.replicate c.2.1.length 0):=by
      rw [ztS (by rw [zE]; omega),zE,Int.toNat_natCast]
    simp only [em,Option.bind_some];have hL:=(zuo C M (c.2.1.length-1) 0 (by omega)).big (by simp only [big]; omega);have z1:List.replicate c.2.1.length (0:Int)=rlN c.2.1.length (fun k=>if k≤0 then ze7 ms c k else 0):=by
      rw [zoK];refine zfn fun k hk=>?_;by_cases e:k=0
      · subst e; rfl
      · rw [if_neg (by omega)]
    have z2:List.replicate c.2.1.length (0:Int)=rlN c.2.1.length (fun k=>if k≤0 then zsB ms k else 0):=by
      rw [zoK];refine zfn fun k hk=>?_;by_cases e:k=0
      · subst e; rfl
      · rw [if_neg (by omega)]
    rw [← z1,← z2] at hL;rw [show ((0:Nat):Int)=0 from rfl] at hL;rw [hL,Option.bind_some];have e2:idx (zin ms c) (w64 (zz c.2.1-1))=some (ze7 ms c (c.2.1.length-1)):=by
      rw [zE,zm (by omega) (by omega),show (c.2.1.length:Int)-1=((c.2.1.length-1:Nat):Int) by omega];exact zfC (by omega)
    rw [e2,Option.bind_some]
end Go.Ai.Sx

/- Service: a line; its offsets,its round and its cars,in the program and in the reference. -/
namespace Go.Ai.Sx
def okC (p:Plan) (l:Line) (c:Course):Bool:=match zhp p l c with | some ms=>decide (ze7 ms c (c.2.1.length-1)≤50000) | none=>false
def zdI (p:Plan) (l:Line):Bool:=inB l.2.2.2.2.1 0 3600&&(okC p l l.1&&okC p l l.2.1)
def msC (p:Plan) (l:Line) (c:Course):List Int:=(zhp p l c).getD []
def rnS (p:Plan) (l:Line):zL:=(l,[zxp (msC p l l.1) l.1,zxp (msC p l l.2.1) l.2.1],[zin (msC p l l.1) l.1,zin (msC p l l.2.1) l.2.1],())
structure zpT (p:Plan) (l:Line):Prop where
 w1:l.1.1.length≤9223372036854775807
 s1:l.1.2.1.length≤9223372036854775807
 w2:l.2.1.1.length≤9223372036854775807
 s2:l.2.1.2.1.length≤9223372036854775807
 b1:zaG p=true->zjR p l.1.1=true->wlS p l.1.1≤248000000
 b2:zaG p=true->zjR p l.2.1.1=true->wlS p l.2.1.1≤248000000
def zup (p_0:Plan) (l_1:Line) (y10:List Course):(Int×(List Int)×(List Int)×(List Int)×(List Int))->Option ((Int×(List Int)×(List Int)×(List Int)×(List Int))⊕(((List Int)×(List Int)×(List Int)×(List Int))⊕((Option zL)×Bool×(List Int)×(List Int)×(List Int)×(List Int)))):=(fun s39 =>
cond ((decide (s39.1<2))) (Option.bind (idx y10 s39.1) fun x42 =>
Option.bind (za5 p_0 l_1 x42) fun y49 =>
Option.bind (idx [(),()] s39.1) fun x52 =>
Option.bind (idx [(),()] s39.1) fun x53 =>
cond ((!y49.2.2)) (some (.inr ((.inr (((none:Option zL),false,cond (s39.1==0) y49.1 s39.2.1,cond (s39.1==1) y49.1 s39.2.2.1,cond (s39.1==0) y49.2.1 s39.2.2.2.1,cond (s39.1==1) y49.2.1 s39.2.2.2.2)))))) (some (.inl (((w64 (s39.1+1)),cond (s39.1==0) y49.1 s39.2.1,cond (s39.1==1) y49.1 s39.2.2.1,cond (s39.1==0) y49.2.1 s39.2.2.2.1,cond (s39.1==1) y49.2.1 s39.2.2.2.2))))) (some (.inr ((.inl ((s39.2.1,s39.2.2.1,s39.2.2.2.1,s39.2.2.2.2)))))))
theorem zu0 {p:Plan} {l:Line} {y:List Course} {c:Course} {i:Int} {r0 r1 o0 o1:List Int} (hi:i=0∨i=1) (hy:idx y i=some c) {r o:List Int} (hr:za5 p l c=some (r,o,false)):∃ T,zup p l y (i,r0,r1,o0,o1)=some (.inr (.inr (none,false,T))):=by
 unfold zup;rcases hi with rfl | rfl
 ·simp only [show decide ((0:Int)<2)=true from rfl,cond_true,hy,hr,Option.bind_some];exact ⟨_,rfl⟩
 ·simp only [show decide ((1:Int)<2)=true from rfl,cond_true,hy,hr,Option.bind_some];exact ⟨_,rfl⟩
theorem zuq {p:Plan} {l:Line} {r0 r1 o0 o1:List Int} {b0 b1:Bool} (h0:za5 p l l.1=some (r0,o0,b0)) (h1:za5 p l l.2.1=some (r1,o1,b1)):∃ T,iter (zup p l [l.1,l.2.1]) big ((0,[],[],[],[]))=some (if (b0&&b1)=true then .inl (r0,r1,o0,o1) else .inr (none,false,T)):=by
 cases b0 with
 | false =>
  obtain ⟨T,hT⟩:=zu0 (r0:=[]) (r1:=[]) (o0:=[]) (o1:=[]) (y:=[l.1,l.2.1]) (.inl rfl) rfl h0;exact ⟨T,(Lp.done (N:=0) hT).big (by simp only [big]; omega)⟩
 | true =>
  have s0:zup p l [l.1,l.2.1] (0,[],[],[],[])=some (.inl (1,r0,[],o0,[])):=by
   unfold zup;simp only [show decide ((0:Int)<2)=true from rfl,cond_true,show idx [l.1,l.2.1] (0:Int)=some l.1 from rfl,h0,Option.bind_some];rfl
  cases b1 with
  | false =>
   obtain ⟨T,hT⟩:=zu0 (r0:=r0) (r1:=[]) (o0:=o0) (o1:=[]) (y:=[l.1,l.2.1]) (i:=1) (.inr rfl) rfl h1;exact ⟨T,(Lp.step s0 (Lp.done (N:=0) hT)).big (by simp only [big]; omega)⟩
  | true =>
   have s1:zup p l [l.1,l.2.1] (1,r0,[],o0,[])=some (.inl (2,r0,r1,o0,o1)):=by
    unfold zup;simp only [show decide ((1:Int)<2)=true from rfl,cond_true,show idx [l.1,l.2.1] (1:Int)=some l.2.1 from rfl,h1,Option.bind_some];rfl
   have s2:zup p l [l.1,l.2.1] (2,r0,r1,o0,o1)=some (.inr (.inl (r0,r1,o0,o1))):=rfl;exact ⟨([],[],[],[]),(Lp.step s0 (Lp.step s1 (Lp.done (N:=0) s2))).big (by simp only [big]; omega)⟩
theorem ziG {p:Plan} {l:Line} (H:zpT p l):zbq p l=some (if (zaG p&&zdI p l)=true then (some (rnS p l),true) else (none,false)):=by
 unfold zbq;rw [zmH,Option.bind_some];cases hv:zaG p with
 | false=>rfl
 | true =>
 have hp:=zdg hv;simp only [if_true,show ((0:Int)!=0)=false from rfl,cond_false,zjN,Option.bind_some,Bool.true_and];unfold zdI;cases hy:inB l.2.2.2.2.1 0 3600 with
 | false=>rfl
 | true =>
 simp only [Bool.not_true,cond_false,Bool.true_and,show zcY l=some [l.1,l.2.1] from rfl,Option.bind_some];have e0:=zsk hv hp (l:=l) H.w1 H.s1 (H.b1 hv);have e1:=zsk hv hp (l:=l) H.w2 H.s2 (H.b2 hv);have f0:za5 p l l.1=some ((match zhp p l l.1 with | some ms=>zxp ms l.1 | none=>[]),(match zhp p l l.1 with | some ms=>zin ms l.1 | none=>[]),okC p l l.1):=by
  rw [e0]; unfold okC;cases zhp p l l.1<;>rfl
 have f1:za5 p l l.2.1=some ((match zhp p l l.2.1 with | some ms=>zxp ms l.2.1 | none=>[]),(match zhp p l l.2.1 with | some ms=>zin ms l.2.1 | none=>[]),okC p l l.2.1):=by
  rw [e1]; unfold okC;cases zhp p l l.2.1<;>rfl
 obtain ⟨T,hT⟩:=zuq f0 f1;unfold zup at hT;rw [hT,Option.bind_some];cases h0:okC p l l.1 with
 | false=>rfl
 | true =>
 cases h1:okC p l l.2.1 with
 | false=>rfl
 | true =>
 simp only [Bool.and_self,if_true,zbx];unfold rnS msC;have g0:∃ ms,zhp p l l.1=some ms:=by
  unfold okC at h0;cases hc:zhp p l l.1 with
  | none=>rw [hc] at h0; cases h0
  | some ms=>exact ⟨ms,rfl⟩
 have g1:∃ ms,zhp p l l.2.1=some ms:=by
  unfold okC at h1;cases hc:zhp p l l.2.1 with
  | none=>rw [hc] at h1; cases h1
  | some ms=>exact ⟨ms,rfl⟩
 obtain ⟨m0,g0⟩:=g0;obtain ⟨m1,g1⟩:=g1;rw [g0,g1];rfl
def zfo (p:Plan) (l:Line) (c:Course):Int:=ze7 (msC p l c) c (c.2.1.length-1)
def zlM (p:Plan) (l:Line):Int:=zfo p l l.1+zfo p l l.2.1+2*l.2.2.2.2.1
structure zxq (p:Plan) (l:Line) (c:Course):Prop where
 e:zhp p l c=some (msC p l c)
 C:zun p c
 M:zAt c (msC p l c)
 l1:1≤zfo p l c
 l2:zfo p l c≤50000
structure zAu (p:Plan) (l:Line):Prop where
 y:0≤l.2.2.2.2.1∧l.2.2.2.2.1≤3600
 o:zxq p l l.1
 h:zxq p l l.2.1
theorem zxr {p:Plan} {l:Line} {c:Course} (h:okC p l c=true) (hb:zjR p c.1=true->wlS p c.1≤248000000):zxq p l c:=by
 unfold okC at h;cases hc:zhp p l c with
 | none=>rw [hc] at h; cases h
 | some ms =>
  rw [hc] at h;simp only [decide_eq_true_eq] at h;obtain ⟨C,M⟩:=znQ hc hb;have hm:msC p l c=ms:=by unfold msC; rw [hc]; rfl
  have hn:=C.n;have h1:=zzq C M (i:=0) (j:=c.2.1.length-1) (by omega) (by omega);simp only [ze7] at h1;exact ⟨by rw [hm]; exact hc,C,by rw [hm]; exact M,by unfold zfo; rw [hm]; omega,by unfold zfo; rw [hm]; omega⟩
theorem zxs {p:Plan} {l:Line} (H:zpT p l) (hv:zaG p=true) (h:zdI p l=true):zAu p l:=by
 unfold zdI at h;simp only [Bool.and_eq_true] at h;exact ⟨zaH.1 h.1,zxr h.2.1 (H.b1 hv),zxr h.2.2 (H.b2 hv)⟩
theorem zlH (ms:List Int) (c:Course):(zin ms c).length=c.2.1.length:=zfB _ _
theorem zhl {p:Plan} {l:Line} {c:Course} (h:zxq p l c):idx (zin (msC p l c) c) (w64 (zz (zin (msC p l c) c)-1))=some (zfo p l c):=by
 have hn:=h.C.n;rw [zE,zlH,zm (by omega) (by omega),show (c.2.1.length:Int)-1=((c.2.1.length-1:Nat):Int) by omega];exact zfC (by omega)
section
variable {p:Plan} {l:Line} (K:zAu p l)
include K
theorem zsl (s:Bool):zao (rnS p l) (cond s 1 0)=some (cond s (zfo p l l.2.1) (zfo p l l.1)):=by
 unfold zao;cases s with
 | false =>
  simp only [cond_false];rw [show idx (rnS p l).2.2.1 (0:Int)=some (zin (msC p l l.1) l.1) from rfl];simp only [Option.bind_some,zhl K.o]
 | true =>
  simp only [cond_true];rw [show idx (rnS p l).2.2.1 (1:Int)=some (zin (msC p l l.2.1) l.2.1) from rfl];simp only [Option.bind_some,zhl K.h]
theorem zsm:2≤zlM p l∧zlM p l≤107200:=by
 have h1:=K.o.l1;have h2:=K.o.l2;have h3:=K.h.l1;have h4:=K.h.l2;have h5:=K.y;unfold zlM;omega
theorem zoN:zaR (rnS p l)=some (zlM p l):=by
 have h1:=K.o.l1;have h2:=K.o.l2;have h3:=K.h.l1;have h4:=K.h.l2;have h5:=K.y;unfold zaR;rw [show zao (rnS p l) 0=_ from zsl K false,show zao (rnS p l) 1=_ from zsl K true];simp only [Option.bind_some,cond_true,cond_false];show some (w64 (w64 (zfo p l l.1+zfo p l l.2.1)+w64 (2*l.2.2.2.2.1)))=_;rw [zm (n:=zfo p l l.1+_) (by omega) (by omega),zm (n:=2*_) (by omega) (by omega),zm (by omega) (by omega)];rfl
def zj0 (p:Plan) (l:Line) (h:Int):Int:=(zlM p l+h-1)/h
theorem zur {h:Int} (hh:1≤h∧h≤1000000000000):zbj (rnS p l) h=some (zj0 p l h):=by
 have:=zsm K;unfold zbj;rw [zoN K,Option.bind_some,zm (n:=zlM p l+h) (by omega) (by omega),zm (by omega) (by omega),zb8 ⟨by omega,by omega⟩ (by omega)];rfl
theorem zzr {h:Int} (hh:1≤h):1≤zj0 p l h∧zj0 p l h≤107200∧(zj0 p l h-1)*h<zlM p l∧zlM p l≤zj0 p l h*h∧zj0 p l h*h≤zlM p l+h-1:=by
 have hb:=zsm K;obtain ⟨h1,h2⟩:=zxo (r:=zlM p l) (show 0<h by omega);have h3:zj0 p l h*h≤zlM p l+h-1:=Int.ediv_mul_le _ (by omega);have h4:1≤zj0 p l h:=by
  unfold zj0;rw [Int.le_ediv_iff_mul_le (by omega)];omega
 have h5:zj0 p l h≤zlM p l:=by
  have:(zj0 p l h-1)*1≤(zj0 p l h-1)*h:=Int.mul_le_mul_of_nonneg_left (by omega) (by omega);have h6:(zj0 p l h-1)*h<zlM p l:=h1;omega
 exact ⟨h4,by omega,h1,h2,h3⟩
end
end Go.Ai.Sx

/- Service: the reference's lines; small plans. -/
namespace Go.Ai.Sx
def zfN (l:Line) (home:Bool):Course:=cond home l.2.1 l.1
structure CIn (p:Plan) (c:Course):Prop where
 w:c.1.length≤9223372036854775807
 s:c.2.1.length≤9223372036854775807
 b:zjR p c.1=true->wlS p c.1≤248000000
theorem zpT.c {p:Plan} {l:Line} (H:zpT p l) (hv:zaG p=true) (home:Bool):CIn p (zfN l home):=by
 cases home
 ·exact ⟨H.w1,H.s1,H.b1 hv⟩
 ·exact ⟨H.w2,H.s2,H.b2 hv⟩
theorem zhZ (l:Line) (home:Bool):zda l home=some (zfN l home):=by cases home<;>rfl
section
variable {p:Plan} {l:Line} {home:Bool} (hp:zic p) (I:CIn p (zfN l home))
include hp I
theorem zoO:zcp p l home=some (match zhp p l (zfN l home) with | some ms=>(ms.map zho,true) | none=>([],false)):=by
  unfold zcp;rw [zhZ,Option.bind_some];have hwl:=I.w;have hsl:=I.s;have hb:=I.b;generalize zfN l home=c at *
  rw [zr0 hp hwl,Option.bind_some];unfold zhp zuY;cases hw:zjR p c.1 with
  | false=>rfl
  | true =>
  have hb:=hb hw;have hwo:=zhV hw;simp only [Bool.not_true,cond_false,zAr,Option.bind_some];have hhd:zmW c=true->(2≤c.2.1.length∧c.2.1.length≤60)∧c.2.2.1.length=c.2.1.length:=fun h=>⟨(ziF h).1,(ziF h).2.1⟩;rw [zsj c _ (fun h1 h2 h3=>by rw [zE,zm (by omega) (by omega)]; omega),Option.bind_some];cases hh:zmW c with
  | false=>rfl
  | true =>
  obtain ⟨hn,hd⟩:=hhd hh;simp only [Bool.not_true,cond_false,Bool.true_and,zuT hp hwo,Option.bind_some];have h:=zef (f:=fun s56:Int =>
cond ((decide (s56<(zz c.2.1)))) (Option.bind (idx c.2.1 s56) fun x79 =>
cond ((!(inB x79 1 (wlS p c.1)))) (some (.inr ((.inr (([],false)))))) (Option.bind (idx c.2.2.1 s56) fun x84 =>
cond ((!(inB x84 0 600))) (some (.inr ((.inr (([],false)))))) (cond ((decide (s56>0))) (Option.bind (idx c.2.1 s56) fun x89 =>
Option.bind (idx c.2.1 ((w64 (s56-1)))) fun x90 =>
cond ((decide (x89≤x90))) (some (.inr ((.inr (([],false)))))) (some (.inl ((w64 (s56+1)))))) (some (.inl ((w64 (s56+1)))))))) (some (.inr ((.inl (()):Unit⊕(List Int×Bool)))))) (fun k=>(k:Int)) c.2.1.length (stB p c) (.inr ([],false)) (.inl ()) (s0:=0) rfl (by simp only [big]; omega) (fun i hi=>by
      have a1:idx c.2.1 (i:Int)=some (zc3 c.2.1 i):=zI 0 hi;have a2:idx c.2.2.1 (i:Int)=some (dwl c i):=zI 0 (by omega);unfold stB;by_cases h0:i=0
      · subst h0;simp only [zY hi,cond_true,a1,a2,Option.bind_some,decide_eq_false (show ¬ (((0:Nat):Int)>0) by omega),cond_false,decide_eq_true (show (0:Nat)=0 from rfl),Bool.true_or,Bool.and_true,zN (show 0<9223372036854775807 by omega)];cases inB (zc3 c.2.1 0) 1 (wlS p c.1)<;>cases inB (dwl c 0) 0 600<;>rfl
      · have a3:idx c.2.1 (w64 ((i:Int)-1))=some (zc3 c.2.1 (i-1)):=by
          rw [zm (by omega) (by omega),show (i:Int)-1=((i-1:Nat):Int) by omega];exact zI 0 (by omega)
        simp only [zY hi,cond_true,a1,a2,a3,Option.bind_some,decide_eq_true (show (i:Int)>0 by omega),decide_eq_false h0,Bool.false_or,zN (show i<9223372036854775807 by omega)];cases inB (zc3 c.2.1 i) 1 (wlS p c.1)<;>cases decide (zc3 c.2.1 i≤zc3 c.2.1 (i-1))<;>cases inB (dwl c i) 0 600<;>rfl) (by simp only [z7,cond_false])
  rw [h,Option.bind_some];cases hs:(List.range c.2.1.length).all (stB p c) with
  | false=>rfl
  | true =>
  simp only [if_true,zbx,zAs p l c hwl (by omega) hb,Option.bind_some];cases hl:zoL p l c with
  | none=>rfl
  | some ms =>
    obtain ⟨m1,m2⟩:=zuZ hl hb;simp only [Bool.not_true,cond_false];have hL:=zcj (f:=fun s105:List Int×Int =>
cond ((decide (s105.2<(zz ms)))) (Option.bind (idx ms s105.2) fun x108 =>
Option.bind (zcV .i64 ((w64 (x108+999))) 1000) fun x109 =>
Option.bind (zdJ 8 s105.1 ([(max 1 x109)])) fun x110 =>
some (.inl ((x110,(w64 (s105.2+1)))))) (some (.inr s105.1))) ms (fun i b=>(b,(i:Int))) (fun _ b c=>(.inl (b++[zho c]):List Int⊕List Int)) (fun b=>b) (fun i b=>b.length=i) [] (s0:=([],0)) rfl (by omega) rfl (fun i h b hb=>by
        refine ⟨?_,fun b' hb'=>?_⟩
        · have hm:=m2 _ (List.getElem_mem h);have a2:zcV .i64 (w64 (ms[i]+999)) 1000=some ((ms[i]+999)/1000):=by
            rw [zm (by omega) (by omega),zb8 ⟨by omega,by omega⟩ (by omega)]
          simp only [];rw [zY h,cond_true,ze3,List.getElem?_eq_getElem h,Option.bind_some,a2,Option.bind_some,zbl (by simp; omega),Option.bind_some,zN (by omega)];rfl
        · cases hb'; simp; omega) (fun b _=>by simp only [z7,cond_false])
    rw [hL,zex,Option.bind_some];have:∀ (l:List Int) (b:List Int),l.foldl (fun b c=>b++[zho c]) b=b++l.map zho:=by
      intro l;induction l with
      | nil=>intro b; simp
      | cons a l ih=>intro b; rw [List.foldl_cons,ih]; simp
    rw [this]; rfl
theorem zoP:zed p l home=some ((msC p l (zfN l home)).map zho):=by
 unfold zed msC;rw [zoO hp I,Option.bind_some];cases zhp p l (zfN l home)<;>rfl
theorem zgP (K:zxq p l (zfN l home)):zaN p l home=some (zin (msC p l (zfN l home)) (zfN l home)):=by
  unfold zaN;rw [zhZ,Option.bind_some,zoP hp I,Option.bind_some];generalize zfN l home=c at *
  have hn:=K.C.n;have hm:=K.M.n;have hd:=K.C.d;have key:∀ k i:Nat,i+k=(msC p l c).length->Lp (fun s17:List Int×Int =>
cond ((decide (s17.2<(zz ((msC p l c).map zho))))) (Option.bind (idx s17.1 s17.2) fun x25 =>
Option.bind (idx ((msC p l c).map zho) s17.2) fun x26 =>
Option.bind (idx c.2.2.1 ((w64 (s17.2+1)))) fun x27 =>
Option.bind (zdJ 8 s17.1 ([(w64 ((w64 (x25+x26))+x27))])) fun x28 =>
some (.inl ((x28,(w64 (s17.2+1)))))) (some (.inr s17.1))) k (rlN (i+1) (ze7 (msC p l c) c),(i:Int)) (zin (msC p l c) c):=by
    intro k;induction k with
    | zero =>
      intro i hi;refine Lp.done ?_;have:(i:Int)=(((msC p l c).map zho).length:Nat):=by rw [List.length_map]; omega
      simp only [this,z7,cond_false];unfold zin;rw [show i+1=c.2.1.length by omega]
    | succ k ih =>
      intro i hi;refine Lp.step ?_ (ih (i+1) (by omega));have hil:i<((msC p l c).map zho).length:=by rw [List.length_map]; omega
      have a1:idx (rlN (i+1) (ze7 (msC p l c) c)) (i:Int)=some (ze7 (msC p l c) c i):=zfC (by omega);have a2:idx ((msC p l c).map zho) (i:Int)=some (zho ((msC p l c).getD i 0)):=by
        have h2:i<(msC p l c).length:=by omega
        rw [ze3,List.getElem?_map,List.getElem?_eq_getElem h2,show (msC p l c).getD i 0=(msC p l c)[i] by simp [List.getD,h2]];rfl
      have a3:idx c.2.2.1 ((i+1:Nat):Int)=some (dwl c (i+1)):=zI (l:=c.2.2.1) (i:=i+1) 0 (by omega);have b1:=zoM K.C K.M (k:=i) (by omega);have b2:=zmX (K.M.b i);have b3:=K.C.dw (i+1) (by omega);have a4:zdJ 8 (rlN (i+1) (ze7 (msC p l c) c)) [w64 (w64 (ze7 (msC p l c) c i+zho ((msC p l c).getD i 0))+dwl c (i+1))]=some (rlN (i+1+1) (ze7 (msC p l c) c)):=by
        rw [zbl (by rw [zfB]; simp; omega),zlF (i+1),zm (n:=ze7 (msC p l c) c i+_) (by omega) (by omega),zm (by omega) (by omega)];rfl
      simp only [zY hil,cond_true,a1,a2,Option.bind_some,zN (show i<9223372036854775807 by omega),a3,a4]
  have hL:=(key (msC p l c).length 0 (by omega)).big (by simp only [big]; omega);have h0:rlN (0+1) (ze7 (msC p l c) c)=[0]:=rfl;rw [h0,show ((0:Nat):Int)=0 from rfl] at hL;rw [hL]; rfl
theorem zmY (K:zxq p l (zfN l home)):zc1 p l home=some (zfo p l (zfN l home)):=by
 unfold zc1;rw [zgP hp I K];simp only [Option.bind_some,zhl K]
end
section
variable {p:Plan} {l:Line} (hv:zaG p=true) (H:zpT p l)
include hv H
theorem zoQ:zcN p l=some (zdI p l):=by
  have hp:=zdg hv;have key:∀ home:Bool,∀ s:Int,s=cond home 1 0->(Option.bind (zcp p l (s==1)) fun y14 =>
cond ((!y14.2)) (some (.inr ((.inr false)))) (Option.bind (zaN p l ((s==1))) fun y17 =>
Option.bind (idx y17 ((w64 ((zz y17)-1)))) fun x19 =>
cond ((decide (x19>50000))) (some (.inr ((.inr false)))) (some (.inl ((w64 (s+1)))))))=some (if okC p l (zfN l home) then (.inl (w64 (s+1)):Int⊕(Unit⊕Bool)) else .inr (.inr false)):=by
    intro home s hs;have he:(s==1)=home:=by subst hs; cases home<;>rfl
    rw [he,zoO hp (H.c hv home),Option.bind_some];cases hc:zhp p l (zfN l home) with
    | none =>
      have:okC p l (zfN l home)=false:=by unfold okC; rw [hc]
      rw [this]; rfl
    | some ms =>
      obtain ⟨C,M⟩:=znQ hc (H.c hv home).b;have hm:msC p l (zfN l home)=ms:=by unfold msC; rw [hc]; rfl
      simp only [Bool.not_true,cond_false];cases hok:okC p l (zfN l home) with
      | true =>
        have K:=zxr hok (H.c hv home).b;rw [zgP hp (H.c hv home) K,Option.bind_some,zhl K,Option.bind_some,decide_eq_false (by have:=K.l2; omega),cond_false,if_pos rfl]
      | false =>
        have h2:¬ ze7 ms (zfN l home) ((zfN l home).2.1.length-1)≤50000:=by
          unfold okC at hok;rw [hc] at hok;simpa using hok
        have hof:zaN p l home=some (zin ms (zfN l home)):=by
          unfold zaN;rw [zhZ,Option.bind_some,zoP hp (H.c hv home),Option.bind_some,hm];generalize zfN l home=c at *
          have hn:=C.n;have hml:=M.n;have hd:=C.d;have key:∀ k i:Nat,i+k=ms.length->Lp (fun s17:List Int×Int =>
cond ((decide (s17.2<(zz (ms.map zho))))) (Option.bind (idx s17.1 s17.2) fun x25 =>
Option.bind (idx (ms.map zho) s17.2) fun x26 =>
Option.bind (idx c.2.2.1 ((w64 (s17.2+1)))) fun x27 =>
Option.bind (zdJ 8 s17.1 ([(w64 ((w64 (x25+x26))+x27))])) fun x28 =>
some (.inl ((x28,(w64 (s17.2+1)))))) (some (.inr s17.1))) k (rlN (i+1) (ze7 ms c),(i:Int)) (zin ms c):=by
            intro k;induction k with
            | zero =>
              intro i hi;refine Lp.done ?_;have:(i:Int)=((ms.map zho).length:Nat):=by rw [List.length_map]; omega
              simp only [this,z7,cond_false];unfold zin;rw [show i+1=c.2.1.length by omega]
            | succ k ih =>
              intro i hi;refine Lp.step ?_ (ih (i+1) (by omega));have hil:i<(ms.map zho).length:=by rw [List.length_map]; omega
              have a1:idx (rlN (i+1) (ze7 ms c)) (i:Int)=some (ze7 ms c i):=zfC (by omega);have a2:idx (ms.map zho) (i:Int)=some (zho (ms.getD i 0)):=by
                have h2:i<ms.length:=by omega
                rw [ze3,List.getElem?_map,List.getElem?_eq_getElem h2,show ms.getD i 0=ms[i] by simp [List.getD,h2]];rfl
              have a3:idx c.2.2.1 ((i+1:Nat):Int)=some (dwl c (i+1)):=zI (l:=c.2.2.1) (i:=i+1) 0 (by omega);have b1:=zoM C M (k:=i) (by omega);have b2:=zmX (M.b i);have b3:=C.dw (i+1) (by omega);have a4:zdJ 8 (rlN (i+1) (ze7 ms c)) [w64 (w64 (ze7 ms c i+zho (ms.getD i 0))+dwl c (i+1))]=some (rlN (i+1+1) (ze7 ms c)):=by
                rw [zbl (by rw [zfB]; simp; omega),zlF (i+1),zm (n:=ze7 ms c i+_) (by omega) (by omega),zm (by omega) (by omega)];rfl
              simp only [zY hil,cond_true,a1,a2,Option.bind_some,zN (show i<9223372036854775807 by omega),a3,a4]
          have hL:=(key ms.length 0 (by omega)).big (by simp only [big]; omega);have h0:rlN (0+1) (ze7 ms c)=[0]:=rfl;rw [h0,show ((0:Nat):Int)=0 from rfl] at hL;rw [hL]; rfl
        have hn:=C.n;have hla:idx (zin ms (zfN l home)) (w64 (zz (zin ms (zfN l home))-1))=some (ze7 ms (zfN l home) ((zfN l home).2.1.length-1)):=by
          rw [zE,zlH,zm (by omega) (by omega),show ((zfN l home).2.1.length:Int)-1=(((zfN l home).2.1.length-1:Nat):Int) by omega];exact zfC (by omega)
        rw [hof,Option.bind_some,hla,Option.bind_some,decide_eq_true (by omega),cond_true];rfl
  unfold zcN;rw [zAr,Option.bind_some];unfold zdI;cases inB l.2.2.2.2.1 0 3600 with
  | false=>rfl
  | true =>
  simp only [Bool.not_true,cond_false,Bool.true_and];have k0:=key false 0 rfl;have k1:=key true 1 rfl;have h:=zef (f:=fun s11:Int =>
cond ((decide (s11<2))) (Option.bind (zcp p l ((s11==1))) fun y14 =>
cond ((!y14.2)) (some (.inr ((.inr false)))) (Option.bind (zaN p l ((s11==1))) fun y17 =>
Option.bind (idx y17 ((w64 ((zz y17)-1)))) fun x19 =>
cond ((decide (x19>50000))) (some (.inr ((.inr false)))) (some (.inl ((w64 (s11+1))))))) (some (.inr ((.inl (()):Unit⊕Bool))))) (fun k=>(k:Int)) 2 (fun k=>okC p l (zfN l (k==1))) (.inr false) (.inl ()) (s0:=0) rfl (by simp only [big]; omega) (fun i hi=>by
      match i,hi with
      | 0,_=>exact k0
      | 1,_=>exact k1) rfl
  rw [h,Option.bind_some];show alt _ _ (if (List.range 2).all (fun k=>okC p l (zfN l (k==1)))=true then _ else _)=_;have e:(List.range 2).all (fun k=>okC p l (zfN l (k==1)))=(okC p l l.1&&okC p l l.2.1):=by
    show (okC p l l.1&&(okC p l l.2.1&&true))=_;rw [Bool.and_true]
  rw [e];cases (okC p l l.1&&okC p l l.2.1)<;>rfl
theorem zsn (K:zAu p l):zdF p l=some (zlM p l):=by
 have hp:=zdg hv;have h1:=K.o.l1;have h2:=K.o.l2;have h3:=K.h.l1;have h4:=K.h.l2;have h5:=K.y;unfold zdF;rw [zmY hp (H.c hv false) K.o,zmY hp (H.c hv true) K.h];simp only [Option.bind_some];show some (w64 (w64 (zfo p l l.1+zfo p l l.2.1)+w64 (2*l.2.2.2.2.1)))=_;rw [zm (n:=zfo p l l.1+_) (by omega) (by omega),zm (n:=2*_) (by omega) (by omega),zm (by omega) (by omega)];rfl
end
end Go.Ai.Sx

/- Service: what the program says of a line; small plans. -/
namespace Go.Ai.Sx
theorem zxt (home:Bool):zd2 home=some (cond home 1 0):=by cases home<;>rfl
section
variable {p:Plan} {l:Line} (H:zpT p l)
include H
theorem zoR (home:Bool):zaA p l home=some (if (zaG p&&zdI p l)=true then (zin (msC p l (zfN l home)) (zfN l home),0) else ([],2)):=by
 unfold zaA;rw [ziG H,Option.bind_some,zxt];cases (zaG p&&zdI p l) with
 | false=>rfl
 | true=>cases home<;>rfl
theorem zu1:zbR p l=some (if (zaG p&&zdI p l)=true then (zlM p l,0) else (0,2)):=by
 unfold zbR;rw [ziG H,Option.bind_some];cases hv:zaG p with
 | false=>rfl
 | true =>
 cases hl:zdI p l with
 | false=>rfl
 | true =>
  have K:=zxs H hv hl;simp only [Bool.and_self,if_true,Bool.not_true,cond_false,Option.bind_some,zoN K]
theorem zzs (h:Int):za2 p l h=some (if (zaG p&&zdI p l&&inB h 30 7200)=true then (zj0 p l h,0) else (0,2)):=by
 unfold za2;rw [ziG H,Option.bind_some];cases hv:zaG p with
 | false=>rfl
 | true =>
 cases hl:zdI p l with
 | false=>rfl
 | true =>
  have K:=zxs H hv hl;simp only [Bool.and_self,if_true,Bool.not_true,cond_false,zjN,Option.bind_some,Bool.true_and];cases hi:inB h 30 7200 with
  | false=>rfl
  | true =>
   have hi:=zaH.1 hi;simp only [Bool.not_true,cond_false,zur K (show 1≤h∧h≤1000000000000 by omega),Option.bind_some,if_true]
end
theorem zso {f:Nat->Int}:∀ (k a:Nat),(∀ i,a≤i->i<a+k->0≤f i)->∀ i,a≤i->i<a+k->f i≤zhn f a k
 | 0,a,_,i,h1,h2=>by omega
 | k+1,a,h,i,h1,h2=>by
  show f i≤f a+zhn f (a+1) k;by_cases e:i=a
  ·subst e;have h3:=(sumR_nn k (i+1) fun j h4 h5=>h j (by omega) (by omega));omega
  ·have:=zso k (a+1) (fun j h4 h5=>h j (by omega) (by omega)) i (by omega) (by omega);have:=h a (by omega) (by omega);omega
where sumR_nn {f:Nat->Int}:∀ (k a:Nat),(∀ i,a≤i->i<a+k->0≤f i)->0≤zhn f a k
 | 0,a,_=>by simp [zhn]
 | k+1,a,h=>by
  show 0≤f a+zhn f (a+1) k;have h1:=h a (by omega) (by omega);have h2:=sumR_nn k (a+1) fun j h4 h5=>h j (by omega) (by omega);omega
structure zAv (p:Plan):Prop where
 n:p.1.length≤12
 r:p.2.1.length≤12
 l:zaG p=true->∀ i:Nat,i<p.2.1.length->zgu p i≤200000
theorem zoS {A:Type} {xs:List A} (hl:xs.length≤12) (g:A->Bool):∃ r,iter (σ:=(Int)) (τ:=Unit⊕(Bool)) (fun s8 =>
cond ((decide (s8<(zz xs)))) (Option.bind (idx xs s8) fun x11 =>
cond (g x11) (some (.inr ((.inr false)))) (some (.inl ((w64 (s8+1)))))) (some (.inr ((.inl (())))))) big 0=some r∧(r=.inl ()∨r=.inr false):=by
  have hT:Tot (fun r:Unit⊕Bool=>r=.inl ()∨r=.inr false) (iter (σ:=(Int)) (τ:=Unit⊕(Bool)) (fun s8 =>
cond ((decide (s8<(zz xs)))) (Option.bind (idx xs s8) fun x11 =>
cond (g x11) (some (.inr ((.inr false)))) (some (.inl ((w64 (s8+1)))))) (some (.inr ((.inl (())))))) big 0):=by
    refine Tot.iter (fun s=>∃ k:Nat,s=(k:Int)∧k≤xs.length) _ (fun s=>xs.length-s.toNat) ⟨0,rfl,by omega⟩ (by simp only [big]; omega) ?_
    rintro s ⟨k,rfl,hk⟩
    by_cases h:k<xs.length
    · rw [zY h,cond_true,ze3,List.getElem?_eq_getElem h,Option.bind_some,zN (by omega)];cases g xs[k] with
      | true=>exact Tot.some (.inr rfl)
      | false=>exact Tot.some ⟨⟨k+1,rfl,by omega⟩,by simp only [Int.toNat_natCast]; omega⟩
    · rw [decide_eq_false (by rw [zE]; omega),cond_false];exact Tot.some (.inl rfl)
  exact hT
theorem zmZ (p:Plan):∃ b,zcW p=some b∧(b=true->zAv p):=by
  unfold zcW;by_cases h1:zz p.1>12
  · rw [decide_eq_true h1]; exact ⟨false,rfl,fun h=>by cases h⟩
  by_cases h2:zz p.2.1>12
  · rw [decide_eq_false h1,decide_eq_true h2]; exact ⟨false,rfl,fun h=>by cases h⟩
  rw [decide_eq_false h1,decide_eq_false h2];rw [zE] at h1 h2;simp only [cond_false,Option.bind_some];obtain ⟨r1,e1,q1⟩:=zoS (xs:=p.1) (by omega) (fun x11=>decide ((zz x11.2.2.1)>6));obtain ⟨r2,e2,q2⟩:=zoS (xs:=p.2.1) (by omega) (fun x11=>decide ((zz x11.2.2.1)>10));rw [e1,Option.bind_some];rcases q1 with rfl | rfl;rotate_left
  · exact ⟨false,rfl,fun h=>by cases h⟩
  rw [zbx,e2,Option.bind_some];rcases q2 with rfl | rfl;rotate_left
  · exact ⟨false,rfl,fun h=>by cases h⟩
  rw [zbx,zhj,Option.bind_some];cases hv:zaG p with
  | false=>exact ⟨true,rfl,fun _=>⟨by omega,by omega,fun h=>by rw [hv] at h; cases h⟩⟩
  | true =>
  have hp:=zdg hv;rw [cond_true];have hlen:∀ i:Nat,i<p.2.1.length->1≤zgu p i∧zgu p i≤31000000:=fun i hi=>zlz hp ⟨by omega,by omega⟩;have key:∀ (k i:Nat) (s:Int),i+k=p.2.1.length->0≤s∧s≤31000000*i->Lp (fun s33:Int×Int =>
cond ((decide (s33.2<(zz p.2.1)))) (Option.bind (zaz p s33.2) fun y36 =>
some (.inl (((w64 (s33.1+y36)),(w64 (s33.2+1)))))) (some (.inr s33.1))) k (s,(i:Int)) (s+zhn (fun i=>zgu p i) i k):=by
    intro k;induction k with
    | zero =>
      intro i s hi hs;have:i=p.2.1.length:=by omega
      subst this;refine Lp.done ?_;simp only [z7,cond_false,zhn];rw [Int.add_zero]
    | succ k ih =>
      intro i s hi hs;have hil:i<p.2.1.length:=by omega
      have hl:=hlen i hil;have hr:=ih (i+1) (s+zgu p i) (by omega) (by omega);rw [Int.add_assoc] at hr;refine Lp.step ?_ hr;simp only [zY hil,cond_true,zhW hp (show 0≤(i:Int)∧(i:Int)<p.2.1.length by omega),Option.bind_some];rw [zm (n:=s+_) (by omega) (by omega),zN (by omega)]
  have hL:=(key p.2.1.length 0 0 (by omega) (by omega)).big (by simp only [big]; omega);rw [show ((0:Nat):Int)=0 from rfl] at hL;rw [hL,Option.bind_some];refine ⟨_,rfl,fun h=>⟨by omega,by omega,fun _ i hi=>?_⟩⟩;have h:=of_decide_eq_true h;have:=zso (f:=fun i=>zgu p i) p.2.1.length 0 (fun j _ h5=>by have:=hlen j (by omega); omega) i (by omega) (by omega);omega
theorem zjO {A:Prop} [Decidable A] {x:Option Bool} {Q:Prop} (h:∃ b,x=some b∧(b=true->Q)):∃ b,cond (decide A) x (some false)=some b∧(b=true->A∧Q):=by
 by_cases hA:A
 ·rw [decide_eq_true hA];obtain ⟨b,h1,h2⟩:=h;exact ⟨b,h1,fun hb=>⟨hA,h2 hb⟩⟩
 ·rw [decide_eq_false hA];exact ⟨false,rfl,fun h=>by cases h⟩
structure zzt (l:Line):Prop where
 w1:l.1.1.length≤12
 w2:l.2.1.1.length≤12
 s1:l.1.2.1.length≤6
 s2:l.2.1.2.1.length≤6
theorem zm0 (l:Line):∃ b,zbX l=some b∧(b=true->zzt l):=by
 unfold zbX;have h0:∃ b,(some (decide (l.2.2.1.1≤4000)):Option Bool)=some b∧(b=true->True):=⟨_,rfl,fun _=>trivial⟩;obtain ⟨b,h1,h2⟩:=zjO (A:=zz l.1.1≤12) (zjO (A:=zz l.2.1.1≤12) (zjO (A:=zz l.1.2.1≤6) (zjO (A:=zz l.2.1.2.1≤6) (zjO (A:=zz l.1.2.2.1≤8) (zjO (A:=zz l.2.1.2.2.1≤8) (zjO (A:=zz l.2.2.1.2.2.2.2.2.2.2.2.2.1≤10) (zjO (A:=l.2.2.1.2.2.2.2.1≥200) (zjO (A:=l.2.2.1.2.2.2.1≥200) h0))))))));refine ⟨b, ?_,fun hb=>?_⟩
 ·rw [h1]; rfl
 ·obtain ⟨a,b,c,d,_⟩:=h2 hb;rw [zE] at a b c d;exact ⟨by omega,by omega,by omega,by omega⟩
theorem zzu {p:Plan} {l:Line} (S:zAv p) (h:zzt l):zpT p l:=by
 have hb:∀ way:List zR,way.length≤12->zaG p=true->zjR p way=true->wlS p way≤248000000:=by
  intro way hn hv hw;have W:=zhV hw;have hp:=zdg hv;have:=(zjG (f:=fun i=>zgu p (way.getD i M0).1) (B:=200000) way.length 0 fun i _ hi=>by
   have hm:=W.m i (by omega);have h1:=S.l hv (way.getD i M0).1.toNat (by omega);rw [Int.toNat_of_nonneg hm.1] at h1;have h2:=zlz hp hm;omega).2
  have e:wlS p way=zhn (fun i=>zgu p (way.getD i M0).1) 0 way.length:=rfl;rw [e];omega
 have a:=h.w1;have b:=h.w2;have c:=h.s1;have d:=h.s2;exact ⟨by omega,by omega,by omega,by omega,hb _ a,hb _ b⟩
theorem zxu (a:List Int) (hl:a.length≤1000000):zee a a=some true:=by
  unfold zee;rw [show (zz a !=zz a)=false from bne_self_eq_false _,cond_false];have h:=zef (f:=fun s8:Int =>
cond ((decide (s8<(zz a)))) (Option.bind (idx a s8) fun x13 =>
Option.bind (idx a s8) fun x14 =>
cond ((x13 !=x14)) (some (.inr ((.inr false)))) (some (.inl ((w64 (s8+1)))))) (some (.inr ((.inl (()):Unit⊕Bool))))) (fun k=>(k:Int)) a.length (fun _=>true) (.inr false) (.inl ()) (s0:=0) rfl (by simp only [big]; omega) (fun i hi=>by
      rw [zY hi,cond_true,zI 0 hi,Option.bind_some,Option.bind_some,bne_self_eq_false,cond_false,zN (by omega)];rfl) (by simp only [z7,cond_false])
  rw [h];simp;rfl
end Go.Ai.Sx

/- Service: the examples of the chapter. -/
namespace Go.Ai.Sx
def sP (n:Int):Plan:=(([(((0,0,()),1,[((0,false,()):zq)],0,()):zbT),((((n,0,()):Spot),1,[((0,true,()):zq)],0,()):zbT)],[((0,1,[],8000,0,()):Rail)],()):Plan)
def sT:Train:=(1000,1000,8000,2000,2000,1000000,0,0,0,[1000],())
def sL (n:Int):Line:=(([((0,false,()):zR)],[1000,n/2,n],[0,20,0],()),([((0,true,()):zR)],[1000,n/2,n],[0,10,0],()),sT,0,30,())
theorem sl0:(zgq (sP 21000) (sL 21000).1.1 sT 0 (sL 21000).1.2.1).map (·.map (·.1))=some [4400,4600]:=by kernel_rfl
theorem sl1:(zgq (sP 21000) (sL 21000).2.1.1 sT 0 (sL 21000).2.1.2.1).map (·.map (·.1))=some [4400,4600]:=by kernel_rfl
theorem sv:zaG (sP 21000)=true:=by kernel_rfl
theorem ss0:zeh (sP 21000) (sL 21000).1.1 sT 0 (sL 21000).1.2.1=true:=by kernel_rfl
theorem ss1:zeh (sP 21000) (sL 21000).2.1.1 sT 0 (sL 21000).2.1.2.1=true:=by kernel_rfl
theorem sc0:zuY (sP 21000) (sL 21000).1=true:=by kernel_rfl
theorem sc1:zuY (sP 21000) (sL 21000).2.1=true:=by kernel_rfl
theorem sw0:wlS (sP 21000) (sL 21000).1.1=21000:=by kernel_rfl
theorem sw1:wlS (sP 21000) (sL 21000).2.1.1=21000:=by kernel_rfl
theorem sI:zpT (sP 21000) (sL 21000):=⟨by decide,by decide,by decide,by decide,fun _ _=>by rw [sw0]; omega,fun _ _=>by rw [sw1]; omega⟩
theorem lg0:zoL (sP 21000) (sL 21000) (sL 21000).1=some [4400,4600]:=by
 unfold zoL;rw [if_pos (show zeh (sP 21000) (sL 21000).1.1 (sL 21000).2.2.1 (sL 21000).2.2.2.1 (sL 21000).1.2.1=true from ss0)];exact sl0
theorem lg1:zoL (sP 21000) (sL 21000) (sL 21000).2.1=some [4400,4600]:=by
 unfold zoL;rw [if_pos (show zeh (sP 21000) (sL 21000).2.1.1 (sL 21000).2.2.1 (sL 21000).2.2.2.1 (sL 21000).2.1.2.1=true from ss1)];exact sl1
theorem sr0:zhp (sP 21000) (sL 21000) (sL 21000).1=some [4400,4600]:=by unfold zhp; rw [if_pos sc0]; exact lg0
theorem sr1:zhp (sP 21000) (sL 21000) (sL 21000).2.1=some [4400,4600]:=by unfold zhp; rw [if_pos sc1]; exact lg1
theorem sm0:msC (sP 21000) (sL 21000) (sL 21000).1=[4400,4600]:=by unfold msC; rw [sr0]; rfl
theorem sm1:msC (sP 21000) (sL 21000) (sL 21000).2.1=[4400,4600]:=by unfold msC; rw [sr1]; rfl
theorem zsp:zdI (sP 21000) (sL 21000)=true:=by
 unfold zdI okC;rw [sr0,sr1];kernel_rfl
theorem zCQ:zfo (sP 21000) (sL 21000) (sL 21000).1=30:=by unfold zfo; rw [sm0]; kernel_rfl
theorem zCR:zfo (sP 21000) (sL 21000) (sL 21000).2.1=20:=by unfold zfo; rw [sm1]; kernel_rfl
theorem srd:zlM (sP 21000) (sL 21000)=110:=by unfold zlM; rw [zCQ,zCR]; rfl
theorem zsq:zc9 21000=some (sP 21000,sL 21000):=by kernel_rfl
theorem zsr {p:Plan} {l:Line} (hs:zc9 21000=some (p,l)) (hR:zbv p l.1.1 l.2.2.1 0 l.1.2.1=some ([4400,4600],0)) (hO:zaA p l false=some ([0,25,30],0)) (hX:zaA p l true=some ([0,15,20],0)) (hN:zbR p l=some (110,0)) (hC:za2 p l 110=some (1,0)) (hD:za2 p l 109=some (2,0)):zaF=some true:=by
 unfold zaF;rw [hs,Option.bind_some];simp only [hR,hO,hX,hN,Option.bind_some];rw [show w64 (110-1)=109 from rfl];simp only [hC,hD,Option.bind_some];rfl
theorem kR:zbv (sP 21000) (sL 21000).1.1 (sL 21000).2.2.1 0 (sL 21000).1.2.1=some ([4400,4600],0):=by
 obtain ⟨e,h1,_⟩:=zBM (sP 21000) (sL 21000) (sL 21000).1 sI.w1 (by decide) (by rw [sw0]; omega);rw [lg0] at h1;exact h1
theorem kB {p:Plan} {l:Line} (hv:zaG p=true) (hl:zdI p l=true):(zaG p&&zdI p l)=true:=by rw [hv,hl]; rfl
theorem ko:zin (msC (sP 21000) (sL 21000) (sL 21000).1) (sL 21000).1=[0,25,30]:=by rw [sm0]; kernel_rfl
theorem kx:zin (msC (sP 21000) (sL 21000) (sL 21000).2.1) (sL 21000).2.1=[0,15,20]:=by rw [sm1]; kernel_rfl
theorem kO {p:Plan} {l:Line} (H:zpT p l) (hv:zaG p=true) (hl:zdI p l=true) {home:Bool} {o:List Int} (h:zin (msC p l (zfN l home)) (zfN l home)=o):zaA p l home=some (o,0):=by
 rw [zoR H,if_pos (kB hv hl),h]
theorem kC {p:Plan} {l:Line} (H:zpT p l) (hv:zaG p=true) (hl:zdI p l=true) {h c:Int} (hi:inB h 30 7200=true) (hc:(zlM p l+h-1)/h=c):za2 p l h=some (c,0):=by
 rw [zzs H,if_pos (by rw [kB hv hl,hi]; rfl)];unfold zj0;rw [hc]
theorem zu2:zaF=some true :=
 zsr zsq kR (kO sI sv zsp ko) (kO sI sv zsp kx) (by rw [zu1 sI,if_pos (kB sv zsp),srd]) (kC sI sv zsp rfl (by rw [srd]; rfl)) (kC sI sv zsp rfl (by rw [srd]; rfl))
end Go.Ai.Sx
