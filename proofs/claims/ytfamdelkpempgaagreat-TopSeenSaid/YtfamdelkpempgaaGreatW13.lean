/- Motion: what is as defined. -/
import Derived.Test.YtfamdelkpempgaaGreatW12
import Derived.Test.YtfamdelkpempgaaGreatW9
import Derived.KernelRfl
import Derived.Test.YtfamdelkpempgaaGreatW7
set_option linter.unusedSimpArgs false
set_option linter.unusedVariables false
set_option linter.unusedSectionVars false
open Option renaming some→Ob,none→Oe
open Bool renaming false→Oc,true→Od
open Option renaming bind->Zb,bind_some->Zs
namespace Go.Ai.Sx
def inB (n a b:Int):Bool:=decide (a<=n)&&decide (n<=b)
theorem zar {n a b:Int}:inB n a b=Od↔a<=n/\n<=b:=by
 unfold inB;rw [Bool.and_eq_true,decide_eq_true_eq,decide_eq_true_eq]
theorem zej (n a b:Int):(Zb (cond (decide (n>=a)) (Ob (decide (n<=b))) (Ob Oc)) λc2=>Ob c2)=Ob (inB n a b):=by
 unfold inB;by_cases h:a<=n<;>simp [h]
theorem mwithin (n a b:Int):zW n a b=Ob (inB n a b):=zej n a b
theorem rin (n a b:Int):zbx n a b=Ob (inB n a b):=zej n a b
theorem zfY {A:Type} (s:List A) (hs:s.length<=9223372036854775807) (f:A->Option Bool) (p:A->Bool) (hf:∀ x∈s,f x=Ob (p x)) :
    ∃ k:Int,(Zb (iter (σ:=Int) (τ:=Unit⊕Int) (λs5=>
cond (decide (s5<zp s)) (Zb (idx s s5) λx8=>
Zb (f x8) λy9=>
cond y9 (Ob (.inr (.inr s5))) (Ob (.inl (w64 (s5+1))))) (Ob (.inr (.inl ())))) big 0) λt11=>
alt (λb13=>Ob (-1)) (λb14=>Ob b14) t11)=Ob k/\decide (k>=0)=s.any p:=by
  rw [zkJ s.length (λi:Nat=>match s[i]? with | some x=>if p x then Ob (i:Int) else Oe | none=>Oe) Of]
  · cases h:(List.range s.length).findSome? (λi:Nat=>match s[i]? with | some x=>if p x then Ob (i:Int) else Oe | none=>Oe) with
    | none=>
      simp only [Zs,alt];refine ⟨-1,rfl, ?_⟩;have:s.any p=Oc:=by
        rw [List.any_eq_false];intro x hx hp;obtain ⟨i,hi,rfl⟩:=List.getElem_of_mem hx;rw [List.findSome?_eq_none_iff] at h;have:=h i (List.mem_range.2 hi);rw [List.getElem?_eq_getElem hi] at this;simp only [hp,if_true] at this;cases this
      rw [this];rfl
    | some k=>
      simp only [Zs,alt];refine ⟨k,rfl, ?_⟩;obtain ⟨i,hi,h2⟩:=List.exists_of_findSome?_eq_some h;have hi:=List.mem_range.1 hi;rw [List.getElem?_eq_getElem hi] at h2;simp only [] at h2;split at h2
      · rename_i hp;cases h2;rw [decide_eq_true (Int.natCast_nonneg i)];exact (List.any_eq_true.2 ⟨_,List.getElem_mem hi,hp⟩).symm
      · cases h2
  · intro i hi;rw [decide_eq_true (show (i:Int)<zp s by rw [zq]; omega),cond_true,zbY hi,Zs,hf _ (List.getElem_mem hi),Zs,List.getElem?_eq_getElem hi];simp only [];rw [zf J J];cases p s[i]<;>rfl
  · rw [decide_eq_false (show ¬ (s.length:Int)<zp s by rw [zq]; omega),cond_false]
theorem zn5 (s:List Int) (hs:s.length<=9223372036854775807) (f:Int->Option Bool) (p:Int->Bool) (hf:∀ x∈s,f x=Ob (p x)):zbf s f=Ob (s.any p):=by
 obtain ⟨k,h1,h2⟩:=zfY s hs f p hf;unfold zbf zbG;rw [h1,Zs,h2]
def trB (t:Train):Bool:=inB t.1 1000 80000&&inB t.2.1 1 60000&&inB t.2.2.1 1 25000&&inB t.2.2.2.1 1 200000&&inB t.2.2.2.2.1 1 200000&&inB t.2.2.2.2.2.1 1 2000000&&inB t.2.2.2.2.2.2.1 0 100000&&inB t.2.2.2.2.2.2.2.1 0 10000&&inB t.2.2.2.2.2.2.2.2.1 0 100&&(inB t.2.2.2.2.2.2.2.2.2.1.length 1 8&&t.2.2.2.2.2.2.2.2.2.1.all λg=>inB g 1 1000)
theorem zvv (t:Train):zdY t=Ob (if trB t then 0 else 2):=by
 unfold zdY trB;simp only [mwithin,Zs,zq];cases inB t.1 1000 80000
 . rfl
 cases inB t.2.1 1 60000
 . rfl
 cases inB t.2.2.1 1 25000
 . rfl
 cases inB t.2.2.2.1 1 200000
 . rfl
 cases inB t.2.2.2.2.1 1 200000
 . rfl
 cases inB t.2.2.2.2.2.1 1 2000000
 . rfl
 cases inB t.2.2.2.2.2.2.1 0 100000
 . rfl
 cases inB t.2.2.2.2.2.2.2.1 0 10000
 . rfl
 cases inB t.2.2.2.2.2.2.2.2.1 0 100
 . rfl
 cases hl:inB (t.2.2.2.2.2.2.2.2.2.1.length:Int) 1 8
 . rfl
 have hl:=zar.1 hl;simp only [Bool.not_true,cond_false,Zs,Bool.true_and];rw [zn5 _ J _ (λg=>!inB g 1 1000) (λx _=>by unfold zfs; rw [mwithin]; rfl)];simp only [Zs];rw [List.any_eq_not_all_not];simp only [Bool.not_not];cases t.2.2.2.2.2.2.2.2.2.1.all λg=>inB g 1 1000<;>rfl
theorem zhm {V:Type} {f:Int->Option (Int⊕(Unit⊕V))} {A:Type} (l:List A) (p:A->Bool) (r0:V) (hN:l.length<=9223372036854775807) (hf:∀ (i:Nat) (h:i<l.length),f i=Ob (if p l[i] then .inl ((i:Int)+1) else .inr (.inr r0))) (he:f l.length=Ob (.inr (.inl ()))) :
 iter f big 0=Ob (if l.all p then .inl () else .inr r0):=by
 rw [zvu l.length (λi=>if h:i<l.length then p l[i] else Od) r0 Of (λi hi=>by rw [hf i hi,dif_pos hi]) he];congr 1;have:((List.range l.length).all λi=>if h:i<l.length then p l[i] else Od)=l.all p:=by
  rw [Bool.eq_iff_iff,List.all_eq_true,List.all_eq_true];constructor
  . intro h x hx;obtain ⟨i,hi,rfl⟩:=List.getElem_of_mem hx;have:=h i (List.mem_range.2 hi);rwa [dif_pos hi] at this
  . intro h i hi;have hi:=List.mem_range.1 hi;rw [dif_pos hi];exact h _ (List.getElem_mem hi)
 rw [this]
theorem zvw (t:Train):zev t=Ob (trB t):=by
 unfold zev trB;simp only [rin,Zs];rw [show ((t.2.2.2.2.2.2.2.2.2.1.length:Nat):Int)=zp t.2.2.2.2.2.2.2.2.2.1 from rfl];cases inB t.1 1000 80000
 . rfl
 cases inB t.2.1 1 60000
 . rfl
 cases inB t.2.2.1 1 25000
 . rfl
 cases inB t.2.2.2.1 1 200000
 . rfl
 cases inB t.2.2.2.2.1 1 200000
 . rfl
 cases inB t.2.2.2.2.2.1 1 2000000
 . rfl
 cases inB t.2.2.2.2.2.2.1 0 100000
 . rfl
 cases inB t.2.2.2.2.2.2.2.1 0 10000
 . rfl
 cases inB t.2.2.2.2.2.2.2.2.1 0 100
 . rfl
 cases hl:inB (zp t.2.2.2.2.2.2.2.2.2.1) 1 8
 . rfl
 have hl:=zar.1 hl;rw [zq] at hl;simp only [Bool.not_true,cond_false,Zs,Bool.true_and];rw [zhm t.2.2.2.2.2.2.2.2.2.1 (λg=>inB g 1 1000) Oc J]
 . cases t.2.2.2.2.2.2.2.2.2.1.all λg=>inB g 1 1000<;>rfl
 . intro i h;rw [decide_eq_true (show (i:Int)<zp t.2.2.2.2.2.2.2.2.2.1 by rw [zq]; omega),cond_true,zbY h,Zs,zf J J];cases inB _ 1 1000<;>rfl
 . rw [decide_eq_false (show ¬ ((t.2.2.2.2.2.2.2.2.2.1.length:Nat):Int)<zp t.2.2.2.2.2.2.2.2.2.1 by rw [zq]; omega),cond_false]
structure zk4 (t:Train):Prop where
 m:1000<=t.1/\t.1<=80000
 len:1<=t.2.1/\t.2.1<=60000
 sp:1<=t.2.2.1/\t.2.2.1<=25000
 ef:1<=t.2.2.2.1/\t.2.2.2.1<=200000
 br:1<=t.2.2.2.2.1/\t.2.2.2.2.1<=200000
 po:1<=t.2.2.2.2.2.1/\t.2.2.2.2.2.1<=2000000
 re:0<=t.2.2.2.2.2.2.1/\t.2.2.2.2.2.2.1<=100000
 ri:0<=t.2.2.2.2.2.2.2.1/\t.2.2.2.2.2.2.2.1<=10000
 ba:0<=t.2.2.2.2.2.2.2.2.1/\t.2.2.2.2.2.2.2.2.1<=100
 gl:1<=(t.2.2.2.2.2.2.2.2.2.1.length:Int)/\(t.2.2.2.2.2.2.2.2.2.1.length:Int)<=8
 gr:∀ g∈t.2.2.2.2.2.2.2.2.2.1,1<=g/\g<=1000
theorem zph {t:Train}:trB t=Od↔zk4 t:=by
 unfold trB;simp only [Bool.and_eq_true,zar,List.all_eq_true];constructor
 . rintro ⟨⟨⟨⟨⟨⟨⟨⟨⟨a,b⟩,c⟩,d⟩,e⟩,f⟩,g⟩,h⟩,i⟩,j,k⟩
   exact ⟨a,b,c,d,e,f,g,h,i,j,k⟩
 . rintro ⟨a,b,c,d,e,f,g,h,i,j,k⟩
   exact ⟨⟨⟨⟨⟨⟨⟨⟨⟨a,b⟩,c⟩,d⟩,e⟩,f⟩,g⟩,h⟩,i⟩,j,k⟩
def Lp {σ τ:Type} (f:σ->Option (σ⊕τ)) (N:Nat) (s:σ) (t:τ):Prop:=iter f (N+1) s=Ob t
theorem Lp.done {σ τ:Type} {f:σ->Option (σ⊕τ)} {N:Nat} {s:σ} {t:τ} (h:f s=Ob (.inr t)):Lp f N s t:=by
 unfold Lp;simp only [iter,h]
theorem Lp.step {σ τ:Type} {f:σ->Option (σ⊕τ)} {N:Nat} {s s':σ} {t:τ} (h:f s=Ob (.inl s')) (h2:Lp f N s' t):Lp f (N+1) s t:=by
 unfold Lp at *
 rw [iter,h];exact h2
theorem zn6 {σ τ:Type} {f:σ->Option (σ⊕τ)}:∀ {n m:Nat} {s:σ} {t:τ},n<=m->iter f n s=Ob t->iter f m s=Ob t
 | 0,_,_,_,_,h=>by cases h
 | n+1,0,_,_,hm,_=>by omega
 | n+1,m+1,s,t,hm,h=>by
  rw [iter] at h ⊢;cases hs:f s with
  | none=>rw [hs] at h; cases h
  | some r=>
   rw [hs] at h;cases r with
   | inl s'=>exact zn6 (n:=n) J h
   | inr t'=>exact h
theorem Lp.big {σ τ:Type} {f:σ->Option (σ⊕τ)} {N:Nat} {s:σ} {t:τ} (h:Lp f N s t) (hN:N<big):iter f big s=Ob t:=zn6 J h
def zfz {A β τ:Type} (st:Nat->β->A->β⊕τ) (fin:β->τ):List A->Nat->β->τ
 | [],_,b=>fin b
 | a::l,i,b=>match st i b a with
  | .inl b'=>zfz st fin l (i+1) b'
  | .inr t=>t
theorem zc2 {A β σ τ:Type} {f:σ->Option (σ⊕τ)} (l:List A) (mk:Nat->β->σ) (st:Nat->β->A->β⊕τ) (fin:β->τ) (I:Nat->β->Prop) (b0:β) {s0:σ} (hs:mk 0 b0=s0) (hl:l.length<=9223372036854775807) (h0:I 0 b0)
    (hf:∀ (i:Nat) (h:i<l.length) (b:β),I i b->f (mk i b)=Ob (match st i b l[i] with | .inl b'=>.inl (mk (i+1) b') | .inr t=>.inr t)/\∀ b',st i b l[i]=.inl b'->I (i+1) b')
    (he:∀ b,I l.length b->f (mk l.length b)=Ob (.inr (fin b))):iter f big s0=Ob (zfz st fin l 0 b0):=by
  subst hs;have key:∀ (k i:Nat) (b:β),i+k=l.length->I i b->Lp f k (mk i b) (zfz st fin (l.drop i) i b):=by
    intro k;induction k with
    | zero=>
      intro i b hi hb;have:i=l.length:=J
      subst this;rw [List.drop_length];exact Lp.done (he b hb)
    | succ k ih=>
      intro i b hi hb;have hlt:i<l.length:=J
      obtain ⟨h1,h2⟩:=hf i hlt b hb;rw [List.drop_eq_getElem_cons hlt,zfz];cases hst:st i b l[i] with
      | inl b'=>
        rw [hst] at h1;exact Lp.step h1 (ih (i+1) b' J (h2 b' hst))
      | inr t=>
        rw [hst] at h1;exact Lp.done h1
  have:=key l.length 0 b0 J h0;rw [List.drop_zero] at this;exact this.big (by simp only [Sx.big]; omega)
theorem zkK {A β τ:Type} (g:Nat->β->A->β) (fin:β->τ):∀ (l:List A) (i:Nat) (b:β),zfz (λi b a=>(.inl (g i b a):β⊕τ)) fin l i b=fin ((l.zipIdx i).foldl (λb x=>g x.2 b x.1) b)
 | [],i,b=>rfl
 | a::l,i,b=>by
  rw [zfz];exact (zkK g fin l (i+1) (g i b a)).trans (by rw [List.zipIdx_cons,List.foldl_cons])
theorem zfL {A β τ:Type} (g:β->A->β) (fin:β->τ):∀ (l:List A) (i:Nat) (b:β),zfz (λ_ b a=>(.inl (g b a):β⊕τ)) fin l i b=fin (l.foldl g b)
 | [],i,b=>rfl
 | a::l,i,b=>by
  rw [zfz];exact (zfL g fin l (i+1) (g b a)).trans (by rw [List.foldl_cons])
theorem zQ {A:Type} {l:List A} {i:Nat} (h:i<l.length):decide ((i:Int)<zp l)=Od:=decide_eq_true (by rw [zq]; omega)
theorem zS {A:Type} {l:List A}:decide ((l.length:Int)<zp l)=Oc:=decide_eq_false (by rw [zq]; omega)
theorem zy {i:Nat} (h:i<9223372036854775807):w64 ((i:Int)+1)=((i+1:Nat):Int):=by rw [zf J J]; omega
theorem zeD {σ τ:Type} {f:σ->Option (σ⊕τ)} (emb:Nat->σ) (N:Nat) (p:Nat->Bool) (r0 r1:τ) {s0:σ} (h0:emb 0=s0) (hN:N<big) (hf:∀ i:Nat,i<N->f (emb i)=Ob (if p i then .inl (emb (i+1)) else .inr r0)) (he:f (emb N)=Ob (.inr r1)) :
    iter f big s0=Ob (if (List.range N).all p then r1 else r0):=by
  subst h0;have key:∀ k n i:Nat,i+k=N->k<n->iter f n (emb i)=Ob (if (List.range' i k).all p then r1 else r0):=by
    intro k;induction k with
    | zero=>
      intro n i hi hn;obtain ⟨n,rfl⟩:∃ q,n=q+1:=⟨n-1,by omega⟩;have:i=N:=J
      subst this;simp only [iter,he];simp
    | succ k ih=>
      intro n i hi hn;obtain ⟨n,rfl⟩:∃ q,n=q+1:=⟨n-1,by omega⟩;simp only [iter,hf i J,List.range'_succ,List.all_cons];cases hg:p i with
      | true=>
        simp only [if_true,Bool.true_and];exact ih n (i+1) J J
      | false=>rfl
  have:=key N big 0 J hN;rw [List.range_eq_range'];exact this
theorem zz6 {A:Type} (a b c e:A):idx [a,b,c,e] 2=Ob c:=rfl
theorem zz7 {A:Type} (a b c e:A):idx [a,b,c,e] 3=Ob e:=rfl
theorem zcJ {a b A B:Int} (ha:0<=a/\a<=A) (hb:0<=b/\b<=B):0<=a*b/\a*b<=A*B:=⟨Int.mul_nonneg ha.1 hb.1,Int.mul_le_mul ha.2 hb.2 hb.1 J⟩
theorem zsR {a b A B:Int} (ha:0<=a/\a<=A) (hb:-B<=b/\b<=B):-(A*B)<=a*b/\a*b<=A*B:=by
 by_cases h:0<=b
 . have:=zcJ ha ⟨h,hb.2⟩;omega
 . have:=zcJ (b:=-b) (B:=B) ha ⟨by omega,by omega⟩;rw [Int.mul_neg] at this;omega
theorem zcx {a b:Int} (ha:0<=a/\a<=9223372036854775807) (hb:0<b):zdi .i64 a b=Ob (a/b):=by
 unfold zdi;rw [if_neg J,Int.tdiv_eq_ediv_of_nonneg ha.1];have h1:0<=a/b:=Int.ediv_nonneg ha.1 J;have h2:a/b<=a:=Int.ediv_le_self _ ha.1;exact congrArg Ob (zf J J)
theorem zkL {a b A:Int} (ha:0<=a/\a<=A*b) (hb:0<b):0<=a/b/\a/b<=A:=
 ⟨Int.ediv_nonneg ha.1 J,by
  have:=Int.ediv_le_ediv hb ha.2;rwa [Int.mul_ediv_cancel _ J] at this⟩
theorem zsS {a A:Int} {b:Int} (hb:0<b) (ha:-(A*b)<=a/\a<=A*b):-A<=a.tdiv b/\a.tdiv b<=A:=by
 by_cases h:0<=a
 . rw [Int.tdiv_eq_ediv_of_nonneg h];have:=zkL (A:=A) ⟨h,ha.2⟩ hb;omega
 . have e:a.tdiv b=-((-a).tdiv b):=by rw [Int.neg_tdiv,Int.neg_neg]
   rw [e,Int.tdiv_eq_ediv_of_nonneg J];have:=zkL (a:=-a) (A:=A) ⟨by omega,by omega⟩ hb;omega
section
variable (t:Train) (st:Int)
def zwt:Int:=t.2.2.2.2.2.2.2.2.2.1.getD st.toNat 0*t.1*981/100000
def zeI (v d:Int):Int:=if d<=0 then 0 else if v>0 then min (min (t.2.2.2.1*d/4) (zwt t st)) (1000*t.2.2.2.2.2.1/v) else min (t.2.2.2.1*d/4) (zwt t st)
def zct (d:Int):Int:=if d>=0 then 0 else min (t.2.2.2.2.1*(-d)/4) (zwt t st)
def zf3 (v:Int):Int:=t.2.2.2.2.2.2.1+t.2.2.2.2.2.2.2.1*v/1000
def zfA (s:Int):Int:=(t.1*s*981).tdiv 100000
def zgV (v d s:Int):Int:=zeI t st v d-zct t st d-zf3 t v-zfA t s
end
structure zB7 (t:Train) (st v d s:Int):Prop where
 st:0<=st/\st<t.2.2.2.2.2.2.2.2.2.1.length
 v:0<=v/\v<=25000
 d:-4<=d/\d<=4
 s:-120<=s/\s<=120
section
variable {t:Train} {st v d s:Int} (ht:zk4 t) (h:zB7 t st v d s)
include ht h
theorem zyj:1<=t.2.2.2.2.2.2.2.2.2.1.getD st.toNat 0/\t.2.2.2.2.2.2.2.2.2.1.getD st.toNat 0<=1000:=by
 have h1:=h.st;have hlt:st.toNat<t.2.2.2.2.2.2.2.2.2.1.length:=J
 have:t.2.2.2.2.2.2.2.2.2.1.getD st.toNat 0=t.2.2.2.2.2.2.2.2.2.1[st.toNat]:=by simp [List.getD,hlt]
 rw [this];exact ht.gr _ (List.getElem_mem hlt)
theorem zyk:zbt (t,st,())=Ob (zwt t st)/\zdi .i64 (w64 (w64 (t.2.2.2.2.2.2.2.2.2.1.getD st.toNat 0*t.1)*981)) 100000=Ob (zwt t st)/\0<=zwt t st/\zwt t st<=784800:=by
 have h1:=h.st;have hg:=zyj ht h;have hm:=ht.m;have b1:=zcJ (a:=t.2.2.2.2.2.2.2.2.2.1.getD st.toNat 0) (b:=t.1) (A:=1000) (B:=80000) ⟨by omega,hg.2⟩ ⟨by omega,hm.2⟩;have e1:zdi .i64 (w64 (w64 (t.2.2.2.2.2.2.2.2.2.1.getD st.toNat 0*t.1)*981)) 100000=Ob (zwt t st):=by
  rw [zf (n:=t.2.2.2.2.2.2.2.2.2.1.getD st.toNat 0*t.1) J J,zf J J,zcx J J];rfl
 refine ⟨?_,e1,zkL (A:=784800) ⟨by omega,by omega⟩ J⟩;unfold zbt;simp only [];rw [zd7 (d:=0) h1.1 h1.2,Zs,e1,Zs]
theorem zz8 (hd:0<d):zdi .i64 (w64 (t.2.2.2.1*d)) 4=Ob (t.2.2.2.1*d/4)/\0<=t.2.2.2.1*d/4/\t.2.2.2.1*d/4<=200000:=by
 have h1:=h.d;have b1:=zcJ (a:=t.2.2.2.1) (b:=d) (A:=200000) (B:=4) ⟨by have:=ht.ef; omega,ht.ef.2⟩ ⟨by omega,h1.2⟩;refine ⟨?_,zkL (A:=200000) ⟨by omega,by omega⟩ J⟩;rw [zf J J,zcx J J]
theorem zz9 (hd:d<0):zdi .i64 (w64 (t.2.2.2.2.1*w64 (0-d))) 4=Ob (t.2.2.2.2.1*(-d)/4)/\0<=t.2.2.2.2.1*(-d)/4/\t.2.2.2.2.1*(-d)/4<=200000:=by
 have h1:=h.d;have b1:=zcJ (a:=t.2.2.2.2.1) (b:=-d) (A:=200000) (B:=4) ⟨by have:=ht.br; omega,ht.br.2⟩ ⟨by omega,by omega⟩;refine ⟨?_,zkL (A:=200000) ⟨by omega,by omega⟩ J⟩;rw [zf (n:=0-d) J J,show (0:Int)-d=-d by omega,zf J J,zcx J J]
theorem zAa (hv:0<v):zdi .i64 (w64 (1000*t.2.2.2.2.2.1)) v=Ob (1000*t.2.2.2.2.2.1/v)/\0<=1000*t.2.2.2.2.2.1/v:=by
 have _:=h;have:=ht.po;refine ⟨?_,Int.ediv_nonneg J J⟩;rw [zf J J,zcx J J]
theorem zn7:zbg (t,st,()) v d s=Ob (zeI t st v d)/\0<=zeI t st v d/\zeI t st v d<=200000:=by
 obtain ⟨a1,_,a2,a3⟩:=zyk ht h;unfold zbg zeI;by_cases hd:d<=0
 . rw [decide_eq_true hd,if_pos hd];exact ⟨rfl,by omega,by omega⟩
 . obtain ⟨e1,e2,e3⟩:=zz8 ht h J;rw [decide_eq_false hd,if_neg hd,cond_false];simp only [];rw [e1,Zs,a1,Zs];by_cases hv:v>0
   . obtain ⟨p1,p2⟩:=zAa ht h hv;rw [decide_eq_true hv,if_pos hv,cond_true,p1,Zs];exact ⟨rfl,by omega,by omega⟩
   . rw [decide_eq_false hv,if_neg hv];exact ⟨rfl,by omega,by omega⟩
theorem zkM:za8 (t,st,()) v d s=Ob (zct t st d)/\0<=zct t st d/\zct t st d<=200000:=by
 obtain ⟨a1,_,a2,a3⟩:=zyk ht h;unfold za8 zct;by_cases hd:d>=0
 . rw [decide_eq_true hd,if_pos hd];exact ⟨rfl,by omega,by omega⟩
 . obtain ⟨e1,e2,e3⟩:=zz9 ht h J;rw [decide_eq_false hd,if_neg hd,cond_false];simp only [];rw [e1,Zs,a1,Zs];exact ⟨rfl,by omega,by omega⟩
theorem zsT:zdi .i64 (w64 (t.2.2.2.2.2.2.2.1*v)) 1000=Ob (t.2.2.2.2.2.2.2.1*v/1000)/\w64 (t.2.2.2.2.2.2.1+t.2.2.2.2.2.2.2.1*v/1000)=zf3 t v/\0<=zf3 t v/\zf3 t v<=350000:=by
 have b1:=zcJ (a:=t.2.2.2.2.2.2.2.1) (b:=v) (A:=10000) (B:=25000) ht.ri h.v;have b2:=zkL (a:=t.2.2.2.2.2.2.2.1*v) (A:=250000) (b:=1000) ⟨by omega,by omega⟩ J;have b3:=ht.re;unfold zf3;refine ⟨?_,zf J J,by omega,by omega⟩;rw [zf J J,zcx J J]
theorem zAb:zbR (t,st,()) v d s=Ob (zf3 t v):=by
 obtain ⟨e1,e2,_⟩:=zsT ht h;unfold zbR;simp only [];rw [e1,Zs,e2]
theorem zsU:zdi .i64 (w64 (w64 (t.1*s)*981)) 100000=Ob (zfA t s)/\-94176<=zfA t s/\zfA t s<=94176:=by
 have hs:=h.s;have b1:=zsR (a:=t.1) (b:=s) (A:=80000) (B:=120) ⟨by have:=ht.m; omega,ht.m.2⟩ ⟨by omega,by omega⟩;have b2:-94176<=zfA t s/\zfA t s<=94176:=zsS (a:=t.1*s*981) (A:=94176) (b:=100000) J ⟨by omega,by omega⟩;refine ⟨?_,b2⟩;rw [zf (n:=t.1*s) J J,zf J J];unfold zdi;rw [if_neg J];show Ob (w64 (zfA t s))=Ob (zfA t s);rw [zf J J]
theorem zAc:zbS (t,st,()) v d s=Ob (zfA t s):=by
 unfold zbS;simp only [];rw [(zsU ht h).1,Zs]
theorem zBx:zcG (t,st,()) v d s=Ob [zeI t st v d,zct t st d,zf3 t v,zfA t s]:=by
 unfold zcG;have hL:Lp (λs11:Int×List Int=>
  cond (decide (s11.1<4)) (Zb (idx ([(λx=>zbg (t,st,()) x.1 x.2.1 x.2.2),(λx=>za8 (t,st,()) x.1 x.2.1 x.2.2),(λx=>zbR (t,st,()) x.1 x.2.1 x.2.2),(λx=>zbS (t,st,()) x.1 x.2.1 x.2.2)]:List ((Int×Int×Int)->Option Int)) s11.1) λx14=>
  Zb (x14 (v,d,s)) λy15=>
  Zb (idx s11.2 s11.1) λx16=>
  Ob (Sum.inl (w64 (s11.1+1),(s11.2).set (Int.toNat s11.1) y15))) (Ob (Sum.inr s11.2))) 4 (0,List.replicate 4 (0:Int)) [zeI t st v d,zct t st d,zf3 t v,zfA t s]:=by
  refine Lp.step (s':=(1,[zeI t st v d,0,0,0])) ?_ (Lp.step (s':=(2,[zeI t st v d,zct t st d,0,0])) ?_ (Lp.step (s':=(3,[zeI t st v d,zct t st d,zf3 t v,0])) ?_ (Lp.step (s':=(4,[zeI t st v d,zct t st d,zf3 t v,zfA t s])) ?_ (Lp.done ?_))))
  . show Zb (zbg (t,st,()) v d s) _=_;rw [(zn7 ht h).1]; rfl
  . show Zb (za8 (t,st,()) v d s) _=_;rw [(zkM ht h).1]; rfl
  . simp only [decide_eq_true (show (2:Int)<4 by omega),cond_true,zz6,Zs,zAb ht h];rfl
  . simp only [decide_eq_true (show (3:Int)<4 by omega),cond_true,zz7,Zs,zAc ht h];rfl
  . rfl
 rw [hL.big Of];rfl
theorem zqb:zdV t v d s st=Ob (zeI t st v d,zct t st d,zf3 t v,zfA t s):=by
 obtain ⟨_,a1,a2,a3⟩:=zyk ht h;obtain ⟨d1,d2,_⟩:=zsT ht h;have h1:=(zsU ht h).1;have hst:=h.st;unfold zdV zeI zct;rw [zd7 (d:=0) hst.1 hst.2,Zs,a1,Zs];by_cases hd:d<=0
 . rw [decide_eq_false (show ¬ d>0 by omega),if_pos hd,cond_false];by_cases hd2:d>=0
   . rw [decide_eq_false (show ¬ d<0 by omega),if_pos hd2,cond_false,d1,Zs,h1,Zs,d2]
   . rw [decide_eq_true (show d<0 by omega),if_neg hd2,cond_true,(zz9 ht h J).1,Zs,d1,Zs,h1,Zs,d2]
 . rw [decide_eq_true (show d>0 by omega),if_neg hd,cond_true,(zz8 ht h J).1,Zs,if_pos (show d>=0 by omega)];by_cases hv:v>0
   . rw [decide_eq_true hv,if_pos hv,cond_true,(zAa ht h hv).1,Zs,decide_eq_false (show ¬ d<0 by omega),cond_false,d1,Zs,h1,Zs,d2]
   . rw [decide_eq_false hv,if_neg hv,cond_false,decide_eq_false (show ¬ d<0 by omega),cond_false,d1,Zs,h1,Zs,d2]
end
def qS (t:Train) (st:Int) (x:zd) (d s:Int):Int:=x.1+100*zgV t st (x.1/t.1) d s
def zjL (t:Train) (st:Int) (x:zd) (d s:Int):Bool:=decide (qS t st x d s<0)||(x.1==0&&decide (zgV t st (x.1/t.1) d s<=0))
def zeE (t:Train) (st:Int) (x:zd) (d s:Int):zbm×Bool:=
 if zjL t st x d s then (((0,x.2.1,()),(0,0,0,0,0,x.1*x.1,()),(1000*t.1-1)/(1000*t.1),0,()),Od)
 else (((qS t st x d s,x.2.1+qS t st x d s,()),(200*zeI t st (x.1/t.1) d*qS t st x d s,200*zct t st d*qS t st x d s,200*zf3 t (x.1/t.1)*qS t st x d s,200*zfA t s*qS t st x d s,10000*zgV t st (x.1/t.1) d s*zgV t st (x.1/t.1) d s,0,()),
  (zeI t st (x.1/t.1) d*qS t st x d s+1000*t.1-1)/(1000*t.1),zct t st d*qS t st x d s*t.2.2.2.2.2.2.2.2.1/(100000*t.1),()),decide (qS t st x d s<=25000*t.1))
structure zqc (t:Train) (x:zd):Prop where
 p:0<=x.1/\x.1<=25000*t.1
 w:0<=x.2.1/\x.2.1<=4000000000000000000
structure zpi (t:Train) (st d s:Int):Prop where
 st:0<=st/\st<t.2.2.2.2.2.2.2.2.2.1.length
 d:-4<=d/\d<=4
 s:-120<=s/\s<=120
theorem zpi.v {t:Train} {st d s:Int} (ht:zk4 t) (h:zpi t st d s) {x:zd} (hx:zqc t x):zB7 t st (x.1/t.1) d s:=
 ⟨h.st,zkL ⟨hx.p.1,hx.p.2⟩ (by have:=ht.m; omega),h.d,h.s⟩
section
variable {t:Train} {st d s:Int} {x:zd} (ht:zk4 t) (h:zpi t st d s) (hx:zqc t x)
include ht h hx
theorem zjg:zbz (t,st,()) x=Ob (x.1/t.1)/\zdi .i64 x.1 t.1=Ob (x.1/t.1):=by
 have _:=h;have hm:=ht.m;have hp:=hx.p;have e:zdi .i64 x.1 t.1=Ob (x.1/t.1):=zcx ⟨hp.1,by omega⟩ J;refine ⟨?_,e⟩;unfold zbz;simp only [];rw [e,Zs]
omit h in
theorem zhn (st:Int):z6 (t,st,()) x=Ob (x.2.1/(10*t.1))/\zU t x=Ob (x.2.1/(10*t.1)):=by
 have hm:=ht.m;have hw:=hx.w;have e:zdi .i64 x.2.1 (w64 (10*t.1))=Ob (x.2.1/(10*t.1)):=by
  rw [zf J J];exact zcx ⟨hw.1,by omega⟩ J
 unfold z6 zU;simp only [];rw [e,Zs];exact ⟨rfl,rfl⟩
theorem zsV:-644176<=zgV t st (x.1/t.1) d s/\zgV t st (x.1/t.1) d s<=294176:=by
 have h4:=h.v ht hx;have a:=(zn7 ht h4).2;have b:=(zkM ht h4).2;have c:=(zsT ht h4).2.2;have e:=(zsU ht h4).2;unfold zgV;omega
theorem zBy:qS t st x d s<=2029417600:=by
 have:=zsV ht h hx;have hm:=ht.m;have hp:=hx.p;unfold qS;omega
theorem zqd:zaI (t,st,()) x d s=Ob (zeE t st x d s):=by
 have h4:=h.v ht hx;obtain ⟨a1,a2,a3⟩:=zn7 ht h4;obtain ⟨b1,b2,b3⟩:=zkM ht h4;obtain ⟨_,_,c2,c3⟩:=zsT ht h4;obtain ⟨_,e2,e3⟩:=zsU ht h4;have hn:=zsV ht h hx;have hq:=zBy ht h hx;have hm:=ht.m;have hb:=ht.ba;have hp:=hx.p;have hw:=hx.w;unfold zaI;rw [(zjg ht h hx).1,Zs,zBx ht h4,Zs];simp only [show ∀ (a b c e:Int),idx [a,b,c,e] 0=Ob a from λ_ _ _ _=>rfl,show ∀ (a b c e:Int),idx [a,b,c,e] 1=Ob b from λ_ _ _ _=>rfl,show ∀ (a b c e:Int),idx [a,b,c,e] 2=Ob c from λ_ _ _ _=>rfl,show ∀ (a b c e:Int),idx [a,b,c,e] 3=Ob e from λ_ _ _ _=>rfl,Zs];have w1:w64 (w64 (w64 (zeI t st (x.1/t.1) d-zct t st d)-zf3 t (x.1/t.1))-zfA t s)=zgV t st (x.1/t.1) d s:=by
  unfold zgV;rw [zf (n:=zeI t st (x.1/t.1) d-zct t st d) J J,zf (n:=_-zf3 t (x.1/t.1)) J J,zf J J]
 have w2:w64 (x.1+w64 (100*zgV t st (x.1/t.1) d s))=qS t st x d s:=by
  unfold qS;rw [zf (n:=100*_) J J,zf J J]
 have w3:w64 (1000*t.1)=1000*t.1:=zf J J;have w4:w64 (25000*t.1)=25000*t.1:=zf J J;have w5:w64 (100000*t.1)=100000*t.1:=zf J J;have w6:w64 (x.1*x.1)=x.1*x.1:=by
  have:=zcJ (a:=x.1) (b:=x.1) (A:=2000000000) (B:=2000000000) ⟨hp.1,by omega⟩ ⟨hp.1,by omega⟩;exact zf J J
 simp only [w1,w2,w3,w4,w5,w6];unfold zeE;have hst:(cond (decide (qS t st x d s<0)) (Ob Od) (cond (x.1==0) (Ob (decide (zgV t st (x.1/t.1) d s<=0))) (Ob Oc)):Option Bool)=Ob (zjL t st x d s):=by
  unfold zjL;cases decide (qS t st x d s<0)<;>cases (x.1==0)<;>rfl
 rw [hst,Zs];cases hs:zjL t st x d s with
 | true=>
  simp only [cond_true,if_true,Int.mul_zero,Int.zero_mul,Int.add_zero,show w64 0=0 from rfl];rw [zf (n:=(0:Int)+1000*t.1) J J,Int.zero_add,zf (n:=1000*t.1-1) J J,zcx J J,Zs,zcx J J,Zs,zf (n:=x.2.1) J J,decide_eq_true J,Int.zero_ediv]
 | false=>
  have hq0:0<=qS t st x d s:=by
   unfold zjL at hs;simp only [Bool.or_eq_false_iff,decide_eq_false_iff_not] at hs;omega
  have m1:=zcJ (a:=zeI t st (x.1/t.1) d) (b:=qS t st x d s) ⟨a2,a3⟩ ⟨hq0,hq⟩;have m2:=zcJ (a:=zct t st d) (b:=qS t st x d s) ⟨b2,b3⟩ ⟨hq0,hq⟩;have m3:=zcJ (a:=zf3 t (x.1/t.1)) (b:=qS t st x d s) ⟨c2,c3⟩ ⟨hq0,hq⟩;have m4:=zsR (a:=qS t st x d s) (b:=zfA t s) (B:=94176) ⟨hq0,hq⟩ ⟨e2,e3⟩;rw [Int.mul_comm (qS t st x d s) (zfA t s)] at m4;have m5:=zcJ (a:=zct t st d*qS t st x d s) (b:=t.2.2.2.2.2.2.2.2.1) ⟨m2.1,m2.2⟩ hb;have m6:-414962718976000<=zgV t st (x.1/t.1) d s*zgV t st (x.1/t.1) d s/\zgV t st (x.1/t.1) d s*zgV t st (x.1/t.1) d s<=414962718976000:=by
   by_cases q:0<=zgV t st (x.1/t.1) d s
   ·have:=zcJ (a:=zgV t st (x.1/t.1) d s) (b:=zgV t st (x.1/t.1) d s) (A:=644176) (B:=644176) ⟨q,by omega⟩ ⟨q,by omega⟩;omega
   ·have:=zcJ (a:=-zgV t st (x.1/t.1) d s) (b:=-zgV t st (x.1/t.1) d s) (A:=644176) (B:=644176) ⟨by omega,by omega⟩ ⟨by omega,by omega⟩;rw [Int.neg_mul_neg] at this;omega
  simp only [cond_false,Bool.false_eq_true,if_false];rw [zf (n:=zeI t st (x.1/t.1) d*qS t st x d s) J J,zf (n:=_+1000*t.1) J J,zf (n:=_-1) J J,zcx J J,Zs,
   zf (n:=zct t st d*qS t st x d s) J J,zf (n:=zct t st d*qS t st x d s*t.2.2.2.2.2.2.2.2.1) J J,zcx J J,Zs,
   zf (n:=x.2.1+_) J J,zf (n:=200*zeI t st (x.1/t.1) d) J J,zf (n:=200*zct t st d) J J,zf (n:=200*zf3 t (x.1/t.1)) J J,zf (n:=200*zfA t s) J J,zf (n:=10000*zgV t st (x.1/t.1) d s) J J,
   zf (n:=200*zeI t st (x.1/t.1) d*qS t st x d s) Oh Oh,zf (n:=200*zct t st d*qS t st x d s) Oh Oh,zf (n:=200*zf3 t (x.1/t.1)*qS t st x d s) Oh Oh,zf (n:=200*zfA t s*qS t st x d s) Oh Oh,zf (n:=10000*zgV t st (x.1/t.1) d s*zgV t st (x.1/t.1) d s) Oh Oh]
end
section
variable {a b:Train} (ha:zk4 a) (hb:zk4 b)
include ha hb
end
def brk (t:Train) (st:Int) (sl:zd->Int):Nat->zd->List zd
 | 0,_=>[]
 | n+1,x=>if x.1=0 then [] else if (zeE t st x (-4) (sl x)).2 then (zeE t st x (-4) (sl x)).1.1::brk t st sl n (zeE t st x (-4) (sl x)).1.1 else []
def zmD {σ τ X:Type} (g:σ->X->σ⊕τ):σ->List X->σ⊕τ
 | s,[]=>.inl s
 | s,y::l=>match g s y with
  | .inl s'=>zmD g s' l
  | .inr t=>.inr t
theorem zho {t:Train} {st d s:Int} {x:zd} (ht:zk4 t) (h:zpi t st d s) (hx:0<=x.1/\x.1<=25000*t.1) (hw:0<=x.2.1/\x.2.1<=4000000000000000000) (hok:(zeE t st x d s).2=Od) :
 (0<=(zeE t st x d s).1.1.1/\(zeE t st x d s).1.1.1<=25000*t.1)/\(zeE t st x d s).1.1.2.1=x.2.1+(zeE t st x d s).1.1.1:=by
 have hm:=ht.m;unfold zeE at *
 split
 . simp only []; omega
 . rename_i hs;rw [if_neg hs] at hok;have hok:qS t st x d s<=25000*t.1:=of_decide_eq_true hok;unfold zjL at hs;simp only [Bool.or_eq_true,decide_eq_true_eq,not_or] at hs;exact ⟨⟨by show 0<=qS t st x d s; omega,hok⟩,rfl⟩
theorem zpj {σ τ:Type} {t:Train} {st:Int} {sl:zd->Int} {f:zd->Option Int} {step:σ->zd->Option (σ⊕τ)} {g:σ->zd->σ⊕τ} {W:Int} (ht:zk4 t) (hst:0<=st/\st<t.2.2.2.2.2.2.2.2.2.1.length) (hW:W<=4000000000000000000)
    (hf:∀ y:zd,0<=y.1/\y.1<=25000*t.1->0<=y.2.1/\y.2.1<=W->f y=Ob (sl y)/\-120<=sl y/\sl y<=120)
    (hg:∀ s (y:zd),0<=y.1/\y.1<=25000*t.1->0<=y.2.1/\y.2.1<=W->step s y=Ob (g s y))
    (s0:σ) (x:zd) (hx:0<=x.1/\x.1<=25000*t.1) (hw:0<=x.2.1/\x.2.1+72000000000000<=W) :
    ∃ z,zbd step s0 x (t,st,()) f=Ob (zmD g s0 (brk t st sl 36000 x),z):=by
  unfold zbd;have key:∀ (n k:Nat) (s:σ) (p w:Int),k+n=36000->0<=p/\p<=25000*t.1->0<=w/\w+2000000000*n<=W ->
      ∃ T:((σ⊕τ)×Int×Int)⊕((σ⊕τ)×Int×Int),Lp (λs20:Int×(σ⊕τ)×Int×Int=>
cond (decide (s20.1<36000)) (cond (s20.2.2.1==0) (Ob (.inr (.inr (s20.2.1,s20.2.2.1,s20.2.2.2)))) (Zb (f (s20.2.2.1,s20.2.2.2,())) λy24=>
Zb (zaI (t,st,()) (s20.2.2.1,s20.2.2.2,()) (-4) y24) λy25=>
cond (!y25.2) (Ob (.inr (.inr (s20.2.1,s20.2.2.1,s20.2.2.2)))) (Zb (goL s20.2.1) λs28=>
Zb (step s28 y25.1.1) λy29=>
cond (!(y29).isLeft) (Ob (.inr (.inr (y29,y25.1.1.1,y25.1.1.2.1)))) (Ob (.inl (w64 (s20.1+1),y29,y25.1.1.1,y25.1.1.2.1)))))) (Ob (.inr (.inl (s20.2.1,s20.2.2.1,s20.2.2.2))))) n ((k:Int),.inl s,p,w) T/\(match T with | .inl b=>b.1 | .inr b=>b.1)=zmD g s (brk t st sl n (p,w,())):=by
    intro n;induction n with
    | zero=>
      intro k s p w hk hp hw;have:k=36000:=J
      subst this;exact ⟨.inl (.inl s,p,w),Lp.done rfl,rfl⟩
    | succ n ih=>
      intro k s p w hk hp hw;by_cases h0:p=0
      · subst h0;refine ⟨.inr (.inl s,0,w),Lp.done ?_, ?_⟩
        · simp only [decide_eq_true (show (k:Int)<36000 by omega),cond_true]; rfl
        · unfold brk;rw [if_pos (show ((0,w,()):zd).1=0 from rfl)]; rfl
      · obtain ⟨f1,f2,f3⟩:=hf (p,w,()) hp ⟨hw.1,by show w<=W; omega⟩;have hfin:zpi t st (-4) (sl (p,w,())):=⟨hst,by omega,⟨f2,f3⟩⟩;have hso:zqc t (p,w,()):=⟨hp,⟨hw.1,by show w<=_; omega⟩⟩;have hp0:(p==0)=Oc:=by simpa using h0
        have hm:=ht.m;unfold brk;rw [if_neg (show ¬ ((p,w,()):zd).1=0 from h0)];cases hok:(zeE t st (p,w,()) (-4) (sl (p,w,()))).2 with
        | false=>
          refine ⟨.inr (.inl s,p,w),Lp.done ?_,rfl⟩;simp only [decide_eq_true (show (k:Int)<36000 by omega),cond_true,hp0,cond_false,f1,Zs,zqd ht hfin hso,hok,Bool.not_false]
        | true=>
          obtain ⟨n1,n2⟩:=zho ht hfin hp ⟨hw.1,by show w<=_; omega⟩ hok;have hn2:(zeE t st (p,w,()) (-4) (sl (p,w,()))).1.1.2.1=w+(zeE t st (p,w,()) (-4) (sl (p,w,()))).1.1.1:=n2;have hgs:=hg s (zeE t st (p,w,()) (-4) (sl (p,w,()))).1.1 n1 ⟨by omega,by omega⟩;rw [if_pos rfl,zmD];cases hgg:g s (zeE t st (p,w,()) (-4) (sl (p,w,()))).1.1 with
          | inl s'=>
            obtain ⟨T,h1,h2⟩:=ih (k+1) s' _ _ J n1 (show 0<=(zeE t st (p,w,()) (-4) (sl (p,w,()))).1.1.2.1/\(zeE t st (p,w,()) (-4) (sl (p,w,()))).1.1.2.1+2000000000*(n:Int)<=W by omega);refine ⟨T,Lp.step ?_ h1,h2⟩;simp only [decide_eq_true (show (k:Int)<36000 by omega),cond_true,hp0,cond_false,f1,Zs,zqd ht hfin hso,hok,Bool.not_true,goL,hgs,hgg,Sum.isLeft];rw [zy J]
          | inr tt=>
            refine ⟨.inr (.inr tt,(zeE t st (p,w,()) (-4) (sl (p,w,()))).1.1.1,(zeE t st (p,w,()) (-4) (sl (p,w,()))).1.1.2.1),Lp.done ?_,rfl⟩;simp only [decide_eq_true (show (k:Int)<36000 by omega),cond_true,hp0,cond_false,f1,Zs,zqd ht hfin hso,hok,Bool.not_true,goL,hgs,hgg,Sum.isLeft,Bool.not_false]
  obtain ⟨T,h1,h2⟩:=key 36000 0 s0 x.1 x.2.1 J hx J;rw [show ((0:Nat):Int)=0 from rfl] at h1;rw [h1.big Of,Zs];cases T with
  | inl b=>
    refine ⟨(b.2.1,b.2.2,()), ?_⟩;rw [zbw];simp only at h2;rw [h2]
  | inr b=>
    refine ⟨(b.2.1,b.2.2,()), ?_⟩;rw [zjf];simp only at h2;rw [h2]
def zF (t:Train) (x:zd):Int:=x.2.1/(10*t.1)
section
variable {t:Train} {st s:Int} {x:zd} (ht:zk4 t) (hst:0<=st/\st<t.2.2.2.2.2.2.2.2.2.1.length) (hs:-120<=s/\s<=120) (hx:0<=x.1/\x.1<=25000*t.1) (hw:0<=x.2.1/\x.2.1<=1000000000000000000)
include ht hst hs hx hw
end
section
variable {t:Train} {st d s:Int} {x:zd} (ht:zk4 t) (h:zpi t st d s) (hx:zqc t x)
include ht h hx
theorem zmE:zaQ t x d s st=Ob ((zeE t st x d s).1.1,(zeE t st x d s).1.2.1,(zeE t st x d s).2):=by
 have h4:=h.v ht hx;obtain ⟨a1,a2,a3⟩:=zn7 ht h4;obtain ⟨b1,b2,b3⟩:=zkM ht h4;obtain ⟨_,_,c2,c3⟩:=zsT ht h4;obtain ⟨_,e2,e3⟩:=zsU ht h4;have hn:=zsV ht h hx;have hq:=zBy ht h hx;have hm:=ht.m;have hp:=hx.p;have hw:=hx.w;unfold zaQ;rw [(zjg ht h hx).2,Zs,zqb ht h4,Zs];simp only [];have w1:w64 (w64 (w64 (zeI t st (x.1/t.1) d-zct t st d)-zf3 t (x.1/t.1))-zfA t s)=zgV t st (x.1/t.1) d s:=by
  unfold zgV;rw [zf (n:=zeI t st (x.1/t.1) d-zct t st d) J J,zf (n:=_-zf3 t (x.1/t.1)) J J,zf J J]
 have w2:w64 (x.1+w64 (100*zgV t st (x.1/t.1) d s))=qS t st x d s:=by
  unfold qS;rw [zf (n:=100*_) J J,zf J J]
 have w4:w64 (25000*t.1)=25000*t.1:=zf J J;have w6:w64 (x.1*x.1)=x.1*x.1:=by
  have:=zcJ (a:=x.1) (b:=x.1) (A:=2000000000) (B:=2000000000) ⟨hp.1,by omega⟩ ⟨hp.1,by omega⟩;exact zf J J
 simp only [w1,w2,w4,w6];unfold zeE;have hst:(cond (decide (qS t st x d s<0)) (Ob Od) (cond (x.1==0) (Ob (decide (zgV t st (x.1/t.1) d s<=0))) (Ob Oc)):Option Bool)=Ob (zjL t st x d s):=by
  unfold zjL;cases decide (qS t st x d s<0)<;>cases (x.1==0)<;>rfl
 rw [hst,Zs];cases hs:zjL t st x d s with
 | true=>
  simp only [cond_true,if_true,Int.add_zero];rw [zf (n:=x.2.1) J J,decide_eq_true J]
 | false=>
  have hq0:0<=qS t st x d s:=by
   unfold zjL at hs;simp only [Bool.or_eq_false_iff,decide_eq_false_iff_not] at hs;omega
  have m1:=zcJ (a:=zeI t st (x.1/t.1) d) (b:=qS t st x d s) ⟨a2,a3⟩ ⟨hq0,hq⟩;have m2:=zcJ (a:=zct t st d) (b:=qS t st x d s) ⟨b2,b3⟩ ⟨hq0,hq⟩;have m3:=zcJ (a:=zf3 t (x.1/t.1)) (b:=qS t st x d s) ⟨c2,c3⟩ ⟨hq0,hq⟩;have m4:=zsR (a:=qS t st x d s) (b:=zfA t s) (B:=94176) ⟨hq0,hq⟩ ⟨e2,e3⟩;rw [Int.mul_comm (qS t st x d s) (zfA t s)] at m4;have m6:-414962718976000<=zgV t st (x.1/t.1) d s*zgV t st (x.1/t.1) d s/\zgV t st (x.1/t.1) d s*zgV t st (x.1/t.1) d s<=414962718976000:=by
   by_cases q:0<=zgV t st (x.1/t.1) d s
   ·have:=zcJ (a:=zgV t st (x.1/t.1) d s) (b:=zgV t st (x.1/t.1) d s) (A:=644176) (B:=644176) ⟨q,by omega⟩ ⟨q,by omega⟩;omega
   ·have:=zcJ (a:=-zgV t st (x.1/t.1) d s) (b:=-zgV t st (x.1/t.1) d s) (A:=644176) (B:=644176) ⟨by omega,by omega⟩ ⟨by omega,by omega⟩;rw [Int.neg_mul_neg] at this;omega
  simp only [cond_false,Bool.false_eq_true,if_false];rw [zf (n:=x.2.1+_) J J,zf (n:=200*zeI t st (x.1/t.1) d) J J,zf (n:=200*zct t st d) J J,zf (n:=200*zf3 t (x.1/t.1)) J J,zf (n:=200*zfA t s) J J,zf (n:=10000*zgV t st (x.1/t.1) d s) J J,
   zf (n:=200*zeI t st (x.1/t.1) d*qS t st x d s) Oh Oh,zf (n:=200*zct t st d*qS t st x d s) Oh Oh,zf (n:=200*zf3 t (x.1/t.1)*qS t st x d s) Oh Oh,zf (n:=200*zfA t s*qS t st x d s) Oh Oh,zf (n:=10000*zgV t st (x.1/t.1) d s*zgV t st (x.1/t.1) d s) Oh Oh]
theorem zAd:zbV t x d s st=Ob ((zeE t st x d s).1.2.2.1,(zeE t st x d s).1.2.2.2.1):=by
 have h4:=h.v ht hx;obtain ⟨a1,a2,a3⟩:=zn7 ht h4;obtain ⟨b1,b2,b3⟩:=zkM ht h4;have hq:=zBy ht h hx;have hm:=ht.m;have hb:=ht.ba;unfold zbV;rw [(zjg ht h hx).2,Zs,zqb ht h4,Zs,zmE ht h hx,Zs];simp only [];have w3:w64 (1000*t.1)=1000*t.1:=zf J J;have w5:w64 (100000*t.1)=100000*t.1:=zf J J;rw [w3,w5];unfold zeE;cases hs:zjL t st x d s with
 | true=>
  simp only [if_true,Int.mul_zero,Int.zero_mul,Int.zero_add,show w64 0=0 from rfl];rw [zf (n:=1000*t.1) J J,zf (n:=1000*t.1-1) J J,zcx J J,Zs,zcx J J,Zs,Int.zero_ediv]
 | false=>
  have hq0:0<=qS t st x d s:=by
   unfold zjL at hs;simp only [Bool.or_eq_false_iff,decide_eq_false_iff_not] at hs;omega
  have m1:=zcJ (a:=zeI t st (x.1/t.1) d) (b:=qS t st x d s) ⟨a2,a3⟩ ⟨hq0,hq⟩;have m2:=zcJ (a:=zct t st d) (b:=qS t st x d s) ⟨b2,b3⟩ ⟨hq0,hq⟩;have m5:=zcJ (a:=zct t st d*qS t st x d s) (b:=t.2.2.2.2.2.2.2.2.1) ⟨m2.1,m2.2⟩ hb;simp only [Bool.false_eq_true,if_false];rw [zf (n:=zeI t st (x.1/t.1) d*qS t st x d s) J J,zf (n:=_+1000*t.1) J J,zf (n:=_-1) J J,zcx J J,Zs,
   zf (n:=zct t st d*qS t st x d s) J J,zf (n:=zct t st d*qS t st x d s*t.2.2.2.2.2.2.2.2.1) J J,zcx J J,Zs]
end
structure zCv (t:Train) (x:zd) (d s st:Int):Prop where
 tr:zk4 t
 p:0<=x.1/\x.1<=25000*t.1
 w:0<=x.2.1/\x.2.1<=10000000000000000
 f:zpi t st d s
theorem wlen {t:Train} (ht:zk4 t):w64 (zp t.2.2.2.2.2.2.2.2.2.1-1)=t.2.2.2.2.2.2.2.2.2.1.length-1:=by
 have:=ht.gl;rw [zq,zf J J]
theorem zsW (t:Train) (st:Int):zdx t st=Ob (if trB t&&inB st 0 (t.2.2.2.2.2.2.2.2.2.1.length-1) then (Ob (t,st,()),Od) else (Oe,Oc)):=by
 unfold zdx;rw [zvv];cases h:trB t with
 | false=>rfl
 | true=>
  have ht:=zph.1 h;simp only [if_true,Zs,show ((0:Int)!=0)=Oc from rfl,cond_false,mwithin,wlen ht,Bool.true_and];cases inB st 0 (t.2.2.2.2.2.2.2.2.2.1.length-1)<;>rfl
section
variable {t:Train} {st s:Int} (ht:zk4 t) (hst:0<=st/\st<t.2.2.2.2.2.2.2.2.2.1.length) (hs:-120<=s/\s<=120)
include ht hst hs
end
section
variable {t:Train} {st s dist:Int} (ht:zk4 t) (hst:0<=st/\st<t.2.2.2.2.2.2.2.2.2.1.length) (hs:-120<=s/\s<=120)
include ht hst hs
end
open Ieee
theorem zpk {n drop:Nat} (neg:Bool):Toward.even.cut neg n drop<=n/(1 <<< min drop (n.log2+2))+1/\n/(1 <<< min drop (n.log2+2))<=Toward.even.cut neg n drop:=by
 unfold Toward.cut;simp only;generalize (decide ((1 <<< min drop (n.log2+2))<2*(n%(1 <<< min drop (n.log2+2))))||(1 <<< min drop (n.log2+2))==2*(n%(1 <<< min drop (n.log2+2)))&&n/(1 <<< min drop (n.log2+2))%2==1)=b;cases b<;>simp
theorem zjE {mag:Nat} {place:Int} (h0:0<mag) (h1:-1000<=place+mag.log2) (h2:place+mag.log2<=1000) :
 ∃ m e,double.read (double.nearest Oc mag place)=.number Oc m e/\m<2 ^ 53/\0<m/\place+mag.log2-52<=e/\e<=place+mag.log2-51:=by
 obtain ⟨L,hL⟩:∃ L,L=place+mag.log2:=⟨_,rfl⟩;rw [← hL] at h1 h2 ⊢;have hfb:double.fractionBits=52:=rfl;have hlp:double.leastPlace=-1074:=rfl;have hbi:double.binade=4503599627370496:=rfl;have hir:double.infRung=9218868437227405312:=rfl;have hsw:double.signWeight=9223372036854775808:=rfl;have hlast:max (place+mag.log2-(double.fractionBits:Int)) double.leastPlace=L-52:=by
  rw [hfb,hlp,← hL];omega
 have hm0:mag≠0:=J
 have hlo:2 ^ mag.log2<=mag:=Nat.log2_self_le hm0;have hhi:mag<2 ^ (mag.log2+1):=Nat.lt_log2_self
 -- what is kept
 obtain ⟨kept,hk⟩:∃ k,k=Toward.even.cut Oc (mag <<< (place-(L-52)).toNat) ((L-52)-place).toNat:=⟨_,rfl⟩;have hkb:2 ^ 52<=kept/\kept<=2 ^ 53:=by
  have hc:=zpk (n:=mag <<< (place-(L-52)).toNat) (drop:=((L-52)-place).toNat) Oc;rw [← hk] at hc;by_cases hp:place<=L-52
  . have e1:(place-(L-52)).toNat=0:=J
    have e2:((L-52)-place).toNat=mag.log2-52:=J
    rw [e1,Nat.shiftLeft_zero,e2,Nat.min_eq_left J,Nat.one_shiftLeft] at hc;have hq:52<=mag.log2:=J
    have hlo':2 ^ 52<=mag/2 ^ (mag.log2-52):=by
     rw [Nat.le_div_iff_mul_le (Nat.two_pow_pos _),← Nat.pow_add];rw [show 52+(mag.log2-52)=mag.log2 by omega];exact hlo
    have hhi':mag/2 ^ (mag.log2-52)<2 ^ 53:=by
     rw [Nat.div_lt_iff_lt_mul (Nat.two_pow_pos _),← Nat.pow_add];rw [show 53+(mag.log2-52)=mag.log2+1 by omega];exact hhi
    omega
  . have e1:(place-(L-52)).toNat=52-mag.log2:=J
    have e2:((L-52)-place).toNat=0:=J
    rw [e1,e2,Nat.zero_min,Nat.one_shiftLeft,Nat.pow_zero,Nat.div_one,Nat.shiftLeft_eq] at hc;have hlo':2 ^ 52<=mag*2 ^ (52-mag.log2):=by
     have:=Nat.mul_le_mul_right (2 ^ (52-mag.log2)) hlo;rw [← Nat.pow_add,show mag.log2+(52-mag.log2)=52 by omega] at this;exact this
    have hhi':mag*2 ^ (52-mag.log2)<2 ^ 53:=by
     have:=Nat.mul_lt_mul_of_pos_right hhi (Nat.two_pow_pos (52-mag.log2));rw [← Nat.pow_add,show mag.log2+1+(52-mag.log2)=53 by omega] at this;exact this
    omega
 have hn:double.nearest Oc mag place=(L-52+1074).toNat*4503599627370496+kept:=by
  unfold Format.nearest;rw [if_neg hm0];simp only [hlast];simp only [← hk,hlp,hbi,hir];unfold Format.word;rw [if_neg Ol,Nat.min_eq_left]
  . rw [show L-52 - -1074=L-52+1074 by omega]
  . omega
 obtain ⟨w,hw⟩:∃ w,w=double.nearest Oc mag place:=⟨_,rfl⟩;rw [← hw] at hn ⊢;obtain ⟨a,ha⟩:∃ a,a=(L-52+1074).toNat:=⟨_,rfl⟩;rw [← ha] at hn;have haL:(a:Int)=L+1022:=J
 unfold Format.read;simp only [hsw,hbi,hir,hlp];have d0:w/9223372036854775808%2=0:=J
 have d1:w%9223372036854775808=w:=J
 rw [d1,d0,if_neg J,if_pos J];by_cases hk3:kept=2 ^ 53
 . refine ⟨_,_,rfl,by omega,by omega,by omega,by omega⟩
 . refine ⟨_,_,rfl,by omega,by omega,by omega,by omega⟩
theorem zh4 (n:Nat):∀ todo root,root*root<=n->Datum.rootFrom n todo root*Datum.rootFrom n todo root<=n
 | 0,root,h=>h
 | todo+1,root,h=>by
  unfold Datum.rootFrom;simp only;split
  . rename_i q; exact zh4 n todo _ q
  . exact zh4 n todo _ h
theorem zsX {n:Int} (h0:0<=n) (hn:n<2 ^ 50):∃ r k,FloatKind.f64.format.sqrt (FloatKind.f64.nearest n)=Ob r/\f2i r=Ob k/\0<=k/\k<2 ^ 30:=by
 by_cases hz:n=0
 . subst hz;exact ⟨0,0,by decide +kernel,by decide +kernel,by omega,by omega⟩
 have hnn:FloatKind.f64.nearest n=double.nearest Oc n.natAbs 0:=by
  unfold FloatKind.nearest FloatKind.encode FloatKind.format Format.write;simp only [decide_eq_false (show ¬ n<0 by omega)]
 have hpos:0<n.natAbs:=J
 have hlog:n.natAbs.log2<=49:=by
  have:n.natAbs<2 ^ 50:=J
  have:=(Nat.log2_lt (by omega:n.natAbs≠0)).2 this;omega
 obtain ⟨m1,e1,hr1,b1,b2,b3,b4⟩:=zjE (place:=0) hpos J J;have hlm:m1.log2<=52:=by
  have:=(Nat.log2_lt (by omega:m1≠0)).2 b1;omega
 -- the root
 have hfb:double.fractionBits=52:=rfl;obtain ⟨mag,place,hroot,c0,c1,c2⟩:∃ mag place,(Datum.number Oc m1 e1).root (double.fractionBits+2)=Ob (.number Oc mag place)/\0<mag/\-1000<=place+(mag.log2:Int)/\place+(mag.log2:Int)<=27:=by
  unfold Datum.root;simp only [hfb];rw [if_neg J,if_neg Ol];obtain ⟨more,hmore⟩:∃ more,more=2*(52+2)-m1.log2+((e1-(2*(52+2)-m1.log2:Nat))%2).toNat:=⟨_,rfl⟩;rw [← hmore];have hm2:56<=more/\more<=2*(52+2)-m1.log2+1:=J
  obtain ⟨whole,hw⟩:∃ whole,whole=Datum.rootFrom (m1 <<< more) ((m1 <<< more).log2/2+1) 0:=⟨_,rfl⟩;have hsq:=zh4 (m1 <<< more) ((m1 <<< more).log2/2+1) 0 (Nat.zero_le _);rw [← hw] at hsq ⊢;have hb:m1 <<< more<2 ^ 110:=by
   rw [Nat.shiftLeft_eq];have hm:m1<2 ^ (m1.log2+1):=Nat.lt_log2_self;have:=Nat.mul_lt_mul_of_pos_right hm (Nat.two_pow_pos more);rw [← Nat.pow_add] at this;exact Nat.lt_of_lt_of_le this (Nat.pow_le_pow_right J J)
  have hwb:whole<2 ^ 55:=by
   apply Classical.byContradiction;intro q;have h1:2 ^ 55<=whole:=J
   have:=Nat.mul_le_mul h1 h1;rw [← Nat.pow_add] at this;have h2:(2:Nat) ^ (55+55)=2 ^ 110:=rfl;omega
  obtain ⟨dl,hdl⟩:∃ dl,dl=(whole*whole !=m1 <<< more).toNat:=⟨_,rfl⟩;rw [← hdl];have hd1:dl<=1:=by rw [hdl]; cases (whole*whole !=m1 <<< more)<;>simp
  have hp0:0<2*whole+dl:=by
   by_cases q:whole=0
   . have:m1 <<< more≠0:=by rw [Nat.shiftLeft_eq]; have:=Nat.mul_pos b2 (Nat.two_pow_pos more); omega
     have:(whole*whole !=m1 <<< more)=Od:=by rw [q]; simp; omega
     rw [hdl,this]; simp
   . omega
  have hl2:(2*whole+dl).log2<=56:=by
   have:=(Nat.log2_lt (by omega:2*whole+dl≠0)).2 (show 2*whole+dl<2 ^ 57 by omega);omega
  exact ⟨_,_,rfl,hp0,by omega,by omega⟩
 obtain ⟨m3,e3,hr3,d1,d2,d3,d4⟩:=zjE (place:=place) c0 c1 J;refine ⟨double.nearest Oc mag place,((m3/(1 <<< min (-e3).toNat (m3.log2+2)):Nat):Int), ?_, ?_,Int.natCast_nonneg _, ?_⟩
 . rw [hnn];show ((double.read _).root (double.fractionBits+2)).map double.write=_;rw [hr1,hroot];rfl
 . have hti:(FloatKind.f64.decode (double.nearest Oc mag place)).toInt .zero=Ob ((m3/(1 <<< min (-e3).toNat (m3.log2+2)):Nat):Int):=by
    show (double.read _).toInt .zero=_;rw [hr3];unfold Datum.toInt Datum.integral Toward.cut signed;simp only [show e3.toNat=0 by omega,Nat.shiftLeft_zero,Bool.toNat_false,Nat.add_zero];simp
   have hk:m3/(1 <<< min (-e3).toNat (m3.log2+2))<=m3:=Nat.div_le_self _ _;unfold f2i;rw [hti];simp only;generalize m3/(1 <<< min (-e3).toNat (m3.log2+2))=q at hk ⊢;rw [if_pos ⟨by show (-9223372036854775808:Int)<=_; omega,by show _<=(9223372036854775807:Int); omega⟩]
 . have hm3:m3.log2+2>=24\/m3<2 ^ 22:=by
    by_cases q:m3<2 ^ 22
    . exact .inr q
    . left;have:=(Nat.le_log2 (by omega:m3≠0)).2 (show 2 ^ 22<=m3 by omega);omega
   have hk:m3/(1 <<< min (-e3).toNat (m3.log2+2))<=m3:=Nat.div_le_self _ _;rcases hm3 with q | q
   . have hd:24<=min (-e3).toNat (m3.log2+2):=J
     have hle:2 ^ 24<=1 <<< min (-e3).toNat (m3.log2+2):=by
      rw [Nat.one_shiftLeft];exact Nat.pow_le_pow_right J hd
     have:m3/(1 <<< min (-e3).toNat (m3.log2+2))<=m3/2 ^ 24:=Nat.div_le_div_left hle J;generalize m3/(1 <<< min (-e3).toNat (m3.log2+2))=q at this hk ⊢;omega
   . generalize m3/(1 <<< min (-e3).toNat (m3.log2+2))=q at hk ⊢;omega
end Go.Ai.Sx
namespace Go.Ai.Sx
def zlT (n r:Int):Prop:=0<=r/\r*r<=n/\n<(r+1)*(r+1)
theorem zvx {a b:Int} (ha:0<=a) (h:a<=b):a*a<=b*b:=Int.mul_le_mul h h ha J
theorem zlT.uniq {n r q:Int} (h1:zlT n r) (h2:zlT n q):r=q:=by
 rcases Int.lt_trichotomy r q with h | h | h
 . have:=zvx (a:=r+1) (b:=q) (by have:=h1.1; omega) J;have:=h1.2.2;have:=h2.2.1;omega
 . exact h
 . have:=zvx (a:=q+1) (b:=r) (by have:=h2.1; omega) J;have:=h2.2.2;have:=h1.2.1;omega
def bsS:Nat->Int->Int->Int->Int
 | 0,lo,_,_=>lo
 | k+1,lo,hi,n=>if hi-lo>1 then (if (lo+hi)/2*((lo+hi)/2)<=n then bsS k ((lo+hi)/2) hi n else bsS k lo ((lo+hi)/2) n) else lo
def zri (n:Int):Int:=bsS 60 0 30000000 n
theorem zmF {n:Int}:∀ (k:Nat) (lo hi:Int),0<=lo->lo<hi->hi-lo<=2 ^ k->lo*lo<=n->n<hi*hi->zlT n (bsS k lo hi n)
 | 0,lo,hi,h0,h1,h2,h3,h4=>by
  have:hi=lo+1:=by simp at h2; omega
  subst this;exact ⟨h0,h3,h4⟩
 | k+1,lo,hi,h0,h1,h2,h3,h4=>by
  unfold bsS;split
  . have:(2:Int) ^ (k+1)=2*2 ^ k:=by rw [Int.pow_succ]; omega
    split
    . rename_i hm;exact zmF k _ hi J J J hm h4
    . rename_i hm;exact zmF k lo _ h0 J J h3 J
  . have:hi=lo+1:=J
    subst this;exact ⟨h0,h3,h4⟩
theorem zqe {n:Int} (h:0<=n/\n<900000000000000):zlT n (zri n):=zmF 60 0 30000000 J J Oa J J
theorem zyl {n:Int} (k:Nat):∀ (lo hi:Int),0<=lo->lo<hi->hi<=30000000->hi-lo<=2 ^ k->Lp (λs4:Int×Int=>
cond (decide (w64 (s4.2-s4.1)>1)) (Zb (zdi .i64 (w64 (s4.1+s4.2)) 2) λx7=>
cond (decide (w64 (x7*x7)<=n)) (Ob (Sum.inl (x7,s4.2))) (Ob (.inl (s4.1,x7)))) (Ob (.inr s4.1))) k (lo,hi) (bsS k lo hi n):=by
 induction k with
 | zero=>
  intro lo hi h0 h1 h2 h3;have:hi=lo+1:=by simp at h3; omega
  subst this;refine Lp.done ?_;simp only [];rw [zf J J,decide_eq_false J];rfl
 | succ k ih=>
  intro lo hi h0 h1 h2 h3;have:(2:Int) ^ (k+1)=2*2 ^ k:=by rw [Int.pow_succ]; omega
  unfold bsS;by_cases hq:hi-lo>1
  . rw [if_pos hq];have hmb:0<=(lo+hi)/2/\(lo+hi)/2<=30000000:=J
    have hsq:=zcJ hmb hmb;have e0:w64 ((lo+hi)/2*((lo+hi)/2))=(lo+hi)/2*((lo+hi)/2):=zf J J;by_cases hm:(lo+hi)/2*((lo+hi)/2)<=n
    . rw [if_pos hm];refine Lp.step (s':=((lo+hi)/2,hi)) ?_ (ih _ _ J J h2 J);simp only [];rw [zf (n:=hi-lo) J J,decide_eq_true hq,cond_true,zf (n:=lo+hi) J J,zcx J J,Zs,e0,decide_eq_true hm];rfl
    . rw [if_neg hm];refine Lp.step (s':=(lo,(lo+hi)/2)) ?_ (ih _ _ h0 J J J);simp only [];rw [zf (n:=hi-lo) J J,decide_eq_true hq,cond_true,zf (n:=lo+hi) J J,zcx J J,Zs,e0,decide_eq_false hm];rfl
  . rw [if_neg hq];refine Lp.done ?_;simp only [];rw [zf J J,decide_eq_false hq];rfl
theorem zvy (n:Int):ze8 n=Ob (zri n):=by
 unfold ze8;rw [(zyl (n:=n) 60 0 30000000 J J J Oa).big Of];rfl
theorem zn8 {n:Int} (h0:0<=n):∀ (k:Nat),k<=2000000000->∃ r:Int,Lp (λs4:Int=>
cond (decide (w64 (s4*s4)>n)) (Ob (Sum.inl (w64 (s4-1)))) (Ob (.inr s4))) k (k:Int) r/\0<=r/\r<=k/\r*r<=n
 | 0,_=>⟨0,Lp.done (by simp only [show w64 (((0:Nat):Int)*((0:Nat):Int))=0 from rfl]; rw [decide_eq_false J]; rfl),by omega,by omega,by omega⟩
 | k+1,hk=>by
  have hb:0<=((k+1:Nat):Int)/\((k+1:Nat):Int)<=2000000000:=J
  have hs:=zcJ hb hb;have e:w64 (((k+1:Nat):Int)*((k+1:Nat):Int))=((k+1:Nat):Int)*((k+1:Nat):Int):=zf J J;by_cases hm:((k+1:Nat):Int)*((k+1:Nat):Int)>n
  . obtain ⟨r,h1,h2,h3,h4⟩:=zn8 h0 k J;refine ⟨r,Lp.step (s':=(k:Int)) ?_ h1,h2,by omega,h4⟩;simp only [e];rw [decide_eq_true hm,cond_true,zf J J];congr 2;omega
  . refine ⟨((k+1:Nat):Int),Lp.done ?_,by omega,by omega,by omega⟩;simp only [e];rw [decide_eq_false hm]; rfl
theorem zsY {n:Int} (hn:0<=n/\n<900000000000000):∀ (k:Nat) (x:Int),0<=x->x*x<=n->x+k=30000000->Lp (λs10:Int=>
cond (decide (w64 (w64 (s10+1)*w64 (s10+1))<=n)) (Ob (Sum.inl (w64 (s10+1)))) (Ob (.inr s10))) k x (zri n)
 | 0,x,h0,h1,h2=>by
  have:x=30000000:=J
  subst this;omega
 | k+1,x,h0,h1,h2=>by
  have e1:w64 (x+1)=x+1:=zf J J;have hb:0<=x+1/\x+1<=30000001:=J
  have hs:=zcJ hb hb;have e2:w64 ((x+1)*(x+1))=(x+1)*(x+1):=zf J J;by_cases hm:(x+1)*(x+1)<=n
  . refine Lp.step (s':=x+1) ?_ (zsY hn k (x+1) J hm J);simp only [e1,e2];rw [decide_eq_true hm]; rfl
  . have:x=zri n:=zlT.uniq ⟨h0,h1,by omega⟩ (zqe hn);rw [← this];refine Lp.done ?_;simp only [e1,e2];rw [decide_eq_false hm]; rfl
theorem zym {n:Int} (hn:0<=n/\n<900000000000000):zfd n=Ob (zri n):=by
 obtain ⟨r,k,h1,h2,h3,h4⟩:=zsX hn.1 J;unfold zfd;rw [h1,Zs,h2,Zs];obtain ⟨q,a1,a2,a3,a4⟩:=zn8 hn.1 k.toNat J;rw [Int.toNat_of_nonneg h3] at a1;rw [a1.big Of,Zs];have hq:q<30000000:=by
  rcases Int.lt_or_le q 30000000 with h | h
  . exact h
  . have:=zvx (a:=30000000) (b:=q) J h;omega
 rw [(zsY hn (30000000-q).toNat q a2 a4 J).big Of];rfl
def zdn (s:Spot):Bool:=inB s.1 (-10000000) 10000000&&inB s.2.1 (-10000000) 10000000
theorem twithin (n a b:Int):zV n a b=Ob (inB n a b):=zej n a b
theorem zsZ (n a b:Int):zah n a b=Ob (inB n a b):=zej n a b
theorem zmG (s:Spot):zc8 s=Ob (zdn s):=by
 unfold zc8 zdn;rw [twithin,twithin];cases inB s.1 (-10000000) 10000000<;>rfl
theorem zqf (s:Spot):zbC s=Ob (zdn s):=by
 unfold zbC zdn;rw [zsZ,zsZ];cases inB s.1 (-10000000) 10000000<;>rfl
def zmH (a b:Spot):Int:=zri ((a.1-b.1)*(a.1-b.1)+(a.2.1-b.2.1)*(a.2.1-b.2.1))
theorem zAe {x:Int} (h:-20000000<=x/\x<=20000000):0<=x*x/\x*x<=400000000000000:=by
 by_cases h0:0<=x
 . exact zcJ (A:=20000000) (B:=20000000) ⟨h0,h.2⟩ ⟨h0,h.2⟩
 . have:=zcJ (a:=-x) (b:=-x) (A:=20000000) (B:=20000000) ⟨by omega,by omega⟩ ⟨by omega,by omega⟩;rw [Int.neg_mul_neg] at this;exact this
theorem zs0 {a b:Spot} (ha:zdn a=Od) (hb:zdn b=Od):w64 (w64 (w64 (a.1-b.1)*w64 (a.1-b.1))+w64 (w64 (a.2.1-b.2.1)*w64 (a.2.1-b.2.1)))=(a.1-b.1)*(a.1-b.1)+(a.2.1-b.2.1)*(a.2.1-b.2.1)/\0<=(a.1-b.1)*(a.1-b.1)+(a.2.1-b.2.1)*(a.2.1-b.2.1)/\(a.1-b.1)*(a.1-b.1)+(a.2.1-b.2.1)*(a.2.1-b.2.1)<=800000000000000:=by
 unfold zdn at ha hb;simp only [Bool.and_eq_true,zar] at ha hb;have h1:=zAe (x:=a.1-b.1) J;have h2:=zAe (x:=a.2.1-b.2.1) J;rw [zf (n:=a.1-b.1) J J,zf (n:=a.2.1-b.2.1) J J,zf (n:=(a.1-b.1)*(a.1-b.1)) J J,zf (n:=(a.2.1-b.2.1)*(a.2.1-b.2.1)) J J,zf J J];exact ⟨rfl,by omega,by omega⟩
theorem zs1 {a b:Spot} (ha:zdn a=Od) (hb:zdn b=Od):zc9 a b=Ob (zmH a b):=by
 obtain ⟨h1,h2,h3⟩:=zs0 ha hb;unfold zc9;rw [h1,zym ⟨h2,by omega⟩]; rfl
theorem zwu {a b:Spot} (ha:zdn a=Od) (hb:zdn b=Od):zdu a b=Ob (zmH a b):=by
 obtain ⟨h1,h2,h3⟩:=zs0 ha hb;unfold zdu;rw [h1,zvy]; rfl
theorem zyn {a b:Spot} (ha:zdn a=Od) (hb:zdn b=Od):0<=zmH a b/\zmH a b<=30000000:=by
 obtain ⟨h1,h2,h3⟩:=zs0 ha hb;have hr:=zqe (n:=(a.1-b.1)*(a.1-b.1)+(a.2.1-b.2.1)*(a.2.1-b.2.1)) ⟨h2,by omega⟩;refine ⟨hr.1, ?_⟩;rcases Int.lt_or_le (zmH a b) 30000001 with h | h
 . omega
 . have:=zvx (a:=30000001) (b:=zmH a b) J h;have:=hr.2.1;unfold zmH at *
   omega
def ziD (f:Nat->Int):Nat->Nat->Int
 | _,0=>0
 | a,k+1=>f a+ziD f (a+1) k
theorem zjh {f:Nat->Int} {B:Int}:∀ (k a:Nat),(∀ i,a<=i->i<a+k->0<=f i/\f i<=B)->0<=ziD f a k/\ziD f a k<=B*k
 | 0,a,_=>by simp [ziD]
 | k+1,a,h=>by
  have h1:=h a (Nat.le_refl a) J;have h2:=zjh k (a+1) (λi hi hk=>h i J J);have:B*((k+1:Nat):Int)=B*k+B:=by rw [show ((k+1:Nat):Int)=(k:Int)+1 by omega,Int.mul_add,Int.mul_one]
  unfold ziD;omega
theorem zlU {f g:Nat->Int}:∀ (k a:Nat),(∀ i,a<=i->i<a+k->f i=g i)->ziD f a k=ziD g a k
 | 0,_,_=>rfl
 | k+1,a,h=>by
  unfold ziD;rw [h a (Nat.le_refl a) J,zlU k (a+1) (λi hi hk=>h i J J)]
theorem zmI {F:Int×Int->Option ((Int×Int)⊕Int)} {f:Nat->Int} {B:Int} {N:Nat} (hB:0<=B) (hN:N<1000000) (hBN:B*1000000<=4611686018427387904) (hf:∀ i:Nat,i<N->0<=f i/\f i<=B) :
    ∀ (k a:Nat) (s:Int),a+k=N->0<=s->s<=B*a->(∀ (i:Nat) (s:Int),a<=i->i<N->F (s,(i:Int))=Ob (.inl (w64 (s+f i),w64 ((i:Int)+1))))->(∀ s,F (s,(N:Int))=Ob (.inr s))->Lp F k (s,(a:Int)) (s+ziD f a k)
  | 0,a,s,ha,h0,h1,_,he=>by
    have:a=N:=J
    subst this;unfold ziD;rw [Int.add_zero];exact Lp.done (he s)
  | k+1,a,s,ha,h0,h1,hF,he=>by
    have h2:=hf a J;have h3:B*((a+1:Nat):Int)=B*a+B:=by rw [show ((a+1:Nat):Int)=(a:Int)+1 by omega,Int.mul_add,Int.mul_one]
    have h4:B*((a+1:Nat):Int)<=B*1000000:=Int.mul_le_mul_of_nonneg_left J hB;unfold ziD;rw [← Int.add_assoc];refine Lp.step (s':=(s+f a,((a+1:Nat):Int))) ?_ (zmI hB hN hBN hf k (a+1) _ J J J (λi s hi hk=>hF i s J hk) he);rw [hF a s (Nat.le_refl a) J,zf J J,zy J]
def N0:zcw:=((0,0,()),0,[],0,())
def S0:Spot:=(0,0,())
def zh5 (k:Int):Int:=if k=1 then 1 else if k=2 then 2 else if k=3 then 4 else if k=4\/k=5\/k=6 then 3 else 0
def nodeB (n:zcw):Bool:=zdn n.1&&(zh5 n.2.1 !=0)&&(zp n.2.2.1==zh5 n.2.1)&&(if n.2.1=5\/n.2.1=6 then inB n.2.2.2.1 1 2 else n.2.2.2.1==0)
theorem kinds {k:Int} (h1:¬ k<1) (h2:¬ k>6):k=1\/k=2\/k=3\/k=4\/k=5\/k=6:=J
theorem zkN {k:Int} (h:k<1\/k>6):zh5 k=0:=by
 unfold zh5;rw [if_neg J,if_neg J,if_neg J,if_neg J]
theorem zyo (n:zcw):zfc n=Ob (nodeB n):=by
 unfold zfc nodeB;by_cases h1:n.2.1<1
 ·rw [decide_eq_true h1,zkN (.inl h1)]; simp
 by_cases h2:n.2.1>6
 ·rw [decide_eq_false h1,decide_eq_true h2,zkN (.inr h2)]; simp
 rw [decide_eq_false h1,decide_eq_false h2,zmG];simp only [cond_false,Zs];cases zdn n.1 with
 | false=>rfl
 | true=>
  simp only [Bool.not_true,cond_false,zfw,Zs,twithin,Bool.true_and];have hi:idx (List.replicate 1 0++[1,2,4,3,3,3]) n.2.1=Ob (zh5 n.2.1)/\(zh5 n.2.1 !=0)=Od:=by
   rcases kinds h1 h2 with h | h | h | h | h | h<;>rw [h]<;>exact ⟨rfl,rfl⟩
  rw [hi.1,hi.2,Zs];have hc:(cond (n.2.1==5) (Ob Od) (Ob (n.2.1==6)):Option Bool)=Ob (decide (n.2.1=5\/n.2.1=6)):=by
   by_cases h5:n.2.1=5
   ·rw [h5]; rfl
   ·by_cases h6:n.2.1=6
    ·rw [h6]; rfl
    ·have e5:(n.2.1==5)=Oc:=by simpa using h5
     have e6:(n.2.1==6)=Oc:=by simpa using h6
     rw [e5,e6,decide_eq_false J]; rfl
  rw [hc];by_cases hl:zp n.2.2.1=zh5 n.2.1
  ·have e1:(zp n.2.2.1 !=zh5 n.2.1)=Oc:=by rw [bne_eq_false_iff_eq]; exact hl
   have e2:(zp n.2.2.1==zh5 n.2.1)=Od:=by rw [beq_iff_eq]; exact hl
   rw [e1,e2];simp only [cond_false,Zs,Bool.true_and];by_cases h:n.2.1=5\/n.2.1=6
   ·rw [decide_eq_true h,if_pos h]; rfl
   ·rw [decide_eq_false h,if_neg h]; rfl
  ·have e1:(zp n.2.2.1 !=zh5 n.2.1)=Od:=by rw [bne_iff_ne]; exact hl
   have e2:(zp n.2.2.1==zh5 n.2.1)=Oc:=by simpa using hl
   rw [e1,e2]; rfl
theorem zvz (k:Int):zaP k=Ob (zh5 k):=by
 unfold zaP zh5;by_cases h1:k=1
 . rw [h1]; rfl
 by_cases h2:k=2
 . rw [h2]; rfl
 by_cases h3:k=3
 . rw [h3]; rfl
 by_cases h4:k=4
 . rw [h4]; rfl
 by_cases h5:k=5
 . rw [h5]; rfl
 by_cases h6:k=6
 . rw [h6]; rfl
 rw [if_neg h1,if_neg h2,if_neg h3,if_neg J];have e1:(k==1)=Oc:=by simpa using h1
 have e2:(k==2)=Oc:=by simpa using h2
 have e3:(k==3)=Oc:=by simpa using h3
 have e4:(k==4)=Oc:=by simpa using h4
 have e5:(k==5)=Oc:=by simpa using h5
 have e6:(k==6)=Oc:=by simpa using h6
 rw [e1,e2,e3,e4,e5,e6]; rfl
def nd (p:Plan) (i:Int):zcw:=p.1.getD i.toNat N0
def zeF (p:Plan) (r:Rail):List Spot:=[(nd p r.1).1]++r.2.2.1++[(nd p r.2.1).1]
theorem zhp (p:Plan) (r:Rail):(zeF p r).length=r.2.2.1.length+2:=by unfold zeF; simp
theorem zAf {A:Type} (a b c:A):idx [a,b,c] 0=Ob a:=rfl
theorem zAg {A:Type} (a b c:A):idx [a,b,c] 1=Ob b:=rfl
theorem zAh {A:Type} (a b c:A):idx [a,b,c] 2=Ob c:=rfl
theorem zBz {A:Type} (a b c:A):zp [a,b,c]=3:=rfl
theorem zyp {a b:Spot} {s:List Spot} (hs:s.length<=30):zap [[a],s,[b]]=Ob ([a]++s++[b]):=by
  unfold zap;have h1:Lp (λs4:Int×Int=>
cond (decide (s4.2<zp [[a],s,[b]])) (Zb (idx [[a],s,[b]] s4.2) λx7=>
cond (decide (w64 (s4.1+zp x7)<0)) Oe (Ob (Sum.inl (w64 (s4.1+zp x7),w64 (s4.2+1))))) (Ob (.inr s4.1))) 3 (0,0) ((s.length:Int)+2):=by
    refine Lp.step (s':=(1,1)) rfl (Lp.step (s':=(1+(s.length:Int),2)) ?_ (Lp.step (s':=((s.length:Int)+2,3)) ?_ (Lp.done rfl)))
    · show cond (decide (w64 (1+zp s)<0)) _ _=_;rw [zq,zf J J,decide_eq_false J];rfl
    · show cond (decide (w64 (1+(s.length:Int)+1)<0)) _ (Ob (Sum.inl (w64 (1+(s.length:Int)+1),_)))=_;rw [zf J J,decide_eq_false J,show (1:Int)+s.length+1=s.length+2 by omega];rfl
  rw [h1.big Of,Zs];have hg:zav ((s.length:Int)+2)=Ob []:=by
    unfold zav;rw [show w64 ((0:Int)-0)=0 from rfl,Int.sub_zero,zf J J,decide_eq_false J,decide_eq_true J];simp only [cond_false,cond_true];unfold zo9;rw [if_pos J,Zs];unfold slz;have:(List.replicate ((s.length:Int)+2).toNat ((0,0,()):Spot)).isEmpty=Oc:=by
      rw [List.isEmpty_eq_false_iff];intro e;have:=congrArg List.length e;simp at this;omega
    rw [this]; rfl
  rw [hg,Zs];have h2:Lp (λs17:List Spot×Int=>
cond (decide (s17.2<zp [[a],s,[b]])) (Zb (idx [[a],s,[b]] s17.2) λx20=>
Zb (zde 16 s17.1 x20) λx21=>
Ob (Sum.inl (x21,w64 (s17.2+1)))) (Ob (.inr s17.1))) 3 ([],0) ([a]++s++[b]):=by
    refine Lp.step (s':=([a],1)) ?_ (Lp.step (s':=([a]++s,2)) ?_ (Lp.step (s':=([a]++s++[b],3)) ?_ (Lp.done rfl)))
    · simp only [zBz,decide_eq_true (show (0:Int)<3 by omega),cond_true,zAf,Zs];rw [zaK Ol]; rfl
    · simp only [zBz,decide_eq_true (show (1:Int)<3 by omega),cond_true,zAg,Zs];rw [zaK Oj]; rfl
    · simp only [zBz,decide_eq_true (show (2:Int)<3 by omega),cond_true,zAh,Zs];rw [zaK Oj]; rfl
  rw [h2.big Of]; rfl
structure RIx (p:Plan) (r:Rail):Prop where
 f:0<=r.1/\r.1<p.1.length
 t:0<=r.2.1/\r.2.1<p.1.length
 s:r.2.2.1.length<=30
theorem zs2 {p:Plan} {r:Rail} (h:RIx p r):zei p r=Ob (zeF p r):=by
 unfold zei;rw [zd7 (d:=N0) h.f.1 h.f.2,Zs,zd7 (d:=N0) h.t.1 h.t.2,Zs,zyp h.s];rfl
def rl0 (p:Plan) (i:Int):Rail:=p.2.1.getD i.toNat (0,0,[],0,0,())
theorem zqg {p:Plan} {i:Int} (hi:0<=i/\i<p.2.1.length) (h:RIx p (rl0 p i)):zdt p i=Ob (zeF p (rl0 p i)):=by
 unfold zdt;have hs:=h.s;rw [zd7 (d:=(0,0,[],0,0,())) hi.1 hi.2,Zs];show Zb (idx p.1 (rl0 p i).1) _=_;rw [zd7 (d:=N0) h.f.1 h.f.2,Zs];show Zb (zde 16 [(nd p (rl0 p i).1).1] (rl0 p i).2.2.1) _=_;rw [zaK Oj,Zs];show Zb (idx p.1 (rl0 p i).2.1) _=_;rw [zd7 (d:=N0) h.t.1 h.t.2,Zs];rw [zaK Oj];rfl
def zyq (l:List Spot) (i:Nat):Int:=zmH (l.getD (i-1) S0) (l.getD i S0)
def zyr (l:List Spot):Int:=ziD (zyq l) 1 (l.length-1)
theorem zgx {l:List Spot} (h:l.all zdn=Od) {i:Nat} (hi:i<l.length):zdn (l.getD i S0)=Od:=by
 have:l.getD i S0=l[i]:=by simp [List.getD,hi]
 rw [this];exact List.all_eq_true.1 h _ (List.getElem_mem hi)
theorem zqh {l:List Spot} (h:l.all zdn=Od) (hl:1<=l.length/\l.length<=40) {sp:Spot->Spot->Option Int} (hsp:∀ a b,zdn a=Od->zdn b=Od->sp a b=Ob (zmH a b)):iter (σ:=(Int×Int)) (τ:=Int) (λs69=>
cond (decide (s69.2<zp l)) (Zb (idx l (w64 (s69.2-1))) λx75=>
Zb (idx l s69.2) λx76=>
Zb (sp x75 x76) λy77=>
Ob (.inl (w64 (s69.1+y77),w64 (s69.2+1)))) (Ob (.inr s69.1))) big (0,1)=Ob (zyr l):=by
  have hL:=zmI (B:=30000000) (N:=l.length) (f:=λi=>if 1<=i then zyq l i else 0) (F:=λs69:Int×Int=>
cond (decide (s69.2<zp l)) (Zb (idx l (w64 (s69.2-1))) λx75=>
Zb (idx l s69.2) λx76=>
Zb (sp x75 x76) λy77=>
Ob (.inl (w64 (s69.1+y77),w64 (s69.2+1)))) (Ob (.inr s69.1))) J J J (λi hi=>by
      split
      · exact zyn (zgx h J) (zgx h hi)
      · omega) (l.length-1) 1 0 J J J (λi s hi hk=>by
      rw [if_pos hi];simp only [];rw [zQ hk,cond_true,zf (n:=(i:Int)-1) J J,show (i:Int)-1=((i-1:Nat):Int) by omega,zo S0 J,Zs,zo S0 hk,Zs,hsp _ _ (zgx h J) (zgx h hk)];rfl) (λs=>by simp only [zS,cond_false])
  rw [show ((1:Nat):Int)=1 from rfl,Int.zero_add] at hL;rw [hL.big Of];unfold zyr;rw [zlU _ _ (λi hi _=>if_pos hi)]
theorem zrj {p:Plan} {i:Int} (hi:0<=i/\i<p.2.1.length) (h:RIx p (rl0 p i)) (hs:(zeF p (rl0 p i)).all zdn=Od):zaM p i=Ob (zyr (zeF p (rl0 p i))):=by
 unfold zaM;rw [zqg hi h,Zs,zqh hs (by rw [zhp]; have:=h.s; omega) (sp:=λa b=>zdu a b) (λa b=>zwu)];rfl
def zvA (l:List Spot) (i:Nat):Bool:=inB (zyq l i) 1 1000000
def zmJ (l:List Spot):Bool:=(List.range (l.length-1)).all λi=>zvA l (i+1)
def zmK (p:Plan) (r:Rail):Bool:=inB r.1 0 (p.1.length-1)&&(inB r.2.1 0 (p.1.length-1)&&(!decide (zp r.2.2.1>30)&&(inB r.2.2.2.1 1 50000&&inB r.2.2.2.2.1 (-120) 120)))
def ziE (p:Plan) (r:Rail):Bool:=zmK p r&&((zeF p r).all zdn&&zmJ (zeF p r))
theorem zmL {p:Plan} {r:Rail} (h:zmK p r=Od):RIx p r:=by
 unfold zmK at h;simp only [Bool.and_eq_true,zar,Bool.not_eq_true',decide_eq_false_iff_not] at h;obtain ⟨a,b,c,_⟩:=h;rw [zq] at c;exact ⟨by omega,by omega,by omega⟩
theorem wnodes {p:Plan} (h:1<=p.1.length/\p.1.length<=300):w64 (zp p.1-1)=p.1.length-1:=by rw [zq,zf J J]
def prB (l:List Spot) (i:Nat):Bool:=zdn (l.getD i S0)&&(decide (i=0)||zvA l i)
theorem zys (l:List Spot) (h:1<=l.length):(List.range l.length).all (prB l)=(l.all zdn&&zmJ l):=by
 rw [Bool.eq_iff_iff,Bool.and_eq_true];unfold prB zmJ;simp only [List.all_eq_true,List.mem_range,Bool.and_eq_true,Bool.or_eq_true,decide_eq_true_eq];constructor
 . intro hh;refine ⟨λx hx=>?_,λi hi=>?_⟩
   . obtain ⟨i,hi,rfl⟩:=List.getElem_of_mem hx;have:=(hh i hi).1;simpa [List.getD,hi] using this
   . rcases (hh (i+1) J).2 with q | q
     . omega
     . exact q
 . rintro ⟨h1,h2⟩ i hi
   refine ⟨?_, ?_⟩
   . have:l.getD i S0=l[i]:=by simp [List.getD,hi]
     rw [this];exact h1 _ (List.getElem_mem hi)
   . by_cases h0:i=0
     . exact .inl h0
     . right;have:=h2 (i-1) J;rwa [show i-1+1=i by omega] at this
theorem zn9 {l:List Spot} (hl:l.length<=40):∀ (k i:Nat),i+k=l.length->(∀ j,j<i->zdn (l.getD j S0)=Od)->Lp (λs45:Int=>
cond (decide (s45<zp l)) (Zb (idx l s45) λx48=>
Zb (zc8 x48) λy62=>
cond (!y62) (Ob (Sum.inr (Sum.inr Oc:Unit⊕Bool))) (cond (decide (s45>0)) (Zb (idx l (w64 (s45-1))) λx66=>
Zb (zc9 x66 x48) λy67=>
Zb (zV y67 1 1000000) λy68=>
cond (!y68) (Ob (.inr (.inr Oc))) (Ob (.inl (w64 (s45+1))))) (Ob (.inl (w64 (s45+1)))))) (Ob (.inr (.inl ())))) k (i:Int) (if (List.range' i k).all (prB l) then .inl () else .inr Oc)
  | 0,i,hi,_=>by
    have:i=l.length:=J
    subst this;exact Lp.done (by simp only [zS,cond_false]; rfl)
  | k+1,i,hi,hj=>by
    have hlt:i<l.length:=J
    have e1:=zQ hlt;rw [List.range'_succ,List.all_cons];cases hs:zdn (l.getD i S0) with
    | false=>
      have:prB l i=Oc:=by unfold prB; rw [hs]; rfl
      rw [this];refine Lp.done ?_;simp only [e1,cond_true,zo S0 hlt,Zs,zmG,hs,Bool.not_false];rfl
    | true=>
      have hj':∀ j,j<i+1->zdn (l.getD j S0)=Od:=λj h=>by
        by_cases e:j=i
        · rw [e]; exact hs
        · exact hj j J
      have ih:=zn9 hl k (i+1) J hj';by_cases h0:i=0
      · subst h0;have:prB l 0=Od:=by unfold prB; rw [hs]; rfl
        rw [this,Bool.true_and];refine Lp.step (s':=((0+1:Nat):Int)) ?_ ih;simp only [e1,cond_true,zo S0 hlt,Zs,zmG,hs,Bool.not_true,cond_false];rfl
      · have e2:decide ((i:Int)>0)=Od:=decide_eq_true J;have hsp:=zs1 (hj (i-1) J) hs;have hp:prB l i=zvA l i:=by unfold prB; rw [hs,decide_eq_false h0]; rfl
        rw [hp];have hf:∀ X:Option (Int⊕(Unit⊕Bool)),(cond (decide ((i:Int)<zp l)) (Zb (idx l (i:Int)) λx48=>
Zb (zc8 x48) λy62=>
cond (!y62) (Ob (Sum.inr (Sum.inr Oc:Unit⊕Bool))) (cond (decide ((i:Int)>0)) (Zb (idx l (w64 ((i:Int)-1))) λx66=>
Zb (zc9 x66 x48) λy67=>
Zb (zV y67 1 1000000) λy68=>
cond (!y68) (Ob (.inr (.inr Oc))) (Ob (.inl (w64 ((i:Int)+1))))) (Ob (.inl (w64 ((i:Int)+1)))))) X)=cond (!zvA l i) (Ob (.inr (.inr Oc))) (Ob (.inl ((i+1:Nat):Int))):=λX=>by
          rw [e1,cond_true,zo S0 hlt,Zs,zmG,hs,Zs,e2,zf (n:=(i:Int)-1) J J,show (i:Int)-1=((i-1:Nat):Int) by omega,zo S0 J];simp only [Bool.not_true,cond_false,cond_true,Zs];rw [hsp,Zs,twithin,Zs,zy J];rfl
        cases hb:zvA l i with
        | false=>
          rw [Bool.false_and];refine Lp.done ?_;rw [hf,hb]; rfl
        | true=>
          rw [Bool.true_and];refine Lp.step (s':=((i+1:Nat):Int)) ?_ ih;rw [hf,hb]; rfl
theorem zyt {p:Plan} (hp:1<=p.1.length/\p.1.length<=300) (r:Rail):zfe p r=Ob (ziE p r):=by
 unfold zfe ziE;simp only [twithin,Zs,wnodes hp];have hc:∀ X Y:Option Bool,Zb (cond (!inB r.1 0 (p.1.length-1)) (Ob Od) (cond (!inB r.2.1 0 (p.1.length-1)) (Ob Od) (cond (decide (zp r.2.2.1>30)) (Ob Od) (cond (!inB r.2.2.2.1 1 50000) (Ob Od) (Ob (!inB r.2.2.2.2.1 (-120) 120)))))) (λc9=>cond c9 X Y)=if zmK p r then Y else X:=λX Y=>by
  unfold zmK;cases inB r.1 0 (p.1.length-1) with
  | false=>rfl
  | true=>
  cases inB r.2.1 0 (p.1.length-1) with
  | false=>rfl
  | true=>
  cases decide (zp r.2.2.1>30) with
  | true=>rfl
  | false=>
  cases inB r.2.2.2.1 1 50000 with
  | false=>rfl
  | true=>cases inB r.2.2.2.2.1 (-120) 120<;>rfl
 rw [hc];cases hh:zmK p r with
 | false=>rfl
 | true=>
  have hix:=zmL hh;have hlen:(zeF p r).length<=40/\1<=(zeF p r).length:=by rw [zhp]; have:=hix.s; omega
  rw [if_pos rfl,zs2 hix,Zs];have hL:=zn9 hlen.1 (zeF p r).length 0 J (λj hj=>by omega);rw [show ((0:Nat):Int)=0 from rfl] at hL;simp only [twithin,Zs] at hL;rw [hL.big Of,Zs,← List.range_eq_range',zys _ hlen.2];cases ((zeF p r).all zdn&&zmJ (zeF p r))<;>rfl
theorem zqi {p:Plan} {r:Rail} (hn:p.1.all nodeB=Od) (h:RIx p r):(zeF p r).all zdn=r.2.2.1.all zdn:=by
 have hsp:∀ i:Int,0<=i->i<p.1.length->zdn (nd p i).1=Od:=λi h0 h1=>by
  have hlt:i.toNat<p.1.length:=J
  have:nd p i=p.1[i.toNat]:=by unfold nd; simp [List.getD,hlt]
  rw [this];have:=List.all_eq_true.1 hn _ (List.getElem_mem hlt);unfold nodeB at this;simp only [Bool.and_eq_true] at this;exact this.1.1.1
 unfold zeF;rw [List.all_append,List.all_append];simp only [List.all_cons,List.all_nil,Bool.and_true];rw [hsp _ h.f.1 h.f.2,hsp _ h.t.1 h.t.2,Bool.and_true,Bool.true_and]
theorem zvB {l:List Spot} (h:l.all zdn=Od) (hl:1<=l.length/\l.length<=40):iter (σ:=Int) (τ:=Unit⊕Bool) (λs283=>
cond (decide (s283<zp l)) (Zb (idx l (w64 (s283-1))) λx290=>
Zb (idx l s283) λx291=>
Zb (zdu x290 x291) λy292=>
Zb (zah y292 1 1000000) λy293=>
cond (!y293) (Ob (.inr (.inr Oc))) (Ob (.inl (w64 (s283+1))))) (Ob (.inr (.inl ())))) big 1=Ob (if zmJ l then .inl () else .inr Oc):=by
 unfold zmJ;rw [zeD (s0:=(1:Int)) (λi=>((i+1:Nat):Int)) (l.length-1) (λi=>zvA l (i+1)) (.inr Oc) (.inl ()) rfl Of]
 . intro i hi;have hlt:i+1<l.length:=J
   rw [zQ hlt,cond_true,zf (n:=((i+1:Nat):Int)-1) J J,show ((i+1:Nat):Int)-1=(i:Int) by omega,zo S0 J,Zs,zo S0 hlt,Zs,zwu (zgx h J) (zgx h hlt),Zs,zsZ,Zs,zy J];show cond (!zvA l (i+1)) _ _=_;cases zvA l (i+1)<;>rfl
 . rw [show l.length-1+1=l.length by omega,zS,cond_false]
theorem zvC {p:Plan} (hp:1<=p.1.length/\p.1.length<=300) (hn:p.1.all nodeB=Od) {i:Nat} (hi:i<p.2.1.length) (hR:p.2.1.length<=400):(Zb (idx p.2.1 (i:Int)) λx234=>
Zb (zah x234.1 0 (w64 (zp p.1-1))) λy244=>
cond (!y244) (Ob (Sum.inr (Sum.inr Oc:Unit⊕Bool))) (Zb (zah x234.2.1 0 (w64 (zp p.1-1))) λy247=>
cond (!y247) (Ob (.inr (.inr Oc))) (cond (decide (zp x234.2.2.1>30)) (Ob (.inr (.inr Oc))) (Zb (zah x234.2.2.2.1 1 50000) λy252=>
cond (!y252) (Ob (.inr (.inr Oc))) (Zb (zah x234.2.2.2.2.1 (-120) 120) λy255=>
cond (!y255) (Ob (.inr (.inr Oc))) (Zb (iter (σ:=Int) (τ:=Unit⊕Bool) (λs261=>
cond (decide (s261<zp x234.2.2.1)) (Zb (idx x234.2.2.1 s261) λx264=>
Zb (zbC x264) λy265=>
cond (!y265) (Ob (.inr (.inr Oc))) (Ob (.inl (w64 (s261+1))))) (Ob (.inr (.inl ())))) big 0) λt267=>
alt (λb269=>Zb (zdt p (i:Int)) λy271=>
Zb (iter (σ:=Int) (τ:=Unit⊕Bool) (λs283=>
cond (decide (s283<zp y271)) (Zb (idx y271 (w64 (s283-1))) λx290=>
Zb (idx y271 s283) λx291=>
Zb (zdu x290 x291) λy292=>
Zb (zah y292 1 1000000) λy293=>
cond (!y293) (Ob (.inr (.inr Oc))) (Ob (.inl (w64 (s283+1))))) (Ob (.inr (.inl ())))) big 1) λt295=>
alt (λb297=>Ob (.inl (w64 ((i:Int)+1)))) (λb298=>Ob (.inr (.inr b298))) t295) (λb270=>Ob (.inr (.inr b270))) t267))))))=Ob (if ziE p p.2.1[i] then .inl ((i:Int)+1) else .inr (.inr Oc)):=by
 rw [zbY hi,Zs];have hrl:rl0 p (i:Int)=p.2.1[i]:=by unfold rl0; simp [List.getD,hi]
 rw [← hrl];obtain ⟨r,hr⟩:∃ r,r=rl0 p (i:Int):=⟨_,rfl⟩;rw [← hr];simp only [zsZ,Zs,wnodes hp];unfold ziE zmK;cases h1:inB r.1 0 (p.1.length-1) with
 | false=>rfl
 | true=>
 cases h2:inB r.2.1 0 (p.1.length-1) with
 | false=>rfl
 | true=>
 cases h3:decide (zp r.2.2.1>30) with
 | true=>rfl
 | false=>
 cases h4:inB r.2.2.2.1 1 50000 with
 | false=>rfl
 | true=>
 cases h5:inB r.2.2.2.2.1 (-120) 120 with
 | false=>rfl
 | true=>
 have hix:RIx p r:=zmL (by unfold zmK; rw [h1,h2,h3,h4,h5]; rfl);have hsl:=hix.s;simp only [Bool.not_true,cond_false,Bool.not_false,Bool.true_and];rw [zqi hn hix,zhm r.2.2.1 zdn Oc J]
 ·cases hs:r.2.2.1.all zdn with
  | false=>rfl
  | true=>
   simp only [if_true,Zs,zbw,Bool.true_and];have hq:=zvB (l:=zeF p r) (by rw [zqi hn hix]; exact hs) (by rw [zhp]; omega);simp only [zsZ,Zs] at hq;rw [zqg (i:=(i:Int)) J (by rw [← hr]; exact hix),← hr,Zs,hq,Zs];cases zmJ (zeF p r) with
   | false=>rfl
   | true=>
    simp only [if_true,zbw];rw [zf J J]
 ·intro j hj;rw [zQ hj,cond_true,zbY hj,Zs,zqf,Zs,zf J J];cases zdn r.2.2.1[j]<;>rfl
 ·rw [zS,cond_false]
def atS (p:Plan) (e:zl):Int:=if e.2.1 then (rl0 p e.1).2.1 else (rl0 p e.1).1
theorem ziF {p:Plan} {e:zl} (h:0<=e.1/\e.1<p.2.1.length):zcQ p e=Ob (atS p e)/\zfK p e=Ob (atS p e):=by
 unfold zcQ zfK atS;rw [zd7 (d:=(0,0,[],0,0,())) h.1 h.2];cases e.2.1<;>exact ⟨rfl,rfl⟩
def eOk (p:Plan) (i:Nat) (acc:List zl) (e:zl):Bool:=inB e.1 0 (p.2.1.length-1)&&((atS p e==(i:Int))&&!decide (e∈acc))
def zf4 (p:Plan) (i:Nat):List zl->List zl->Option (List zl)
 | [],acc=>Ob acc
 | e::es,acc=>if eOk p i acc e then zf4 p i es (acc++[e]) else Oe
def zh6 (p:Plan):List zcw->Nat->List zl->Option (List zl)
 | [],_,acc=>Ob acc
 | n::ns,i,acc=>match zf4 p i n.2.2.1 acc with
  | some acc'=>zh6 p ns (i+1) acc'
  | none=>Oe
def zvD (p:Plan):Bool:=match zh6 p p.1 0 [] with
 | some acc=>decide ((acc.length:Int)=2*p.2.1.length)
 | none=>Oc
def zaV (p:Plan):Bool:=inB (zp p.1) 1 300&&inB (zp p.2.1) 1 400&&(p.1.all nodeB&&p.2.1.all (ziE p))&&zvD p
theorem ziG {p:Plan} {i:Nat}:∀ {es acc acc':List zl},zf4 p i es acc=Ob acc'->acc'=acc++es
 | [],acc,acc',h=>by cases h; simp
 | e::es,acc,acc',h=>by
  unfold zf4 at h;split at h
  . rw [ziG h]; simp
  . cases h
theorem zs3 {A:Type} [DecidableEq A] (acc:List A) (e:A):(mget (acc.map λa=>(a,Od)) e).getD Oc=decide (e∈acc):=by
 induction acc with
 | nil=>rfl
 | cons a acc ih=>
  rw [List.map_cons,mget];by_cases h:e=a
  . rw [if_pos h,h]; simp
  . rw [if_neg h,ih]; simp [h]
theorem zqj {A B:Type} [DecidableEq A]:∀ (m:List (A×B)) (e:A) (v:B),mget m e=Oe->mset m e v=m++[(e,v)]
 | [],_,_,_=>rfl
 | (k,w)::es,e,v,h=>by
  rw [mget] at h;split at h
  . cases h
  . rename_i hk;rw [mset,if_neg hk,zqj es e v h]; rfl
theorem zs4 {A:Type} [DecidableEq A] (acc:List A) (e:A) (h:¬ e∈acc):mget (acc.map λa=>(a,Od)) e=Oe:=by
 induction acc with
 | nil=>rfl
 | cons a acc ih=>
  rw [List.mem_cons,not_or] at h;rw [List.map_cons,mget,if_neg h.1,ih h.2]
theorem wrails {p:Plan} (h:1<=p.2.1.length/\p.2.1.length<=400):w64 (zp p.2.1-1)=p.2.1.length-1:=by rw [zq,zf J J]
def mT (acc:List zl):List (zl×Bool):=acc.map λa=>(a,Od)
theorem zyu (acc:List zl) (e:zl) (h:¬ e∈acc):mset (mT acc) e Od=mT (acc++[e]):=by
 unfold mT;rw [zqj _ _ _ (zs4 acc e h),List.map_append]; rfl
theorem zlV {p:Plan} {i:Nat}:∀ (es acc:List zl) (k:Nat),match zf4 p i es acc with
    | some acc'=>zfz (λ_ acc e=>if eOk p i acc e then .inl (acc++[e]) else .inr (.inr (2,mT acc))) (λacc=>.inl (mT acc)) es k acc=(.inl (mT acc'):List (zl×Bool)⊕(Int×List (zl×Bool)))
    | none=>∃ m,zfz (λ_ acc e=>if eOk p i acc e then .inl (acc++[e]) else .inr (.inr (2,mT acc))) (λacc=>.inl (mT acc)) es k acc=(.inr (2,m):List (zl×Bool)⊕(Int×List (zl×Bool)))
  | [],acc,k=>rfl
  | e::es,acc,k=>by
    unfold zf4;rw [zfz];cases h:eOk p i acc e with
    | true=>
      simp only [if_true];exact zlV es (acc++[e]) (k+1)
    | false=>
      simp only [Bool.false_eq_true,if_false];exact ⟨_,rfl⟩
theorem zs5 {p:Plan} (hR:1<=p.2.1.length/\p.2.1.length<=400) (i:Nat) (es acc:List zl) (hes:es.length<=4) :
    iter (σ:=(Int×List (zl×Bool))) (τ:=List (zl×Bool)⊕(Int×List (zl×Bool))) (λs153=>
cond (decide (s153.1<zp es)) (Zb (idx es s153.1) λx156=>
Zb (zV x156.1 0 (w64 (zp p.2.1-1))) λy162=>
cond (!y162) (Ob (.inr (.inr (2,s153.2)))) (cond ((mget s153.2 x156).getD Oc) (Ob (.inr (.inr (2,s153.2)))) (Zb (zcQ p x156) λy167=>
cond (y167 !=(i:Int)) (Ob (.inr (.inr (2,s153.2)))) (Ob (.inl (w64 (s153.1+1),mset s153.2 x156 Od)))))) (Ob (.inr (.inl s153.2)))) big (0,mT acc)=Ob (zfz (λ_ acc e=>if eOk p i acc e then .inl (acc++[e]) else .inr (.inr (2,mT acc))) (λacc=>.inl (mT acc)) es 0 acc):=by
  rw [zc2 (s0:=((0:Int),mT acc)) es (λk acc=>((k:Int),mT acc)) (λ_ acc e=>if eOk p i acc e then .inl (acc++[e]) else .inr (.inr (2,mT acc))) (λacc=>.inl (mT acc)) (λ_ _=>True) acc rfl J trivial]
  · intro k hk acc _;refine ⟨?_,λ_ _=>trivial⟩;simp only [];rw [zQ hk,cond_true,zbY hk,Zs,twithin,Zs,wrails hR];obtain ⟨e,he⟩:∃ e,e=es[k]:=⟨_,rfl⟩;rw [← he];unfold eOk;cases h1:inB e.1 0 (p.2.1.length-1) with
    | false=>rfl
    | true=>
      have h1':=zar.1 h1;have hm:(mget (mT acc) e).getD Oc=decide (e∈acc):=(zs3 acc e).trans (decide_eq_decide.2 Iff.rfl);rw [hm,(ziF (p:=p) (e:=e) J).1];simp only [Bool.not_true,cond_false,Bool.true_and,Zs];by_cases h2:e∈acc
      · rw [decide_eq_true h2];cases (atS p e==(i:Int))<;>rfl
      · rw [decide_eq_false h2];simp only [cond_false,Bool.not_false,Bool.and_true,bne];cases h3:(atS p e==(i:Int)) with
        | false=>rfl
        | true=>
          simp only [Bool.not_true,cond_false,if_true];rw [zyu acc e h2,zy J]
  · intro acc _;simp only [];rw [zS,cond_false]
theorem zfh {n:zcw} (h:nodeB n=Od):n.2.2.1.length<=4:=by
 unfold nodeB at h;simp only [Bool.and_eq_true,beq_iff_eq] at h;have h1:=h.1.2;rw [zq] at h1;have:zh5 n.2.1<=4:=by
  unfold zh5;split
  . omega
  . split
    . omega
    . split
      . omega
      . split<;>omega
 omega
theorem zrk {p:Plan} (hN:1<=p.1.length/\p.1.length<=300) (hR:1<=p.2.1.length/\p.2.1.length<=400) (hn:p.1.all nodeB=Od) :
    (iter (σ:=(Int×List (zl×Bool))) (τ:=List (zl×Bool)⊕Int) (λs120=>
cond (decide (s120.1<zp p.1)) (Zb (idx p.1 s120.1) λx123=>
Zb (iter (σ:=(Int×List (zl×Bool))) (τ:=List (zl×Bool)⊕(Int×List (zl×Bool))) (λs153=>
cond (decide (s153.1<zp x123.2.2.1)) (Zb (idx x123.2.2.1 s153.1) λx156=>
Zb (zV x156.1 0 (w64 (zp p.2.1-1))) λy162=>
cond (!y162) (Ob (.inr (.inr (2,s153.2)))) (cond ((mget s153.2 x156).getD Oc) (Ob (.inr (.inr (2,s153.2)))) (Zb (zcQ p x156) λy167=>
cond (y167 !=s120.1) (Ob (.inr (.inr (2,s153.2)))) (Ob (.inl (w64 (s153.1+1),mset s153.2 x156 Od)))))) (Ob (.inr (.inl s153.2)))) big (0,s120.2)) λt169=>
alt (λb171=>Ob (.inl (w64 (s120.1+1),b171))) (λb172=>Ob (.inr (.inr b172.1))) t169) (Ob (.inr (.inl s120.2)))) big (0,([]:List (zl×Bool))))=Ob (match zh6 p p.1 0 [] with | some acc=>.inl (mT acc) | none=>.inr 2)/\∀ acc,zh6 p p.1 0 []=Ob acc->acc.length<=1200:=by
  have hfold:∀ (ns:List zcw) (i:Nat) (acc:List zl),zfz (λi acc (n:zcw)=>match zf4 p i n.2.2.1 acc with | some acc'=>.inl acc' | none=>.inr (.inr 2)) (λacc=>.inl (mT acc)) ns i acc=(match zh6 p ns i acc with | some acc=>.inl (mT acc) | none=>.inr 2:List (zl×Bool)⊕Int):=by
    intro ns;induction ns with
    | nil=>intro i acc; rfl
    | cons n ns ih=>
      intro i acc;rw [zfz,zh6];cases zf4 p i n.2.2.1 acc with
      | none=>rfl
      | some acc'=>exact ih (i+1) acc'
  have hlen:∀ (ns:List zcw) (i:Nat) (acc acc':List zl),ns.all nodeB=Od->zh6 p ns i acc=Ob acc'->acc'.length<=acc.length+4*ns.length:=by
    intro ns;induction ns with
    | nil=>intro i acc acc' _ h; cases h; simp
    | cons n ns ih=>
      intro i acc acc' hns h;rw [List.all_cons,Bool.and_eq_true] at hns;rw [zh6] at h;cases hs:zf4 p i n.2.2.1 acc with
      | none=>rw [hs] at h; cases h
      | some a=>
        rw [hs] at h;have h1:=ih (i+1) a acc' hns.2 h;have h2:=ziG hs;have h3:=zfh hns.1;rw [h2,List.length_append] at h1;rw [List.length_cons];omega
  refine ⟨?_,λacc h=>by have:=hlen p.1 0 [] acc hn h; simp only [List.length_nil] at this; omega⟩;rw [zc2 (s0:=((0:Int),([]:List (zl×Bool)))) p.1 (λk acc=>((k:Int),mT acc)) (λi acc (n:zcw)=>match zf4 p i n.2.2.1 acc with | some acc'=>.inl acc' | none=>.inr (.inr 2)) (λacc=>.inl (mT acc)) (λ_ _=>True) [] rfl J trivial]
  · rw [hfold]
  · intro i hi acc _;refine ⟨?_,λ_ _=>trivial⟩;simp only [];rw [zQ hi,cond_true,zbY hi,Zs,zs5 hR i _ acc (zfh (List.all_eq_true.1 hn _ (List.getElem_mem hi))),Zs];have:=zlV (p:=p) (i:=i) p.1[i].2.2.1 acc 0;cases hs:zf4 p i p.1[i].2.2.1 acc with
    | some acc'=>
      rw [hs] at this;simp only at this;rw [this,zbw,zy J]
    | none=>
      rw [hs] at this;obtain ⟨m,this⟩:=this;rw [this,zjf]
  · intro acc _;simp only [];rw [zS,cond_false]
theorem zmM (s:List zcw) (hs:s.length<=9223372036854775807) (f:zcw->Option Bool) (p:zcw->Bool) (hf:∀ x∈s,f x=Ob (p x)):zan s f=Ob (s.any p):=by
 obtain ⟨k,h1,h2⟩:=zfY s hs f p hf;unfold zan zaz;rw [h1,Zs,h2]
theorem zmN (s:List Rail) (hs:s.length<=9223372036854775807) (f:Rail->Option Bool) (p:Rail->Bool) (hf:∀ x∈s,f x=Ob (p x)):zao s f=Ob (s.any p):=by
 obtain ⟨k,h1,h2⟩:=zfY s hs f p hf;unfold zao zaA;rw [h1,Zs,h2]
theorem zs6 {A:Type} (l:List A) (p:A->Bool):(l.any λx=>!p x)=!l.all p:=by rw [List.any_eq_not_all_not]; simp
theorem zoa (p:Plan):zdL p=Ob (if zaV p then 0 else 2):=by
 unfold zdL zaV;rw [twithin,twithin];cases h1:inB (zp p.1) 1 300 with
 | false=>rfl
 | true=>
 cases h2:inB (zp p.2.1) 1 400 with
 | false=>rfl
 | true=>
 have hN:=zar.1 h1;have hR:=zar.1 h2;rw [zq] at hN hR;have hN:1<=p.1.length/\p.1.length<=300:=J
 have hR:1<=p.2.1.length/\p.2.1.length<=400:=J
 simp only [Zs,Bool.not_true,cond_false,Bool.true_and];rw [zmM p.1 J _ (λn=>!nodeB n) (λx _=>by unfold zfW; rw [zyo]; rfl),zs6,zmN p.2.1 J _ (λr=>!ziE p r) (λx _=>by unfold zez; rw [zyt hN]; rfl),zs6];cases h3:p.1.all nodeB with
 | false=>rfl
 | true=>
 cases h4:p.2.1.all (ziE p) with
 | false=>rfl
 | true=>
 simp only [Zs,Bool.not_true,cond_false,Bool.true_and];obtain ⟨n1,n2⟩:=zrk hN hR h3;rw [n1,Zs];unfold zvD;cases h5:zh6 p p.1 0 [] with
 | none=>rfl
 | some acc=>
  have hl:=n2 acc h5;simp only [zbw];have hm:(mT acc).length=acc.length:=by unfold mT; rw [List.length_map]
  unfold zu7;rw [hm,if_pos J,Zs,zq,zf (n:=2*(p.2.1.length:Int)) J J];show cond ((acc.length:Int)!=2*(p.2.1.length:Int)) (Ob 2) (Ob 0)=Ob (if decide ((acc.length:Int)=2*p.2.1.length)=Od then 0 else 2);by_cases hq:(acc.length:Int)=2*p.2.1.length
  . have:((acc.length:Int)!=2*(p.2.1.length:Int))=Oc:=by rw [bne_eq_false_iff_eq]; exact hq
    rw [this,if_pos (decide_eq_true hq)]; rfl
  . have:((acc.length:Int)!=2*(p.2.1.length:Int))=Od:=by rw [bne_iff_ne]; exact hq
    rw [this,if_neg (by rw [decide_eq_true_eq]; exact hq)]; rfl
theorem zvE (n:zcw) (T:Option (Int⊕(Unit⊕Bool))):(cond (n.2.1==5) (Zb (zah n.2.2.2.1 1 2) λy92=>
Zb (zbC n.1) λy105=>
cond (!y105) (Ob (.inr (.inr Oc))) (Zb (zaP n.2.1) λy108=>
cond (y108==0) (Ob (.inr (.inr Oc))) (Zb (zaP n.2.1) λy111=>
cond ((zp n.2.2.1)!=y111) (Ob (.inr (.inr Oc))) (cond (!y92) (Ob (.inr (.inr Oc))) T)))) (cond (n.2.1==6) (Zb (zah n.2.2.2.1 1 2) λy116=>
Zb (zbC n.1) λy129=>
cond (!y129) (Ob (.inr (.inr Oc))) (Zb (zaP n.2.1) λy132=>
cond (y132==0) (Ob (.inr (.inr Oc))) (Zb (zaP n.2.1) λy135=>
cond ((zp n.2.2.1)!=y135) (Ob (.inr (.inr Oc))) (cond (!y116) (Ob (.inr (.inr Oc))) T)))) (Zb (zbC n.1) λy151=>
cond (!y151) (Ob (.inr (.inr Oc))) (Zb (zaP n.2.1) λy154=>
cond (y154==0) (Ob (.inr (.inr Oc))) (Zb (zaP n.2.1) λy157=>
cond ((zp n.2.2.1)!=y157) (Ob (.inr (.inr Oc))) (cond (!(n.2.2.2.1==0)) (Ob (.inr (.inr Oc))) T))))))=cond (nodeB n) T (Ob (.inr (.inr Oc))):=by
 simp only [zsZ,zqf,zvz,Zs];unfold nodeB;have hb:∀ b1 b2 b3 b4:Bool,cond (!b1) (Ob (Sum.inr (Sum.inr Oc))) (cond b2 (Ob (.inr (.inr Oc))) (cond (!b3) (Ob (.inr (.inr Oc))) (cond (!b4) (Ob (.inr (.inr Oc))) T)))=cond (b1&&!b2&&b3&&b4) T (Ob (.inr (.inr Oc))):=by
  intro b1 b2 b3 b4;cases b1<;>cases b2<;>cases b3<;>cases b4<;>rfl
 unfold bne;by_cases h5:n.2.1=5
 . have e5:(n.2.1==5)=Od:=by simpa using h5
   rw [if_pos (.inl h5),e5,cond_true];exact hb _ _ _ _
 . have e5:(n.2.1==5)=Oc:=by simpa using h5
   rw [e5,cond_false];by_cases h6:n.2.1=6
   . have e6:(n.2.1==6)=Od:=by simpa using h6
     rw [if_pos (.inr h6),e6,cond_true];exact hb _ _ _ _
   . have e6:(n.2.1==6)=Oc:=by simpa using h6
     rw [if_neg J,e6,cond_false];exact hb _ _ _ _
theorem zkO {p:Plan} {i:Nat}:∀ (es acc:List zl) (k:Nat),zfz (λ_ acc e=>if eOk p i acc e then .inl (acc++[e]) else .inr (.inr Oc)) (λacc=>.inl acc) es k acc=(match zf4 p i es acc with | some acc'=>.inl acc' | none=>.inr Oc:List zl⊕Bool)
 | [],acc,k=>rfl
 | e::es,acc,k=>by
  unfold zf4;rw [zfz];cases h:eOk p i acc e with
  | true=>
   simp only [if_true];exact zkO es (acc++[e]) (k+1)
  | false=>rfl
theorem zvF (acc:List zl) (e:zl) (hl:acc.length<=100000):iter (σ:=Int) (τ:=Unit⊕Bool) (λs419=>
cond (decide (s419<zp acc)) (Zb (idx acc s419) λx423=>
cond (x423==e) (Ob (.inr (.inr Oc))) (Ob (.inl (w64 (s419+1))))) (Ob (.inr (.inl ())))) big 0=Ob (if decide (e∈acc) then .inr Oc else .inl ()):=by
 rw [zhm acc (λx=>!(x==e)) Oc J]
 . congr 1;have:(acc.all λx=>!(x==e))=!decide (e∈acc):=by
    rw [Bool.eq_iff_iff,Bool.not_eq_true',decide_eq_false_iff_not,List.all_eq_true];constructor
    . intro h hm;have:=h e hm;simp at this
    . intro h x hx;have:x≠e:=λq=>h (q▸hx);simpa using this
   rw [this];cases decide (e∈acc)<;>rfl
 . intro i h;rw [zQ h,cond_true,zbY h,Zs,zf J J];cases (acc[i]==e)<;>rfl
 . rw [zS,cond_false]
theorem zrl {p:Plan} (hR:1<=p.2.1.length/\p.2.1.length<=400) {i:Nat} (hi:i<p.1.length) (acc:List zl) (hes:p.1[i].2.2.1.length<=4) (hacc:acc.length<=5000) :
    iter (σ:=(List zl×Int)) (τ:=List zl⊕Bool) (λs400=>
Zb (idx p.1 (i:Int)) λx402=>
cond (decide (s400.2<zp x402.2.2.1)) (Zb (idx p.1 (i:Int)) λx404=>
Zb (idx x404.2.2.1 s400.2) λx405=>
Zb (zah x405.1 0 (w64 (zp p.2.1-1))) λy410=>
cond (!y410) (Ob (.inr (.inr Oc))) (Zb (zfK p x405) λy413=>
cond (y413 !=(i:Int)) (Ob (.inr (.inr Oc))) (Zb (iter (σ:=Int) (τ:=Unit⊕Bool) (λs419=>
cond (decide (s419<zp s400.1)) (Zb (idx s400.1 s419) λx423=>
cond (x423==x405) (Ob (.inr (.inr Oc))) (Ob (.inl (w64 (s419+1))))) (Ob (.inr (.inl ())))) big 0) λt425=>
alt (λb427=>Zb (zde 16 s400.1 ([x405])) λx429=>
Ob (.inl (x429,w64 (s400.2+1)))) (λb428=>Ob (.inr (.inr b428))) t425))) (Ob (.inr (.inl s400.1)))) big (acc,0)=Ob (match zf4 p i p.1[i].2.2.1 acc with | some acc'=>.inl acc' | none=>.inr Oc):=by
  rw [zc2 (s0:=(acc,(0:Int))) p.1[i].2.2.1 (λk acc=>(acc,(k:Int))) (λ_ acc e=>if eOk p i acc e then .inl (acc++[e]) else .inr (.inr Oc)) (λacc=>.inl acc) (λk acc=>acc.length<=5000+k) acc rfl J hacc]
  · rw [zkO]
  · intro k hk acc ha;simp only [];refine ⟨?_,λb' hb=>?_⟩
    · rw [zbY hi,Zs,zQ hk,cond_true,Zs,zbY hk,Zs,zsZ,Zs,wrails hR];obtain ⟨e,he⟩:∃ e,e=p.1[i].2.2.1[k]:=⟨_,rfl⟩;rw [← he];unfold eOk;cases h1:inB e.1 0 (p.2.1.length-1) with
      | false=>rfl
      | true=>
        have h1':=zar.1 h1;rw [(ziF (p:=p) (e:=e) J).2];simp only [Bool.not_true,cond_false,Bool.true_and,Zs,bne];cases h3:(atS p e==(i:Int)) with
        | false=>rfl
        | true=>
          simp only [Bool.not_true,cond_false,Bool.true_and];rw [zvF acc e J,Zs];by_cases h2:e∈acc
          · rw [if_pos (decide_eq_true h2),decide_eq_true h2]; rfl
          · rw [if_neg (by rw [decide_eq_true_eq]; exact h2),decide_eq_false h2];simp only [zbw,Bool.not_false,if_true];rw [zaK (by simp only [List.length_singleton]; omega),Zs,zy J]
    · split at hb
      · cases hb;rw [List.length_append,List.length_singleton]; omega
      · cases hb
  · intro acc _;simp only [];rw [zbY hi,Zs,zS,cond_false]
theorem zkP (p:Plan):zcE p=Ob (zaV p):=by
 unfold zcE zaV;rw [zsZ,zsZ];cases h1:inB (zp p.1) 1 300 with
 | false=>rfl
 | true=>
 cases h2:inB (zp p.2.1) 1 400 with
 | false=>rfl
 | true=>
 have hN:=zar.1 h1;have hR:=zar.1 h2;rw [zq] at hN hR;have hN:1<=p.1.length/\p.1.length<=300:=J
 have hR:1<=p.2.1.length/\p.2.1.length<=400:=J
 simp only [Zs,Bool.not_true,cond_false,Bool.true_and];rw [zhm p.1 nodeB Oc J];rotate_left
 ·intro i h;rw [zQ h,cond_true,zbY h,Zs,zvE,zf J J];cases nodeB p.1[i]<;>rfl
 ·rw [zS,cond_false]
 cases h3:p.1.all nodeB with
 | false=>rfl
 | true=>
 simp only [if_true,Zs,zbw,Bool.true_and];rw [zhm p.2.1 (ziE p) Oc J];rotate_left
 ·intro i h;rw [zQ h,cond_true];exact zvC hN h3 h hR.2
 ·rw [zS,cond_false]
 cases h4:p.2.1.all (ziE p) with
 | false=>rfl
 | true=>
 simp only [if_true,Zs,zbw,Bool.true_and];have hfold:∀ (ns:List zcw) (i:Nat) (acc:List zl),zfz (λi acc (n:zcw)=>match zf4 p i n.2.2.1 acc with | some acc'=>.inl acc' | none=>.inr (.inr Oc)) (λacc=>.inl acc) ns i acc=(match zh6 p ns i acc with | some acc=>.inl acc | none=>.inr Oc:List zl⊕Bool):=by
  intro ns;induction ns with
  | nil=>intro i acc; rfl
  | cons n ns ih=>
   intro i acc;rw [zfz,zh6];cases zf4 p i n.2.2.1 acc with
   | none=>rfl
   | some acc'=>exact ih (i+1) acc'
 rw [zc2 (s0:=(([]:List zl),(0:Int))) p.1 (λk acc=>(acc,(k:Int))) (λi acc (n:zcw)=>match zf4 p i n.2.2.1 acc with | some acc'=>.inl acc' | none=>.inr (.inr Oc)) (λacc=>.inl acc) (λk acc=>acc.length<=4*k) [] rfl J Ol];rotate_left
 ·intro i hi acc hacc;have hes:=zfh (List.all_eq_true.1 h3 _ (List.getElem_mem hi));simp only [];refine ⟨?_,λb' hb=>?_⟩
  ·rw [zQ hi,cond_true,zrl hR hi acc hes J,Zs];cases hs:zf4 p i p.1[i].2.2.1 acc with
   | none=>rfl
   | some acc'=>simp only [zbw]; rw [zy J]
  ·cases hs:zf4 p i p.1[i].2.2.1 acc with
   | none=>rw [hs] at hb; cases hb
   | some acc'=>
    rw [hs] at hb;cases hb;rw [ziG hs,List.length_append];omega
 ·intro acc _;simp only [];rw [zS,cond_false]
 rw [hfold,Zs];unfold zvD;cases h5:zh6 p p.1 0 [] with
 | none=>rfl
 | some acc=>
  simp only [zbw];rw [zq,zq,zf (n:=2*(p.2.1.length:Int)) J J];by_cases hq:(acc.length:Int)=2*p.2.1.length
  ·rw [hq]; simp
  ·rw [decide_eq_false hq];congr 1;simpa using hq
theorem zlW {A:Type} [DecidableEq A]:∀ {l m:List A},l.Nodup->(∀ x∈l,x∈m)->l.length<=m.length
 | [],_,_,_=>Nat.zero_le _
 | x::l,m,hn,hs=>by
  have hn':=List.nodup_cons.1 hn;have h1:∀ y∈l,y∈m.erase x:=λy hy=>(List.mem_erase_of_ne (λe=>hn'.1 (by rw [← e]; exact hy))).2 (hs y (List.mem_cons_of_mem _ hy));have h2:=zlW hn'.2 h1;have h3:=List.length_erase_of_mem (hs x List.mem_cons_self);have h4:0<m.length:=List.length_pos_of_mem (hs x List.mem_cons_self);simp only [List.length_cons];omega
theorem zpl {A:Type} [DecidableEq A] {l m:List A} (hn:l.Nodup) (hs:∀ x∈l,x∈m) (hl:m.length<=l.length) {y:A} (hy:y∈m):y∈l:=by
 apply Classical.byContradiction;intro h;have:=zlW (l:=y::l) (m:=m) (List.nodup_cons.2 ⟨h,hn⟩) (λx hx=>(List.mem_cons.1 hx).elim (λe=>e▸hy) (hs x));simp only [List.length_cons] at this;omega
theorem zlX {A B:Type} {f:A->List B}:∀ {l:List A},(l.flatMap f).Nodup->∀ x∈l,(f x).Nodup
 | [],_,x,hx=>by cases hx
 | y::l,h,x,hx=>by
  rw [List.flatMap_cons,List.nodup_append] at h;rcases List.mem_cons.1 hx with rfl | hx
  . exact h.1
  . exact zlX h.2.1 x hx
theorem zob {p:Plan} {i:Nat}:∀ {es acc acc':List zl},zf4 p i es acc=Ob acc'->acc.Nodup->acc'.Nodup/\∀ e∈es,(0<=e.1/\e.1<=p.2.1.length-1)/\atS p e=(i:Int)
 | [],acc,acc',h,hn=>by cases h; exact ⟨hn,λe he=>(nomatch he)⟩
 | e::es,acc,acc',h,hn=>by
  unfold zf4 at h;split at h
  . rename_i hk;unfold eOk at hk;simp only [Bool.and_eq_true,zar,beq_iff_eq,Bool.not_eq_true',decide_eq_false_iff_not] at hk;obtain ⟨k1,k2,k3⟩:=hk;have hn':(acc++[e]).Nodup:=by
     rw [List.nodup_append];refine ⟨hn,by simp,λa ha b hb=>?_⟩;rw [List.mem_singleton] at hb;subst hb;exact λq=>k3 (q▸ha)
    obtain ⟨h1,h2⟩:=zob h hn';refine ⟨h1,λx hx=>?_⟩;rcases List.mem_cons.1 hx with rfl | hx
    . exact ⟨k1,k2⟩
    . exact h2 x hx
  . cases h
theorem zoc {p:Plan}:∀ {ns:List zcw} {i:Nat} {acc acc':List zl},zh6 p ns i acc=Ob acc'->acc.Nodup->acc'=acc++ns.flatMap (λn=>n.2.2.1)/\acc'.Nodup/\∀ (k:Nat) (h:k<ns.length),∀ e∈ns[k].2.2.1,(0<=e.1/\e.1<=p.2.1.length-1)/\atS p e=((i+k:Nat):Int)
 | [],i,acc,acc',h,hn=>by cases h; exact ⟨by simp,hn,λk hk=>(nomatch hk)⟩
 | n::ns,i,acc,acc',h,hn=>by
  rw [zh6] at h;cases hs:zf4 p i n.2.2.1 acc with
  | none=>rw [hs] at h; cases h
  | some a=>
   rw [hs] at h;obtain ⟨a1,a2⟩:=zob hs hn;obtain ⟨b1,b2,b3⟩:=zoc h a1;refine ⟨?_,b2,λk hk e he=>?_⟩
   ·rw [b1,ziG hs]; simp
   ·cases k with
    | zero=>exact a2 e he
    | succ k=>
     have:=b3 k (by simpa using hk) e he;rw [show i+(k+1)=i+1+k by omega];exact this
structure ziH (p:Plan):Prop where
 n:1<=p.1.length/\p.1.length<=300
 r:1<=p.2.1.length/\p.2.1.length<=400
 nb:p.1.all nodeB=Od
 rb:p.2.1.all (ziE p)=Od
 at_:∀ (k:Nat) (h:k<p.1.length),∀ e∈p.1[k].2.2.1,(0<=e.1/\e.1<p.2.1.length)/\atS p e=(k:Int)
 ndp:(p.1.flatMap λn=>n.2.2.1).Nodup
 full:∀ e:zl,0<=e.1/\e.1<p.2.1.length->e∈p.1.flatMap λn=>n.2.2.1
def zAi (R:Nat):List zl:=(List.range R).flatMap λr:Nat=>[((r:Int),Oc,()),((r:Int),Od,())]
theorem zvG (R:Nat):(zAi R).length=2*R:=by
 induction R with
 | zero=>rfl
 | succ R ih=>
  unfold zAi at *
  rw [List.range_succ,List.flatMap_append,List.length_append,ih];simp;omega
theorem zqk {R:Nat} {e:zl}:e∈zAi R↔0<=e.1/\e.1<R:=by
 unfold zAi;simp only [List.mem_flatMap,List.mem_range,List.mem_cons,List.not_mem_nil,or_false];constructor
 . rintro ⟨r,hr,rfl | rfl⟩<;>simp only []<;>omega
 . obtain ⟨r,b,⟨⟩⟩:=e;simp only [];intro h;refine ⟨r.toNat,by omega, ?_⟩;have:(r.toNat:Int)=r:=J
   rw [this];cases b
   . exact .inl rfl
   . exact .inr rfl
theorem zdd {p:Plan} (h:zaV p=Od):ziH p:=by
 unfold zaV at h;simp only [Bool.and_eq_true,zar,zq] at h;obtain ⟨⟨⟨h1,h2⟩,h3,h4⟩,h5⟩:=h;unfold zvD at h5;cases hs:zh6 p p.1 0 [] with
 | none=>rw [hs] at h5; cases h5
 | some acc=>
  rw [hs] at h5;have h5:=of_decide_eq_true h5;obtain ⟨a1,a2,a3⟩:=zoc hs List.nodup_nil;rw [List.nil_append] at a1;subst a1;have hat:∀ (k:Nat) (h:k<p.1.length),∀ e∈p.1[k].2.2.1,(0<=e.1/\e.1<p.2.1.length)/\atS p e=(k:Int):=λk hk e he=>by
   obtain ⟨b1,b2⟩:=a3 k hk e he;rw [Nat.zero_add] at b2;exact ⟨⟨b1.1,by omega⟩,b2⟩
  refine ⟨by omega,by omega,h3,h4,hat,a2,λe he=>?_⟩;refine zpl (m:=zAi p.2.1.length) a2 (λx hx=>?_) (by rw [zvG]; omega) (zqk.2 he);obtain ⟨n,hn,hx⟩:=List.mem_flatMap.1 hx;obtain ⟨k,hk,rfl⟩:=List.getElem_of_mem hn;exact zqk.2 (hat k hk x hx).1
section
variable {p:Plan} (hp:ziH p)
include hp
theorem ziH.rail {i:Int} (hi:0<=i/\i<p.2.1.length):ziE p (rl0 p i)=Od:=by
 have hlt:i.toNat<p.2.1.length:=J
 have:rl0 p i=p.2.1[i.toNat]:=by unfold rl0; simp [List.getD,hlt]
 rw [this];exact List.all_eq_true.1 hp.rb _ (List.getElem_mem hlt)
theorem ziH.ix {i:Int} (hi:0<=i/\i<p.2.1.length):RIx p (rl0 p i):=by
 have:=hp.rail hi;unfold ziE at this;rw [Bool.and_eq_true] at this;exact zmL this.1
theorem ziH.at_bd {e:zl} (he:0<=e.1/\e.1<p.2.1.length):0<=atS p e/\atS p e<p.1.length:=by
 have:=hp.ix he;unfold atS;split
 . exact this.t
 . exact this.f
theorem ziH.nd_eq {i:Int} (hi:0<=i/\i<p.1.length):nd p i=p.1[i.toNat]'J:=by
 have _:=hp;have hlt:i.toNat<p.1.length:=J
 unfold Sx.nd;simp [List.getD,hlt]
theorem ziH.nodeB {i:Int} (hi:0<=i/\i<p.1.length):Sx.nodeB (Sx.nd p i)=Od:=by
 rw [hp.nd_eq hi];exact List.all_eq_true.1 hp.nb _ (List.getElem_mem _)
theorem ziH.mem {e:zl} (he:0<=e.1/\e.1<p.2.1.length):e∈(Sx.nd p (atS p e)).2.2.1:=by
 obtain ⟨n,hn,hx⟩:=List.mem_flatMap.1 (hp.full e he);obtain ⟨k,hk,rfl⟩:=List.getElem_of_mem hn;have h1:=(hp.at_ k hk e hx).2;rw [h1,hp.nd_eq J];exact hx
theorem ziH.ndn {i:Int} (hi:0<=i/\i<p.1.length):(Sx.nd p i).2.2.1.Nodup:=by
 rw [hp.nd_eq hi];exact zlX hp.ndp _ (List.getElem_mem _)
theorem ziH.spots {i:Int} (hi:0<=i/\i<p.2.1.length):(zeF p (rl0 p i)).all zdn=Od/\zmJ (zeF p (rl0 p i))=Od:=by
 have:=hp.rail hi;unfold ziE at this;simp only [Bool.and_eq_true] at this;exact this.2
theorem ziH.len {i:Int} (hi:0<=i/\i<p.2.1.length):1<=zyr (zeF p (rl0 p i))/\zyr (zeF p (rl0 p i))<=31000000:=by
 obtain ⟨h1,h2⟩:=hp.spots hi;have h3:=(hp.ix hi).s;have h4:=zhp p (rl0 p i);unfold zmJ at h2;have h5:∀ j,1<=j->j<1+((zeF p (rl0 p i)).length-1)->1<=zyq (zeF p (rl0 p i)) j/\zyq (zeF p (rl0 p i)) j<=1000000:=λj j1 j2=>by
  have:=List.all_eq_true.1 h2 (j-1) (List.mem_range.2 J);unfold zvA at this;rw [show j-1+1=j by omega] at this;exact zar.1 this
 have h6:=zjh (f:=zyq (zeF p (rl0 p i))) (B:=1000000) ((zeF p (rl0 p i)).length-1) 1 (λj j1 j2=>by have:=h5 j j1 j2; omega);unfold zyr;refine ⟨?_,by omega⟩;rw [show (zeF p (rl0 p i)).length-1=(rl0 p i).2.2.1.length+1 by omega,ziD];have:=h5 1 J J;have:=zjh (f:=zyq (zeF p (rl0 p i))) (B:=1000000) ((rl0 p i).2.2.1.length) (1+1) (λj j1 j2=>by have:=h5 j J J; omega);omega
end
theorem zs7 {xs:List Int} {i:Nat} (h:i+1<xs.length):((xs.set (i+1) (xs[i]'J)).set i xs[i+1]).Perm xs:=by
 induction i generalizing xs with
 | zero=>
  match xs,h with
  | a::b::t,_=>exact List.Perm.swap a b t
 | succ i ih=>
  match xs,h with
  | a::t,h=>
   simp only [List.length_cons] at h;simp only [List.set_cons_succ,List.getElem_cons_succ];exact List.Perm.cons a (ih J)
theorem zyv (a b:Int):∃ c:Bool,zbc a b=Ob c:=by
 unfold zbc;simp only [zbr,Zs];cases decide (a<b)<;>(try exact ⟨_,rfl⟩)<;>(by_cases h:a=a<;>simp)
theorem zvH {xs:List Int} (hl:xs.length<=1000):∃ ys,z9 xs 0 (zp xs)=Ob ys/\ys.Perm xs:=by
  have hin:∀ (j:Nat) (ys:List Int),j<ys.length->ys.length=xs.length->ys.Perm xs->Tot (λzs:List Int=>zs.Perm xs) (iter (σ:=(Int×List Int)) (τ:=List Int) (λs190=>
cond (decide (s190.1>0)) (Zb (idx s190.2 s190.1) λx201=>
Zb (idx s190.2 (w64 (s190.1-1))) λx202=>
Zb (zbc x201 x202) λy203=>
cond y203 (Zb (idx s190.2 (w64 (s190.1-1))) λx209=>
Zb (idx s190.2 s190.1) λx210=>
Zb (idx s190.2 s190.1) λx211=>
Zb (idx ((s190.2).set (Int.toNat s190.1) x209) (w64 (s190.1-1))) λx212=>
Ob (.inl (w64 (s190.1-1),((s190.2).set (Int.toNat s190.1) x209).set (Int.toNat (w64 (s190.1-1))) x210))) (Ob (.inr s190.2))) (Ob (.inr s190.2))) big (((j:Nat):Int),ys)):=by
    intro j ys hj hly hp;refine Tot.iter (λs:Int×List Int=>∃ k:Nat,s.1=(k:Int)/\k<s.2.length/\s.2.length=xs.length/\s.2.Perm xs) _ (λs=>s.1.toNat) ⟨j,rfl,hj,hly,hp⟩ Of ?_
    rintro ⟨s1,zs⟩ ⟨k,rfl,hk,hlz,hpz⟩
    simp only [] at hk hlz hpz ⊢;cases k with
    | zero=>exact Tot.some hpz
    | succ k=>
      rw [decide_eq_true (show ((k+1:Nat):Int)>0 by omega),cond_true,zbY hk,Zs,zf (n:=((k+1:Nat):Int)-1) J J,show ((k+1:Nat):Int)-1=(k:Int) by omega,zbY (show k<zs.length by omega),Zs];obtain ⟨c,hc⟩:=zyv zs[k+1] (zs[k]'J);rw [hc,Zs];cases c with
      | false=>exact Tot.some hpz
      | true=>
        simp only [cond_true,Zs,Int.toNat_natCast];rw [zbY (show k<(zs.set (k+1) (zs[k]'J)).length by rw [List.length_set]; omega),Zs];refine Tot.some ⟨⟨k,rfl, ?_, ?_, ?_⟩, ?_⟩
        · simp only [List.length_set]; omega
        · simp only [List.length_set]; exact hlz
        · exact (zs7 hk).trans hpz
        · simp only [Int.toNat_natCast]; omega
  unfold z9;have:Tot (λzs:List Int=>zs.Perm xs) (iter (σ:=(Int×List Int)) (τ:=List Int) (λs143=>
cond (decide (s143.1<zp xs)) (Zb (iter (σ:=(Int×List Int)) (τ:=List Int) (λs190=>
cond (decide (s190.1>0)) (Zb (idx s190.2 s190.1) λx201=>
Zb (idx s190.2 (w64 (s190.1-1))) λx202=>
Zb (zbc x201 x202) λy203=>
cond y203 (Zb (idx s190.2 (w64 (s190.1-1))) λx209=>
Zb (idx s190.2 s190.1) λx210=>
Zb (idx s190.2 s190.1) λx211=>
Zb (idx ((s190.2).set (Int.toNat s190.1) x209) (w64 (s190.1-1))) λx212=>
Ob (.inl (w64 (s190.1-1),((s190.2).set (Int.toNat s190.1) x209).set (Int.toNat (w64 (s190.1-1))) x210))) (Ob (.inr s190.2))) (Ob (.inr s190.2))) big (s143.1,s143.2)) λt214=>
Ob (.inl (w64 (s143.1+1),t214))) (Ob (.inr s143.2))) big (w64 (0+1),xs)):=by
    refine Tot.iter (λs:Int×List Int=>∃ k:Nat,s.1=(k:Int)/\s.2.length=xs.length/\s.2.Perm xs) _ (λs=>xs.length+1-s.1.toNat) ⟨1,rfl,rfl,List.Perm.refl _⟩ Of ?_
    rintro ⟨s1,zs⟩ ⟨k,rfl,hlz,hpz⟩
    simp only [] at hlz hpz ⊢;by_cases hk:k<xs.length
    · rw [zQ hk,cond_true];refine (hin k zs J hlz hpz).bind λys hys=>?_;refine Tot.some ⟨⟨k+1,zy J,hys.length_eq,hys⟩, ?_⟩;simp only [zy (show k<9223372036854775807 by omega),Int.toNat_natCast];omega
    · rw [decide_eq_false (show ¬ (k:Int)<zp xs by rw [zq]; omega)];exact Tot.some hpz
  obtain ⟨ys,h1,h2⟩:=this;exact ⟨ys,by rw [h1]; rfl,h2⟩
theorem zs8 (n:Nat) (h:n<=4):∃ k,zeB (IntKind.u64.wrap (n:Int))=Ob k:=by
 match n,h with
 | 0,_=>exact ⟨0,by kernel_rfl⟩
 | 1,_=>exact ⟨1,by kernel_rfl⟩
 | 2,_=>exact ⟨2,by kernel_rfl⟩
 | 3,_=>exact ⟨2,by kernel_rfl⟩
 | 4,_=>exact ⟨3,by kernel_rfl⟩
theorem zs9 {xs:List Int} (hl:xs.length<=4):∃ ys,zb4 xs=Ob ys/\ys.Perm xs:=by
 obtain ⟨k,hk⟩:=zs8 xs.length hl;obtain ⟨ys,h1,h2⟩:=zvH (xs:=xs) J;refine ⟨ys, ?_,h2⟩;unfold zb4;rw [show zp xs=(xs.length:Int) from rfl,hk,Zs];unfold zbs;have hL:Lp (λs11:Int×Int×Int×Bool×Bool×List Int=>
cond (decide (w64 (s11.2.1-s11.1)<=12)) (Zb (z9 s11.2.2.2.2.2 s11.1 s11.2.1) λy14=>
Ob (Sum.inr y14)) (cond (s11.2.2.1==0) Oe (cond (!s11.2.2.2.1) Oe Oe))) 0 (0,(xs.length:Int),k,Od,Od,xs) ys:=by
  refine Lp.done ?_;simp only [];rw [zf J J,decide_eq_true J,cond_true,show ((xs.length:Nat):Int)=zp xs from rfl,h1];rfl
 rw [hL.big Of];rfl
theorem zhC {A B:Type} [DecidableEq A] (v:B) (a b:A):∀ es:List (A×B),mget (mset es a v) b=if b=a then Ob v else mget es b
 | []=>rfl
 | (k,w)::es=>by
  rw [mset];by_cases h:a=k
  . subst h;rw [if_pos rfl,mget,mget];by_cases h2:b=a
    . rw [if_pos h2,if_pos h2]
    . rw [if_neg h2,if_neg h2,if_neg h2]
  . rw [if_neg h,mget,zhC v a b es,mget];by_cases h2:b=k
    . subst h2;rw [if_pos rfl,if_pos rfl,if_neg (λq=>h q.symm)]
    . rw [if_neg h2,if_neg h2]
theorem zod {A B:Type} [DecidableEq A]:∀ (L:List (A×B)) (m:List (A×B)) (e:A) (k:B),(L.map (·.1)).Nodup->(e,k)∈L->mget (L.foldl (λm x=>mset m x.1 x.2) m) e=Ob k
 | (a,v)::L,m,e,k,hn,h=>by
  rw [List.map_cons,List.nodup_cons] at hn;rw [List.foldl_cons];rcases List.mem_cons.1 h with q | q
  ·obtain ⟨q1,q2⟩:=Prod.mk.injEq ..▸q;subst q1 q2;have key:∀ (L:List (A×B)) (m:List (A×B)),e∉L.map (·.1)->mget (L.foldl (λm x=>mset m x.1 x.2) m) e=mget m e:=by
    intro L;induction L with
    | nil=>intro m _; rfl
    | cons y L ih=>
     intro m hne;rw [List.map_cons,List.mem_cons,not_or] at hne;rw [List.foldl_cons,ih _ hne.2,zhC,if_neg hne.1]
   rw [key L _ hn.1,zhC,if_pos rfl]
  ·exact zod L _ e k hn.2 q
def rlN {A:Type} (n:Nat) (f:Nat->A):List A:=(List.range n).map f
def ixE (n:zcw):List (zl×Int):=n.2.2.1.zipIdx.map λx=>(x.1,(x.2:Int))
def plS (p:Plan):List (zl×Int):=(p.1.flatMap ixE).foldl (λm x=>mset m x.1 x.2) []
def zgl (p:Plan) (i:Int):Int:=zyr (zeF p (rl0 p i))
def zpm (p:Plan):zbp:=((p.1,p.2.1,()),rlN p.2.1.length (λi=>zgl p (i:Int)),plS p,())
theorem zvI (n:zcw):(ixE n).map (·.1)=n.2.2.1:=by
 unfold ixE;rw [List.map_map];have:((λx:zl×Int=>x.1) ∘ λx:zl×Nat=>(x.1,(x.2:Int)))=λx=>x.1:=rfl;rw [this,List.zipIdx_map_fst]
theorem zyw {p:Plan} (hp:ziH p) {i k:Nat} (hi:i<p.1.length) (hk:k<p.1[i].2.2.1.length):mget (plS p) p.1[i].2.2.1[k]=Ob (k:Int):=by
 unfold plS;refine zod _ _ _ _ ?_ ?_
 . rw [List.map_flatMap];have:(p.1.flatMap λn=>(ixE n).map (·.1))=p.1.flatMap λn=>n.2.2.1:=by
    congr 1;funext n;exact zvI n
   rw [this];exact hp.ndp
 . refine List.mem_flatMap.2 ⟨p.1[i],List.getElem_mem hi, ?_⟩;unfold ixE;exact List.mem_map.2 ⟨(p.1[i].2.2.1[k],k),List.mem_zipIdx_iff_getElem?.2 (by simp [hk]),rfl⟩
theorem zpn (p:Plan):zdw p=Ob (if zaV p then (Ob (zpm p),Od) else (Oe,Oc)):=by
 unfold zdw;rw [zoa];cases hv:zaV p with
 | false=>rfl
 | true=>
 have hp:=zdd hv;have hN:=hp.n;have hR:=hp.r;simp only [if_true,Zs,show ((0:Int)!=0)=Oc from rfl,cond_false]
 -- the lengths
 rw [zc2 (s0:=((0:Int),([]:List Int))) p.2.1 (λk c=>((k:Int),c)) (λi c _=>(.inl (c++[zgl p (i:Int)]):List Int⊕List Int)) id (λk c=>c.length=k) [] rfl J rfl];rotate_left
 . intro i hi c hc;simp only [];refine ⟨?_,λb' hb=>by cases hb; rw [List.length_append,List.length_singleton,hc]⟩;have hrl:rl0 p (i:Int)=p.2.1[i]:=by unfold rl0; simp [List.getD,hi]
   have hix:=hp.ix (i:=(i:Int)) J;have hsp:=hp.spots (i:=(i:Int)) J;rw [zQ hi,cond_true,zbY hi,Zs,← hrl,zs2 hix,Zs,zqh hsp.1 (by rw [zhp]; have:=hix.s; omega) (sp:=λa b=>zc9 a b) (λa b=>zs1),Zs,zaK (by simp only [List.length_singleton]; omega),Zs,zy J];rfl
 . intro c _;simp only [];rw [zS,cond_false]; rfl
 have hlens:zfz (λi c (_:Rail)=>(.inl (c++[zgl p (i:Int)]):List Int⊕List Int)) id p.2.1 0 []=rlN p.2.1.length (λi=>zgl p (i:Int)):=by
  have key:∀ (l:List Rail) (i:Nat) (c:List Int),zfz (λi c (_:Rail)=>(.inl (c++[zgl p (i:Int)]):List Int⊕List Int)) id l i c=c++(List.range' i l.length).map (λi:Nat=>zgl p (i:Int)):=by
   intro l;induction l with
   | nil=>intro i c; simp [zfz]
   | cons x l ih=>
    intro i c;rw [zfz];exact (ih (i+1) _).trans (by rw [List.length_cons,List.range'_succ,List.map_cons,List.append_assoc]; rfl)
  rw [key,List.nil_append,← List.range_eq_range']; rfl
 rw [hlens,Zs]
 -- the places
 rw [zc2 (s0:=((0:Int),([]:List (zl×Int)))) p.1 (λk c=>((k:Int),c)) (λ_ c n=>(.inl ((ixE n).foldl (λm x=>mset m x.1 x.2) c):List (zl×Int)⊕List (zl×Int))) id (λ_ _=>True) [] rfl J trivial];rotate_left
 . intro i hi c _;simp only [];refine ⟨?_,λ_ _=>trivial⟩;have hes:=zfh (List.all_eq_true.1 hp.nb _ (List.getElem_mem hi));rw [zQ hi,cond_true,zbY hi,Zs];rw [zc2 (s0:=((0:Int),c)) p.1[i].2.2.1 (λk c=>((k:Int),c)) (λk c e=>(.inl (mset c e (k:Int)):List (zl×Int)⊕List (zl×Int))) id (λ_ _=>True) c rfl J trivial]
   . rw [zkK (λk c e=>mset c e (k:Int)) id,Zs,zy J];unfold ixE;rw [List.foldl_map]; rfl
   . intro k hk c _;simp only [];refine ⟨?_,λ_ _=>trivial⟩;rw [zQ hk,cond_true,zbY hk,Zs,zy J]
   . intro c _;simp only [];rw [zS,cond_false]; rfl
 . intro c _;simp only [];rw [zS,cond_false]; rfl
 rw [zfL (λc n=>(ixE n).foldl (λm x=>mset m x.1 x.2) c) id,Zs];have hpl:p.1.foldl (λc n=>(ixE n).foldl (λm x=>mset m x.1 x.2) c) []=plS p:=by
  unfold plS;rw [List.foldl_flatMap]
 rw [hpl];rfl
def zji (n:zcw) (a b:Int):Bool:=
 if n.2.1=2 then a !=b else if n.2.1=3 then a !=b&&((a+b).tmod 2==0) else if n.2.1=4 then (a==0&&decide (b>0))||(decide (a>0)&&b==0)
 else if n.2.1=5 then (a==0&&b==n.2.2.2.1)||(decide (a>0)&&b==0) else if n.2.1=6 then (a==0&&b==n.2.2.2.1)||(a==n.2.2.2.1&&b==0) else Oc
theorem zvJ (n:zcw) {a b:Int} (ha:0<=a/\a<=10) (hb:0<=b/\b<=10):zfa n a b=Ob (zji n a b):=by
 unfold zfa zji;by_cases h2:n.2.1=2
 . rw [h2]; rfl
 by_cases h3:n.2.1=3
 . rw [h3];simp only [show ((3:Int)==2)=Oc from rfl,show ((3:Int)==3)=Od from rfl,cond_false,cond_true,show ¬ (3:Int)=2 by decide,if_false,if_true];rw [zf J J];cases (a !=b)<;>rfl
 by_cases h4:n.2.1=4
 . rw [h4];simp only [show ((4:Int)==2)=Oc from rfl,show ((4:Int)==3)=Oc from rfl,show ((4:Int)==4)=Od from rfl,cond_false,cond_true,show ¬ (4:Int)=2 by decide,show ¬ (4:Int)=3 by decide,if_false,if_true];cases (a==0)<;>cases decide (b>0)<;>cases decide (a>0)<;>cases (b==0)<;>rfl
 by_cases h5:n.2.1=5
 . rw [h5];simp only [show ((5:Int)==2)=Oc from rfl,show ((5:Int)==3)=Oc from rfl,show ((5:Int)==4)=Oc from rfl,show ((5:Int)==5)=Od from rfl,cond_false,cond_true,show ¬ (5:Int)=2 by decide,show ¬ (5:Int)=3 by decide,show ¬ (5:Int)=4 by decide,if_false,if_true];cases (a==0)<;>cases (b==n.2.2.2.1)<;>cases decide (a>0)<;>cases (b==0)<;>rfl
 by_cases h6:n.2.1=6
 . rw [h6];simp only [show ((6:Int)==2)=Oc from rfl,show ((6:Int)==3)=Oc from rfl,show ((6:Int)==4)=Oc from rfl,show ((6:Int)==5)=Oc from rfl,show ((6:Int)==6)=Od from rfl,cond_false,cond_true,show ¬ (6:Int)=2 by decide,show ¬ (6:Int)=3 by decide,show ¬ (6:Int)=4 by decide,show ¬ (6:Int)=5 by decide,if_false,if_true];cases (a==0)<;>cases (b==n.2.2.2.1)<;>cases (a==n.2.2.2.1)<;>cases (b==0)<;>rfl
 rw [if_neg h2,if_neg h3,if_neg h4,if_neg h5,if_neg h6];have e2:(n.2.1==2)=Oc:=by simpa using h2
 have e3:(n.2.1==3)=Oc:=by simpa using h3
 have e4:(n.2.1==4)=Oc:=by simpa using h4
 have e5:(n.2.1==5)=Oc:=by simpa using h5
 have e6:(n.2.1==6)=Oc:=by simpa using h6
 rw [e2,e3,e4,e5,e6]; rfl
theorem zyx {n:zcw} (h:nodeB n=Od):n.2.1=1\/n.2.1=2\/n.2.1=3\/n.2.1=4\/n.2.1=5\/n.2.1=6:=by
 unfold nodeB at h;simp only [Bool.and_eq_true,bne_iff_ne] at h;have h1:=h.1.1.2;apply Classical.byContradiction;intro q;exact h1 (zkN J)
theorem zyy {n:zcw} (hn:nodeB n=Od) {a b:Int} (ha:0<=a/\a<=10) (hb:0<=b/\b<=10):zby (n,()) a b=Ob (zji n a b):=by
 unfold zby zji;rcases zyx hn with h | h | h | h | h | h
 . rw [h]; rfl
 . rw [h]; rfl
 . rw [h];show Zb (zb3 (n,()) a b) _=_;unfold zb3;rw [zf J J];cases (a !=b)<;>rfl
 . rw [h];show Zb (zcr (n,()) a b) _=_;unfold zcr;have e:(a !=b&&((a==0)||(b==0)))=((a==0&&decide (b>0))||(decide (a>0)&&b==0)):=by
    rw [Bool.eq_iff_iff];simp only [Bool.and_eq_true,Bool.or_eq_true,bne_iff_ne,beq_iff_eq,decide_eq_true_eq];omega
   simp only [show ¬ (4:Int)=2 by decide,show ¬ (4:Int)=3 by decide,if_false,if_true];rw [← e];cases (a !=b)<;>cases (a==0)<;>rfl
 . rw [h];show Zb (zbJ (n,()) a b) _=_;unfold zbJ;have e:((a !=0&&b==0)||(a==0&&b==n.2.2.2.1))=((a==0&&b==n.2.2.2.1)||(decide (a>0)&&b==0)):=by
    rw [Bool.eq_iff_iff];simp only [Bool.and_eq_true,Bool.or_eq_true,bne_iff_ne,beq_iff_eq,decide_eq_true_eq];omega
   simp only [show ¬ (5:Int)=2 by decide,show ¬ (5:Int)=3 by decide,show ¬ (5:Int)=4 by decide,if_false,if_true];rw [← e];cases (a !=0)<;>cases (b==0)<;>cases (a==0)<;>rfl
 . rw [h];show Zb (zbK (n,()) a b) _=_;unfold zbK;simp only [show ¬ (6:Int)=2 by decide,show ¬ (6:Int)=3 by decide,show ¬ (6:Int)=4 by decide,show ¬ (6:Int)=5 by decide,if_false,if_true];cases (a==0)<;>cases (b==n.2.2.2.1)<;>cases (a==n.2.2.2.1)<;>rfl
end Go.Ai.Sx