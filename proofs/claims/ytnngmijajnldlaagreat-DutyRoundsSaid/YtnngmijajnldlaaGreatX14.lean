/- Motion: what is as defined. -/
import Derived.Test.YtnngmijajnldlaaGreatX12
import Derived.Test.YtnngmijajnldlaaGreatX13
import Derived.KernelRfl
import Derived.Test.YtnngmijajnldlaaGreatX7
set_option linter.unusedSimpArgs false
set_option linter.unusedVariables false
set_option linter.unusedSectionVars false
open Option renaming some→Ob,none→Oe
open Bool renaming false→Oc,true→Od
open Option renaming bind->Zb,bind_some->Zs
namespace Go.Ai.Sx
def inB (n a b:Int):Bool:=decide (a<=n)&&decide (n<=b)
theorem zas {n a b:Int}:inB n a b=Od↔a<=n/\n<=b:=by
 unfold inB;rw [Bool.and_eq_true,decide_eq_true_eq,decide_eq_true_eq]
theorem zhu (n a b:Int):(Zb (cond (decide (n>=a)) (Ob (decide (n<=b))) (Ob Oc)) λc2=>Ob c2)=Ob (inB n a b):=by
 unfold inB;by_cases h:a<=n<;>simp [h]
theorem mwithin (n a b:Int):zW n a b=Ob (inB n a b):=zhu n a b
theorem zgj {A:Type} (s:List A) (hs:s.length<=9223372036854775807) (f:A->Option Bool) (p:A->Bool) (hf:∀ x∈s,f x=Ob (p x)) :
    ∃ k:Int,(Zb (iter (σ:=Int) (τ:=Unit⊕Int) (λs5=>
cond (decide (s5<zq s)) (Zb (idx s s5) λx8=>
Zb (f x8) λy9=>
cond y9 (Ob (.inr (.inr s5))) (Ob (.inl (w64 (s5+1))))) (Ob (.inr (.inl ())))) big 0) λt11=>
alt (λb13=>Ob (-1)) (λb14=>Ob b14) t11)=Ob k/\decide (k>=0)=s.any p:=by
  rw [zgI s.length (λi:Nat=>match s[i]? with | some x=>if p x then Ob (i:Int) else Oe | none=>Oe) Of]
  · cases h:(List.range s.length).findSome? (λi:Nat=>match s[i]? with | some x=>if p x then Ob (i:Int) else Oe | none=>Oe) with
    | none=>
      simp only [Zs,alt];refine ⟨-1,rfl, ?_⟩;have:s.any p=Oc:=by
        rw [List.any_eq_false];intro x hx hp;obtain ⟨i,hi,rfl⟩:=List.getElem_of_mem hx;rw [List.findSome?_eq_none_iff] at h;have:=h i (List.mem_range.2 hi);rw [List.getElem?_eq_getElem hi] at this;simp only [hp,if_true] at this;cases this
      rw [this];rfl
    | some k=>
      simp only [Zs,alt];refine ⟨k,rfl, ?_⟩;obtain ⟨i,hi,h2⟩:=List.exists_of_findSome?_eq_some h;have hi:=List.mem_range.1 hi;rw [List.getElem?_eq_getElem hi] at h2;simp only [] at h2;split at h2
      · rename_i hp;cases h2;rw [decide_eq_true (Int.natCast_nonneg i)];exact (List.any_eq_true.2 ⟨_,List.getElem_mem hi,hp⟩).symm
      · cases h2
  · intro i hi;rw [decide_eq_true (show (i:Int)<zq s by rw [zo]; omega),cond_true,zd2 hi,Zs,hf _ (List.getElem_mem hi),Zs,List.getElem?_eq_getElem hi];simp only [];rw [zk J J];cases p s[i]<;>rfl
  · rw [decide_eq_false (show ¬ (s.length:Int)<zq s by rw [zo]; omega),cond_false]
theorem znT (s:List Int) (hs:s.length<=9223372036854775807) (f:Int->Option Bool) (p:Int->Bool) (hf:∀ x∈s,f x=Ob (p x)):zJ s f=Ob (s.any p):=by
 obtain ⟨k,h1,h2⟩:=zgj s hs f p hf;unfold zJ za6;rw [h1,Zs,h2]
def trB (t:Train):Bool:=inB t.1 1000 80000&&inB t.2.1 1 60000&&inB t.2.2.1 1 25000&&inB t.2.2.2.1 1 200000&&inB t.2.2.2.2.1 1 200000&&inB t.2.2.2.2.2.1 1 2000000&&inB t.2.2.2.2.2.2.1 0 100000&&inB t.2.2.2.2.2.2.2.1 0 10000&&inB t.2.2.2.2.2.2.2.2.1 0 100&&(inB t.2.2.2.2.2.2.2.2.2.1.length 1 8&&t.2.2.2.2.2.2.2.2.2.1.all λg=>inB g 1 1000)
theorem zu8 (t:Train):zdV t=Ob (if trB t then 0 else 2):=by
 unfold zdV trB;simp only [mwithin,Zs,zo];cases inB t.1 1000 80000
 . rfl
 cases inB t.2.1 1 60000
 . rfl
 cases inB t.2.2.1 1 25000
 . rfl
 cases inB t.2.2.2.1 1 200000
 . rfl
 cases inB t.2.2.2.2.1 1 200000
 . rfl
 cases inB t.2.2.2.2.2.1 1 2000000
 . rfl
 cases inB t.2.2.2.2.2.2.1 0 100000
 . rfl
 cases inB t.2.2.2.2.2.2.2.1 0 10000
 . rfl
 cases inB t.2.2.2.2.2.2.2.2.1 0 100
 . rfl
 cases hl:inB (t.2.2.2.2.2.2.2.2.2.1.length:Int) 1 8
 . rfl
 have hl:=zas.1 hl;simp only [Bool.not_true,cond_false,Zs,Bool.true_and];rw [znT _ J _ (λg=>!inB g 1 1000) (λx _=>by unfold zfc; rw [mwithin]; rfl)];simp only [Zs];rw [List.any_eq_not_all_not];simp only [Bool.not_not];cases t.2.2.2.2.2.2.2.2.2.1.all λg=>inB g 1 1000<;>rfl
structure zk9 (t:Train):Prop where
 m:1000<=t.1/\t.1<=80000
 len:1<=t.2.1/\t.2.1<=60000
 sp:1<=t.2.2.1/\t.2.2.1<=25000
 ef:1<=t.2.2.2.1/\t.2.2.2.1<=200000
 br:1<=t.2.2.2.2.1/\t.2.2.2.2.1<=200000
 po:1<=t.2.2.2.2.2.1/\t.2.2.2.2.2.1<=2000000
 re:0<=t.2.2.2.2.2.2.1/\t.2.2.2.2.2.2.1<=100000
 ri:0<=t.2.2.2.2.2.2.2.1/\t.2.2.2.2.2.2.2.1<=10000
 ba:0<=t.2.2.2.2.2.2.2.2.1/\t.2.2.2.2.2.2.2.2.1<=100
 gl:1<=(t.2.2.2.2.2.2.2.2.2.1.length:Int)/\(t.2.2.2.2.2.2.2.2.2.1.length:Int)<=8
 gr:∀ g∈t.2.2.2.2.2.2.2.2.2.1,1<=g/\g<=1000
theorem zsA {t:Train}:trB t=Od↔zk9 t:=by
 unfold trB;simp only [Bool.and_eq_true,zas,List.all_eq_true];constructor
 . rintro ⟨⟨⟨⟨⟨⟨⟨⟨⟨a,b⟩,c⟩,d⟩,e⟩,f⟩,g⟩,h⟩,i⟩,j,k⟩
   exact ⟨a,b,c,d,e,f,g,h,i,j,k⟩
 . rintro ⟨a,b,c,d,e,f,g,h,i,j,k⟩
   exact ⟨⟨⟨⟨⟨⟨⟨⟨⟨a,b⟩,c⟩,d⟩,e⟩,f⟩,g⟩,h⟩,i⟩,j,k⟩
def Lp {σ τ:Type} (f:σ->Option (σ⊕τ)) (N:Nat) (s:σ) (t:τ):Prop:=iter f (N+1) s=Ob t
theorem Lp.done {σ τ:Type} {f:σ->Option (σ⊕τ)} {N:Nat} {s:σ} {t:τ} (h:f s=Ob (.inr t)):Lp f N s t:=by
 unfold Lp;simp only [iter,h]
theorem Lp.step {σ τ:Type} {f:σ->Option (σ⊕τ)} {N:Nat} {s s':σ} {t:τ} (h:f s=Ob (.inl s')) (h2:Lp f N s' t):Lp f (N+1) s t:=by
 unfold Lp at *
 rw [iter,h];exact h2
theorem znU {σ τ:Type} {f:σ->Option (σ⊕τ)}:∀ {n m:Nat} {s:σ} {t:τ},n<=m->iter f n s=Ob t->iter f m s=Ob t
 | 0,_,_,_,_,h=>by cases h
 | n+1,0,_,_,hm,_=>by omega
 | n+1,m+1,s,t,hm,h=>by
  rw [iter] at h ⊢;cases hs:f s with
  | none=>rw [hs] at h; cases h
  | some r=>
   rw [hs] at h;cases r with
   | inl s'=>exact znU (n:=n) J h
   | inr t'=>exact h
theorem Lp.big {σ τ:Type} {f:σ->Option (σ⊕τ)} {N:Nat} {s:σ} {t:τ} (h:Lp f N s t) (hN:N<big):iter f big s=Ob t:=znU J h
def zgk {A β τ:Type} (st:Nat->β->A->β⊕τ) (fin:β->τ):List A->Nat->β->τ
 | [],_,b=>fin b
 | a::l,i,b=>match st i b a with
  | .inl b'=>zgk st fin l (i+1) b'
  | .inr t=>t
theorem ze5 {A β σ τ:Type} {f:σ->Option (σ⊕τ)} (l:List A) (mk:Nat->β->σ) (st:Nat->β->A->β⊕τ) (fin:β->τ) (I:Nat->β->Prop) (b0:β) {s0:σ} (hs:mk 0 b0=s0) (hl:l.length<=9223372036854775807) (h0:I 0 b0)
    (hf:∀ (i:Nat) (h:i<l.length) (b:β),I i b->f (mk i b)=Ob (match st i b l[i] with | .inl b'=>.inl (mk (i+1) b') | .inr t=>.inr t)/\∀ b',st i b l[i]=.inl b'->I (i+1) b')
    (he:∀ b,I l.length b->f (mk l.length b)=Ob (.inr (fin b))):iter f big s0=Ob (zgk st fin l 0 b0):=by
  subst hs;have key:∀ (k i:Nat) (b:β),i+k=l.length->I i b->Lp f k (mk i b) (zgk st fin (l.drop i) i b):=by
    intro k;induction k with
    | zero=>
      intro i b hi hb;have:i=l.length:=J
      subst this;rw [List.drop_length];exact Lp.done (he b hb)
    | succ k ih=>
      intro i b hi hb;have hlt:i<l.length:=J
      obtain ⟨h1,h2⟩:=hf i hlt b hb;rw [List.drop_eq_getElem_cons hlt,zgk];cases hst:st i b l[i] with
      | inl b'=>
        rw [hst] at h1;exact Lp.step h1 (ih (i+1) b' J (h2 b' hst))
      | inr t=>
        rw [hst] at h1;exact Lp.done h1
  have:=key l.length 0 b0 J h0;rw [List.drop_zero] at this;exact this.big (by simp only [Sx.big]; omega)
theorem zkH {A β τ:Type} (g:Nat->β->A->β) (fin:β->τ):∀ (l:List A) (i:Nat) (b:β),zgk (λi b a=>(.inl (g i b a):β⊕τ)) fin l i b=fin ((l.zipIdx i).foldl (λb x=>g x.2 b x.1) b)
 | [],i,b=>rfl
 | a::l,i,b=>by
  rw [zgk];exact (zkH g fin l (i+1) (g i b a)).trans (by rw [List.zipIdx_cons,List.foldl_cons])
theorem zi8 {A β τ:Type} (g:β->A->β) (fin:β->τ):∀ (l:List A) (i:Nat) (b:β),zgk (λ_ b a=>(.inl (g b a):β⊕τ)) fin l i b=fin (l.foldl g b)
 | [],i,b=>rfl
 | a::l,i,b=>by
  rw [zgk];exact (zi8 g fin l (i+1) (g b a)).trans (by rw [List.foldl_cons])
theorem za5 {A:Type} {l:List A} {i:Nat} (h:i<l.length):decide ((i:Int)<zq l)=Od:=decide_eq_true (by rw [zo]; omega)
theorem zba {A:Type} {l:List A}:decide ((l.length:Int)<zq l)=Oc:=decide_eq_false (by rw [zo]; omega)
theorem z7 {i:Nat} (h:i<9223372036854775807):w64 ((i:Int)+1)=((i+1:Nat):Int):=by rw [zk J J]; omega
theorem zkI {σ τ:Type} {f:σ->Option (σ⊕τ)} (emb:Nat->σ) (N:Nat) (p:Nat->Bool) (r0 r1:τ) {s0:σ} (h0:emb 0=s0) (hN:N<big) (hf:∀ i:Nat,i<N->f (emb i)=Ob (if p i then .inl (emb (i+1)) else .inr r0)) (he:f (emb N)=Ob (.inr r1)) :
    iter f big s0=Ob (if (List.range N).all p then r1 else r0):=by
  subst h0;have key:∀ k n i:Nat,i+k=N->k<n->iter f n (emb i)=Ob (if (List.range' i k).all p then r1 else r0):=by
    intro k;induction k with
    | zero=>
      intro n i hi hn;obtain ⟨n,rfl⟩:∃ q,n=q+1:=⟨n-1,by omega⟩;have:i=N:=J
      subst this;simp only [iter,he];simp
    | succ k ih=>
      intro n i hi hn;obtain ⟨n,rfl⟩:∃ q,n=q+1:=⟨n-1,by omega⟩;simp only [iter,hf i J,List.range'_succ,List.all_cons];cases hg:p i with
      | true=>
        simp only [if_true,Bool.true_and];exact ih n (i+1) J J
      | false=>rfl
  have:=key N big 0 J hN;rw [List.range_eq_range'];exact this
theorem zzO {A:Type} (a b c e:A):idx [a,b,c,e] 2=Ob c:=rfl
theorem zzP {A:Type} (a b c e:A):idx [a,b,c,e] 3=Ob e:=rfl
theorem zez {a b A B:Int} (ha:0<=a/\a<=A) (hb:0<=b/\b<=B):0<=a*b/\a*b<=A*B:=⟨Int.mul_nonneg ha.1 hb.1,Int.mul_le_mul ha.2 hb.2 hb.1 J⟩
theorem zwa {a b A B:Int} (ha:0<=a/\a<=A) (hb:-B<=b/\b<=B):-(A*B)<=a*b/\a*b<=A*B:=by
 by_cases h:0<=b
 . have:=zez ha ⟨h,hb.2⟩;omega
 . have:=zez (b:=-b) (B:=B) ha ⟨by omega,by omega⟩;rw [Int.mul_neg] at this;omega
theorem zea {a b:Int} (ha:0<=a/\a<=9223372036854775807) (hb:0<b):zf6 .i64 a b=Ob (a/b):=by
 unfold zf6;rw [if_neg J,Int.tdiv_eq_ediv_of_nonneg ha.1];have h1:0<=a/b:=Int.ediv_nonneg ha.1 J;have h2:a/b<=a:=Int.ediv_le_self _ ha.1;exact congrArg Ob (zk J J)
theorem zkJ {a b A:Int} (ha:0<=a/\a<=A*b) (hb:0<b):0<=a/b/\a/b<=A:=
 ⟨Int.ediv_nonneg ha.1 J,by
  have:=Int.ediv_le_ediv hb ha.2;rwa [Int.mul_ediv_cancel _ J] at this⟩
theorem zsB {a A:Int} {b:Int} (hb:0<b) (ha:-(A*b)<=a/\a<=A*b):-A<=a.tdiv b/\a.tdiv b<=A:=by
 by_cases h:0<=a
 . rw [Int.tdiv_eq_ediv_of_nonneg h];have:=zkJ (A:=A) ⟨h,ha.2⟩ hb;omega
 . have e:a.tdiv b=-((-a).tdiv b):=by rw [Int.neg_tdiv,Int.neg_neg]
   rw [e,Int.tdiv_eq_ediv_of_nonneg J];have:=zkJ (a:=-a) (A:=A) ⟨by omega,by omega⟩ hb;omega
section
variable (t:Train) (st:Int)
def zwb:Int:=t.2.2.2.2.2.2.2.2.2.1.getD st.toNat 0*t.1*981/100000
def zgK (v d:Int):Int:=if d<=0 then 0 else if v>0 then min (min (t.2.2.2.1*d/4) (zwb t st)) (1000*t.2.2.2.2.2.1/v) else min (t.2.2.2.1*d/4) (zwb t st)
def zeh (d:Int):Int:=if d>=0 then 0 else min (t.2.2.2.2.1*(-d)/4) (zwb t st)
def zhB (v:Int):Int:=t.2.2.2.2.2.2.1+t.2.2.2.2.2.2.2.1*v/1000
def zgU (s:Int):Int:=(t.1*s*981).tdiv 100000
def zkK (v d s:Int):Int:=zgK t st v d-zeh t st d-zhB t v-zgU t s
end
structure zCj (t:Train) (st v d s:Int):Prop where
 st:0<=st/\st<t.2.2.2.2.2.2.2.2.2.1.length
 v:0<=v/\v<=25000
 d:-4<=d/\d<=4
 s:-120<=s/\s<=120
section
variable {t:Train} {st v d s:Int} (ht:zk9 t) (h:zCj t st v d s)
include ht h
theorem zxR:1<=t.2.2.2.2.2.2.2.2.2.1.getD st.toNat 0/\t.2.2.2.2.2.2.2.2.2.1.getD st.toNat 0<=1000:=by
 have h1:=h.st;have hlt:st.toNat<t.2.2.2.2.2.2.2.2.2.1.length:=J
 have:t.2.2.2.2.2.2.2.2.2.1.getD st.toNat 0=t.2.2.2.2.2.2.2.2.2.1[st.toNat]:=by simp [List.getD,hlt]
 rw [this];exact ht.gr _ (List.getElem_mem hlt)
theorem zzQ:zbq (t,st,())=Ob (zwb t st)/\zf6 .i64 (w64 (w64 (t.2.2.2.2.2.2.2.2.2.1.getD st.toNat 0*t.1)*981)) 100000=Ob (zwb t st)/\0<=zwb t st/\zwb t st<=784800:=by
 have h1:=h.st;have hg:=zxR ht h;have hm:=ht.m;have b1:=zez (a:=t.2.2.2.2.2.2.2.2.2.1.getD st.toNat 0) (b:=t.1) (A:=1000) (B:=80000) ⟨by omega,hg.2⟩ ⟨by omega,hm.2⟩;have e1:zf6 .i64 (w64 (w64 (t.2.2.2.2.2.2.2.2.2.1.getD st.toNat 0*t.1)*981)) 100000=Ob (zwb t st):=by
  rw [zk (n:=t.2.2.2.2.2.2.2.2.2.1.getD st.toNat 0*t.1) J J,zk J J,zea J J];rfl
 refine ⟨?_,e1,zkJ (A:=784800) ⟨by omega,by omega⟩ J⟩;unfold zbq;simp only [];rw [zaV (d:=0) h1.1 h1.2,Zs,e1,Zs]
theorem zBI (hd:0<d):zf6 .i64 (w64 (t.2.2.2.1*d)) 4=Ob (t.2.2.2.1*d/4)/\0<=t.2.2.2.1*d/4/\t.2.2.2.1*d/4<=200000:=by
 have h1:=h.d;have b1:=zez (a:=t.2.2.2.1) (b:=d) (A:=200000) (B:=4) ⟨by have:=ht.ef; omega,ht.ef.2⟩ ⟨by omega,h1.2⟩;refine ⟨?_,zkJ (A:=200000) ⟨by omega,by omega⟩ J⟩;rw [zk J J,zea J J]
theorem zBJ (hd:d<0):zf6 .i64 (w64 (t.2.2.2.2.1*w64 (0-d))) 4=Ob (t.2.2.2.2.1*(-d)/4)/\0<=t.2.2.2.2.1*(-d)/4/\t.2.2.2.2.1*(-d)/4<=200000:=by
 have h1:=h.d;have b1:=zez (a:=t.2.2.2.2.1) (b:=-d) (A:=200000) (B:=4) ⟨by have:=ht.br; omega,ht.br.2⟩ ⟨by omega,by omega⟩;refine ⟨?_,zkJ (A:=200000) ⟨by omega,by omega⟩ J⟩;rw [zk (n:=0-d) J J,show (0:Int)-d=-d by omega,zk J J,zea J J]
theorem zBK (hv:0<v):zf6 .i64 (w64 (1000*t.2.2.2.2.2.1)) v=Ob (1000*t.2.2.2.2.2.1/v)/\0<=1000*t.2.2.2.2.2.1/v:=by
 have _:=h;have:=ht.po;refine ⟨?_,Int.ediv_nonneg J J⟩;rw [zk J J,zea J J]
theorem zsC:zbg (t,st,()) v d s=Ob (zgK t st v d)/\0<=zgK t st v d/\zgK t st v d<=200000:=by
 obtain ⟨a1,_,a2,a3⟩:=zzQ ht h;unfold zbg zgK;by_cases hd:d<=0
 . rw [decide_eq_true hd,if_pos hd];exact ⟨rfl,by omega,by omega⟩
 . obtain ⟨e1,e2,e3⟩:=zBI ht h J;rw [decide_eq_false hd,if_neg hd,cond_false];simp only [];rw [e1,Zs,a1,Zs];by_cases hv:v>0
   . obtain ⟨p1,p2⟩:=zBK ht h hv;rw [decide_eq_true hv,if_pos hv,cond_true,p1,Zs];exact ⟨rfl,by omega,by omega⟩
   . rw [decide_eq_false hv,if_neg hv];exact ⟨rfl,by omega,by omega⟩
theorem zo0:za8 (t,st,()) v d s=Ob (zeh t st d)/\0<=zeh t st d/\zeh t st d<=200000:=by
 obtain ⟨a1,_,a2,a3⟩:=zzQ ht h;unfold za8 zeh;by_cases hd:d>=0
 . rw [decide_eq_true hd,if_pos hd];exact ⟨rfl,by omega,by omega⟩
 . obtain ⟨e1,e2,e3⟩:=zBJ ht h J;rw [decide_eq_false hd,if_neg hd,cond_false];simp only [];rw [e1,Zs,a1,Zs];exact ⟨rfl,by omega,by omega⟩
theorem zxS:zf6 .i64 (w64 (t.2.2.2.2.2.2.2.1*v)) 1000=Ob (t.2.2.2.2.2.2.2.1*v/1000)/\w64 (t.2.2.2.2.2.2.1+t.2.2.2.2.2.2.2.1*v/1000)=zhB t v/\0<=zhB t v/\zhB t v<=350000:=by
 have b1:=zez (a:=t.2.2.2.2.2.2.2.1) (b:=v) (A:=10000) (B:=25000) ht.ri h.v;have b2:=zkJ (a:=t.2.2.2.2.2.2.2.1*v) (A:=250000) (b:=1000) ⟨by omega,by omega⟩ J;have b3:=ht.re;unfold zhB;refine ⟨?_,zk J J,by omega,by omega⟩;rw [zk J J,zea J J]
theorem zzR:zbF (t,st,()) v d s=Ob (zhB t v):=by
 obtain ⟨e1,e2,_⟩:=zxS ht h;unfold zbF;simp only [];rw [e1,Zs,e2]
theorem zxT:zf6 .i64 (w64 (w64 (t.1*s)*981)) 100000=Ob (zgU t s)/\-94176<=zgU t s/\zgU t s<=94176:=by
 have hs:=h.s;have b1:=zwa (a:=t.1) (b:=s) (A:=80000) (B:=120) ⟨by have:=ht.m; omega,ht.m.2⟩ ⟨by omega,by omega⟩;have b2:-94176<=zgU t s/\zgU t s<=94176:=zsB (a:=t.1*s*981) (A:=94176) (b:=100000) J ⟨by omega,by omega⟩;refine ⟨?_,b2⟩;rw [zk (n:=t.1*s) J J,zk J J];unfold zf6;rw [if_neg J];show Ob (w64 (zgU t s))=Ob (zgU t s);rw [zk J J]
theorem zzS:zbG (t,st,()) v d s=Ob (zgU t s):=by
 unfold zbG;simp only [];rw [(zxT ht h).1,Zs]
theorem zBL:zcz (t,st,()) v d s=Ob [zgK t st v d,zeh t st d,zhB t v,zgU t s]:=by
 unfold zcz;have hL:Lp (λs11:Int×List Int=>
  cond (decide (s11.1<4)) (Zb (idx ([(λx=>zbg (t,st,()) x.1 x.2.1 x.2.2),(λx=>za8 (t,st,()) x.1 x.2.1 x.2.2),(λx=>zbF (t,st,()) x.1 x.2.1 x.2.2),(λx=>zbG (t,st,()) x.1 x.2.1 x.2.2)]:List ((Int×Int×Int)->Option Int)) s11.1) λx14=>
  Zb (x14 (v,d,s)) λy15=>
  Zb (idx s11.2 s11.1) λx16=>
  Ob (Sum.inl (w64 (s11.1+1),(s11.2).set (Int.toNat s11.1) y15))) (Ob (Sum.inr s11.2))) 4 (0,List.replicate 4 (0:Int)) [zgK t st v d,zeh t st d,zhB t v,zgU t s]:=by
  refine Lp.step (s':=(1,[zgK t st v d,0,0,0])) ?_ (Lp.step (s':=(2,[zgK t st v d,zeh t st d,0,0])) ?_ (Lp.step (s':=(3,[zgK t st v d,zeh t st d,zhB t v,0])) ?_ (Lp.step (s':=(4,[zgK t st v d,zeh t st d,zhB t v,zgU t s])) ?_ (Lp.done ?_))))
  . show Zb (zbg (t,st,()) v d s) _=_;rw [(zsC ht h).1]; rfl
  . show Zb (za8 (t,st,()) v d s) _=_;rw [(zo0 ht h).1]; rfl
  . simp only [decide_eq_true (show (2:Int)<4 by omega),cond_true,zzO,Zs,zzR ht h];rfl
  . simp only [decide_eq_true (show (3:Int)<4 by omega),cond_true,zzP,Zs,zzS ht h];rfl
  . rfl
 rw [hL.big Of];rfl
end
def qS (t:Train) (st:Int) (x:ze) (d s:Int):Int:=x.1+100*zkK t st (x.1/t.1) d s
def zqS (t:Train) (st:Int) (x:ze) (d s:Int):Bool:=decide (qS t st x d s<0)||(x.1==0&&decide (zkK t st (x.1/t.1) d s<=0))
def zfO (t:Train) (st:Int) (x:ze) (d s:Int):zbl×Bool:=
 if zqS t st x d s then (((0,x.2.1,()),(0,0,0,0,0,x.1*x.1,()),(1000*t.1-1)/(1000*t.1),0,()),Od)
 else (((qS t st x d s,x.2.1+qS t st x d s,()),(200*zgK t st (x.1/t.1) d*qS t st x d s,200*zeh t st d*qS t st x d s,200*zhB t (x.1/t.1)*qS t st x d s,200*zgU t s*qS t st x d s,10000*zkK t st (x.1/t.1) d s*zkK t st (x.1/t.1) d s,0,()),
  (zgK t st (x.1/t.1) d*qS t st x d s+1000*t.1-1)/(1000*t.1),zeh t st d*qS t st x d s*t.2.2.2.2.2.2.2.2.1/(100000*t.1),()),decide (qS t st x d s<=25000*t.1))
structure zsD (t:Train) (x:ze):Prop where
 p:0<=x.1/\x.1<=25000*t.1
 w:0<=x.2.1/\x.2.1<=4000000000000000000
structure ztR (t:Train) (st d s:Int):Prop where
 st:0<=st/\st<t.2.2.2.2.2.2.2.2.2.1.length
 d:-4<=d/\d<=4
 s:-120<=s/\s<=120
theorem ztR.v {t:Train} {st d s:Int} (ht:zk9 t) (h:ztR t st d s) {x:ze} (hx:zsD t x):zCj t st (x.1/t.1) d s:=
 ⟨h.st,zkJ ⟨hx.p.1,hx.p.2⟩ (by have:=ht.m; omega),h.d,h.s⟩
section
variable {t:Train} {st d s:Int} {x:ze} (ht:zk9 t) (h:ztR t st d s) (hx:zsD t x)
include ht h hx
theorem zsE:zbu (t,st,()) x=Ob (x.1/t.1)/\zf6 .i64 x.1 t.1=Ob (x.1/t.1):=by
 have _:=h;have hm:=ht.m;have hp:=hx.p;have e:zf6 .i64 x.1 t.1=Ob (x.1/t.1):=zea ⟨hp.1,by omega⟩ J;refine ⟨?_,e⟩;unfold zbu;simp only [];rw [e,Zs]
omit h in
theorem zkL (st:Int):z5 (t,st,()) x=Ob (x.2.1/(10*t.1))/\zgJ t x=Ob (x.2.1/(10*t.1)):=by
 have hm:=ht.m;have hw:=hx.w;have e:zf6 .i64 x.2.1 (w64 (10*t.1))=Ob (x.2.1/(10*t.1)):=by
  rw [zk J J];exact zea ⟨hw.1,by omega⟩ J
 unfold z5 zgJ;simp only [];rw [e,Zs];exact ⟨rfl,rfl⟩
theorem zwc:-644176<=zkK t st (x.1/t.1) d s/\zkK t st (x.1/t.1) d s<=294176:=by
 have h4:=h.v ht hx;have a:=(zsC ht h4).2;have b:=(zo0 ht h4).2;have c:=(zxS ht h4).2.2;have e:=(zxT ht h4).2;unfold zkK;omega
theorem zCF:qS t st x d s<=2029417600:=by
 have:=zwc ht h hx;have hm:=ht.m;have hp:=hx.p;unfold qS;omega
theorem zpP:zaI (t,st,()) x d s=Ob (zfO t st x d s):=by
 have h4:=h.v ht hx;obtain ⟨a1,a2,a3⟩:=zsC ht h4;obtain ⟨b1,b2,b3⟩:=zo0 ht h4;obtain ⟨_,_,c2,c3⟩:=zxS ht h4;obtain ⟨_,e2,e3⟩:=zxT ht h4;have hn:=zwc ht h hx;have hq:=zCF ht h hx;have hm:=ht.m;have hb:=ht.ba;have hp:=hx.p;have hw:=hx.w;unfold zaI;rw [(zsE ht h hx).1,Zs,zBL ht h4,Zs];simp only [show ∀ (a b c e:Int),idx [a,b,c,e] 0=Ob a from λ_ _ _ _=>rfl,show ∀ (a b c e:Int),idx [a,b,c,e] 1=Ob b from λ_ _ _ _=>rfl,show ∀ (a b c e:Int),idx [a,b,c,e] 2=Ob c from λ_ _ _ _=>rfl,show ∀ (a b c e:Int),idx [a,b,c,e] 3=Ob e from λ_ _ _ _=>rfl,Zs];have w1:w64 (w64 (w64 (zgK t st (x.1/t.1) d-zeh t st d)-zhB t (x.1/t.1))-zgU t s)=zkK t st (x.1/t.1) d s:=by
  unfold zkK;rw [zk (n:=zgK t st (x.1/t.1) d-zeh t st d) J J,zk (n:=_-zhB t (x.1/t.1)) J J,zk J J]
 have w2:w64 (x.1+w64 (100*zkK t st (x.1/t.1) d s))=qS t st x d s:=by
  unfold qS;rw [zk (n:=100*_) J J,zk J J]
 have w3:w64 (1000*t.1)=1000*t.1:=zk J J;have w4:w64 (25000*t.1)=25000*t.1:=zk J J;have w5:w64 (100000*t.1)=100000*t.1:=zk J J;have w6:w64 (x.1*x.1)=x.1*x.1:=by
  have:=zez (a:=x.1) (b:=x.1) (A:=2000000000) (B:=2000000000) ⟨hp.1,by omega⟩ ⟨hp.1,by omega⟩;exact zk J J
 simp only [w1,w2,w3,w4,w5,w6];unfold zfO;have hst:(cond (decide (qS t st x d s<0)) (Ob Od) (cond (x.1==0) (Ob (decide (zkK t st (x.1/t.1) d s<=0))) (Ob Oc)):Option Bool)=Ob (zqS t st x d s):=by
  unfold zqS;cases decide (qS t st x d s<0)<;>cases (x.1==0)<;>rfl
 rw [hst,Zs];cases hs:zqS t st x d s with
 | true=>
  simp only [cond_true,if_true,Int.mul_zero,Int.zero_mul,Int.add_zero,show w64 0=0 from rfl];rw [zk (n:=(0:Int)+1000*t.1) J J,Int.zero_add,zk (n:=1000*t.1-1) J J,zea J J,Zs,zea J J,Zs,zk (n:=x.2.1) J J,decide_eq_true J,Int.zero_ediv]
 | false=>
  have hq0:0<=qS t st x d s:=by
   unfold zqS at hs;simp only [Bool.or_eq_false_iff,decide_eq_false_iff_not] at hs;omega
  have m1:=zez (a:=zgK t st (x.1/t.1) d) (b:=qS t st x d s) ⟨a2,a3⟩ ⟨hq0,hq⟩;have m2:=zez (a:=zeh t st d) (b:=qS t st x d s) ⟨b2,b3⟩ ⟨hq0,hq⟩;have m3:=zez (a:=zhB t (x.1/t.1)) (b:=qS t st x d s) ⟨c2,c3⟩ ⟨hq0,hq⟩;have m4:=zwa (a:=qS t st x d s) (b:=zgU t s) (B:=94176) ⟨hq0,hq⟩ ⟨e2,e3⟩;rw [Int.mul_comm (qS t st x d s) (zgU t s)] at m4;have m5:=zez (a:=zeh t st d*qS t st x d s) (b:=t.2.2.2.2.2.2.2.2.1) ⟨m2.1,m2.2⟩ hb;have m6:-414962718976000<=zkK t st (x.1/t.1) d s*zkK t st (x.1/t.1) d s/\zkK t st (x.1/t.1) d s*zkK t st (x.1/t.1) d s<=414962718976000:=by
   by_cases q:0<=zkK t st (x.1/t.1) d s
   ·have:=zez (a:=zkK t st (x.1/t.1) d s) (b:=zkK t st (x.1/t.1) d s) (A:=644176) (B:=644176) ⟨q,by omega⟩ ⟨q,by omega⟩;omega
   ·have:=zez (a:=-zkK t st (x.1/t.1) d s) (b:=-zkK t st (x.1/t.1) d s) (A:=644176) (B:=644176) ⟨by omega,by omega⟩ ⟨by omega,by omega⟩;rw [Int.neg_mul_neg] at this;omega
  simp only [cond_false,Bool.false_eq_true,if_false];rw [zk (n:=zgK t st (x.1/t.1) d*qS t st x d s) J J,zk (n:=_+1000*t.1) J J,zk (n:=_-1) J J,zea J J,Zs,
   zk (n:=zeh t st d*qS t st x d s) J J,zk (n:=zeh t st d*qS t st x d s*t.2.2.2.2.2.2.2.2.1) J J,zea J J,Zs,
   zk (n:=x.2.1+_) J J,zk (n:=200*zgK t st (x.1/t.1) d) J J,zk (n:=200*zeh t st d) J J,zk (n:=200*zhB t (x.1/t.1)) J J,zk (n:=200*zgU t s) J J,zk (n:=10000*zkK t st (x.1/t.1) d s) J J,
   zk (n:=200*zgK t st (x.1/t.1) d*qS t st x d s) Oh Oh,zk (n:=200*zeh t st d*qS t st x d s) Oh Oh,zk (n:=200*zhB t (x.1/t.1)*qS t st x d s) Oh Oh,zk (n:=200*zgU t s*qS t st x d s) Oh Oh,zk (n:=10000*zkK t st (x.1/t.1) d s*zkK t st (x.1/t.1) d s) Oh Oh]
end
section
variable {a b:Train} (ha:zk9 a) (hb:zk9 b)
include ha hb
end
def brk (t:Train) (st:Int) (sl:ze->Int):Nat->ze->List ze
 | 0,_=>[]
 | n+1,x=>if x.1=0 then [] else if (zfO t st x (-4) (sl x)).2 then (zfO t st x (-4) (sl x)).1.1::brk t st sl n (zfO t st x (-4) (sl x)).1.1 else []
def zmH {σ τ X:Type} (g:σ->X->σ⊕τ):σ->List X->σ⊕τ
 | s,[]=>.inl s
 | s,y::l=>match g s y with
  | .inl s'=>zmH g s' l
  | .inr t=>.inr t
theorem zkM {t:Train} {st d s:Int} {x:ze} (ht:zk9 t) (h:ztR t st d s) (hx:0<=x.1/\x.1<=25000*t.1) (hw:0<=x.2.1/\x.2.1<=4000000000000000000) (hok:(zfO t st x d s).2=Od) :
 (0<=(zfO t st x d s).1.1.1/\(zfO t st x d s).1.1.1<=25000*t.1)/\(zfO t st x d s).1.1.2.1=x.2.1+(zfO t st x d s).1.1.1:=by
 have hm:=ht.m;unfold zfO at *
 split
 . simp only []; omega
 . rename_i hs;rw [if_neg hs] at hok;have hok:qS t st x d s<=25000*t.1:=of_decide_eq_true hok;unfold zqS at hs;simp only [Bool.or_eq_true,decide_eq_true_eq,not_or] at hs;exact ⟨⟨by show 0<=qS t st x d s; omega,hok⟩,rfl⟩
theorem zo1 {σ τ:Type} {t:Train} {st:Int} {sl:ze->Int} {f:ze->Option Int} {step:σ->ze->Option (σ⊕τ)} {g:σ->ze->σ⊕τ} {W:Int} (ht:zk9 t) (hst:0<=st/\st<t.2.2.2.2.2.2.2.2.2.1.length) (hW:W<=4000000000000000000)
    (hf:∀ y:ze,0<=y.1/\y.1<=25000*t.1->0<=y.2.1/\y.2.1<=W->f y=Ob (sl y)/\-120<=sl y/\sl y<=120)
    (hg:∀ s (y:ze),0<=y.1/\y.1<=25000*t.1->0<=y.2.1/\y.2.1<=W->step s y=Ob (g s y))
    (s0:σ) (x:ze) (hx:0<=x.1/\x.1<=25000*t.1) (hw:0<=x.2.1/\x.2.1+72000000000000<=W) :
    ∃ z,zbe step s0 x (t,st,()) f=Ob (zmH g s0 (brk t st sl 36000 x),z):=by
  unfold zbe;have key:∀ (n k:Nat) (s:σ) (p w:Int),k+n=36000->0<=p/\p<=25000*t.1->0<=w/\w+2000000000*n<=W ->
      ∃ T:((σ⊕τ)×Int×Int)⊕((σ⊕τ)×Int×Int),Lp (λs20:Int×(σ⊕τ)×Int×Int=>
cond (decide (s20.1<36000)) (cond (s20.2.2.1==0) (Ob (.inr (.inr (s20.2.1,s20.2.2.1,s20.2.2.2)))) (Zb (f (s20.2.2.1,s20.2.2.2,())) λy24=>
Zb (zaI (t,st,()) (s20.2.2.1,s20.2.2.2,()) (-4) y24) λy25=>
cond (!y25.2) (Ob (.inr (.inr (s20.2.1,s20.2.2.1,s20.2.2.2)))) (Zb (goL s20.2.1) λs28=>
Zb (step s28 y25.1.1) λy29=>
cond (!(y29).isLeft) (Ob (.inr (.inr (y29,y25.1.1.1,y25.1.1.2.1)))) (Ob (.inl (w64 (s20.1+1),y29,y25.1.1.1,y25.1.1.2.1)))))) (Ob (.inr (.inl (s20.2.1,s20.2.2.1,s20.2.2.2))))) n ((k:Int),.inl s,p,w) T/\(match T with | .inl b=>b.1 | .inr b=>b.1)=zmH g s (brk t st sl n (p,w,())):=by
    intro n;induction n with
    | zero=>
      intro k s p w hk hp hw;have:k=36000:=J
      subst this;exact ⟨.inl (.inl s,p,w),Lp.done rfl,rfl⟩
    | succ n ih=>
      intro k s p w hk hp hw;by_cases h0:p=0
      · subst h0;refine ⟨.inr (.inl s,0,w),Lp.done ?_, ?_⟩
        · simp only [decide_eq_true (show (k:Int)<36000 by omega),cond_true]; rfl
        · unfold brk;rw [if_pos (show ((0,w,()):ze).1=0 from rfl)]; rfl
      · obtain ⟨f1,f2,f3⟩:=hf (p,w,()) hp ⟨hw.1,by show w<=W; omega⟩;have hfin:ztR t st (-4) (sl (p,w,())):=⟨hst,by omega,⟨f2,f3⟩⟩;have hso:zsD t (p,w,()):=⟨hp,⟨hw.1,by show w<=_; omega⟩⟩;have hp0:(p==0)=Oc:=by simpa using h0
        have hm:=ht.m;unfold brk;rw [if_neg (show ¬ ((p,w,()):ze).1=0 from h0)];cases hok:(zfO t st (p,w,()) (-4) (sl (p,w,()))).2 with
        | false=>
          refine ⟨.inr (.inl s,p,w),Lp.done ?_,rfl⟩;simp only [decide_eq_true (show (k:Int)<36000 by omega),cond_true,hp0,cond_false,f1,Zs,zpP ht hfin hso,hok,Bool.not_false]
        | true=>
          obtain ⟨n1,n2⟩:=zkM ht hfin hp ⟨hw.1,by show w<=_; omega⟩ hok;have hn2:(zfO t st (p,w,()) (-4) (sl (p,w,()))).1.1.2.1=w+(zfO t st (p,w,()) (-4) (sl (p,w,()))).1.1.1:=n2;have hgs:=hg s (zfO t st (p,w,()) (-4) (sl (p,w,()))).1.1 n1 ⟨by omega,by omega⟩;rw [if_pos rfl,zmH];cases hgg:g s (zfO t st (p,w,()) (-4) (sl (p,w,()))).1.1 with
          | inl s'=>
            obtain ⟨T,h1,h2⟩:=ih (k+1) s' _ _ J n1 (show 0<=(zfO t st (p,w,()) (-4) (sl (p,w,()))).1.1.2.1/\(zfO t st (p,w,()) (-4) (sl (p,w,()))).1.1.2.1+2000000000*(n:Int)<=W by omega);refine ⟨T,Lp.step ?_ h1,h2⟩;simp only [decide_eq_true (show (k:Int)<36000 by omega),cond_true,hp0,cond_false,f1,Zs,zpP ht hfin hso,hok,Bool.not_true,goL,hgs,hgg,Sum.isLeft];rw [z7 J]
          | inr tt=>
            refine ⟨.inr (.inr tt,(zfO t st (p,w,()) (-4) (sl (p,w,()))).1.1.1,(zfO t st (p,w,()) (-4) (sl (p,w,()))).1.1.2.1),Lp.done ?_,rfl⟩;simp only [decide_eq_true (show (k:Int)<36000 by omega),cond_true,hp0,cond_false,f1,Zs,zpP ht hfin hso,hok,Bool.not_true,goL,hgs,hgg,Sum.isLeft,Bool.not_false]
  obtain ⟨T,h1,h2⟩:=key 36000 0 s0 x.1 x.2.1 J hx J;rw [show ((0:Nat):Int)=0 from rfl] at h1;rw [h1.big Of,Zs];cases T with
  | inl b=>
    refine ⟨(b.2.1,b.2.2,()), ?_⟩;rw [zdN];simp only at h2;rw [h2]
  | inr b=>
    refine ⟨(b.2.1,b.2.2,()), ?_⟩;rw [zhZ];simp only at h2;rw [h2]
def zaJ (t:Train) (x:ze):Int:=x.2.1/(10*t.1)
section
variable {t:Train} {st s:Int} {x:ze} (ht:zk9 t) (hst:0<=st/\st<t.2.2.2.2.2.2.2.2.2.1.length) (hs:-120<=s/\s<=120) (hx:0<=x.1/\x.1<=25000*t.1) (hw:0<=x.2.1/\x.2.1<=1000000000000000000)
include ht hst hs hx hw
end
section
variable {t:Train} {st d s:Int} {x:ze} (ht:zk9 t) (h:ztR t st d s) (hx:zsD t x)
include ht h hx
end
structure zCG (t:Train) (x:ze) (d s st:Int):Prop where
 tr:zk9 t
 p:0<=x.1/\x.1<=25000*t.1
 w:0<=x.2.1/\x.2.1<=10000000000000000
 f:ztR t st d s
theorem wlen {t:Train} (ht:zk9 t):w64 (zq t.2.2.2.2.2.2.2.2.2.1-1)=t.2.2.2.2.2.2.2.2.2.1.length-1:=by
 have:=ht.gl;rw [zo,zk J J]
theorem zsF (t:Train) (st:Int):zdw t st=Ob (if trB t&&inB st 0 (t.2.2.2.2.2.2.2.2.2.1.length-1) then (Ob (t,st,()),Od) else (Oe,Oc)):=by
 unfold zdw;rw [zu8];cases h:trB t with
 | false=>rfl
 | true=>
  have ht:=zsA.1 h;simp only [if_true,Zs,show ((0:Int)!=0)=Oc from rfl,cond_false,mwithin,wlen ht,Bool.true_and];cases inB st 0 (t.2.2.2.2.2.2.2.2.2.1.length-1)<;>rfl
section
variable {t:Train} {st s:Int} (ht:zk9 t) (hst:0<=st/\st<t.2.2.2.2.2.2.2.2.2.1.length) (hs:-120<=s/\s<=120)
include ht hst hs
end
section
variable {t:Train} {st s dist:Int} (ht:zk9 t) (hst:0<=st/\st<t.2.2.2.2.2.2.2.2.2.1.length) (hs:-120<=s/\s<=120)
include ht hst hs
end
open Ieee
theorem zo2 {n drop:Nat} (neg:Bool):Toward.even.cut neg n drop<=n/(1 <<< min drop (n.log2+2))+1/\n/(1 <<< min drop (n.log2+2))<=Toward.even.cut neg n drop:=by
 unfold Toward.cut;simp only;generalize (decide ((1 <<< min drop (n.log2+2))<2*(n%(1 <<< min drop (n.log2+2))))||(1 <<< min drop (n.log2+2))==2*(n%(1 <<< min drop (n.log2+2)))&&n/(1 <<< min drop (n.log2+2))%2==1)=b;cases b<;>simp
theorem zjq {mag:Nat} {place:Int} (h0:0<mag) (h1:-1000<=place+mag.log2) (h2:place+mag.log2<=1000) :
 ∃ m e,double.read (double.nearest Oc mag place)=.number Oc m e/\m<2 ^ 53/\0<m/\place+mag.log2-52<=e/\e<=place+mag.log2-51:=by
 obtain ⟨L,hL⟩:∃ L,L=place+mag.log2:=⟨_,rfl⟩;rw [← hL] at h1 h2 ⊢;have hfb:double.fractionBits=52:=rfl;have hlp:double.leastPlace=-1074:=rfl;have hbi:double.binade=4503599627370496:=rfl;have hir:double.infRung=9218868437227405312:=rfl;have hsw:double.signWeight=9223372036854775808:=rfl;have hlast:max (place+mag.log2-(double.fractionBits:Int)) double.leastPlace=L-52:=by
  rw [hfb,hlp,← hL];omega
 have hm0:mag≠0:=J
 have hlo:2 ^ mag.log2<=mag:=Nat.log2_self_le hm0;have hhi:mag<2 ^ (mag.log2+1):=Nat.lt_log2_self
 -- what is kept
 obtain ⟨kept,hk⟩:∃ k,k=Toward.even.cut Oc (mag <<< (place-(L-52)).toNat) ((L-52)-place).toNat:=⟨_,rfl⟩;have hkb:2 ^ 52<=kept/\kept<=2 ^ 53:=by
  have hc:=zo2 (n:=mag <<< (place-(L-52)).toNat) (drop:=((L-52)-place).toNat) Oc;rw [← hk] at hc;by_cases hp:place<=L-52
  . have e1:(place-(L-52)).toNat=0:=J
    have e2:((L-52)-place).toNat=mag.log2-52:=J
    rw [e1,Nat.shiftLeft_zero,e2,Nat.min_eq_left J,Nat.one_shiftLeft] at hc;have hq:52<=mag.log2:=J
    have hlo':2 ^ 52<=mag/2 ^ (mag.log2-52):=by
     rw [Nat.le_div_iff_mul_le (Nat.two_pow_pos _),← Nat.pow_add];rw [show 52+(mag.log2-52)=mag.log2 by omega];exact hlo
    have hhi':mag/2 ^ (mag.log2-52)<2 ^ 53:=by
     rw [Nat.div_lt_iff_lt_mul (Nat.two_pow_pos _),← Nat.pow_add];rw [show 53+(mag.log2-52)=mag.log2+1 by omega];exact hhi
    omega
  . have e1:(place-(L-52)).toNat=52-mag.log2:=J
    have e2:((L-52)-place).toNat=0:=J
    rw [e1,e2,Nat.zero_min,Nat.one_shiftLeft,Nat.pow_zero,Nat.div_one,Nat.shiftLeft_eq] at hc;have hlo':2 ^ 52<=mag*2 ^ (52-mag.log2):=by
     have:=Nat.mul_le_mul_right (2 ^ (52-mag.log2)) hlo;rw [← Nat.pow_add,show mag.log2+(52-mag.log2)=52 by omega] at this;exact this
    have hhi':mag*2 ^ (52-mag.log2)<2 ^ 53:=by
     have:=Nat.mul_lt_mul_of_pos_right hhi (Nat.two_pow_pos (52-mag.log2));rw [← Nat.pow_add,show mag.log2+1+(52-mag.log2)=53 by omega] at this;exact this
    omega
 have hn:double.nearest Oc mag place=(L-52+1074).toNat*4503599627370496+kept:=by
  unfold Format.nearest;rw [if_neg hm0];simp only [hlast];simp only [← hk,hlp,hbi,hir];unfold Format.word;rw [if_neg Ol,Nat.min_eq_left]
  . rw [show L-52 - -1074=L-52+1074 by omega]
  . omega
 obtain ⟨w,hw⟩:∃ w,w=double.nearest Oc mag place:=⟨_,rfl⟩;rw [← hw] at hn ⊢;obtain ⟨a,ha⟩:∃ a,a=(L-52+1074).toNat:=⟨_,rfl⟩;rw [← ha] at hn;have haL:(a:Int)=L+1022:=J
 unfold Format.read;simp only [hsw,hbi,hir,hlp];have d0:w/9223372036854775808%2=0:=J
 have d1:w%9223372036854775808=w:=J
 rw [d1,d0,if_neg J,if_pos J];by_cases hk3:kept=2 ^ 53
 . refine ⟨_,_,rfl,by omega,by omega,by omega,by omega⟩
 . refine ⟨_,_,rfl,by omega,by omega,by omega,by omega⟩
theorem zh0 (n:Nat):∀ todo root,root*root<=n->Datum.rootFrom n todo root*Datum.rootFrom n todo root<=n
 | 0,root,h=>h
 | todo+1,root,h=>by
  unfold Datum.rootFrom;simp only;split
  . rename_i q; exact zh0 n todo _ q
  . exact zh0 n todo _ h
theorem zsG {n:Int} (h0:0<=n) (hn:n<2 ^ 50):∃ r k,FloatKind.f64.format.sqrt (FloatKind.f64.nearest n)=Ob r/\f2i r=Ob k/\0<=k/\k<2 ^ 30:=by
 by_cases hz:n=0
 . subst hz;exact ⟨0,0,by decide +kernel,by decide +kernel,by omega,by omega⟩
 have hnn:FloatKind.f64.nearest n=double.nearest Oc n.natAbs 0:=by
  unfold FloatKind.nearest FloatKind.encode FloatKind.format Format.write;simp only [decide_eq_false (show ¬ n<0 by omega)]
 have hpos:0<n.natAbs:=J
 have hlog:n.natAbs.log2<=49:=by
  have:n.natAbs<2 ^ 50:=J
  have:=(Nat.log2_lt (by omega:n.natAbs≠0)).2 this;omega
 obtain ⟨m1,e1,hr1,b1,b2,b3,b4⟩:=zjq (place:=0) hpos J J;have hlm:m1.log2<=52:=by
  have:=(Nat.log2_lt (by omega:m1≠0)).2 b1;omega
 -- the root
 have hfb:double.fractionBits=52:=rfl;obtain ⟨mag,place,hroot,c0,c1,c2⟩:∃ mag place,(Datum.number Oc m1 e1).root (double.fractionBits+2)=Ob (.number Oc mag place)/\0<mag/\-1000<=place+(mag.log2:Int)/\place+(mag.log2:Int)<=27:=by
  unfold Datum.root;simp only [hfb];rw [if_neg J,if_neg Ol];obtain ⟨more,hmore⟩:∃ more,more=2*(52+2)-m1.log2+((e1-(2*(52+2)-m1.log2:Nat))%2).toNat:=⟨_,rfl⟩;rw [← hmore];have hm2:56<=more/\more<=2*(52+2)-m1.log2+1:=J
  obtain ⟨whole,hw⟩:∃ whole,whole=Datum.rootFrom (m1 <<< more) ((m1 <<< more).log2/2+1) 0:=⟨_,rfl⟩;have hsq:=zh0 (m1 <<< more) ((m1 <<< more).log2/2+1) 0 (Nat.zero_le _);rw [← hw] at hsq ⊢;have hb:m1 <<< more<2 ^ 110:=by
   rw [Nat.shiftLeft_eq];have hm:m1<2 ^ (m1.log2+1):=Nat.lt_log2_self;have:=Nat.mul_lt_mul_of_pos_right hm (Nat.two_pow_pos more);rw [← Nat.pow_add] at this;exact Nat.lt_of_lt_of_le this (Nat.pow_le_pow_right J J)
  have hwb:whole<2 ^ 55:=by
   apply Classical.byContradiction;intro q;have h1:2 ^ 55<=whole:=J
   have:=Nat.mul_le_mul h1 h1;rw [← Nat.pow_add] at this;have h2:(2:Nat) ^ (55+55)=2 ^ 110:=rfl;omega
  obtain ⟨dl,hdl⟩:∃ dl,dl=(whole*whole !=m1 <<< more).toNat:=⟨_,rfl⟩;rw [← hdl];have hd1:dl<=1:=by rw [hdl]; cases (whole*whole !=m1 <<< more)<;>simp
  have hp0:0<2*whole+dl:=by
   by_cases q:whole=0
   . have:m1 <<< more≠0:=by rw [Nat.shiftLeft_eq]; have:=Nat.mul_pos b2 (Nat.two_pow_pos more); omega
     have:(whole*whole !=m1 <<< more)=Od:=by rw [q]; simp; omega
     rw [hdl,this]; simp
   . omega
  have hl2:(2*whole+dl).log2<=56:=by
   have:=(Nat.log2_lt (by omega:2*whole+dl≠0)).2 (show 2*whole+dl<2 ^ 57 by omega);omega
  exact ⟨_,_,rfl,hp0,by omega,by omega⟩
 obtain ⟨m3,e3,hr3,d1,d2,d3,d4⟩:=zjq (place:=place) c0 c1 J;refine ⟨double.nearest Oc mag place,((m3/(1 <<< min (-e3).toNat (m3.log2+2)):Nat):Int), ?_, ?_,Int.natCast_nonneg _, ?_⟩
 . rw [hnn];show ((double.read _).root (double.fractionBits+2)).map double.write=_;rw [hr1,hroot];rfl
 . have hti:(FloatKind.f64.decode (double.nearest Oc mag place)).toInt .zero=Ob ((m3/(1 <<< min (-e3).toNat (m3.log2+2)):Nat):Int):=by
    show (double.read _).toInt .zero=_;rw [hr3];unfold Datum.toInt Datum.integral Toward.cut signed;simp only [show e3.toNat=0 by omega,Nat.shiftLeft_zero,Bool.toNat_false,Nat.add_zero];simp
   have hk:m3/(1 <<< min (-e3).toNat (m3.log2+2))<=m3:=Nat.div_le_self _ _;unfold f2i;rw [hti];simp only;generalize m3/(1 <<< min (-e3).toNat (m3.log2+2))=q at hk ⊢;rw [if_pos ⟨by show (-9223372036854775808:Int)<=_; omega,by show _<=(9223372036854775807:Int); omega⟩]
 . have hm3:m3.log2+2>=24\/m3<2 ^ 22:=by
    by_cases q:m3<2 ^ 22
    . exact .inr q
    . left;have:=(Nat.le_log2 (by omega:m3≠0)).2 (show 2 ^ 22<=m3 by omega);omega
   have hk:m3/(1 <<< min (-e3).toNat (m3.log2+2))<=m3:=Nat.div_le_self _ _;rcases hm3 with q | q
   . have hd:24<=min (-e3).toNat (m3.log2+2):=J
     have hle:2 ^ 24<=1 <<< min (-e3).toNat (m3.log2+2):=by
      rw [Nat.one_shiftLeft];exact Nat.pow_le_pow_right J hd
     have:m3/(1 <<< min (-e3).toNat (m3.log2+2))<=m3/2 ^ 24:=Nat.div_le_div_left hle J;generalize m3/(1 <<< min (-e3).toNat (m3.log2+2))=q at this hk ⊢;omega
   . generalize m3/(1 <<< min (-e3).toNat (m3.log2+2))=q at hk ⊢;omega
end Go.Ai.Sx
namespace Go.Ai.Sx
def zlT (n r:Int):Prop:=0<=r/\r*r<=n/\n<(r+1)*(r+1)
theorem zu9 {a b:Int} (ha:0<=a) (h:a<=b):a*a<=b*b:=Int.mul_le_mul h h ha J
theorem zlT.uniq {n r q:Int} (h1:zlT n r) (h2:zlT n q):r=q:=by
 rcases Int.lt_trichotomy r q with h | h | h
 . have:=zu9 (a:=r+1) (b:=q) (by have:=h1.1; omega) J;have:=h1.2.2;have:=h2.2.1;omega
 . exact h
 . have:=zu9 (a:=q+1) (b:=r) (by have:=h2.1; omega) J;have:=h2.2.2;have:=h1.2.1;omega
def bsS:Nat->Int->Int->Int->Int
 | 0,lo,_,_=>lo
 | k+1,lo,hi,n=>if hi-lo>1 then (if (lo+hi)/2*((lo+hi)/2)<=n then bsS k ((lo+hi)/2) hi n else bsS k lo ((lo+hi)/2) n) else lo
def zsH (n:Int):Int:=bsS 60 0 30000000 n
theorem zmI {n:Int}:∀ (k:Nat) (lo hi:Int),0<=lo->lo<hi->hi-lo<=2 ^ k->lo*lo<=n->n<hi*hi->zlT n (bsS k lo hi n)
 | 0,lo,hi,h0,h1,h2,h3,h4=>by
  have:hi=lo+1:=by simp at h2; omega
  subst this;exact ⟨h0,h3,h4⟩
 | k+1,lo,hi,h0,h1,h2,h3,h4=>by
  unfold bsS;split
  . have:(2:Int) ^ (k+1)=2*2 ^ k:=by rw [Int.pow_succ]; omega
    split
    . rename_i hm;exact zmI k _ hi J J J hm h4
    . rename_i hm;exact zmI k lo _ h0 J J h3 J
  . have:hi=lo+1:=J
    subst this;exact ⟨h0,h3,h4⟩
theorem zpQ {n:Int} (h:0<=n/\n<900000000000000):zlT n (zsH n):=zmI 60 0 30000000 J J Oa J J
theorem znV {n:Int} (h0:0<=n):∀ (k:Nat),k<=2000000000->∃ r:Int,Lp (λs4:Int=>
cond (decide (w64 (s4*s4)>n)) (Ob (Sum.inl (w64 (s4-1)))) (Ob (.inr s4))) k (k:Int) r/\0<=r/\r<=k/\r*r<=n
 | 0,_=>⟨0,Lp.done (by simp only [show w64 (((0:Nat):Int)*((0:Nat):Int))=0 from rfl]; rw [decide_eq_false J]; rfl),by omega,by omega,by omega⟩
 | k+1,hk=>by
  have hb:0<=((k+1:Nat):Int)/\((k+1:Nat):Int)<=2000000000:=J
  have hs:=zez hb hb;have e:w64 (((k+1:Nat):Int)*((k+1:Nat):Int))=((k+1:Nat):Int)*((k+1:Nat):Int):=zk J J;by_cases hm:((k+1:Nat):Int)*((k+1:Nat):Int)>n
  . obtain ⟨r,h1,h2,h3,h4⟩:=znV h0 k J;refine ⟨r,Lp.step (s':=(k:Int)) ?_ h1,h2,by omega,h4⟩;simp only [e];rw [decide_eq_true hm,cond_true,zk J J];congr 2;omega
  . refine ⟨((k+1:Nat):Int),Lp.done ?_,by omega,by omega,by omega⟩;simp only [e];rw [decide_eq_false hm]; rfl
theorem zsI {n:Int} (hn:0<=n/\n<900000000000000):∀ (k:Nat) (x:Int),0<=x->x*x<=n->x+k=30000000->Lp (λs10:Int=>
cond (decide (w64 (w64 (s10+1)*w64 (s10+1))<=n)) (Ob (Sum.inl (w64 (s10+1)))) (Ob (.inr s10))) k x (zsH n)
 | 0,x,h0,h1,h2=>by
  have:x=30000000:=J
  subst this;omega
 | k+1,x,h0,h1,h2=>by
  have e1:w64 (x+1)=x+1:=zk J J;have hb:0<=x+1/\x+1<=30000001:=J
  have hs:=zez hb hb;have e2:w64 ((x+1)*(x+1))=(x+1)*(x+1):=zk J J;by_cases hm:(x+1)*(x+1)<=n
  . refine Lp.step (s':=x+1) ?_ (zsI hn k (x+1) J hm J);simp only [e1,e2];rw [decide_eq_true hm]; rfl
  . have:x=zsH n:=zlT.uniq ⟨h0,h1,by omega⟩ (zpQ hn);rw [← this];refine Lp.done ?_;simp only [e1,e2];rw [decide_eq_false hm]; rfl
theorem zxU {n:Int} (hn:0<=n/\n<900000000000000):ze0 n=Ob (zsH n):=by
 obtain ⟨r,k,h1,h2,h3,h4⟩:=zsG hn.1 J;unfold ze0;rw [h1,Zs,h2,Zs];obtain ⟨q,a1,a2,a3,a4⟩:=znV hn.1 k.toNat J;rw [Int.toNat_of_nonneg h3] at a1;rw [a1.big Of,Zs];have hq:q<30000000:=by
  rcases Int.lt_or_le q 30000000 with h | h
  . exact h
  . have:=zu9 (a:=30000000) (b:=q) J h;omega
 rw [(zsI hn (30000000-q).toNat q a2 a4 J).big Of];rfl
def zfn (s:Spot):Bool:=inB s.1 (-10000000) 10000000&&inB s.2.1 (-10000000) 10000000
theorem twithin (n a b:Int):zV n a b=Ob (inB n a b):=zhu n a b
theorem zmJ (s:Spot):zc4 s=Ob (zfn s):=by
 unfold zc4 zfn;rw [twithin,twithin];cases inB s.1 (-10000000) 10000000<;>rfl
def znW (a b:Spot):Int:=zsH ((a.1-b.1)*(a.1-b.1)+(a.2.1-b.2.1)*(a.2.1-b.2.1))
theorem zzT {x:Int} (h:-20000000<=x/\x<=20000000):0<=x*x/\x*x<=400000000000000:=by
 by_cases h0:0<=x
 . exact zez (A:=20000000) (B:=20000000) ⟨h0,h.2⟩ ⟨h0,h.2⟩
 . have:=zez (a:=-x) (b:=-x) (A:=20000000) (B:=20000000) ⟨by omega,by omega⟩ ⟨by omega,by omega⟩;rw [Int.neg_mul_neg] at this;exact this
theorem zwd {a b:Spot} (ha:zfn a=Od) (hb:zfn b=Od):w64 (w64 (w64 (a.1-b.1)*w64 (a.1-b.1))+w64 (w64 (a.2.1-b.2.1)*w64 (a.2.1-b.2.1)))=(a.1-b.1)*(a.1-b.1)+(a.2.1-b.2.1)*(a.2.1-b.2.1)/\0<=(a.1-b.1)*(a.1-b.1)+(a.2.1-b.2.1)*(a.2.1-b.2.1)/\(a.1-b.1)*(a.1-b.1)+(a.2.1-b.2.1)*(a.2.1-b.2.1)<=800000000000000:=by
 unfold zfn at ha hb;simp only [Bool.and_eq_true,zas] at ha hb;have h1:=zzT (x:=a.1-b.1) J;have h2:=zzT (x:=a.2.1-b.2.1) J;rw [zk (n:=a.1-b.1) J J,zk (n:=a.2.1-b.2.1) J J,zk (n:=(a.1-b.1)*(a.1-b.1)) J J,zk (n:=(a.2.1-b.2.1)*(a.2.1-b.2.1)) J J,zk J J];exact ⟨rfl,by omega,by omega⟩
theorem zsJ {a b:Spot} (ha:zfn a=Od) (hb:zfn b=Od):zc5 a b=Ob (znW a b):=by
 obtain ⟨h1,h2,h3⟩:=zwd ha hb;unfold zc5;rw [h1,zxU ⟨h2,by omega⟩]; rfl
theorem zxV {a b:Spot} (ha:zfn a=Od) (hb:zfn b=Od):0<=znW a b/\znW a b<=30000000:=by
 obtain ⟨h1,h2,h3⟩:=zwd ha hb;have hr:=zpQ (n:=(a.1-b.1)*(a.1-b.1)+(a.2.1-b.2.1)*(a.2.1-b.2.1)) ⟨h2,by omega⟩;refine ⟨hr.1, ?_⟩;rcases Int.lt_or_le (znW a b) 30000001 with h | h
 . omega
 . have:=zu9 (a:=30000001) (b:=znW a b) J h;have:=hr.2.1;unfold znW at *
   omega
def zlU (f:Nat->Int):Nat->Nat->Int
 | _,0=>0
 | a,k+1=>f a+zlU f (a+1) k
theorem zkN {f:Nat->Int} {B:Int}:∀ (k a:Nat),(∀ i,a<=i->i<a+k->0<=f i/\f i<=B)->0<=zlU f a k/\zlU f a k<=B*k
 | 0,a,_=>by simp [zlU]
 | k+1,a,h=>by
  have h1:=h a (Nat.le_refl a) J;have h2:=zkN k (a+1) (λi hi hk=>h i J J);have:B*((k+1:Nat):Int)=B*k+B:=by rw [show ((k+1:Nat):Int)=(k:Int)+1 by omega,Int.mul_add,Int.mul_one]
  unfold zlU;omega
theorem zlV {f g:Nat->Int}:∀ (k a:Nat),(∀ i,a<=i->i<a+k->f i=g i)->zlU f a k=zlU g a k
 | 0,_,_=>rfl
 | k+1,a,h=>by
  unfold zlU;rw [h a (Nat.le_refl a) J,zlV k (a+1) (λi hi hk=>h i J J)]
theorem zmK {F:Int×Int->Option ((Int×Int)⊕Int)} {f:Nat->Int} {B:Int} {N:Nat} (hB:0<=B) (hN:N<1000000) (hBN:B*1000000<=4611686018427387904) (hf:∀ i:Nat,i<N->0<=f i/\f i<=B) :
    ∀ (k a:Nat) (s:Int),a+k=N->0<=s->s<=B*a->(∀ (i:Nat) (s:Int),a<=i->i<N->F (s,(i:Int))=Ob (.inl (w64 (s+f i),w64 ((i:Int)+1))))->(∀ s,F (s,(N:Int))=Ob (.inr s))->Lp F k (s,(a:Int)) (s+zlU f a k)
  | 0,a,s,ha,h0,h1,_,he=>by
    have:a=N:=J
    subst this;unfold zlU;rw [Int.add_zero];exact Lp.done (he s)
  | k+1,a,s,ha,h0,h1,hF,he=>by
    have h2:=hf a J;have h3:B*((a+1:Nat):Int)=B*a+B:=by rw [show ((a+1:Nat):Int)=(a:Int)+1 by omega,Int.mul_add,Int.mul_one]
    have h4:B*((a+1:Nat):Int)<=B*1000000:=Int.mul_le_mul_of_nonneg_left J hB;unfold zlU;rw [← Int.add_assoc];refine Lp.step (s':=(s+f a,((a+1:Nat):Int))) ?_ (zmK hB hN hBN hf k (a+1) _ J J J (λi s hi hk=>hF i s J hk) he);rw [hF a s (Nat.le_refl a) J,zk J J,z7 J]
def N0:zd5:=((0,0,()),0,[],0,())
def S0:Spot:=(0,0,())
def zi9 (k:Int):Int:=if k=1 then 1 else if k=2 then 2 else if k=3 then 4 else if k=4\/k=5\/k=6 then 3 else 0
def nodeB (n:zd5):Bool:=zfn n.1&&(zi9 n.2.1 !=0)&&(zq n.2.2.1==zi9 n.2.1)&&(if n.2.1=5\/n.2.1=6 then inB n.2.2.2.1 1 2 else n.2.2.2.1==0)
theorem kinds {k:Int} (h1:¬ k<1) (h2:¬ k>6):k=1\/k=2\/k=3\/k=4\/k=5\/k=6:=J
theorem zkO {k:Int} (h:k<1\/k>6):zi9 k=0:=by
 unfold zi9;rw [if_neg J,if_neg J,if_neg J,if_neg J]
theorem zxW (n:zd5):zeZ n=Ob (nodeB n):=by
 unfold zeZ nodeB;by_cases h1:n.2.1<1
 ·rw [decide_eq_true h1,zkO (.inl h1)]; simp
 by_cases h2:n.2.1>6
 ·rw [decide_eq_false h1,decide_eq_true h2,zkO (.inr h2)]; simp
 rw [decide_eq_false h1,decide_eq_false h2,zmJ];simp only [cond_false,Zs];cases zfn n.1 with
 | false=>rfl
 | true=>
  simp only [Bool.not_true,cond_false,zfm,Zs,twithin,Bool.true_and];have hi:idx (List.replicate 1 0++[1,2,4,3,3,3]) n.2.1=Ob (zi9 n.2.1)/\(zi9 n.2.1 !=0)=Od:=by
   rcases kinds h1 h2 with h | h | h | h | h | h<;>rw [h]<;>exact ⟨rfl,rfl⟩
  rw [hi.1,hi.2,Zs];have hc:(cond (n.2.1==5) (Ob Od) (Ob (n.2.1==6)):Option Bool)=Ob (decide (n.2.1=5\/n.2.1=6)):=by
   by_cases h5:n.2.1=5
   ·rw [h5]; rfl
   ·by_cases h6:n.2.1=6
    ·rw [h6]; rfl
    ·have e5:(n.2.1==5)=Oc:=by simpa using h5
     have e6:(n.2.1==6)=Oc:=by simpa using h6
     rw [e5,e6,decide_eq_false J]; rfl
  rw [hc];by_cases hl:zq n.2.2.1=zi9 n.2.1
  ·have e1:(zq n.2.2.1 !=zi9 n.2.1)=Oc:=by rw [bne_eq_false_iff_eq]; exact hl
   have e2:(zq n.2.2.1==zi9 n.2.1)=Od:=by rw [beq_iff_eq]; exact hl
   rw [e1,e2];simp only [cond_false,Zs,Bool.true_and];by_cases h:n.2.1=5\/n.2.1=6
   ·rw [decide_eq_true h,if_pos h]; rfl
   ·rw [decide_eq_false h,if_neg h]; rfl
  ·have e1:(zq n.2.2.1 !=zi9 n.2.1)=Od:=by rw [bne_iff_ne]; exact hl
   have e2:(zq n.2.2.1==zi9 n.2.1)=Oc:=by simpa using hl
   rw [e1,e2]; rfl
def nd (p:Plan) (i:Int):zd5:=p.1.getD i.toNat N0
def zfP (p:Plan) (r:Rail):List Spot:=[(nd p r.1).1]++r.2.2.1++[(nd p r.2.1).1]
theorem zkP (p:Plan) (r:Rail):(zfP p r).length=r.2.2.1.length+2:=by unfold zfP; simp
theorem zzU {A:Type} (a b c:A):idx [a,b,c] 0=Ob a:=rfl
theorem zzV {A:Type} (a b c:A):idx [a,b,c] 1=Ob b:=rfl
theorem zzW {A:Type} (a b c:A):idx [a,b,c] 2=Ob c:=rfl
theorem zBM {A:Type} (a b c:A):zq [a,b,c]=3:=rfl
theorem zxX {a b:Spot} {s:List Spot} (hs:s.length<=30):zap [[a],s,[b]]=Ob ([a]++s++[b]):=by
  unfold zap;have h1:Lp (λs4:Int×Int=>
cond (decide (s4.2<zq [[a],s,[b]])) (Zb (idx [[a],s,[b]] s4.2) λx7=>
cond (decide (w64 (s4.1+zq x7)<0)) Oe (Ob (Sum.inl (w64 (s4.1+zq x7),w64 (s4.2+1))))) (Ob (.inr s4.1))) 3 (0,0) ((s.length:Int)+2):=by
    refine Lp.step (s':=(1,1)) rfl (Lp.step (s':=(1+(s.length:Int),2)) ?_ (Lp.step (s':=((s.length:Int)+2,3)) ?_ (Lp.done rfl)))
    · show cond (decide (w64 (1+zq s)<0)) _ _=_;rw [zo,zk J J,decide_eq_false J];rfl
    · show cond (decide (w64 (1+(s.length:Int)+1)<0)) _ (Ob (Sum.inl (w64 (1+(s.length:Int)+1),_)))=_;rw [zk J J,decide_eq_false J,show (1:Int)+s.length+1=s.length+2 by omega];rfl
  rw [h1.big Of,Zs];have hg:zax ((s.length:Int)+2)=Ob []:=by
    unfold zax;rw [show w64 ((0:Int)-0)=0 from rfl,Int.sub_zero,zk J J,decide_eq_false J,decide_eq_true J];simp only [cond_false,cond_true];unfold zoW;rw [if_pos J,Zs];unfold slz;have:(List.replicate ((s.length:Int)+2).toNat ((0,0,()):Spot)).isEmpty=Oc:=by
      rw [List.isEmpty_eq_false_iff];intro e;have:=congrArg List.length e;simp at this;omega
    rw [this]; rfl
  rw [hg,Zs];have h2:Lp (λs17:List Spot×Int=>
cond (decide (s17.2<zq [[a],s,[b]])) (Zb (idx [[a],s,[b]] s17.2) λx20=>
Zb (zcY 16 s17.1 x20) λx21=>
Ob (Sum.inl (x21,w64 (s17.2+1)))) (Ob (.inr s17.1))) 3 ([],0) ([a]++s++[b]):=by
    refine Lp.step (s':=([a],1)) ?_ (Lp.step (s':=([a]++s,2)) ?_ (Lp.step (s':=([a]++s++[b],3)) ?_ (Lp.done rfl)))
    · simp only [zBM,decide_eq_true (show (0:Int)<3 by omega),cond_true,zzU,Zs];rw [zbf Ol]; rfl
    · simp only [zBM,decide_eq_true (show (1:Int)<3 by omega),cond_true,zzV,Zs];rw [zbf Oj]; rfl
    · simp only [zBM,decide_eq_true (show (2:Int)<3 by omega),cond_true,zzW,Zs];rw [zbf Oj]; rfl
  rw [h2.big Of]; rfl
structure RIx (p:Plan) (r:Rail):Prop where
 f:0<=r.1/\r.1<p.1.length
 t:0<=r.2.1/\r.2.1<p.1.length
 s:r.2.2.1.length<=30
theorem zsK {p:Plan} {r:Rail} (h:RIx p r):zef p r=Ob (zfP p r):=by
 unfold zef;rw [zaV (d:=N0) h.f.1 h.f.2,Zs,zaV (d:=N0) h.t.1 h.t.2,Zs,zxX h.s];rfl
def rl0 (p:Plan) (i:Int):Rail:=p.2.1.getD i.toNat (0,0,[],0,0,())
def zxY (l:List Spot) (i:Nat):Int:=znW (l.getD (i-1) S0) (l.getD i S0)
def zyV (l:List Spot):Int:=zlU (zxY l) 1 (l.length-1)
theorem ziz {l:List Spot} (h:l.all zfn=Od) {i:Nat} (hi:i<l.length):zfn (l.getD i S0)=Od:=by
 have:l.getD i S0=l[i]:=by simp [List.getD,hi]
 rw [this];exact List.all_eq_true.1 h _ (List.getElem_mem hi)
theorem zva {l:List Spot} (h:l.all zfn=Od) (hl:1<=l.length/\l.length<=40) {sp:Spot->Spot->Option Int} (hsp:∀ a b,zfn a=Od->zfn b=Od->sp a b=Ob (znW a b)):iter (σ:=(Int×Int)) (τ:=Int) (λs69=>
cond (decide (s69.2<zq l)) (Zb (idx l (w64 (s69.2-1))) λx75=>
Zb (idx l s69.2) λx76=>
Zb (sp x75 x76) λy77=>
Ob (.inl (w64 (s69.1+y77),w64 (s69.2+1)))) (Ob (.inr s69.1))) big (0,1)=Ob (zyV l):=by
  have hL:=zmK (B:=30000000) (N:=l.length) (f:=λi=>if 1<=i then zxY l i else 0) (F:=λs69:Int×Int=>
cond (decide (s69.2<zq l)) (Zb (idx l (w64 (s69.2-1))) λx75=>
Zb (idx l s69.2) λx76=>
Zb (sp x75 x76) λy77=>
Ob (.inl (w64 (s69.1+y77),w64 (s69.2+1)))) (Ob (.inr s69.1))) J J J (λi hi=>by
      split
      · exact zxV (ziz h J) (ziz h hi)
      · omega) (l.length-1) 1 0 J J J (λi s hi hk=>by
      rw [if_pos hi];simp only [];rw [za5 hk,cond_true,zk (n:=(i:Int)-1) J J,show (i:Int)-1=((i-1:Nat):Int) by omega,zI S0 J,Zs,zI S0 hk,Zs,hsp _ _ (ziz h J) (ziz h hk)];rfl) (λs=>by simp only [zba,cond_false])
  rw [show ((1:Nat):Int)=1 from rfl,Int.zero_add] at hL;rw [hL.big Of];unfold zyV;rw [zlV _ _ (λi hi _=>if_pos hi)]
def zyW (l:List Spot) (i:Nat):Bool:=inB (zxY l i) 1 1000000
def zqT (l:List Spot):Bool:=(List.range (l.length-1)).all λi=>zyW l (i+1)
def zo3 (p:Plan) (r:Rail):Bool:=inB r.1 0 (p.1.length-1)&&(inB r.2.1 0 (p.1.length-1)&&(!decide (zq r.2.2.1>30)&&(inB r.2.2.2.1 1 50000&&inB r.2.2.2.2.1 (-120) 120)))
def zlg (p:Plan) (r:Rail):Bool:=zo3 p r&&((zfP p r).all zfn&&zqT (zfP p r))
theorem zpR {p:Plan} {r:Rail} (h:zo3 p r=Od):RIx p r:=by
 unfold zo3 at h;simp only [Bool.and_eq_true,zas,Bool.not_eq_true',decide_eq_false_iff_not] at h;obtain ⟨a,b,c,_⟩:=h;rw [zo] at c;exact ⟨by omega,by omega,by omega⟩
theorem wnodes {p:Plan} (h:1<=p.1.length/\p.1.length<=300):w64 (zq p.1-1)=p.1.length-1:=by rw [zo,zk J J]
def prB (l:List Spot) (i:Nat):Bool:=zfn (l.getD i S0)&&(decide (i=0)||zyW l i)
theorem zxZ (l:List Spot) (h:1<=l.length):(List.range l.length).all (prB l)=(l.all zfn&&zqT l):=by
 rw [Bool.eq_iff_iff,Bool.and_eq_true];unfold prB zqT;simp only [List.all_eq_true,List.mem_range,Bool.and_eq_true,Bool.or_eq_true,decide_eq_true_eq];constructor
 . intro hh;refine ⟨λx hx=>?_,λi hi=>?_⟩
   . obtain ⟨i,hi,rfl⟩:=List.getElem_of_mem hx;have:=(hh i hi).1;simpa [List.getD,hi] using this
   . rcases (hh (i+1) J).2 with q | q
     . omega
     . exact q
 . rintro ⟨h1,h2⟩ i hi
   refine ⟨?_, ?_⟩
   . have:l.getD i S0=l[i]:=by simp [List.getD,hi]
     rw [this];exact h1 _ (List.getElem_mem hi)
   . by_cases h0:i=0
     . exact .inl h0
     . right;have:=h2 (i-1) J;rwa [show i-1+1=i by omega] at this
theorem znX {l:List Spot} (hl:l.length<=40):∀ (k i:Nat),i+k=l.length->(∀ j,j<i->zfn (l.getD j S0)=Od)->Lp (λs45:Int=>
cond (decide (s45<zq l)) (Zb (idx l s45) λx48=>
Zb (zc4 x48) λy62=>
cond (!y62) (Ob (Sum.inr (Sum.inr Oc:Unit⊕Bool))) (cond (decide (s45>0)) (Zb (idx l (w64 (s45-1))) λx66=>
Zb (zc5 x66 x48) λy67=>
Zb (zV y67 1 1000000) λy68=>
cond (!y68) (Ob (.inr (.inr Oc))) (Ob (.inl (w64 (s45+1))))) (Ob (.inl (w64 (s45+1)))))) (Ob (.inr (.inl ())))) k (i:Int) (if (List.range' i k).all (prB l) then .inl () else .inr Oc)
  | 0,i,hi,_=>by
    have:i=l.length:=J
    subst this;exact Lp.done (by simp only [zba,cond_false]; rfl)
  | k+1,i,hi,hj=>by
    have hlt:i<l.length:=J
    have e1:=za5 hlt;rw [List.range'_succ,List.all_cons];cases hs:zfn (l.getD i S0) with
    | false=>
      have:prB l i=Oc:=by unfold prB; rw [hs]; rfl
      rw [this];refine Lp.done ?_;simp only [e1,cond_true,zI S0 hlt,Zs,zmJ,hs,Bool.not_false];rfl
    | true=>
      have hj':∀ j,j<i+1->zfn (l.getD j S0)=Od:=λj h=>by
        by_cases e:j=i
        · rw [e]; exact hs
        · exact hj j J
      have ih:=znX hl k (i+1) J hj';by_cases h0:i=0
      · subst h0;have:prB l 0=Od:=by unfold prB; rw [hs]; rfl
        rw [this,Bool.true_and];refine Lp.step (s':=((0+1:Nat):Int)) ?_ ih;simp only [e1,cond_true,zI S0 hlt,Zs,zmJ,hs,Bool.not_true,cond_false];rfl
      · have e2:decide ((i:Int)>0)=Od:=decide_eq_true J;have hsp:=zsJ (hj (i-1) J) hs;have hp:prB l i=zyW l i:=by unfold prB; rw [hs,decide_eq_false h0]; rfl
        rw [hp];have hf:∀ X:Option (Int⊕(Unit⊕Bool)),(cond (decide ((i:Int)<zq l)) (Zb (idx l (i:Int)) λx48=>
Zb (zc4 x48) λy62=>
cond (!y62) (Ob (Sum.inr (Sum.inr Oc:Unit⊕Bool))) (cond (decide ((i:Int)>0)) (Zb (idx l (w64 ((i:Int)-1))) λx66=>
Zb (zc5 x66 x48) λy67=>
Zb (zV y67 1 1000000) λy68=>
cond (!y68) (Ob (.inr (.inr Oc))) (Ob (.inl (w64 ((i:Int)+1))))) (Ob (.inl (w64 ((i:Int)+1)))))) X)=cond (!zyW l i) (Ob (.inr (.inr Oc))) (Ob (.inl ((i+1:Nat):Int))):=λX=>by
          rw [e1,cond_true,zI S0 hlt,Zs,zmJ,hs,Zs,e2,zk (n:=(i:Int)-1) J J,show (i:Int)-1=((i-1:Nat):Int) by omega,zI S0 J];simp only [Bool.not_true,cond_false,cond_true,Zs];rw [hsp,Zs,twithin,Zs,z7 J];rfl
        cases hb:zyW l i with
        | false=>
          rw [Bool.false_and];refine Lp.done ?_;rw [hf,hb]; rfl
        | true=>
          rw [Bool.true_and];refine Lp.step (s':=((i+1:Nat):Int)) ?_ ih;rw [hf,hb]; rfl
theorem zx0 {p:Plan} (hp:1<=p.1.length/\p.1.length<=300) (r:Rail):ze1 p r=Ob (zlg p r):=by
 unfold ze1 zlg;simp only [twithin,Zs,wnodes hp];have hc:∀ X Y:Option Bool,Zb (cond (!inB r.1 0 (p.1.length-1)) (Ob Od) (cond (!inB r.2.1 0 (p.1.length-1)) (Ob Od) (cond (decide (zq r.2.2.1>30)) (Ob Od) (cond (!inB r.2.2.2.1 1 50000) (Ob Od) (Ob (!inB r.2.2.2.2.1 (-120) 120)))))) (λc9=>cond c9 X Y)=if zo3 p r then Y else X:=λX Y=>by
  unfold zo3;cases inB r.1 0 (p.1.length-1) with
  | false=>rfl
  | true=>
  cases inB r.2.1 0 (p.1.length-1) with
  | false=>rfl
  | true=>
  cases decide (zq r.2.2.1>30) with
  | true=>rfl
  | false=>
  cases inB r.2.2.2.1 1 50000 with
  | false=>rfl
  | true=>cases inB r.2.2.2.2.1 (-120) 120<;>rfl
 rw [hc];cases hh:zo3 p r with
 | false=>rfl
 | true=>
  have hix:=zpR hh;have hlen:(zfP p r).length<=40/\1<=(zfP p r).length:=by rw [zkP]; have:=hix.s; omega
  rw [if_pos rfl,zsK hix,Zs];have hL:=znX hlen.1 (zfP p r).length 0 J (λj hj=>by omega);rw [show ((0:Nat):Int)=0 from rfl] at hL;simp only [twithin,Zs] at hL;rw [hL.big Of,Zs,← List.range_eq_range',zxZ _ hlen.2];cases ((zfP p r).all zfn&&zqT (zfP p r))<;>rfl
def atS (p:Plan) (e:zA):Int:=if e.2.1 then (rl0 p e.1).2.1 else (rl0 p e.1).1
theorem znY {p:Plan} {e:zA} (h:0<=e.1/\e.1<p.2.1.length):zcH p e=Ob (atS p e)/\zlS p e=Ob (atS p e):=by
 unfold zcH zlS atS;rw [zaV (d:=(0,0,[],0,0,())) h.1 h.2];cases e.2.1<;>exact ⟨rfl,rfl⟩
def eOk (p:Plan) (i:Nat) (acc:List zA) (e:zA):Bool:=inB e.1 0 (p.2.1.length-1)&&((atS p e==(i:Int))&&!decide (e∈acc))
def ziA (p:Plan) (i:Nat):List zA->List zA->Option (List zA)
 | [],acc=>Ob acc
 | e::es,acc=>if eOk p i acc e then ziA p i es (acc++[e]) else Oe
def zjB (p:Plan):List zd5->Nat->List zA->Option (List zA)
 | [],_,acc=>Ob acc
 | n::ns,i,acc=>match ziA p i n.2.2.1 acc with
  | some acc'=>zjB p ns (i+1) acc'
  | none=>Oe
def zx1 (p:Plan):Bool:=match zjB p p.1 0 [] with
 | some acc=>decide ((acc.length:Int)=2*p.2.1.length)
 | none=>Oc
def zbJ (p:Plan):Bool:=inB (zq p.1) 1 300&&inB (zq p.2.1) 1 400&&(p.1.all nodeB&&p.2.1.all (zlg p))&&zx1 p
theorem zkQ {p:Plan} {i:Nat}:∀ {es acc acc':List zA},ziA p i es acc=Ob acc'->acc'=acc++es
 | [],acc,acc',h=>by cases h; simp
 | e::es,acc,acc',h=>by
  unfold ziA at h;split at h
  . rw [zkQ h]; simp
  . cases h
theorem zsL {A:Type} [DecidableEq A] (acc:List A) (e:A):(mget (acc.map λa=>(a,Od)) e).getD Oc=decide (e∈acc):=by
 induction acc with
 | nil=>rfl
 | cons a acc ih=>
  rw [List.map_cons,mget];by_cases h:e=a
  . rw [if_pos h,h]; simp
  . rw [if_neg h,ih]; simp [h]
theorem zpS {A B:Type} [DecidableEq A]:∀ (m:List (A×B)) (e:A) (v:B),mget m e=Oe->mset m e v=m++[(e,v)]
 | [],_,_,_=>rfl
 | (k,w)::es,e,v,h=>by
  rw [mget] at h;split at h
  . cases h
  . rename_i hk;rw [mset,if_neg hk,zpS es e v h]; rfl
theorem zsM {A:Type} [DecidableEq A] (acc:List A) (e:A) (h:¬ e∈acc):mget (acc.map λa=>(a,Od)) e=Oe:=by
 induction acc with
 | nil=>rfl
 | cons a acc ih=>
  rw [List.mem_cons,not_or] at h;rw [List.map_cons,mget,if_neg h.1,ih h.2]
theorem wrails {p:Plan} (h:1<=p.2.1.length/\p.2.1.length<=400):w64 (zq p.2.1-1)=p.2.1.length-1:=by rw [zo,zk J J]
def mT (acc:List zA):List (zA×Bool):=acc.map λa=>(a,Od)
theorem zx2 (acc:List zA) (e:zA) (h:¬ e∈acc):mset (mT acc) e Od=mT (acc++[e]):=by
 unfold mT;rw [zpS _ _ _ (zsM acc e h),List.map_append]; rfl
theorem zlW {p:Plan} {i:Nat}:∀ (es acc:List zA) (k:Nat),match ziA p i es acc with
    | some acc'=>zgk (λ_ acc e=>if eOk p i acc e then .inl (acc++[e]) else .inr (.inr (2,mT acc))) (λacc=>.inl (mT acc)) es k acc=(.inl (mT acc'):List (zA×Bool)⊕(Int×List (zA×Bool)))
    | none=>∃ m,zgk (λ_ acc e=>if eOk p i acc e then .inl (acc++[e]) else .inr (.inr (2,mT acc))) (λacc=>.inl (mT acc)) es k acc=(.inr (2,m):List (zA×Bool)⊕(Int×List (zA×Bool)))
  | [],acc,k=>rfl
  | e::es,acc,k=>by
    unfold ziA;rw [zgk];cases h:eOk p i acc e with
    | true=>
      simp only [if_true];exact zlW es (acc++[e]) (k+1)
    | false=>
      simp only [Bool.false_eq_true,if_false];exact ⟨_,rfl⟩
theorem zsN {p:Plan} (hR:1<=p.2.1.length/\p.2.1.length<=400) (i:Nat) (es acc:List zA) (hes:es.length<=4) :
    iter (σ:=(Int×List (zA×Bool))) (τ:=List (zA×Bool)⊕(Int×List (zA×Bool))) (λs153=>
cond (decide (s153.1<zq es)) (Zb (idx es s153.1) λx156=>
Zb (zV x156.1 0 (w64 (zq p.2.1-1))) λy162=>
cond (!y162) (Ob (.inr (.inr (2,s153.2)))) (cond ((mget s153.2 x156).getD Oc) (Ob (.inr (.inr (2,s153.2)))) (Zb (zcH p x156) λy167=>
cond (y167 !=(i:Int)) (Ob (.inr (.inr (2,s153.2)))) (Ob (.inl (w64 (s153.1+1),mset s153.2 x156 Od)))))) (Ob (.inr (.inl s153.2)))) big (0,mT acc)=Ob (zgk (λ_ acc e=>if eOk p i acc e then .inl (acc++[e]) else .inr (.inr (2,mT acc))) (λacc=>.inl (mT acc)) es 0 acc):=by
  rw [ze5 (s0:=((0:Int),mT acc)) es (λk acc=>((k:Int),mT acc)) (λ_ acc e=>if eOk p i acc e then .inl (acc++[e]) else .inr (.inr (2,mT acc))) (λacc=>.inl (mT acc)) (λ_ _=>True) acc rfl J trivial]
  · intro k hk acc _;refine ⟨?_,λ_ _=>trivial⟩;simp only [];rw [za5 hk,cond_true,zd2 hk,Zs,twithin,Zs,wrails hR];obtain ⟨e,he⟩:∃ e,e=es[k]:=⟨_,rfl⟩;rw [← he];unfold eOk;cases h1:inB e.1 0 (p.2.1.length-1) with
    | false=>rfl
    | true=>
      have h1':=zas.1 h1;have hm:(mget (mT acc) e).getD Oc=decide (e∈acc):=(zsL acc e).trans (decide_eq_decide.2 Iff.rfl);rw [hm,(znY (p:=p) (e:=e) J).1];simp only [Bool.not_true,cond_false,Bool.true_and,Zs];by_cases h2:e∈acc
      · rw [decide_eq_true h2];cases (atS p e==(i:Int))<;>rfl
      · rw [decide_eq_false h2];simp only [cond_false,Bool.not_false,Bool.and_true,bne];cases h3:(atS p e==(i:Int)) with
        | false=>rfl
        | true=>
          simp only [Bool.not_true,cond_false,if_true];rw [zx2 acc e h2,z7 J]
  · intro acc _;simp only [];rw [zba,cond_false]
theorem zgl {n:zd5} (h:nodeB n=Od):n.2.2.1.length<=4:=by
 unfold nodeB at h;simp only [Bool.and_eq_true,beq_iff_eq] at h;have h1:=h.1.2;rw [zo] at h1;have:zi9 n.2.1<=4:=by
  unfold zi9;split
  . omega
  . split
    . omega
    . split
      . omega
      . split<;>omega
 omega
theorem zqU {p:Plan} (hN:1<=p.1.length/\p.1.length<=300) (hR:1<=p.2.1.length/\p.2.1.length<=400) (hn:p.1.all nodeB=Od) :
    (iter (σ:=(Int×List (zA×Bool))) (τ:=List (zA×Bool)⊕Int) (λs120=>
cond (decide (s120.1<zq p.1)) (Zb (idx p.1 s120.1) λx123=>
Zb (iter (σ:=(Int×List (zA×Bool))) (τ:=List (zA×Bool)⊕(Int×List (zA×Bool))) (λs153=>
cond (decide (s153.1<zq x123.2.2.1)) (Zb (idx x123.2.2.1 s153.1) λx156=>
Zb (zV x156.1 0 (w64 (zq p.2.1-1))) λy162=>
cond (!y162) (Ob (.inr (.inr (2,s153.2)))) (cond ((mget s153.2 x156).getD Oc) (Ob (.inr (.inr (2,s153.2)))) (Zb (zcH p x156) λy167=>
cond (y167 !=s120.1) (Ob (.inr (.inr (2,s153.2)))) (Ob (.inl (w64 (s153.1+1),mset s153.2 x156 Od)))))) (Ob (.inr (.inl s153.2)))) big (0,s120.2)) λt169=>
alt (λb171=>Ob (.inl (w64 (s120.1+1),b171))) (λb172=>Ob (.inr (.inr b172.1))) t169) (Ob (.inr (.inl s120.2)))) big (0,([]:List (zA×Bool))))=Ob (match zjB p p.1 0 [] with | some acc=>.inl (mT acc) | none=>.inr 2)/\∀ acc,zjB p p.1 0 []=Ob acc->acc.length<=1200:=by
  have hfold:∀ (ns:List zd5) (i:Nat) (acc:List zA),zgk (λi acc (n:zd5)=>match ziA p i n.2.2.1 acc with | some acc'=>.inl acc' | none=>.inr (.inr 2)) (λacc=>.inl (mT acc)) ns i acc=(match zjB p ns i acc with | some acc=>.inl (mT acc) | none=>.inr 2:List (zA×Bool)⊕Int):=by
    intro ns;induction ns with
    | nil=>intro i acc; rfl
    | cons n ns ih=>
      intro i acc;rw [zgk,zjB];cases ziA p i n.2.2.1 acc with
      | none=>rfl
      | some acc'=>exact ih (i+1) acc'
  have hlen:∀ (ns:List zd5) (i:Nat) (acc acc':List zA),ns.all nodeB=Od->zjB p ns i acc=Ob acc'->acc'.length<=acc.length+4*ns.length:=by
    intro ns;induction ns with
    | nil=>intro i acc acc' _ h; cases h; simp
    | cons n ns ih=>
      intro i acc acc' hns h;rw [List.all_cons,Bool.and_eq_true] at hns;rw [zjB] at h;cases hs:ziA p i n.2.2.1 acc with
      | none=>rw [hs] at h; cases h
      | some a=>
        rw [hs] at h;have h1:=ih (i+1) a acc' hns.2 h;have h2:=zkQ hs;have h3:=zgl hns.1;rw [h2,List.length_append] at h1;rw [List.length_cons];omega
  refine ⟨?_,λacc h=>by have:=hlen p.1 0 [] acc hn h; simp only [List.length_nil] at this; omega⟩;rw [ze5 (s0:=((0:Int),([]:List (zA×Bool)))) p.1 (λk acc=>((k:Int),mT acc)) (λi acc (n:zd5)=>match ziA p i n.2.2.1 acc with | some acc'=>.inl acc' | none=>.inr (.inr 2)) (λacc=>.inl (mT acc)) (λ_ _=>True) [] rfl J trivial]
  · rw [hfold]
  · intro i hi acc _;refine ⟨?_,λ_ _=>trivial⟩;simp only [];rw [za5 hi,cond_true,zd2 hi,Zs,zsN hR i _ acc (zgl (List.all_eq_true.1 hn _ (List.getElem_mem hi))),Zs];have:=zlW (p:=p) (i:=i) p.1[i].2.2.1 acc 0;cases hs:ziA p i p.1[i].2.2.1 acc with
    | some acc'=>
      rw [hs] at this;simp only at this;rw [this,zdN,z7 J]
    | none=>
      rw [hs] at this;obtain ⟨m,this⟩:=this;rw [this,zhZ]
  · intro acc _;simp only [];rw [zba,cond_false]
theorem zmL (s:List zd5) (hs:s.length<=9223372036854775807) (f:zd5->Option Bool) (p:zd5->Bool) (hf:∀ x∈s,f x=Ob (p x)):zan s f=Ob (s.any p):=by
 obtain ⟨k,h1,h2⟩:=zgj s hs f p hf;unfold zan zaB;rw [h1,Zs,h2]
theorem zmM (s:List Rail) (hs:s.length<=9223372036854775807) (f:Rail->Option Bool) (p:Rail->Bool) (hf:∀ x∈s,f x=Ob (p x)):zao s f=Ob (s.any p):=by
 obtain ⟨k,h1,h2⟩:=zgj s hs f p hf;unfold zao zaC;rw [h1,Zs,h2]
theorem zsO {A:Type} (l:List A) (p:A->Bool):(l.any λx=>!p x)=!l.all p:=by rw [List.any_eq_not_all_not]; simp
theorem znZ (p:Plan):zdJ p=Ob (if zbJ p then 0 else 2):=by
 unfold zdJ zbJ;rw [twithin,twithin];cases h1:inB (zq p.1) 1 300 with
 | false=>rfl
 | true=>
 cases h2:inB (zq p.2.1) 1 400 with
 | false=>rfl
 | true=>
 have hN:=zas.1 h1;have hR:=zas.1 h2;rw [zo] at hN hR;have hN:1<=p.1.length/\p.1.length<=300:=J
 have hR:1<=p.2.1.length/\p.2.1.length<=400:=J
 simp only [Zs,Bool.not_true,cond_false,Bool.true_and];rw [zmL p.1 J _ (λn=>!nodeB n) (λx _=>by unfold zfJ; rw [zxW]; rfl),zsO,zmM p.2.1 J _ (λr=>!zlg p r) (λx _=>by unfold zev; rw [zx0 hN]; rfl),zsO];cases h3:p.1.all nodeB with
 | false=>rfl
 | true=>
 cases h4:p.2.1.all (zlg p) with
 | false=>rfl
 | true=>
 simp only [Zs,Bool.not_true,cond_false,Bool.true_and];obtain ⟨n1,n2⟩:=zqU hN hR h3;rw [n1,Zs];unfold zx1;cases h5:zjB p p.1 0 [] with
 | none=>rfl
 | some acc=>
  have hl:=n2 acc h5;simp only [zdN];have hm:(mT acc).length=acc.length:=by unfold mT; rw [List.length_map]
  unfold zuN;rw [hm,if_pos J,Zs,zo,zk (n:=2*(p.2.1.length:Int)) J J];show cond ((acc.length:Int)!=2*(p.2.1.length:Int)) (Ob 2) (Ob 0)=Ob (if decide ((acc.length:Int)=2*p.2.1.length)=Od then 0 else 2);by_cases hq:(acc.length:Int)=2*p.2.1.length
  . have:((acc.length:Int)!=2*(p.2.1.length:Int))=Oc:=by rw [bne_eq_false_iff_eq]; exact hq
    rw [this,if_pos (decide_eq_true hq)]; rfl
  . have:((acc.length:Int)!=2*(p.2.1.length:Int))=Od:=by rw [bne_iff_ne]; exact hq
    rw [this,if_neg (by rw [decide_eq_true_eq]; exact hq)]; rfl
theorem zlX {A:Type} [DecidableEq A]:∀ {l m:List A},l.Nodup->(∀ x∈l,x∈m)->l.length<=m.length
 | [],_,_,_=>Nat.zero_le _
 | x::l,m,hn,hs=>by
  have hn':=List.nodup_cons.1 hn;have h1:∀ y∈l,y∈m.erase x:=λy hy=>(List.mem_erase_of_ne (λe=>hn'.1 (by rw [← e]; exact hy))).2 (hs y (List.mem_cons_of_mem _ hy));have h2:=zlX hn'.2 h1;have h3:=List.length_erase_of_mem (hs x List.mem_cons_self);have h4:0<m.length:=List.length_pos_of_mem (hs x List.mem_cons_self);simp only [List.length_cons];omega
theorem zo4 {A:Type} [DecidableEq A] {l m:List A} (hn:l.Nodup) (hs:∀ x∈l,x∈m) (hl:m.length<=l.length) {y:A} (hy:y∈m):y∈l:=by
 apply Classical.byContradiction;intro h;have:=zlX (l:=y::l) (m:=m) (List.nodup_cons.2 ⟨h,hn⟩) (λx hx=>(List.mem_cons.1 hx).elim (λe=>e▸hy) (hs x));simp only [List.length_cons] at this;omega
theorem zn0 {p:Plan} {i:Nat}:∀ {es acc acc':List zA},ziA p i es acc=Ob acc'->acc.Nodup->acc'.Nodup/\∀ e∈es,(0<=e.1/\e.1<=p.2.1.length-1)/\atS p e=(i:Int)
 | [],acc,acc',h,hn=>by cases h; exact ⟨hn,λe he=>(nomatch he)⟩
 | e::es,acc,acc',h,hn=>by
  unfold ziA at h;split at h
  . rename_i hk;unfold eOk at hk;simp only [Bool.and_eq_true,zas,beq_iff_eq,Bool.not_eq_true',decide_eq_false_iff_not] at hk;obtain ⟨k1,k2,k3⟩:=hk;have hn':(acc++[e]).Nodup:=by
     rw [List.nodup_append];refine ⟨hn,by simp,λa ha b hb=>?_⟩;rw [List.mem_singleton] at hb;subst hb;exact λq=>k3 (q▸ha)
    obtain ⟨h1,h2⟩:=zn0 h hn';refine ⟨h1,λx hx=>?_⟩;rcases List.mem_cons.1 hx with rfl | hx
    . exact ⟨k1,k2⟩
    . exact h2 x hx
  . cases h
theorem zn1 {p:Plan}:∀ {ns:List zd5} {i:Nat} {acc acc':List zA},zjB p ns i acc=Ob acc'->acc.Nodup->acc'=acc++ns.flatMap (λn=>n.2.2.1)/\acc'.Nodup/\∀ (k:Nat) (h:k<ns.length),∀ e∈ns[k].2.2.1,(0<=e.1/\e.1<=p.2.1.length-1)/\atS p e=((i+k:Nat):Int)
 | [],i,acc,acc',h,hn=>by cases h; exact ⟨by simp,hn,λk hk=>(nomatch hk)⟩
 | n::ns,i,acc,acc',h,hn=>by
  rw [zjB] at h;cases hs:ziA p i n.2.2.1 acc with
  | none=>rw [hs] at h; cases h
  | some a=>
   rw [hs] at h;obtain ⟨a1,a2⟩:=zn0 hs hn;obtain ⟨b1,b2,b3⟩:=zn1 h a1;refine ⟨?_,b2,λk hk e he=>?_⟩
   ·rw [b1,zkQ hs]; simp
   ·cases k with
    | zero=>exact a2 e he
    | succ k=>
     have:=b3 k (by simpa using hk) e he;rw [show i+(k+1)=i+1+k by omega];exact this
structure zjr (p:Plan):Prop where
 n:1<=p.1.length/\p.1.length<=300
 r:1<=p.2.1.length/\p.2.1.length<=400
 nb:p.1.all nodeB=Od
 rb:p.2.1.all (zlg p)=Od
 at_:∀ (k:Nat) (h:k<p.1.length),∀ e∈p.1[k].2.2.1,(0<=e.1/\e.1<p.2.1.length)/\atS p e=(k:Int)
 ndp:(p.1.flatMap λn=>n.2.2.1).Nodup
 full:∀ e:zA,0<=e.1/\e.1<p.2.1.length->e∈p.1.flatMap λn=>n.2.2.1
def zzX (R:Nat):List zA:=(List.range R).flatMap λr:Nat=>[((r:Int),Oc,()),((r:Int),Od,())]
theorem zvb (R:Nat):(zzX R).length=2*R:=by
 induction R with
 | zero=>rfl
 | succ R ih=>
  unfold zzX at *
  rw [List.range_succ,List.flatMap_append,List.length_append,ih];simp;omega
theorem zpT {R:Nat} {e:zA}:e∈zzX R↔0<=e.1/\e.1<R:=by
 unfold zzX;simp only [List.mem_flatMap,List.mem_range,List.mem_cons,List.not_mem_nil,or_false];constructor
 . rintro ⟨r,hr,rfl | rfl⟩<;>simp only []<;>omega
 . obtain ⟨r,b,⟨⟩⟩:=e;simp only [];intro h;refine ⟨r.toNat,by omega, ?_⟩;have:(r.toNat:Int)=r:=J
   rw [this];cases b
   . exact .inl rfl
   . exact .inr rfl
theorem zfo {p:Plan} (h:zbJ p=Od):zjr p:=by
 unfold zbJ at h;simp only [Bool.and_eq_true,zas,zo] at h;obtain ⟨⟨⟨h1,h2⟩,h3,h4⟩,h5⟩:=h;unfold zx1 at h5;cases hs:zjB p p.1 0 [] with
 | none=>rw [hs] at h5; cases h5
 | some acc=>
  rw [hs] at h5;have h5:=of_decide_eq_true h5;obtain ⟨a1,a2,a3⟩:=zn1 hs List.nodup_nil;rw [List.nil_append] at a1;subst a1;have hat:∀ (k:Nat) (h:k<p.1.length),∀ e∈p.1[k].2.2.1,(0<=e.1/\e.1<p.2.1.length)/\atS p e=(k:Int):=λk hk e he=>by
   obtain ⟨b1,b2⟩:=a3 k hk e he;rw [Nat.zero_add] at b2;exact ⟨⟨b1.1,by omega⟩,b2⟩
  refine ⟨by omega,by omega,h3,h4,hat,a2,λe he=>?_⟩;refine zo4 (m:=zzX p.2.1.length) a2 (λx hx=>?_) (by rw [zvb]; omega) (zpT.2 he);obtain ⟨n,hn,hx⟩:=List.mem_flatMap.1 hx;obtain ⟨k,hk,rfl⟩:=List.getElem_of_mem hn;exact zpT.2 (hat k hk x hx).1
section
variable {p:Plan} (hp:zjr p)
include hp
theorem zjr.rail {i:Int} (hi:0<=i/\i<p.2.1.length):zlg p (rl0 p i)=Od:=by
 have hlt:i.toNat<p.2.1.length:=J
 have:rl0 p i=p.2.1[i.toNat]:=by unfold rl0; simp [List.getD,hlt]
 rw [this];exact List.all_eq_true.1 hp.rb _ (List.getElem_mem hlt)
theorem zjr.ix {i:Int} (hi:0<=i/\i<p.2.1.length):RIx p (rl0 p i):=by
 have:=hp.rail hi;unfold zlg at this;rw [Bool.and_eq_true] at this;exact zpR this.1
theorem zjr.at_bd {e:zA} (he:0<=e.1/\e.1<p.2.1.length):0<=atS p e/\atS p e<p.1.length:=by
 have:=hp.ix he;unfold atS;split
 . exact this.t
 . exact this.f
theorem zjr.nd_eq {i:Int} (hi:0<=i/\i<p.1.length):nd p i=p.1[i.toNat]'J:=by
 have _:=hp;have hlt:i.toNat<p.1.length:=J
 unfold Sx.nd;simp [List.getD,hlt]
theorem zjr.nodeB {i:Int} (hi:0<=i/\i<p.1.length):Sx.nodeB (Sx.nd p i)=Od:=by
 rw [hp.nd_eq hi];exact List.all_eq_true.1 hp.nb _ (List.getElem_mem _)
theorem zjr.mem {e:zA} (he:0<=e.1/\e.1<p.2.1.length):e∈(Sx.nd p (atS p e)).2.2.1:=by
 obtain ⟨n,hn,hx⟩:=List.mem_flatMap.1 (hp.full e he);obtain ⟨k,hk,rfl⟩:=List.getElem_of_mem hn;have h1:=(hp.at_ k hk e hx).2;rw [h1,hp.nd_eq J];exact hx
theorem zjr.spots {i:Int} (hi:0<=i/\i<p.2.1.length):(zfP p (rl0 p i)).all zfn=Od/\zqT (zfP p (rl0 p i))=Od:=by
 have:=hp.rail hi;unfold zlg at this;simp only [Bool.and_eq_true] at this;exact this.2
theorem zjr.len {i:Int} (hi:0<=i/\i<p.2.1.length):1<=zyV (zfP p (rl0 p i))/\zyV (zfP p (rl0 p i))<=31000000:=by
 obtain ⟨h1,h2⟩:=hp.spots hi;have h3:=(hp.ix hi).s;have h4:=zkP p (rl0 p i);unfold zqT at h2;have h5:∀ j,1<=j->j<1+((zfP p (rl0 p i)).length-1)->1<=zxY (zfP p (rl0 p i)) j/\zxY (zfP p (rl0 p i)) j<=1000000:=λj j1 j2=>by
  have:=List.all_eq_true.1 h2 (j-1) (List.mem_range.2 J);unfold zyW at this;rw [show j-1+1=j by omega] at this;exact zas.1 this
 have h6:=zkN (f:=zxY (zfP p (rl0 p i))) (B:=1000000) ((zfP p (rl0 p i)).length-1) 1 (λj j1 j2=>by have:=h5 j j1 j2; omega);unfold zyV;refine ⟨?_,by omega⟩;rw [show (zfP p (rl0 p i)).length-1=(rl0 p i).2.2.1.length+1 by omega,zlU];have:=h5 1 J J;have:=zkN (f:=zxY (zfP p (rl0 p i))) (B:=1000000) ((rl0 p i).2.2.1.length) (1+1) (λj j1 j2=>by have:=h5 j J J; omega);omega
end
theorem zsP {xs:List Int} {i:Nat} (h:i+1<xs.length):((xs.set (i+1) (xs[i]'J)).set i xs[i+1]).Perm xs:=by
 induction i generalizing xs with
 | zero=>
  match xs,h with
  | a::b::t,_=>exact List.Perm.swap a b t
 | succ i ih=>
  match xs,h with
  | a::t,h=>
   simp only [List.length_cons] at h;simp only [List.set_cons_succ,List.getElem_cons_succ];exact List.Perm.cons a (ih J)
theorem zx3 (a b:Int):∃ c:Bool,zbc a b=Ob c:=by
 unfold zbc;simp only [zbo,Zs];cases decide (a<b)<;>(try exact ⟨_,rfl⟩)<;>(by_cases h:a=a<;>simp)
theorem zvc {xs:List Int} (hl:xs.length<=1000):∃ ys,zab xs 0 (zq xs)=Ob ys/\ys.Perm xs:=by
  have hin:∀ (j:Nat) (ys:List Int),j<ys.length->ys.length=xs.length->ys.Perm xs->Tot (λzs:List Int=>zs.Perm xs) (iter (σ:=(Int×List Int)) (τ:=List Int) (λs190=>
cond (decide (s190.1>0)) (Zb (idx s190.2 s190.1) λx201=>
Zb (idx s190.2 (w64 (s190.1-1))) λx202=>
Zb (zbc x201 x202) λy203=>
cond y203 (Zb (idx s190.2 (w64 (s190.1-1))) λx209=>
Zb (idx s190.2 s190.1) λx210=>
Zb (idx s190.2 s190.1) λx211=>
Zb (idx ((s190.2).set (Int.toNat s190.1) x209) (w64 (s190.1-1))) λx212=>
Ob (.inl (w64 (s190.1-1),((s190.2).set (Int.toNat s190.1) x209).set (Int.toNat (w64 (s190.1-1))) x210))) (Ob (.inr s190.2))) (Ob (.inr s190.2))) big (((j:Nat):Int),ys)):=by
    intro j ys hj hly hp;refine Tot.iter (λs:Int×List Int=>∃ k:Nat,s.1=(k:Int)/\k<s.2.length/\s.2.length=xs.length/\s.2.Perm xs) _ (λs=>s.1.toNat) ⟨j,rfl,hj,hly,hp⟩ Of ?_
    rintro ⟨s1,zs⟩ ⟨k,rfl,hk,hlz,hpz⟩
    simp only [] at hk hlz hpz ⊢;cases k with
    | zero=>exact Tot.some hpz
    | succ k=>
      rw [decide_eq_true (show ((k+1:Nat):Int)>0 by omega),cond_true,zd2 hk,Zs,zk (n:=((k+1:Nat):Int)-1) J J,show ((k+1:Nat):Int)-1=(k:Int) by omega,zd2 (show k<zs.length by omega),Zs];obtain ⟨c,hc⟩:=zx3 zs[k+1] (zs[k]'J);rw [hc,Zs];cases c with
      | false=>exact Tot.some hpz
      | true=>
        simp only [cond_true,Zs,Int.toNat_natCast];rw [zd2 (show k<(zs.set (k+1) (zs[k]'J)).length by rw [List.length_set]; omega),Zs];refine Tot.some ⟨⟨k,rfl, ?_, ?_, ?_⟩, ?_⟩
        · simp only [List.length_set]; omega
        · simp only [List.length_set]; exact hlz
        · exact (zsP hk).trans hpz
        · simp only [Int.toNat_natCast]; omega
  unfold zab;have:Tot (λzs:List Int=>zs.Perm xs) (iter (σ:=(Int×List Int)) (τ:=List Int) (λs143=>
cond (decide (s143.1<zq xs)) (Zb (iter (σ:=(Int×List Int)) (τ:=List Int) (λs190=>
cond (decide (s190.1>0)) (Zb (idx s190.2 s190.1) λx201=>
Zb (idx s190.2 (w64 (s190.1-1))) λx202=>
Zb (zbc x201 x202) λy203=>
cond y203 (Zb (idx s190.2 (w64 (s190.1-1))) λx209=>
Zb (idx s190.2 s190.1) λx210=>
Zb (idx s190.2 s190.1) λx211=>
Zb (idx ((s190.2).set (Int.toNat s190.1) x209) (w64 (s190.1-1))) λx212=>
Ob (.inl (w64 (s190.1-1),((s190.2).set (Int.toNat s190.1) x209).set (Int.toNat (w64 (s190.1-1))) x210))) (Ob (.inr s190.2))) (Ob (.inr s190.2))) big (s143.1,s143.2)) λt214=>
Ob (.inl (w64 (s143.1+1),t214))) (Ob (.inr s143.2))) big (w64 (0+1),xs)):=by
    refine Tot.iter (λs:Int×List Int=>∃ k:Nat,s.1=(k:Int)/\s.2.length=xs.length/\s.2.Perm xs) _ (λs=>xs.length+1-s.1.toNat) ⟨1,rfl,rfl,List.Perm.refl _⟩ Of ?_
    rintro ⟨s1,zs⟩ ⟨k,rfl,hlz,hpz⟩
    simp only [] at hlz hpz ⊢;by_cases hk:k<xs.length
    · rw [za5 hk,cond_true];refine (hin k zs J hlz hpz).bind λys hys=>?_;refine Tot.some ⟨⟨k+1,z7 J,hys.length_eq,hys⟩, ?_⟩;simp only [z7 (show k<9223372036854775807 by omega),Int.toNat_natCast];omega
    · rw [decide_eq_false (show ¬ (k:Int)<zq xs by rw [zo]; omega)];exact Tot.some hpz
  obtain ⟨ys,h1,h2⟩:=this;exact ⟨ys,by rw [h1]; rfl,h2⟩
theorem zsQ (n:Nat) (h:n<=4):∃ k,zex (IntKind.u64.wrap (n:Int))=Ob k:=by
 match n,h with
 | 0,_=>exact ⟨0,by kernel_rfl⟩
 | 1,_=>exact ⟨1,by kernel_rfl⟩
 | 2,_=>exact ⟨2,by kernel_rfl⟩
 | 3,_=>exact ⟨2,by kernel_rfl⟩
 | 4,_=>exact ⟨3,by kernel_rfl⟩
theorem zsR {xs:List Int} (hl:xs.length<=4):∃ ys,zbQ xs=Ob ys/\ys.Perm xs:=by
 obtain ⟨k,hk⟩:=zsQ xs.length hl;obtain ⟨ys,h1,h2⟩:=zvc (xs:=xs) J;refine ⟨ys, ?_,h2⟩;unfold zbQ;rw [show zq xs=(xs.length:Int) from rfl,hk,Zs];unfold zbp;have hL:Lp (λs11:Int×Int×Int×Bool×Bool×List Int=>
cond (decide (w64 (s11.2.1-s11.1)<=12)) (Zb (zab s11.2.2.2.2.2 s11.1 s11.2.1) λy14=>
Ob (Sum.inr y14)) (cond (s11.2.2.1==0) Oe (cond (!s11.2.2.2.1) Oe Oe))) 0 (0,(xs.length:Int),k,Od,Od,xs) ys:=by
  refine Lp.done ?_;simp only [];rw [zk J J,decide_eq_true J,cond_true,show ((xs.length:Nat):Int)=zq xs from rfl,h1];rfl
 rw [hL.big Of];rfl
theorem zja {A B:Type} [DecidableEq A] (v:B) (a b:A):∀ es:List (A×B),mget (mset es a v) b=if b=a then Ob v else mget es b
 | []=>rfl
 | (k,w)::es=>by
  rw [mset];by_cases h:a=k
  . subst h;rw [if_pos rfl,mget,mget];by_cases h2:b=a
    . rw [if_pos h2,if_pos h2]
    . rw [if_neg h2,if_neg h2,if_neg h2]
  . rw [if_neg h,mget,zja v a b es,mget];by_cases h2:b=k
    . subst h2;rw [if_pos rfl,if_pos rfl,if_neg (λq=>h q.symm)]
    . rw [if_neg h2,if_neg h2]
theorem zn2 {A B:Type} [DecidableEq A]:∀ (L:List (A×B)) (m:List (A×B)) (e:A) (k:B),(L.map (·.1)).Nodup->(e,k)∈L->mget (L.foldl (λm x=>mset m x.1 x.2) m) e=Ob k
 | (a,v)::L,m,e,k,hn,h=>by
  rw [List.map_cons,List.nodup_cons] at hn;rw [List.foldl_cons];rcases List.mem_cons.1 h with q | q
  ·obtain ⟨q1,q2⟩:=Prod.mk.injEq ..▸q;subst q1 q2;have key:∀ (L:List (A×B)) (m:List (A×B)),e∉L.map (·.1)->mget (L.foldl (λm x=>mset m x.1 x.2) m) e=mget m e:=by
    intro L;induction L with
    | nil=>intro m _; rfl
    | cons y L ih=>
     intro m hne;rw [List.map_cons,List.mem_cons,not_or] at hne;rw [List.foldl_cons,ih _ hne.2,zja,if_neg hne.1]
   rw [key L _ hn.1,zja,if_pos rfl]
  ·exact zn2 L _ e k hn.2 q
def rlN {A:Type} (n:Nat) (f:Nat->A):List A:=(List.range n).map f
def ixE (n:zd5):List (zA×Int):=n.2.2.1.zipIdx.map λx=>(x.1,(x.2:Int))
def plS (p:Plan):List (zA×Int):=(p.1.flatMap ixE).foldl (λm x=>mset m x.1 x.2) []
def zmN (p:Plan) (i:Int):Int:=zyV (zfP p (rl0 p i))
def zo5 (p:Plan):zbn:=((p.1,p.2.1,()),rlN p.2.1.length (λi=>zmN p (i:Int)),plS p,())
theorem zvd (n:zd5):(ixE n).map (·.1)=n.2.2.1:=by
 unfold ixE;rw [List.map_map];have:((λx:zA×Int=>x.1) ∘ λx:zA×Nat=>(x.1,(x.2:Int)))=λx=>x.1:=rfl;rw [this,List.zipIdx_map_fst]
theorem zx4 {p:Plan} (hp:zjr p) {i k:Nat} (hi:i<p.1.length) (hk:k<p.1[i].2.2.1.length):mget (plS p) p.1[i].2.2.1[k]=Ob (k:Int):=by
 unfold plS;refine zn2 _ _ _ _ ?_ ?_
 . rw [List.map_flatMap];have:(p.1.flatMap λn=>(ixE n).map (·.1))=p.1.flatMap λn=>n.2.2.1:=by
    congr 1;funext n;exact zvd n
   rw [this];exact hp.ndp
 . refine List.mem_flatMap.2 ⟨p.1[i],List.getElem_mem hi, ?_⟩;unfold ixE;exact List.mem_map.2 ⟨(p.1[i].2.2.1[k],k),List.mem_zipIdx_iff_getElem?.2 (by simp [hk]),rfl⟩
theorem zsS (p:Plan):zeg p=Ob (if zbJ p then (Ob (zo5 p),Od) else (Oe,Oc)):=by
 unfold zeg;rw [znZ];cases hv:zbJ p with
 | false=>rfl
 | true=>
 have hp:=zfo hv;have hN:=hp.n;have hR:=hp.r;simp only [if_true,Zs,show ((0:Int)!=0)=Oc from rfl,cond_false]
 -- the lengths
 rw [ze5 (s0:=((0:Int),([]:List Int))) p.2.1 (λk c=>((k:Int),c)) (λi c _=>(.inl (c++[zmN p (i:Int)]):List Int⊕List Int)) id (λk c=>c.length=k) [] rfl J rfl];rotate_left
 . intro i hi c hc;simp only [];refine ⟨?_,λb' hb=>by cases hb; rw [List.length_append,List.length_singleton,hc]⟩;have hrl:rl0 p (i:Int)=p.2.1[i]:=by unfold rl0; simp [List.getD,hi]
   have hix:=hp.ix (i:=(i:Int)) J;have hsp:=hp.spots (i:=(i:Int)) J;rw [za5 hi,cond_true,zd2 hi,Zs,← hrl,zsK hix,Zs,zva hsp.1 (by rw [zkP]; have:=hix.s; omega) (sp:=λa b=>zc5 a b) (λa b=>zsJ),Zs,zbf (by simp only [List.length_singleton]; omega),Zs,z7 J];rfl
 . intro c _;simp only [];rw [zba,cond_false]; rfl
 have hlens:zgk (λi c (_:Rail)=>(.inl (c++[zmN p (i:Int)]):List Int⊕List Int)) id p.2.1 0 []=rlN p.2.1.length (λi=>zmN p (i:Int)):=by
  have key:∀ (l:List Rail) (i:Nat) (c:List Int),zgk (λi c (_:Rail)=>(.inl (c++[zmN p (i:Int)]):List Int⊕List Int)) id l i c=c++(List.range' i l.length).map (λi:Nat=>zmN p (i:Int)):=by
   intro l;induction l with
   | nil=>intro i c; simp [zgk]
   | cons x l ih=>
    intro i c;rw [zgk];exact (ih (i+1) _).trans (by rw [List.length_cons,List.range'_succ,List.map_cons,List.append_assoc]; rfl)
  rw [key,List.nil_append,← List.range_eq_range']; rfl
 rw [hlens,Zs]
 -- the places
 rw [ze5 (s0:=((0:Int),([]:List (zA×Int)))) p.1 (λk c=>((k:Int),c)) (λ_ c n=>(.inl ((ixE n).foldl (λm x=>mset m x.1 x.2) c):List (zA×Int)⊕List (zA×Int))) id (λ_ _=>True) [] rfl J trivial];rotate_left
 . intro i hi c _;simp only [];refine ⟨?_,λ_ _=>trivial⟩;have hes:=zgl (List.all_eq_true.1 hp.nb _ (List.getElem_mem hi));rw [za5 hi,cond_true,zd2 hi,Zs];rw [ze5 (s0:=((0:Int),c)) p.1[i].2.2.1 (λk c=>((k:Int),c)) (λk c e=>(.inl (mset c e (k:Int)):List (zA×Int)⊕List (zA×Int))) id (λ_ _=>True) c rfl J trivial]
   . rw [zkH (λk c e=>mset c e (k:Int)) id,Zs,z7 J];unfold ixE;rw [List.foldl_map]; rfl
   . intro k hk c _;simp only [];refine ⟨?_,λ_ _=>trivial⟩;rw [za5 hk,cond_true,zd2 hk,Zs,z7 J]
   . intro c _;simp only [];rw [zba,cond_false]; rfl
 . intro c _;simp only [];rw [zba,cond_false]; rfl
 rw [zi8 (λc n=>(ixE n).foldl (λm x=>mset m x.1 x.2) c) id,Zs];have hpl:p.1.foldl (λc n=>(ixE n).foldl (λm x=>mset m x.1 x.2) c) []=plS p:=by
  unfold plS;rw [List.foldl_flatMap]
 rw [hpl];rfl
def zkR (n:zd5) (a b:Int):Bool:=
 if n.2.1=2 then a !=b else if n.2.1=3 then a !=b&&((a+b).tmod 2==0) else if n.2.1=4 then (a==0&&decide (b>0))||(decide (a>0)&&b==0)
 else if n.2.1=5 then (a==0&&b==n.2.2.2.1)||(decide (a>0)&&b==0) else if n.2.1=6 then (a==0&&b==n.2.2.2.1)||(a==n.2.2.2.1&&b==0) else Oc
theorem zx5 {n:zd5} (h:nodeB n=Od):n.2.1=1\/n.2.1=2\/n.2.1=3\/n.2.1=4\/n.2.1=5\/n.2.1=6:=by
 unfold nodeB at h;simp only [Bool.and_eq_true,bne_iff_ne] at h;have h1:=h.1.1.2;apply Classical.byContradiction;intro q;exact h1 (zkO J)
theorem zx6 {n:zd5} (hn:nodeB n=Od) {a b:Int} (ha:0<=a/\a<=10) (hb:0<=b/\b<=10):zbt (n,()) a b=Ob (zkR n a b):=by
 unfold zbt zkR;rcases zx5 hn with h | h | h | h | h | h
 . rw [h]; rfl
 . rw [h]; rfl
 . rw [h];show Zb (zbP (n,()) a b) _=_;unfold zbP;rw [zk J J];cases (a !=b)<;>rfl
 . rw [h];show Zb (zcg (n,()) a b) _=_;unfold zcg;have e:(a !=b&&((a==0)||(b==0)))=((a==0&&decide (b>0))||(decide (a>0)&&b==0)):=by
    rw [Bool.eq_iff_iff];simp only [Bool.and_eq_true,Bool.or_eq_true,bne_iff_ne,beq_iff_eq,decide_eq_true_eq];omega
   simp only [show ¬ (4:Int)=2 by decide,show ¬ (4:Int)=3 by decide,if_false,if_true];rw [← e];cases (a !=b)<;>cases (a==0)<;>rfl
 . rw [h];show Zb (zbx (n,()) a b) _=_;unfold zbx;have e:((a !=0&&b==0)||(a==0&&b==n.2.2.2.1))=((a==0&&b==n.2.2.2.1)||(decide (a>0)&&b==0)):=by
    rw [Bool.eq_iff_iff];simp only [Bool.and_eq_true,Bool.or_eq_true,bne_iff_ne,beq_iff_eq,decide_eq_true_eq];omega
   simp only [show ¬ (5:Int)=2 by decide,show ¬ (5:Int)=3 by decide,show ¬ (5:Int)=4 by decide,if_false,if_true];rw [← e];cases (a !=0)<;>cases (b==0)<;>cases (a==0)<;>rfl
 . rw [h];show Zb (zby (n,()) a b) _=_;unfold zby;simp only [show ¬ (6:Int)=2 by decide,show ¬ (6:Int)=3 by decide,show ¬ (6:Int)=4 by decide,show ¬ (6:Int)=5 by decide,if_false,if_true];cases (a==0)<;>cases (b==n.2.2.2.1)<;>cases (a==n.2.2.2.1)<;>rfl
def zlh (m:zad):zA:=(m.1,!m.2.1,())
def zcI (p:Plan) (m:zad):zd5:=nd p (atS p (zlh m))
def zpU (p:Plan) (m:zad):Int:=((zcI p m).2.2.1.idxOf (zlh m):Nat)
def zfp (p:Plan) (m k:zad):Bool:=(zcI p m).2.2.1.zipIdx.any λy=>zkR (zcI p m) (zpU p m) (y.2:Int)&&y.1==k
def ztS (e:zA):Int:=if e.2.1 then 2*e.1+1 else 2*e.1
def zrl (n:Int):zad:=(n/2,n%2==1,())
theorem zpV {e:zA} (h:0<=e.1):zrl (ztS e)=e:=by
 obtain ⟨r,b,⟨⟩⟩:=e;unfold zrl ztS;simp only [] at h;cases b with
 | false=>
  simp only [Bool.false_eq_true,if_false];rw [show 2*r/2=r by omega,show 2*r%2=0 by omega]; rfl
 | true=>
  simp only [if_true];rw [show (2*r+1)/2=r by omega,show (2*r+1)%2=1 by omega]; rfl
theorem zsT {e:zA} (h:0<=e.1/\e.1<1000):zdU (e.1,e.2.1,())=Ob (ztS e):=by
 unfold zdU ztS;simp only [];cases e.2.1 with
 | false=>
  simp only [cond_false,Bool.false_eq_true,if_false];rw [zk J J]
 | true=>
  simp only [cond_true,if_true];rw [zk (n:=2*e.1) J J,zk J J]
theorem zx7 {n:Int} (h:0<=n/\n<10000):ze3 n=Ob (zrl n):=by
 unfold ze3;rw [zea J J,Zs];unfold zri;rw [if_neg J,Zs,Int.tmod_eq_emod_of_nonneg h.1];rfl
section
variable {p:Plan} (hp:zjr p) {m:zad} (hm:0<=m.1/\m.1<p.2.1.length)
include hp hm
theorem zpW:0<=atS p (zlh m)/\atS p (zlh m)<p.1.length:=hp.at_bd (e:=zlh m) hm
theorem zmO:nodeB (zcI p m)=Od:=hp.nodeB (zpW hp hm)
theorem zsU:zlh m∈(zcI p m).2.2.1:=hp.mem (e:=zlh m) hm
theorem zzY:0<=zpU p m/\zpU p m<(zcI p m).2.2.1.length/\zpU p m<=10:=by
 have h1:=List.idxOf_lt_length_iff.2 (zsU hp hm);have h2:=zgl (zmO hp hm);unfold zpU;omega
theorem zjR {e:zA} (he:e∈(zcI p m).2.2.1):0<=e.1/\e.1<p.2.1.length:=by
 have hb:=zpW hp hm;have h:=hp.at_ (atS p (zlh m)).toNat J;unfold zcI at he;rw [hp.nd_eq hb] at he;exact (h e he).1
theorem zsV:mget (plS p) (zlh m)=Ob (zpU p m):=by
 have hb:=zpW hp hm;have h1:=List.idxOf_lt_length_iff.2 (zsU hp hm);have hn:zcI p m=p.1[(atS p (zlh m)).toNat]'J:=hp.nd_eq hb;have h2:=zx4 hp (i:=(atS p (zlh m)).toNat) (k:=(zcI p m).2.2.1.idxOf (zlh m)) J (by rw [← hn]; exact h1);have h3:(p.1[(atS p (zlh m)).toNat]'J).2.2.1[(zcI p m).2.2.1.idxOf (zlh m)]'(by rw [← hn]; exact h1)=zlh m:=by
  simp only [← hn];exact List.getElem_idxOf h1
 rw [h3] at h2;exact h2
def zmP (p:Plan) (m:zad):List Int:=((zcI p m).2.2.1.zipIdx.filter λy=>zkR (zcI p m) (zpU p m) (y.2:Int)).map λy=>ztS y.1
omit hm hp in
theorem zsW:(zmP p m).length<=(zcI p m).2.2.1.length:=by
 unfold zmP;rw [List.length_map];have:=List.length_filter_le (λy:zA×Nat=>zkR (zcI p m) (zpU p m) (y.2:Int)) (zcI p m).2.2.1.zipIdx;rw [List.length_zipIdx] at this;exact this
theorem zve {n:Int} (h:n∈zmP p m):0<=n/\n<10000:=by
 unfold zmP at h;obtain ⟨y,hy,rfl⟩:=List.mem_map.1 h;have h1:=(List.mem_filter.1 hy).1;have h2:=zjR hp hm (e:=y.1) (List.fst_mem_of_mem_zipIdx h1);have hR:=hp.r;unfold ztS;split<;>omega
theorem zsX:iter (σ:=(List Int×Int)) (τ:=List Int) (λs20=>
cond (decide (s20.2<zq (zcI p m).2.2.1)) (Zb (idx (zcI p m).2.2.1 s20.2) λx23=>
Zb (zew m) λy27=>
Zb (zbt ((zcI p m,()):zaG) ((mget (zo5 p).2.2.1 y27).getD 0) s20.2) λy28=>
cond y28 (Zb (zdU ((x23.1,x23.2.1,()):zad)) λy30=>
Zb (zcY 8 s20.1 ([y30])) λx31=>
Ob (.inl (x31,w64 (s20.2+1)))) (Ob (.inl (s20.1,w64 (s20.2+1))))) (Ob (.inr s20.1))) big ([],0)=Ob (zmP p m):=by
 have hR:=hp.r;have hes:=zgl (zmO hp hm);have hpb:=zzY hp hm;rw [ze5 (s0:=(([]:List Int),(0:Int))) (zcI p m).2.2.1 (λk c=>(c,(k:Int))) (λk c e=>(.inl (if zkR (zcI p m) (zpU p m) (k:Int) then c++[ztS e] else c):List Int⊕List Int)) id (λk c=>c.length<=k) [] rfl J Ol]
 ·rw [zkH (λk c e=>if zkR (zcI p m) (zpU p m) (k:Int) then c++[ztS e] else c) id];unfold zmP;have key:∀ (L:List (zA×Nat)) (c:List Int),L.foldl (λc y=>if zkR (zcI p m) (zpU p m) (y.2:Int) then c++[ztS y.1] else c) c=c++(L.filter λy=>zkR (zcI p m) (zpU p m) (y.2:Int)).map λy=>ztS y.1:=by
   intro L;induction L with
   | nil=>intro c; simp
   | cons y L ih=>
    intro c;rw [List.foldl_cons,ih,List.filter_cons];cases zkR (zcI p m) (zpU p m) (y.2:Int) with
    | true=>simp
    | false=>simp
  rw [key,List.nil_append]; rfl
 ·intro k hk c hc;simp only [];refine ⟨?_,λb' hb=>?_⟩
  ·have he:=zjR hp hm (List.getElem_mem hk);rw [za5 hk,cond_true,zd2 hk,Zs];show Zb (Ob (zlh m)) _=_;rw [Zs];have hpl:(zo5 p).2.2.1=plS p:=rfl;rw [hpl,zsV hp hm,Option.getD_some,zx6 (zmO hp hm) ⟨hpb.1,hpb.2.2⟩ J,Zs,zsT (e:=(zcI p m).2.2.1[k]) ⟨he.1,by omega⟩,Zs,zbf (by simp only [List.length_singleton]; omega),Zs,z7 J];cases zkR (zcI p m) (zpU p m) (k:Int)<;>rfl
  ·cases hb;split
   ·rw [List.length_append,List.length_singleton]; omega
   ·omega
 ·intro c _;simp only [];rw [zba,cond_false]; rfl
theorem zqV (k:zad):za2 (zo5 p) m k=Ob (zfp p m k):=by
  have hb:=zpW hp hm;have hes:=zgl (zmO hp hm);have hlen:=zsW (p:=p) (m:=m);obtain ⟨ys,hy,hperm⟩:=zsR (xs:=zmP p m) J;unfold za2 zcO zbz;rw [Zs];simp only [];show Zb (Zb (Ob (zlh m)) _) _=_;rw [Zs];have hend:=(znY (p:=(zo5 p).1) (e:=zlh m) hm).1;have hpl:atS (zo5 p).1 (zlh m)=atS p (zlh m):=rfl;rw [hend,Zs,hpl];have hn:idx (zo5 p).1.1 (atS p (zlh m))=Ob (zcI p m):=zaV (l:=p.1) (d:=N0) hb.1 hb.2;rw [hn,Zs,zsX hp hm,Zs,hy,Zs];have hys:∀ n∈ys,0<=n/\n<10000:=λn h=>zve hp hm (hperm.mem_iff.1 h);have hyl:ys.length<=4:=by have:=hperm.length_eq; omega
  have key:iter (σ:=(Int×(Bool⊕Bool))) (τ:=(Bool⊕Bool)⊕(Bool⊕Bool)) (λs50=>
cond (decide (s50.1<zq ys)) (Zb (idx ys s50.1) λx53=>
Zb (ze3 x53) λy54=>
Zb (goL s50.2) λs55=>
Zb (cond (y54==k) (Ob (.inr Od)) (Ob (.inl s55))) λy56=>
cond (!(y56).isLeft) (Ob (.inr (.inr y56))) (Ob (.inl (w64 (s50.1+1),y56)))) (Ob (.inr (.inl s50.2)))) big (0,(.inl Oc))=Ob (if ys.any (λn=>zrl n==k) then .inr (.inr Od) else .inl (.inl Oc)):=by
    rw [ze5 (s0:=((0:Int),(Sum.inl Oc:Bool⊕Bool))) ys (λi (_:Unit)=>((i:Int),(Sum.inl Oc:Bool⊕Bool))) (λ_ _ n=>if zrl n==k then .inr (.inr (.inr Od)) else .inl ()) (λ_=>.inl (.inl Oc)) (λ_ _=>True) () rfl J trivial]
    · congr 1;have:∀ (l:List Int) (i:Nat),zgk (λ_ (_:Unit) n=>if zrl n==k then .inr (.inr (.inr Od)) else .inl ()) (λ_=>.inl (.inl Oc)) l i ()=(if l.any (λn=>zrl n==k) then .inr (.inr Od) else .inl (.inl Oc):(Bool⊕Bool)⊕(Bool⊕Bool)):=by
        intro l;induction l with
        | nil=>intro i; rfl
        | cons n l ih=>
          intro i;rw [zgk,List.any_cons];cases h:(zrl n==k) with
          | true=>rfl
          | false=>
            simp only [Bool.false_eq_true,if_false,Bool.false_or];exact ih (i+1)
      exact this ys 0
    · intro i hi _ _;refine ⟨?_,λ_ _=>trivial⟩;simp only [];rw [za5 hi,cond_true,zd2 hi,Zs,zx7 (hys _ (List.getElem_mem hi)),Zs,z7 J];cases (zrl ys[i]==k)<;>rfl
    · intro _ _;simp only [];rw [zba,cond_false]
  rw [key];have hany:ys.any (λn=>zrl n==k)=zfp p m k:=by
    have h1:ys.any (λn=>zrl n==k)=(zmP p m).any (λn=>zrl n==k):=by
      rw [Bool.eq_iff_iff,List.any_eq_true,List.any_eq_true];constructor
      · rintro ⟨n,h,q⟩; exact ⟨n,hperm.mem_iff.1 h,q⟩
      · rintro ⟨n,h,q⟩; exact ⟨n,hperm.mem_iff.2 h,q⟩
    rw [h1];unfold zmP zfp;rw [Bool.eq_iff_iff,List.any_eq_true,List.any_eq_true];constructor
    · rintro ⟨n,h,q⟩
      obtain ⟨y,hy,rfl⟩:=List.mem_map.1 h;obtain ⟨hy1,hy2⟩:=List.mem_filter.1 hy;rw [zpV (zjR hp hm (List.fst_mem_of_mem_zipIdx hy1)).1] at q;exact ⟨y,hy1,by rw [hy2,q]; rfl⟩
    · rintro ⟨y,h,q⟩
      rw [Bool.and_eq_true] at q;refine ⟨ztS y.1,List.mem_map.2 ⟨y,List.mem_filter.2 ⟨h,q.1⟩,rfl⟩, ?_⟩;rw [zpV (zjR hp hm (List.fst_mem_of_mem_zipIdx h)).1];exact q.2
  rw [hany];cases zfp p m k<;>rfl
end
def zsY (p:Plan) (m:zad):Bool:=inB m.1 0 (p.2.1.length-1)
def M0:zad:=(0,Oc,())
def zli (p:Plan) (l:List zad) (i:Nat):Bool:=zsY p (l.getD i M0)&&(decide (i=0)||zfp p (l.getD (i-1) M0) (l.getD i M0))
def zm3 (p:Plan) (l:List zad):Bool:=(List.range l.length).all (zli p l)&&inB (zq l) 1 2000
def wlS (p:Plan) (l:List zad):Int:=zlU (λi=>zmN p (l.getD i M0).1) 0 l.length
theorem zjS {p:Plan} {m:zad}:zsY p m=Od↔0<=m.1/\m.1<p.2.1.length:=by
 unfold zsY;rw [zas];omega
section
variable {p:Plan} (hp:zjr p)
include hp
theorem zpX {l:List zad} (hl:l.length<=9223372036854775807) {has:zad->Option Bool} {fol:zad->zad->Option Bool} (hh:∀ m,has m=Ob (zsY p m)) (hf:∀ m k:zad,0<=m.1/\m.1<(p.2.1.length:Int)->fol m k=Ob (zfp p m k))
    {F:Int->Option (Int⊕(Unit⊕Bool))} (hF:∀ (i:Nat) (_:i<l.length),F i=Zb (has (l.getD i M0)) λy37=>cond (!y37) (Ob (.inr (.inr Oc))) (cond (decide ((i:Int)>0)) (Zb (fol (l.getD (i-1) M0) (l.getD i M0)) λy42=>cond (!y42) (Ob (.inr (.inr Oc))) (Ob (.inl (w64 ((i:Int)+1))))) (Ob (.inl (w64 ((i:Int)+1))))))
    (he:F l.length=Ob (.inr (.inl ()))):∀ (k i:Nat),i+k=l.length->(∀ j,j<i->zsY p (l.getD j M0)=Od)->Lp F k (i:Int) (if (List.range' i k).all (zli p l) then .inl () else .inr Oc)
  | 0,i,hi,_=>by
    have:i=l.length:=J
    subst this;exact Lp.done he
  | k+1,i,hi,hj=>by
    have hlt:i<l.length:=J
    rw [List.range'_succ,List.all_cons];cases hs:zsY p (l.getD i M0) with
    | false=>
      have:zli p l i=Oc:=by unfold zli; rw [hs]; rfl
      rw [this];refine Lp.done ?_;rw [hF i hlt,hh,hs]; rfl
    | true=>
      have hj':∀ j,j<i+1->zsY p (l.getD j M0)=Od:=λj h=>by
        by_cases e:j=i
        · rw [e]; exact hs
        · exact hj j J
      have ih:=zpX hl hh hf hF he k (i+1) J hj';by_cases h0:i=0
      · subst h0;have:zli p l 0=Od:=by unfold zli; rw [hs]; rfl
        rw [this,Bool.true_and];refine Lp.step (s':=((0+1:Nat):Int)) ?_ ih;rw [hF 0 hlt,hh,hs]; rfl
      · have hw:zli p l i=zfp p (l.getD (i-1) M0) (l.getD i M0):=by unfold zli; rw [hs,decide_eq_false h0]; rfl
        rw [hw];have hprev:=zjS.1 (hj (i-1) J);have hFi:F i=cond (!zfp p (l.getD (i-1) M0) (l.getD i M0)) (Ob (.inr (.inr Oc))) (Ob (.inl ((i+1:Nat):Int))):=by
          rw [hF i hlt,hh,hs,decide_eq_true (show (i:Int)>0 by omega),hf _ _ hprev,z7 J]; rfl
        cases hb:zfp p (l.getD (i-1) M0) (l.getD i M0) with
        | false=>
          rw [hb] at hFi;rw [Bool.false_and];exact Lp.done hFi
        | true=>
          rw [hb] at hFi;rw [Bool.true_and];exact Lp.step hFi ih
theorem zwe (m:zad):zbE (zo5 p) m=Ob (zsY p m):=by
 unfold zbE;rw [twithin,Zs];have:w64 (zq (zo5 p).1.2.1-1)=p.2.1.length-1:=wrails hp.r;rw [this]; rfl
theorem zx8 {l:List zad} (hl:l.length<=9223372036854775807):zch (zo5 p) l=Ob (zm3 p l):=by
  unfold zch;have hL:=zpX hp hl (λm=>zwe hp m) (λm k hm=>zqV hp hm k) (F:=λs22=>
cond (decide (s22<zq l)) (Zb (idx l s22) λx25=>
Zb (zbE (zo5 p) x25) λy37=>
cond (!y37) (Ob (.inr (.inr Oc))) (cond (decide (s22>0)) (Zb (idx l (w64 (s22-1))) λx41=>
Zb (za2 (zo5 p) x41 x25) λy42=>
cond (!y42) (Ob (.inr (.inr Oc))) (Ob (.inl (w64 (s22+1))))) (Ob (.inl (w64 (s22+1)))))) (Ob (.inr (.inl ())))) (λi hi=>by
      rw [za5 hi,cond_true,zI M0 hi,Zs];by_cases h0:i=0
      · subst h0; rfl
      · rw [decide_eq_true (show (i:Int)>0 by omega),zk (n:=(i:Int)-1) J J,show (i:Int)-1=((i-1:Nat):Int) by omega,zI M0 (show i-1<l.length by omega)];rfl) (by simp only [zba,cond_false]) l.length 0 J (λj hj=>by omega)
  rw [show ((0:Nat):Int)=0 from rfl] at hL;rw [hL.big Of,Zs,← List.range_eq_range'];unfold zm3;cases (List.range l.length).all (zli p l) with
  | false=>rfl
  | true=>simp only [if_true,zdN,twithin]; rfl
structure ziB (p:Plan) (l:List zad):Prop where
 n:1<=l.length/\l.length<=2000
 m:∀ i,i<l.length->0<=(l.getD i M0).1/\(l.getD i M0).1<p.2.1.length
omit hp in
theorem zkS {l:List zad} (h:zm3 p l=Od):ziB p l:=by
 unfold zm3 at h;rw [Bool.and_eq_true,zas,zo] at h;refine ⟨by omega,λi hi=>?_⟩;have:=List.all_eq_true.1 h.1 i (List.mem_range.2 hi);unfold zli at this;rw [Bool.and_eq_true] at this;exact zjS.1 this.1
theorem zo6 {i:Int} (hi:0<=i/\i<p.2.1.length):1<=zmN p i/\zmN p i<=31000000:=hp.len hi
theorem zBN {l:List zad} (h:ziB p l):0<=wlS p l/\wlS p l<=31000000*l.length:=
 zkN _ _ λi _ hi=>by have:=zo6 hp (h.m i J); omega
theorem zx9 {l:List zad} (h:ziB p l) {lg:zad->Option Int} (hg:∀ m:zad,0<=m.1/\m.1<p.2.1.length->lg m=Ob (zmN p m.1)):iter (σ:=(Int×Int)) (τ:=Int) (λs6=>
cond (decide (s6.2<zq l)) (Zb (idx l s6.2) λx9=>
Zb (lg x9) λx12=>
Ob (.inl (w64 (s6.1+x12),w64 (s6.2+1)))) (Ob (.inr s6.1))) big (0,0)=Ob (wlS p l):=by
  have hn:=h.n;have hL:=zmK (B:=31000000) (N:=l.length) (f:=λi=>zmN p (l.getD i M0).1) (F:=λs6:Int×Int=>
cond (decide (s6.2<zq l)) (Zb (idx l s6.2) λx9=>
Zb (lg x9) λx12=>
Ob (.inl (w64 (s6.1+x12),w64 (s6.2+1)))) (Ob (.inr s6.1))) J J J (λi hi=>by have:=zo6 hp (h.m i hi); omega) l.length 0 0 J J J (λi s _ hi=>by
      simp only [];rw [za5 hi,cond_true,zI M0 hi,Zs,hg _ (h.m i hi),Zs]) (λs=>by simp only [zba,cond_false])
  rw [show ((0:Nat):Int)=0 from rfl,Int.zero_add] at hL;exact hL.big Of
theorem zsZ {i:Int} (hi:0<=i/\i<p.2.1.length):idx (zo5 p).2.1 i=Ob (zmN p i):=by
 show idx ((List.range p.2.1.length).map λi:Nat=>zmN p (i:Int)) i=_;rw [zsz hi.1 (by rw [List.length_map,List.length_range]; exact hi.2)];simp only [List.getElem_map,List.getElem_range];rw [Int.toNat_of_nonneg hi.1]
theorem zzZ {l:List zad} (h:ziB p l):zbd (zo5 p) l=Ob (wlS p l):=by
 unfold zbd;rw [zx9 hp h (lg:=λx9=>idx (zo5 p).2.1 x9.1) (λm hm=>zsZ hp hm)]; rfl
end
theorem zjs (p:Plan) {l:List zad} (hl:l.length<=9223372036854775807):zca p l=Ob (if zbJ p&&zm3 p l then (wlS p l,0) else (0,2)):=by
 unfold zca;rw [zsS];cases hv:zbJ p with
 | false=>rfl
 | true=>
  have hp:=zfo hv;simp only [if_true,Zs,Bool.not_true,cond_false,zx8 hp hl,Bool.true_and];cases hw:zm3 p l with
  | false=>rfl
  | true=>
   simp only [Bool.not_true,cond_false,zzZ hp (zkS hw),if_true,Zs]
theorem zs0 (p:Plan) (i:Int):zb3 p i=Ob (if zbJ p&&zsY p (i,Oc,()) then (zmN p i,0) else (0,2)):=by
 unfold zb3;rw [zsS];cases hv:zbJ p with
 | false=>rfl
 | true=>
  have hp:=zfo hv;simp only [if_true,Zs,Bool.not_true,cond_false,zwe hp,Bool.true_and];cases hw:zsY p (i,Oc,()) with
  | false=>rfl
  | true=>
   have hi:=zjS.1 hw;simp only [Bool.not_true,cond_false,zsZ hp hi,if_true,Zs]
theorem zvf (a b:Int):zbc a b=Ob (decide (a<b)):=by
 unfold zbc;simp only [zbo,Zs,bne_self_eq_false,cond_false]
theorem zvg {a b:Int} (h:0<=a+b/\a+b<4611686018427387904):zhT .u64 (IntKind.u64.wrap (w64 (a+b))) 1=Ob ((a+b)/2)/\w64 ((a+b)/2)=(a+b)/2:=by
 have e1:w64 (a+b)=a+b:=zk J J;have e2:IntKind.u64.wrap (a+b)=a+b:=by simp only [IntKind.wrap,IntKind.bits,IntKind.signed]; simp; omega
 rw [e1,e2];unfold zhT;rw [if_pos J];refine ⟨?_,zk J J⟩;congr 1;simp [IntKind.bits];rw [Int.fdiv_eq_ediv_of_nonneg _ J]
def Rising (xs:List Int):Prop:=∀ i j,i<j->j<xs.length->xs.getD i 0<xs.getD j 0
theorem bsearch {xs:List Int} (hr:Rising xs) (hl:xs.length<=1000000) (t:Int):∃ (i:Nat) (b:Bool),zK xs t=Ob ((i:Int),b)/\i<=xs.length/\(∀ j,j<i->xs.getD j 0<t)/\∀ j,i<=j->j<xs.length->t<=xs.getD j 0:=by
  have hT:Tot (λr:Int=>∃ i:Nat,r=(i:Int)/\i<=xs.length/\(∀ j,j<i->xs.getD j 0<t)/\∀ j,i<=j->j<xs.length->t<=xs.getD j 0) (iter (σ:=(Int×Int)) (τ:=Int) (λs6=>
cond (decide (s6.1<s6.2)) (Zb (zhT .u64 (IntKind.u64.wrap (w64 (s6.1+s6.2))) 1) λx9=>
Zb (idx xs (w64 x9)) λx10=>
Zb (zbc x10 t) λy11=>
cond y11 (Ob (.inl (w64 (w64 x9+1),s6.2))) (Ob (.inl (s6.1,w64 x9)))) (Ob (.inr s6.1))) big (0,zq xs)):=by
    refine Tot.iter (λs:Int×Int=>∃ lo hi:Nat,s=((lo:Int),(hi:Int))/\lo<=hi/\hi<=xs.length/\(∀ j,j<lo->xs.getD j 0<t)/\∀ j,hi<=j->j<xs.length->t<=xs.getD j 0) _ (λs=>(s.2-s.1).toNat) ⟨0,xs.length,rfl,by omega,by omega,λj hj=>by omega,λj h1 h2=>by omega⟩ (by simp only [zo,big]; omega) ?_
    rintro s ⟨lo,hi,rfl,h1,h2,h3,h4⟩
    simp only [];by_cases hlt:lo<hi
    · obtain ⟨e1,e2⟩:=zvg (a:=(lo:Int)) (b:=(hi:Int)) ⟨by omega,by omega⟩;obtain ⟨m,hm⟩:∃ m:Nat,((lo:Int)+hi)/2=(m:Int):=⟨(((lo:Int)+hi)/2).toNat,by omega⟩;rw [decide_eq_true (show (lo:Int)<hi by omega),cond_true,e1,Zs,e2,hm,zI 0 (show m<xs.length by omega),Zs,zvf,Zs];by_cases hc:xs.getD m 0<t
      · rw [decide_eq_true hc,cond_true,z7 J];refine Tot.some ⟨⟨m+1,hi,rfl,by omega,h2,λj hj=>?_,h4⟩,by simp only []; omega⟩;by_cases e:j=m
        · rw [e]; exact hc
        · have:=hr j m J J; omega
      · rw [decide_eq_false hc,cond_false];refine Tot.some ⟨⟨lo,m,rfl,by omega,by omega,h3,λj hj hjl=>?_⟩,by simp only []; omega⟩;by_cases e:j=m
        · rw [e]; omega
        · have:=hr m j J hjl; omega
    · have:lo=hi:=J
      subst this;rw [decide_eq_false J,cond_false];exact Tot.some ⟨lo,rfl,by omega,h3,h4⟩
  obtain ⟨r,h1,i,rfl,h2,h3,h4⟩:=hT;have hb:∃ b:Bool,zK xs t=Ob ((i:Int),b):=by
    unfold zK;rw [h1,Zs];by_cases hlt:i<xs.length
    · rw [za5 hlt,cond_true,zI 0 hlt,Zs];cases (xs.getD i 0==t) with
      | true=>exact ⟨Od,rfl⟩
      | false=>
        simp only [cond_false,zdq,Zs,bne_self_eq_false];exact ⟨Oc,rfl⟩
    · rw [decide_eq_false (show ¬ (i:Int)<zq xs by rw [zo]; omega)];exact ⟨Oc,rfl⟩
  obtain ⟨b,hb⟩:=hb;exact ⟨i,b,hb,h2,h3,h4⟩
section
variable (p:Plan) (way:List zad)
def mvl (i:Nat):Int:=zmN p (way.getD i M0).1
def zeN (i:Nat):Int:=zlU (mvl p way) 0 i
def zjt (i:Nat):Rail:=rl0 p (way.getD i M0).1
def zmQ (i:Nat):Int:=(zjt p way i).2.2.2.1
def zjb (i:Nat):Int:=if (way.getD i M0).2.1 then -(zjt p way i).2.2.2.2.1 else (zjt p way i).2.2.2.2.1
def zgm:List Int:=rlN way.length λi=>zeN p way (i+1)
def zn3:List Int:=rlN way.length (zmQ p way)
def zn4:List Int:=rlN way.length (zjb p way)
end
theorem zn5 (f:Nat->Int):∀ (k a:Nat),zlU f a (k+1)=zlU f a k+f (a+k)
 | 0,a=>by simp [zlU]
 | k+1,a=>by
  rw [zlU,zn5 f k (a+1),zlU];rw [show a+1+k=a+(k+1) by omega];omega
theorem zlY (p:Plan) (way:List zad) (i:Nat):zeN p way (i+1)=zeN p way i+mvl p way i:=by
 unfold zeN;rw [zn5,Nat.zero_add]
theorem zgL {A:Type} (n:Nat) (f:Nat->A):(rlN n f).length=n:=by unfold rlN; simp
theorem zh1 {A:Type} {n:Nat} {f:Nat->A} {i:Nat} (d:A) (h:i<n):(rlN n f).getD i d=f i:=by
 unfold rlN;simp [List.getD,h]
section
variable {p:Plan} {way:List zad} (hp:zjr p) (hw:ziB p way)
include hp hw
theorem zwf {i:Nat} (hi:i<way.length):1<=mvl p way i/\mvl p way i<=31000000:=zo6 hp (hw.m i hi)
theorem zlZ {i j:Nat} (h:i<j) (hj:j<=way.length):zeN p way i<zeN p way j:=by
 induction j with
 | zero=>omega
 | succ j ih=>
  have h1:=zwf hp hw (i:=j) J;rw [zlY];by_cases e:i=j
  . subst e; omega
  . have:=ih J J; omega
theorem zpY {i:Nat} (hi:i<=way.length):0<=zeN p way i/\zeN p way i<=62000000000:=by
 have h1:=zkN (f:=mvl p way) (B:=31000000) i 0 (λj _ hj=>by have:=zwf hp hw (i:=j) J; omega);have:=hw.n;unfold zeN;omega
theorem zkT:Rising (zgm p way):=by
 intro i j h hj;unfold zgm at *
 rw [zgL] at hj;rw [zh1 0 J,zh1 0 hj];exact zlZ hp hw J J
theorem zs1 {i:Nat} (hi:i<way.length):(1<=zmQ p way i/\zmQ p way i<=50000)/\(-120<=zjb p way i/\zjb p way i<=120)/\idx p.2.1 (way.getD i M0).1=Ob (zjt p way i):=by
 have hm:=hw.m i hi;have h1:=hp.rail hm;unfold zlg zo3 at h1;simp only [Bool.and_eq_true,zas] at h1;obtain ⟨⟨_,_,_,h2,h3⟩,_⟩:=h1;refine ⟨h2, ?_,zaV hm.1 hm.2⟩;unfold zjb zjt;split<;>omega
end
def ixF (f:Nat->Bool):Nat->Nat->Nat
 | 0,i=>i
 | k+1,i=>if f i then i else ixF f k (i+1)
theorem zwg {f:Nat->Bool}:∀ {k i r:Nat},i<=r->r<=i+k->(∀ j,i<=j->j<r->f j=Oc)->(r<i+k->f r=Od)->ixF f k i=r
 | 0,i,r,h1,h2,_,_=>by unfold ixF; omega
 | k+1,i,r,h1,h2,h3,h4=>by
  unfold ixF;by_cases e:i=r
  . subst e;rw [if_pos (h4 J)]
  . rw [if_neg (by rw [h3 i (Nat.le_refl i) J]; simp)];exact zwg J J (λj h5 h6=>h3 j J h6) (λh5=>h4 J)
def zz0 (p:Plan) (way:List zad) (f:Int):Nat:=ixF (λi=>decide (f<zeN p way (i+1))) (way.length-1) 0
def zju (p:Plan) (way:List zad) (f:Int):Int:=zjb p way (zz0 p way f)
theorem zs2 {p:Plan} {way:List zad} (h:1<=way.length) (f:Int):zz0 p way f<way.length:=by
 have key:∀ (g:Nat->Bool) (k i:Nat),ixF g k i<=i+k:=by
  intro g k;induction k with
  | zero=>intro i; exact Nat.le_refl _
  | succ k ih=>
   intro i;unfold ixF;split
   . omega
   . have:=ih (i+1); omega
 have:=key (λi=>decide (f<zeN p way (i+1))) (way.length-1) 0;unfold zz0;omega
def ziC (p:Plan) (way:List zad) (t:Train) (st:Int) (stops:List Int):zaF:=((t,st,()),way,zgm p way,zn3 p way,zn4 p way,stops,())
section
variable {p:Plan} {way:List zad} {t:Train} {st:Int} {stops:List Int} {x:ze} (hp:zjr p) (hw:ziB p way) (ht:zk9 t) (hx:zsD t x)
include hp hw ht hx
theorem zwh:0<=zaJ t x/\zaJ t x<=4000000000000000000:=by
 have hm:=ht.m;have h:=hx.w;unfold zaJ;have h1:0<=x.2.1/(10*t.1):=Int.ediv_nonneg h.1 J;have h2:x.2.1/(10*t.1)<=x.2.1:=Int.ediv_le_self _ h.1;omega
theorem zvh:zaS (ziC p way t st stops) x=Ob (zju p way (zaJ t x)):=by
 have hn:=hw.n;have hpl:=zwh hp hw ht hx;unfold zaS;show Zb (z5 (t,st,()) x) _=_;rw [(zkL ht hx st).1,Zs];have e1:x.2.1/(10*t.1)=zaJ t x:=rfl;rw [e1,zk (n:=zaJ t x+1) J J];show Zb (zK (zgm p way) (zaJ t x+1)) _=_;have hel:(zgm p way).length=way.length:=by unfold zgm; rw [zgL]
 obtain ⟨i,b,h1,h2,h3,h4⟩:=bsearch (zkT hp hw) J (zaJ t x+1);rw [h1,Zs];show Zb (idx (zn4 p way) (min (i:Int) (w64 (zq (zn4 p way)-1)))) _=_;have hsl:(zn4 p way).length=way.length:=by unfold zn4; rw [zgL]
 rw [zo,hsl,zk J J];have hge:∀ j,j<way.length->(zgm p way).getD j 0=zeN p way (j+1):=λj hj=>by unfold zgm; rw [zh1 0 hj]
 have hix:zz0 p way (zaJ t x)=min i (way.length-1):=by
  unfold zz0;refine zwg J J (λj _ hj=>?_) (λhlt=>?_)
  . have:=h3 j J;rw [hge j J] at this;exact decide_eq_false J
  . have:=h4 (min i (way.length-1)) J J;rw [hge _ J] at this;exact decide_eq_true J
 have hmin:min (i:Int) ((way.length:Int)-1)=((min i (way.length-1):Nat):Int):=J
 rw [hmin,zI 0 J,Zs,← hix];unfold zn4 zju;rw [zh1 0 (zs2 hn.1 _)]
theorem zmR (f:Int):-120<=zju p way f/\zju p way f<=120:=(zs1 hp hw (zs2 hw.n.1 f)).2.1
end
def zrm (g:Nat->Bool) (v:Nat->Int):Nat->Nat->Int->Int
 | 0,_,b=>b
 | k+1,i,b=>zrm g v k (i+1) (if g i then min b (v i) else b)
theorem zpZ (g:Nat->Bool) (v:Nat->Int) (l:Nat):∀ (k i:Nat) (b:Int),zrm g v (k+l) i b=zrm g v l (i+k) (zrm g v k i b)
 | 0,i,b=>by rw [Nat.zero_add]; rfl
 | k+1,i,b=>by
  rw [show k+1+l=(k+l)+1 by omega,zrm,zpZ g v l k (i+1),zrm,show i+1+k=i+(k+1) by omega]
theorem zmS {g:Nat->Bool} {v:Nat->Int}:∀ (k i:Nat) (b:Int),(∀ j,i<=j->j<i+k->g j=Oc)->zrm g v k i b=b
 | 0,_,_,_=>rfl
 | k+1,i,b,h=>by
  rw [zrm,h i (Nat.le_refl i) J];exact zmS k (i+1) b λj h1 h2=>h j J J
def ovB (p:Plan) (way:List zad) (L f:Int) (i:Nat):Bool:=decide (f-L<zeN p way (i+1))&&(decide (zeN p way i<f)||decide (i=0))
def zAM (p:Plan) (way:List zad) (t:Train) (f:Int):Int:=zrm (ovB p way t.2.1 f) (zmQ p way) way.length 0 t.2.2.1
section
variable {p:Plan} {way:List zad} {t:Train} {st:Int} {stops:List Int} {x:ze} (hp:zjr p) (hw:ziB p way) (ht:zk9 t)
include hp hw ht
theorem zvi {i j:Nat} (h:i<=j) (hj:j<=way.length):zeN p way i<=zeN p way j:=by
 by_cases e:i=j
 . subst e; omega
 . have:=zlZ hp hw (i:=i) (j:=j) J hj; omega
theorem zvj (hx:zsD t x):zcA (ziC p way t st stops) x=Ob (zAM p way t (zaJ t x)):=by
  have hn:=hw.n;have hl:=ht.len;have hpl:=zwh hp hw ht hx;unfold zcA;show Zb (z5 (t,st,()) x) _=_;rw [(zkL ht hx st).1,Zs];have e1:x.2.1/(10*t.1)=zaJ t x:=rfl;rw [e1];show Zb (zK (zgm p way) (w64 (w64 (zaJ t x-t.2.1)+1))) _=_;rw [zk (n:=zaJ t x-t.2.1) J J,zk (n:=zaJ t x-t.2.1+1) J J];have hel:(zgm p way).length=way.length:=by unfold zgm; rw [zgL]
  have hll:(zn3 p way).length=way.length:=by unfold zn3; rw [zgL]
  have hge:∀ j,j<way.length->(zgm p way).getD j 0=zeN p way (j+1):=λj hj=>by unfold zgm; rw [zh1 0 hj]
  have hgl:∀ j,j<way.length->(zn3 p way).getD j 0=zmQ p way j:=λj hj=>by unfold zn3; rw [zh1 0 hj]
  obtain ⟨i0,b,h1,h2,h3,h4⟩:=bsearch (zkT hp hw) J (zaJ t x-t.2.1+1);rw [h1,Zs];have key:∀ (k i:Nat) (v:Int),i+k=way.length->i0<=i->(i=i0\/zeN p way i<zaJ t x) ->
      Lp (λs8:Int×Int=>
cond (decide (s8.2<zq (zgm p way))) (Zb (idx (zn3 p way) s8.2) λx11=>
Zb (idx (zgm p way) s8.2) λx12=>
cond (decide (x12>=zaJ t x)) (Ob (.inr (min s8.1 x11))) (Ob (.inl (min s8.1 x11,w64 (s8.2+1))))) (Ob (.inr s8.1))) k (v,(i:Int)) (zrm (ovB p way t.2.1 (zaJ t x)) (zmQ p way) k i v):=by
    intro k;induction k with
    | zero=>
      intro i v hi _ _;refine Lp.done ?_;have:i=(zgm p way).length:=J
      subst this;simp only [zba,cond_false];rfl
    | succ k ih=>
      intro i v hi hle hor;have hil:i<way.length:=J
      have hov:ovB p way t.2.1 (zaJ t x) i=Od:=by
        unfold ovB;have h5:=h4 i hle J;rw [hge i hil] at h5;rw [decide_eq_true J];have h6:i=0\/zeN p way i<zaJ t x:=by
          rcases hor with rfl | h
          · by_cases e:i=0
            · exact .inl e
            · right;have h7:=h3 (i-1) J;rw [hge (i-1) J,show i-1+1=i by omega] at h7;omega
          · exact .inr h
        simp only [Bool.true_and,Bool.or_eq_true,decide_eq_true_eq];omega
      rw [zrm,if_pos hov];by_cases hc:zeN p way (i+1)>=zaJ t x
      · rw [zmS k (i+1) _ (λj h5 h6=>by
          have h7:=zvi hp hw ht (i:=i+1) (j:=j) h5 J;unfold ovB;rw [decide_eq_false (show ¬ zeN p way j<zaJ t x by omega),decide_eq_false (show ¬ j=0 by omega)];simp)]
        refine Lp.done ?_;simp only [za5 (show i<(zgm p way).length by omega),cond_true];rw [zI 0 J,Zs,zI 0 J,Zs,hge i hil,hgl i hil,decide_eq_true hc,cond_true]
      · refine Lp.step ?_ (ih (i+1) _ J J (.inr J));simp only [za5 (show i<(zgm p way).length by omega),cond_true];rw [zI 0 J,Zs,zI 0 J,Zs,hge i hil,hgl i hil,decide_eq_false hc,cond_false,z7 J]
  have hL:=key (way.length-i0) i0 t.2.2.1 J (Nat.le_refl _) (.inl rfl);have hR:zrm (ovB p way t.2.1 (zaJ t x)) (zmQ p way) (way.length-i0) i0 t.2.2.1=zAM p way t (zaJ t x):=by
    unfold zAM;have hk:way.length=i0+(way.length-i0):=J
    rw [hk,zpZ,zmS i0 0 _ (λj _ h6=>by
      have h7:=h3 j J;rw [hge j J] at h7;unfold ovB;rw [decide_eq_false J];rfl),Nat.zero_add,← hk]
  rw [hR] at hL;have hB:=hL.big Of;exact congrArg (λo=>Zb o λt14=>Ob t14) hB
end
section
variable {p:Plan} {way:List zad} {t:Train} {st:Int} {stops:List Int} {x:ze} (hp:zjr p) (hw:ziB p way) (ht:zk9 t)
include hp hw ht
end
section
variable (p:Plan) (way:List zad) (t:Train) (st stop:Int)
def slS (y:ze):Int:=zju p way (zaJ t y)
def zkU (x:ze):Bool:=decide (zaJ t x<=stop)&&decide (x.1/t.1<=zAM p way t (zaJ t x))
def nxS (x:ze):zbl×Bool:=zfO t st x (-4) (slS p way t x)
def zvk:Nat->ze->Bool
 | 0,x=>x.1==0
 | n+1,x=>x.1==0||((nxS p way t st x).2&&(zkU p way t stop (nxS p way t st x).1.1&&zvk n (nxS p way t st x).1.1))
def zqW (x:ze):Bool:=zkU p way t stop x&&zvk p way t st stop 36000 x
end
section
variable {p:Plan} {way:List zad} {t:Train} {st:Int} {stops:List Int} {x:ze} (hp:zjr p) (hw:ziB p way) (ht:zk9 t) (hst:0<=st/\st<t.2.2.2.2.2.2.2.2.2.1.length)
include hp hw ht hst
theorem zs3 (hx:zsD t x) (stop:Int):zbH (ziC p way t st stops) x stop=Ob (zkU p way t stop x):=by
 have hf:ztR t st 0 0:=⟨hst,by omega,by omega⟩;unfold zbH;show (Zb (Zb (z5 (t,st,()) x) λy10=>cond (decide (y10<=stop)) (Zb (zbu (t,st,()) x) _) _) _)=_;rw [(zkL ht hx st).1,Zs,(zsE ht hf hx).1,Zs,zvj hp hw ht hx,Zs];unfold zkU zaJ;cases decide (x.2.1/(10*t.1)<=stop)<;>rfl
theorem zya (hx:0<=x.1/\x.1<=25000*t.1) (hwx:0<=x.2.1/\x.2.1<=1000000000000000000) (stop:Int):zcb (ziC p way t st stops) x stop=Ob (zqW p way t st stop x):=by
  unfold zcb;rw [zs3 hp hw ht hst ⟨hx,hwx.1,by omega⟩ stop,Zs];unfold zqW;cases hfi:zkU p way t stop x with
  | false=>rfl
  | true=>
    have hm:zb1 (ziC p way t st stops).1 x (λy=>zaS (ziC p way t st stops) y)=Ob (x,(t,st,()),λy=>zaS (ziC p way t st stops) y):=rfl;simp only [Bool.not_true,cond_false,hm,Zs,Bool.true_and];have hS:=zo1 (σ:=Int×Int) (τ:=Int×Int) (t:=t) (st:=st) (sl:=slS p way t) (f:=λy=>zaS (ziC p way t st stops) y)
      (step:=λs16 x9=>Zb (zbH (ziC p way t st stops) x9 stop) λy19=>
cond (!y19) (Ob (.inr (s16.1,s16.2))) (Ob (.inl (x9.1,x9.2.1))))
      (g:=λs y=>if zkU p way t stop y then .inl (y.1,y.2.1) else .inr (s.1,s.2)) (W:=4000000000000000000) ht hst J
      (λy h1 h2=>⟨zvh hp hw ht ⟨h1,h2⟩,zmR hp hw ht ⟨h1,h2⟩ _⟩)
      (λs y h1 h2=>by
        rw [zs3 hp hw ht hst ⟨h1,h2⟩ stop,Zs];cases zkU p way t stop y<;>rfl) (x.1,x.2.1) x hx ⟨hwx.1,by omega⟩
    obtain ⟨z,hz⟩:=hS;rw [hz,Zs];have key:∀ (n:Nat) (x:ze),(alt (λb23:Int×Int=>Ob (b23.1==0)) (λ_:Int×Int=>Ob Oc) (zmH (λ(s:Int×Int) (y:ze)=>if zkU p way t stop y then .inl (y.1,y.2.1) else .inr (s.1,s.2)) (x.1,x.2.1) (brk t st (slS p way t) n x)):Option Bool)=Ob (zvk p way t st stop n x):=by
      intro n;induction n with
      | zero=>intro x; rfl
      | succ n ih=>
        intro x;unfold brk zvk;by_cases h0:x.1=0
        · rw [if_pos h0,show (x.1==0)=Od by simpa using h0];simp only [zmH,zdN,h0]; rfl
        · rw [if_neg h0,show (x.1==0)=Oc by simpa using h0];show alt _ _ (zmH _ _ (if (nxS p way t st x).2=Od then (nxS p way t st x).1.1::brk t st (slS p way t) n (nxS p way t st x).1.1 else []))=_;cases hok:(nxS p way t st x).2 with
          | false=>
            simp only [Bool.false_eq_true,if_false,zmH,zdN,Bool.false_and,Bool.or_false];rw [show (x.1==0)=Oc by simpa using h0]
          | true=>
            simp only [if_true,zmH,Bool.true_and,Bool.false_or];cases hfy:zkU p way t stop (nxS p way t st x).1.1 with
            | false=>rfl
            | true=>
              simp only [if_true,Bool.true_and];exact ih _
    exact key 36000 x
end
end Go.Ai.Sx